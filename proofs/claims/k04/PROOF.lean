import PyProof.Rows.All
import Wide.All
import OpenK.AllK
import Wide.FinOn
import HandS.ForMost
import HandS.ForExc
import HandS.Lambda
import HandS.Gcd
import HandS.EndTab
import HandS.TryMany
import HandS.CallSlots
import HandS.ExcField
import HandS.ExcInit
import HandS.Rev
import HandS.TupAny
import HandS.Deep
import HandS.RevTup
import HandS.Style
import HandS.Wide
import HandS.IsInst
import HandS.SortInts
import HandS.More
import HandS.Text
import HandS.TupLen
import HandS.WordsDict
import HandS.RaiseMore
import HandS.Small
import HandS.Dict
import HandS.Comp
import HandS.Zip
import HandS.Head3
import HandS.HeadHook4
import HandS.HeadWalk
import HandS.NestedK
import PySem.Challenge.RW_fargreater_k04_books_judged
set_option Elab.async false
set_option linter.all false
section
set_option maxRecDepth 100000
set_option maxHeartbeats 2000000
/-! Data told without a heap, and how a heap bears it. -/
namespace Mi
open PySem PySem.Spec L2
open PyProof.Rows hiding St

inductive D where
  | none | bl (b : Bool) | int (i : Int) | str (s : Str) | tup (xs : List D) | lst (xs : List D)
  | dK (kvs : List (Key × D)) | dT (kvs : List (List Key × D)) | fn (x : Str) | ins (c : Str) (fs : List (Str × D))
  /-- the list that was handed in from outside -/
  | scr (ns : List Int)
  deriving BEq, Inhabited
/-- a slot: no value; a value; a list or dict of this def alone; one that was handed in to be changed -/
inductive SV where
  | un | val (d : D) | box (d : D) | pbx (d : D)
  deriving Inhabited
/-- what an expression gives: a value; a new list or dict that nobody else holds; the one in a slot -/
inductive EV where
  | val (d : D) | own (d : D) | bx (i : Nat)
  deriving Inhabited
inductive R (α : Type) where
  | ok (a : α) (r : List SV)
  | exc (c : Str) (fs : List (Str × D)) (r : List SV)
  | no
abbrev M (α : Type) := List SV → R α
def bnd {α β : Type} (m : M α) (f : α → M β) : M β := fun r => match m r with
  | .ok a r' => f a r'
  | .exc c fs r' => .exc c fs r'
  | .no => .no
def rt {α : Type} (a : α) : M α := fun r => .ok a r

mutual
/-- no list, dict or instance within -/
def D.imm : D → Bool
  | .none | .bl _ | .int _ | .str _ | .fn _ | .scr _ => true
  | .tup xs => immL xs
  | .lst _ | .dK _ | .dT _ | .ins _ _ => false
def immL : List D → Bool
  | [] => true
  | d :: r => d.imm && immL r
end

structure Ct where
  K : PySem.W.Frag
  mg : Str → Option Value
  T : List (Addr × Str)

/-- the list from outside: known, or one of the module's own -/
def Scr (K : PySem.W.Frag) (H : Hp) (a : Addr) (vs : List V) : Prop :=
  (∃ o, H a = some (.frz o (.lst vs))) ∨
    ∃ (o : Obj) (its : Array Value) (n : Nat), K.lookup a = some o ∧ o.cls = .type "list" ∧ o.dict = none ∧ o.data = .seq its n ∧ its.size ≤ sizeLine ∧ Vals vs its.toList
theorem Scr.seq {K : PySem.W.Frag} {H : Hp} {a : Addr} {vs : List V} (h : Scr K H a vs) : SqL K H a vs := by
  rcases h with h | h
  · exact .inl (.inr h)
  · exact .inr h

mutual
def Rel (C : Ct) (A : Addr → Prop) (H : Hp) : D → V → Prop
  | .none, v => v = .non
  | .bl b, v => v = .bl b
  | .int i, v => v = .int i
  | .str s, v => v = .str s
  | .tup xs, v => ∃ a vs, v = .ref a ∧ SqT C.K H a vs ∧ RelL C A H xs vs
  | .lst xs, v => ∃ a vs, v = .ref a ∧ (A a ∧ H a = some (.lst vs)) ∧ RelL C A H xs vs
  | .dK kvs, v => ∃ a ws, v = .ref a ∧ (A a ∧ H a = some (.dK ws)) ∧ RelK C A H kvs ws
  | .dT kvs, v => ∃ a ws, v = .ref a ∧ (A a ∧ H a = some (.dT ws)) ∧ RelT C A H kvs ws
  | .fn x, v => ∃ f, v = .ref f ∧ C.mg x = some (.ref f)
  | .ins c fs, v => ∃ a cl dx ws, v = .ref a ∧ C.mg c = some (.ref cl) ∧ A a ∧ H a = some (.ins cl dx ws) ∧ RelF C A H fs ws
  | .scr ns, v => ∃ a, v = .ref a ∧ Scr C.K H a (ns.map V.int)
def RelL (C : Ct) (A : Addr → Prop) (H : Hp) : List D → List V → Prop
  | [], vs => vs = []
  | d :: ds, vs => ∃ v r, vs = v :: r ∧ Rel C A H d v ∧ RelL C A H ds r
def RelK (C : Ct) (A : Addr → Prop) (H : Hp) : List (Key × D) → List (Key × V) → Prop
  | [], vs => vs = []
  | (k, d) :: ds, vs => ∃ v r, vs = (k, v) :: r ∧ Rel C A H d v ∧ RelK C A H ds r
def RelT (C : Ct) (A : Addr → Prop) (H : Hp) : List (List Key × D) → List (List Key × V) → Prop
  | [], vs => vs = []
  | (k, d) :: ds, vs => ∃ v r, vs = (k, v) :: r ∧ Rel C A H d v ∧ RelT C A H ds r
def RelF (C : Ct) (A : Addr → Prop) (H : Hp) : List (Str × D) → List (Str × V) → Prop
  | [], vs => vs = []
  | (k, d) :: ds, vs => ∃ v r, vs = (k, v) :: r ∧ Rel C A H d v ∧ RelF C A H ds r
end

/-- the list or dict at a, as it stands -/
def Own (C : Ct) (A : Addr → Prop) (H : Hp) (d : D) (a : Addr) : Prop := match d with
  | .lst xs => ∃ vs, H a = some (.lst vs) ∧ RelL C A H xs vs
  | .dK kvs => ∃ ws, H a = some (.dK ws) ∧ RelK C A H kvs ws
  | .dT kvs => ∃ ws, H a = some (.dT ws) ∧ RelT C A H kvs ws
  | .ins c fs => ∃ cl dx ws, C.mg c = some (.ref cl) ∧ H a = some (.ins cl dx ws) ∧ RelF C A H fs ws
  | _ => False

/-- what is carried from one heap to the next -/
structure Carry (A A' : Addr → Prop) (H H' : Hp) : Prop where
  up : ∀ b, A b → A' b
  at_ : ∀ b o, A b → H b = some o → (∀ ps, o ≠ .tbl ps) → H' b = some o
  tup : ∀ b xs, H b = some (.tup xs) → H' b = some (.tup xs)
  frz : ∀ b o u, H b = some (.frz o u) → H' b = some (.frz o u)
theorem Carry.rd_tup {A A' : Addr → Prop} {H H' : Hp} (c : Carry A A' H H') {K : PySem.W.Frag} {a : Addr} {vs : List V} (h : SqT K H a vs) : SqT K H' a vs := by
  rcases h with (h | ⟨o, h⟩) | h
  · exact .inl (.inl (c.tup _ _ h))
  · exact .inl (.inr ⟨o, c.frz _ _ _ h⟩)
  · exact .inr h
theorem Carry.scr {A A' : Addr → Prop} {H H' : Hp} (c : Carry A A' H H') {K : PySem.W.Frag} {a : Addr} {vs : List V} (h : Scr K H a vs) : Scr K H' a vs := by
  rcases h with ⟨o, h⟩ | h
  · exact .inl ⟨o, c.frz _ _ _ h⟩
  · exact .inr h
mutual
theorem Rel.carry {C : Ct} {A A' : Addr → Prop} {H H' : Hp} (c : Carry A A' H H') : ∀ (d : D) {v : V}, Rel C A H d v → Rel C A' H' d v
  | .none, _, h => h
  | .bl _, _, h => h
  | .int _, _, h => h
  | .str _, _, h => h
  | .tup xs, _, ⟨a, vs, e, h, r⟩ => ⟨a, vs, e, c.rd_tup h, RelL.carry c xs r⟩
  | .lst xs, _, ⟨a, vs, e, ⟨ha, h⟩, r⟩ => ⟨a, vs, e, ⟨c.up _ ha, c.at_ _ _ ha h (fun _ z => nomatch z)⟩, RelL.carry c xs r⟩
  | .dK kvs, _, ⟨a, ws, e, ⟨ha, h⟩, r⟩ => ⟨a, ws, e, ⟨c.up _ ha, c.at_ _ _ ha h (fun _ z => nomatch z)⟩, RelK.carry c kvs r⟩
  | .dT kvs, _, ⟨a, ws, e, ⟨ha, h⟩, r⟩ => ⟨a, ws, e, ⟨c.up _ ha, c.at_ _ _ ha h (fun _ z => nomatch z)⟩, RelT.carry c kvs r⟩
  | .fn _, _, h => h
  | .ins _ fs, _, ⟨a, cl, dx, ws, e, e2, ha, h, r⟩ => ⟨a, cl, dx, ws, e, e2, c.up _ ha, c.at_ _ _ ha h (fun _ z => nomatch z), RelF.carry c fs r⟩
  | .scr ns, _, ⟨a, e, h⟩ => ⟨a, e, c.scr h⟩
theorem RelL.carry {C : Ct} {A A' : Addr → Prop} {H H' : Hp} (c : Carry A A' H H') : ∀ (ds : List D) {vs : List V}, RelL C A H ds vs → RelL C A' H' ds vs
  | [], _, h => h
  | d :: ds, _, ⟨v, r, e, h, t⟩ => ⟨v, r, e, Rel.carry c d h, RelL.carry c ds t⟩
theorem RelK.carry {C : Ct} {A A' : Addr → Prop} {H H' : Hp} (c : Carry A A' H H') : ∀ (ds : List (Key × D)) {vs : List (Key × V)}, RelK C A H ds vs → RelK C A' H' ds vs
  | [], _, h => h
  | (_, d) :: ds, _, ⟨v, r, e, h, t⟩ => ⟨v, r, e, Rel.carry c d h, RelK.carry c ds t⟩
theorem RelT.carry {C : Ct} {A A' : Addr → Prop} {H H' : Hp} (c : Carry A A' H H') : ∀ (ds : List (List Key × D)) {vs : List (List Key × V)}, RelT C A H ds vs → RelT C A' H' ds vs
  | [], _, h => h
  | (_, d) :: ds, _, ⟨v, r, e, h, t⟩ => ⟨v, r, e, Rel.carry c d h, RelT.carry c ds t⟩
theorem RelF.carry {C : Ct} {A A' : Addr → Prop} {H H' : Hp} (c : Carry A A' H H') : ∀ (ds : List (Str × D)) {vs : List (Str × V)}, RelF C A H ds vs → RelF C A' H' ds vs
  | [], _, h => h
  | (_, d) :: ds, _, ⟨v, r, e, h, t⟩ => ⟨v, r, e, Rel.carry c d h, RelF.carry c ds t⟩
end
end Mi
end
section
set_option maxRecDepth 100000
set_option maxHeartbeats 2000000
namespace Mi
open PySem PySem.Spec L2
open PyProof.Rows hiding St

/-- as Carry, for what holds no list, dict or instance -/
structure CarryT (H H' : Hp) : Prop where
  tup : ∀ b xs, H b = some (.tup xs) → H' b = some (.tup xs)
  frz : ∀ b o u, H b = some (.frz o u) → H' b = some (.frz o u)
theorem Carry.t {A A' : Addr → Prop} {H H' : Hp} (c : Carry A A' H H') : CarryT H H' := ⟨c.tup, c.frz⟩
theorem CarryT.rd_tup {H H' : Hp} (c : CarryT H H') {K : PySem.W.Frag} {a : Addr} {vs : List V} (h : SqT K H a vs) : SqT K H' a vs := by
  rcases h with (h | ⟨o, h⟩) | h
  · exact .inl (.inl (c.tup _ _ h))
  · exact .inl (.inr ⟨o, c.frz _ _ _ h⟩)
  · exact .inr h
theorem CarryT.scr {H H' : Hp} (c : CarryT H H') {K : PySem.W.Frag} {a : Addr} {vs : List V} (h : Scr K H a vs) : Scr K H' a vs := by
  rcases h with ⟨o, h⟩ | h
  · exact .inl ⟨o, c.frz _ _ _ h⟩
  · exact .inr h
mutual
theorem Rel.imm {C : Ct} {A A' : Addr → Prop} {H H' : Hp} (c : CarryT H H') : ∀ (d : D) {v : V}, d.imm = true → Rel C A H d v → Rel C A' H' d v
  | .none, _, _, h => h
  | .bl _, _, _, h => h
  | .int _, _, _, h => h
  | .str _, _, _, h => h
  | .tup xs, _, i, ⟨a, vs, e, h, r⟩ => ⟨a, vs, e, c.rd_tup h, RelL.imm c xs (by simpa [D.imm] using i) r⟩
  | .lst _, _, i, _ => by simp [D.imm] at i
  | .dK _, _, i, _ => by simp [D.imm] at i
  | .dT _, _, i, _ => by simp [D.imm] at i
  | .fn _, _, _, h => h
  | .ins _ _, _, i, _ => by simp [D.imm] at i
  | .scr _, _, _, ⟨a, e, h⟩ => ⟨a, e, c.scr h⟩
theorem RelL.imm {C : Ct} {A A' : Addr → Prop} {H H' : Hp} (c : CarryT H H') : ∀ (ds : List D) {vs : List V}, immL ds = true → RelL C A H ds vs → RelL C A' H' ds vs
  | [], _, _, h => h
  | d :: ds, _, i, ⟨v, r, e, h, t⟩ => by
    have i' : d.imm = true ∧ immL ds = true := by simpa [immL] using i
    exact ⟨v, r, e, Rel.imm c d i'.1 h, RelL.imm c ds i'.2 t⟩
end

theorem RelL.length {C : Ct} {A : Addr → Prop} {H : Hp} : ∀ {ds : List D} {vs : List V}, RelL C A H ds vs → vs.length = ds.length
  | [], _, h => by subst h; rfl
  | _ :: _, _, ⟨_, _, e, _, t⟩ => by subst e; simp [RelL.length t]
theorem RelL.get {C : Ct} {A : Addr → Prop} {H : Hp} : ∀ {ds : List D} {vs : List V} {i : Nat} {d : D}, RelL C A H ds vs → ds[i]? = some d → ∃ v, vs[i]? = some v ∧ Rel C A H d v
  | [], _, _, _, _, e => by simp at e
  | _ :: _, _, 0, _, ⟨v, _, e, h, _⟩, q => by subst e; simp at q; subst q; exact ⟨v, rfl, h⟩
  | _ :: _, _, i + 1, d, ⟨_, r, e, _, t⟩, q => by
    subst e
    obtain ⟨v, h1, h2⟩ := RelL.get (i := i) (d := d) t (by simpa using q)
    exact ⟨v, by simpa using h1, h2⟩
theorem RelL.back {C : Ct} {A : Addr → Prop} {H : Hp} {ds : List D} {vs : List V} {i : Nat} {v : V} (h : RelL C A H ds vs) (e : vs[i]? = some v) : ∃ d, ds[i]? = some d ∧ Rel C A H d v := by
  have hl := h.length
  have hi : i < ds.length := by rw [← hl]; exact (List.getElem?_eq_some_iff.mp e).1
  obtain ⟨v', e', r⟩ := h.get (List.getElem?_eq_getElem hi)
  rw [e] at e'; cases e'
  exact ⟨_, List.getElem?_eq_getElem hi, r⟩
theorem RelL.append {C : Ct} {A : Addr → Prop} {H : Hp} : ∀ {ds es : List D} {vs ws : List V}, RelL C A H ds vs → RelL C A H es ws → RelL C A H (ds ++ es) (vs ++ ws)
  | [], _, _, _, h, k => by subst h; exact k
  | _ :: _, _, _, _, ⟨v, r, e, h, t⟩, k => by subst e; exact ⟨v, _, rfl, h, RelL.append t k⟩
theorem RelL.drop {C : Ct} {A : Addr → Prop} {H : Hp} : ∀ {ds : List D} {vs : List V} (n : Nat), RelL C A H ds vs → RelL C A H (ds.drop n) (vs.drop n)
  | _, _, 0, h => h
  | [], _, _ + 1, h => by subst h; rfl
  | _ :: _, _, n + 1, ⟨_, _, e, _, t⟩ => by subst e; exact RelL.drop n t
theorem RelL.take {C : Ct} {A : Addr → Prop} {H : Hp} : ∀ {ds : List D} {vs : List V} (n : Nat), RelL C A H ds vs → RelL C A H (ds.take n) (vs.take n)
  | _, _, 0, h => rfl
  | [], _, _ + 1, h => by subst h; rfl
  | _ :: _, _, n + 1, ⟨v, _, e, h, t⟩ => by subst e; exact ⟨v, _, rfl, h, RelL.take n t⟩
theorem RelL.snoc {C : Ct} {A : Addr → Prop} {H : Hp} {ds : List D} {vs : List V} {d : D} {v : V} (h : RelL C A H ds vs) (r : Rel C A H d v) : RelL C A H (ds ++ [d]) (vs ++ [v]) :=
  h.append ⟨v, [], rfl, r, rfl⟩
theorem RelL.rev {C : Ct} {A : Addr → Prop} {H : Hp} : ∀ {ds : List D} {vs : List V}, RelL C A H ds vs → RelL C A H ds.reverse vs.reverse
  | [], _, h => by subst h; rfl
  | _ :: _, _, ⟨_, _, e, h, t⟩ => by
    subst e
    rw [List.reverse_cons, List.reverse_cons]
    exact (RelL.rev t).snoc h

/-! ### slots -/
def Bx (r : List SV) (σ : St) (b : Addr) : Prop := ∃ (i : Nat) (d : D), (r[i]? = some (.box d) ∨ r[i]? = some (.pbx d)) ∧ σ[i]? = some (some (.ref b))
def Lx (r : List SV) (σ : St) (b : Addr) : Prop := ∃ (i : Nat) (d : D), r[i]? = some (.box d) ∧ σ[i]? = some (some (.ref b))
theorem Lx.bx {r : List SV} {σ : St} {b : Addr} (h : Lx r σ b) : Bx r σ b := let ⟨i, d, e, s⟩ := h; ⟨i, d, .inl e, s⟩

/-- the slots r, borne by σ and H; v0: what was handed in -/
structure Rp (C : Ct) (v0 : List V) (A : Addr → Prop) (r : List SV) (σ : St) (H : Hp) : Prop where
  len : r.length = σ.length
  val : ∀ (i : Nat) (d : D), r[i]? = some (.val d) → ∃ v, σ[i]? = some (some v) ∧ Rel C A H d v
  box : ∀ (i : Nat) (d : D), r[i]? = some (.box d) → ∃ b, σ[i]? = some (some (.ref b)) ∧ ¬ A b ∧ Own C A H d b
  pbx : ∀ (i : Nat) (d : D), r[i]? = some (.pbx d) → ∃ b, σ[i]? = some (some (.ref b)) ∧ v0[i]? = some (.ref b) ∧ ¬ A b ∧ Own C A H d b
  inj : ∀ (i j : Nat) (d e : D) (b : Addr), (r[i]? = some (.box d) ∨ r[i]? = some (.pbx d)) → (r[j]? = some (.box e) ∨ r[j]? = some (.pbx e)) → σ[i]? = some (some (.ref b)) → σ[j]? = some (some (.ref b)) → i = j
  dom : ∀ b, A b → ∃ o, H b = some o ∧ ∀ ps, o ≠ .tbl ps
  tabs : LamX.Tabs C.T H
/-- from a state to a later one -/
structure Stp (A : Addr → Prop) (r : List SV) (σ : St) (H : Hp) (A' : Addr → Prop) (r' : List SV) (σ' : St) (H' : Hp) : Prop where
  keep : ∀ b o, H b = some o → ¬ Bx r σ b → (∀ ps, o ≠ .tbl ps) → H' b = some o
  dom : ∀ b o, H b = some o → ∃ o', H' b = some o'
  up : ∀ b, A b → A' b
  an : ∀ b, A' b → A b ∨ H b = none ∨ Lx r σ b
  bn : ∀ b, Bx r' σ' b → Bx r σ b ∨ H b = none
  ln : ∀ b, Lx r' σ' b → Lx r σ b ∨ H b = none
theorem Stp.refl {A : Addr → Prop} {r : List SV} {σ : St} {H : Hp} : Stp A r σ H A r σ H :=
  ⟨fun _ _ h _ _ => h, fun _ o h => ⟨o, h⟩, fun _ h => h, fun _ h => .inl h, fun _ h => .inl h, fun _ h => .inl h⟩
theorem Stp.dom_none {A A' : Addr → Prop} {r r' : List SV} {σ σ' : St} {H H' : Hp} (s : Stp A r σ H A' r' σ' H') {b : Addr} (h : H' b = none) : H b = none := by
  cases q : H b with
  | none => rfl
  | some o =>
    obtain ⟨o', e⟩ := s.dom b o q
    rw [h] at e; cases e
theorem Stp.trans {A A1 A2 : Addr → Prop} {r r1 r2 : List SV} {σ σ1 σ2 : St} {H H1 H2 : Hp} (x : Stp A r σ H A1 r1 σ1 H1) (y : Stp A1 r1 σ1 H1 A2 r2 σ2 H2) : Stp A r σ H A2 r2 σ2 H2 where
  keep := fun b o h n t => by
    refine y.keep b o (x.keep b o h n t) (fun z => ?_) t
    rcases x.bn b z with z | z
    · exact n z
    · rw [h] at z; cases z
  dom := fun b o h => let ⟨o1, h1⟩ := x.dom b o h; y.dom b o1 h1
  up := fun b h => y.up b (x.up b h)
  an := fun b h => by
    rcases y.an b h with h | h | h
    · exact x.an b h
    · exact .inr (.inl (x.dom_none h))
    · rcases x.ln b h with h | h
      · exact .inr (.inr h)
      · exact .inr (.inl h)
  bn := fun b h => by
    rcases y.bn b h with h | h
    · exact x.bn b h
    · exact .inr (x.dom_none h)
  ln := fun b h => by
    rcases y.ln b h with h | h
    · exact x.ln b h
    · exact .inr (x.dom_none h)
section
variable {C : Ct} {v0 : List V} {A A' : Addr → Prop} {r r' : List SV} {σ σ' : St} {H H' : Hp}
theorem Own.obj {d : D} {a : Addr} (h : Own C A H d a) : ∃ o, H a = some o ∧ (∀ ps, o ≠ .tbl ps) ∧ (∀ xs, o ≠ .tup xs) ∧ ∀ ob u, o ≠ .frz ob u := by
  cases d with
  | lst xs => obtain ⟨vs, e, _⟩ := h; exact ⟨_, e, fun _ z => (nomatch z), fun _ z => (nomatch z), fun _ _ z => (nomatch z)⟩
  | dK xs => obtain ⟨vs, e, _⟩ := h; exact ⟨_, e, fun _ z => (nomatch z), fun _ z => (nomatch z), fun _ _ z => (nomatch z)⟩
  | dT xs => obtain ⟨vs, e, _⟩ := h; exact ⟨_, e, fun _ z => (nomatch z), fun _ z => (nomatch z), fun _ _ z => (nomatch z)⟩
  | ins c fs => obtain ⟨cl, dx, ws, _, e, _⟩ := h; exact ⟨_, e, fun _ z => (nomatch z), fun _ z => (nomatch z), fun _ _ z => (nomatch z)⟩
  | _ => exact h.elim
theorem Rp.bxo (p : Rp C v0 A r σ H) {b : Addr} (h : Bx r σ b) : ∃ d, ¬ A b ∧ Own C A H d b := by
  obtain ⟨i, d, e | e, s⟩ := h
  · obtain ⟨b', e1, e2, e3⟩ := p.box i d e
    rw [s] at e1; cases e1
    exact ⟨d, e2, e3⟩
  · obtain ⟨b', e1, _, e2, e3⟩ := p.pbx i d e
    rw [s] at e1; cases e1
    exact ⟨d, e2, e3⟩
theorem Rp.bxd (p : Rp C v0 A r σ H) {b : Addr} (h : Bx r σ b) : ∃ o, H b = some o ∧ (∀ ps, o ≠ .tbl ps) ∧ (∀ xs, o ≠ .tup xs) ∧ ∀ ob u, o ≠ .frz ob u := by
  obtain ⟨d, _, h⟩ := p.bxo h
  exact h.obj
/-- values are carried -/
theorem Rp.carry (p : Rp C v0 A r σ H) (s : Stp A r σ H A' r' σ' H') : Carry A A' H H' where
  up := s.up
  at_ := fun b o ha e t => s.keep b o e (fun z => (p.bxo z).elim fun _ h => h.1 ha) t
  tup := fun b xs e => s.keep b _ e (fun z => by
    obtain ⟨o, q, _, n, _⟩ := p.bxd z
    rw [e] at q; cases q
    exact n xs rfl) fun _ z => nomatch z
  frz := fun b o u e => s.keep b _ e (fun z => by
    obtain ⟨o', q, _, _, n⟩ := p.bxd z
    rw [e] at q; cases q
    exact n o u rfl) fun _ z => nomatch z
end
/-- what an expression gave; H0: the heap ahead of it -/
def RelE (C : Ct) (A : Addr → Prop) (H0 : Hp) (r : List SV) (σ : St) (H : Hp) (ev : EV) (v : V) : Prop := match ev with
  | .val d => Rel C A H d v
  | .own d => ∃ p, v = .ref p ∧ H0 p = none ∧ ¬ A p ∧ ¬ Bx r σ p ∧ Own C A H d p
  | .bx i => σ[i]? = some (some v) ∧ ∃ b, v = .ref b
section
variable {C : Ct} {v0 : List V} {A A' : Addr → Prop} {r r' : List SV} {σ σ' : St} {H H' H0 : Hp}
theorem Own.carry (c : Carry A A' H H') {d : D} {a : Addr} (hk : ∀ o, H a = some o → (∀ ps, o ≠ .tbl ps) → H' a = some o) (h : Own C A H d a) : Own C A' H' d a := by
  cases d with
  | lst xs => obtain ⟨vs, e, t⟩ := h; exact ⟨vs, hk _ e (fun _ z => nomatch z), t.carry c⟩
  | dK xs => obtain ⟨vs, e, t⟩ := h; exact ⟨vs, hk _ e (fun _ z => nomatch z), RelK.carry c _ t⟩
  | dT xs => obtain ⟨vs, e, t⟩ := h; exact ⟨vs, hk _ e (fun _ z => nomatch z), RelT.carry c _ t⟩
  | ins c' fs => obtain ⟨cl, dx, ws, e1, e, t⟩ := h; exact ⟨cl, dx, ws, e1, hk _ e (fun _ z => nomatch z), RelF.carry c _ t⟩
  | _ => exact h.elim
/-- a value that was reckoned stays, whatever is reckoned next in the same statement -/
theorem RelE.carry (p : Rp C v0 A r σ H) (s : Stp A r σ H A' r' σ H') {ev : EV} {v : V} (h : RelE C A H0 r σ H ev v) : RelE C A' H0 r' σ H' ev v := by
  cases ev with
  | val d => exact Rel.carry (p.carry s) d h
  | bx i => exact h
  | own d =>
    obtain ⟨a, e, h0, na, nb, o⟩ := h
    obtain ⟨ob, q, t, _⟩ := o.obj
    refine ⟨a, e, h0, fun z => ?_, fun z => ?_, o.carry (p.carry s) fun u hu ht => s.keep a u hu nb ht⟩
    · rcases s.an a z with z | z | z
      · exact na z
      · rw [q] at z; cases z
      · exact nb z.bx
    · rcases s.bn a z with z | z
      · exact nb z
      · rw [q] at z; cases z
/-- .. told from an earlier heap -/
theorem RelE.from {A0 : Addr → Prop} {r0 : List SV} {σ0 : St} {Ha : Hp} (s : Stp A0 r0 σ0 Ha A r σ' H0) {ev : EV} {v : V} (h : RelE C A' H0 r' σ H' ev v) : RelE C A' Ha r' σ H' ev v := by
  cases ev with
  | val d => exact h
  | bx i => exact h
  | own d =>
    obtain ⟨a, e, h0, n⟩ := h
    exact ⟨a, e, s.dom_none h0, n⟩
end
end Mi
end
section
set_option maxRecDepth 100000
set_option maxHeartbeats 2000000
namespace Mi
open PySem PySem.Spec L2
open PyProof.Rows hiding St

inductive Fl where
  | nx | bk | ct | rt (ev : EV)
  deriving Inhabited
abbrev RelT3 (α β : Type) := (Addr → Prop) → Hp → List SV → St → Hp → α → β → Prop
/-- an exception: its class, its fields -/
def ExcR (C : Ct) (A : Addr → Prop) (H : Hp) (c : Str) (fs : List (Str × D)) (cl : Addr) (d : Option Addr) : Prop :=
  C.mg c = some (.ref cl) ∧ ((fs = [] ∧ d = none) ∨ ∃ a ws, d = some a ∧ H a = some (.xd ws) ∧ RelF C A H fs ws)
def Po {α β : Type} (C : Ct) (v0 : List V) (W : WX) (Rl : RelT3 α β) (A : Addr → Prop) (r : List SV) (σ : St) (H : Hp) (Q : β → Hp → Prop) : R α → Prop
  | .ok a r' => ∀ A' H' v, Rp C v0 A' r' σ H' → Stp A r σ H A' r' σ H' → Rl A' H r' σ H' a v → Q v H'
  | .exc c fs r' => ∀ A' H' cl d, Rp C v0 A' r' σ H' → Stp A r σ H A' r' σ H' → ExcR C A' H' c fs cl d → W (.ref cl) d σ H'
  | .no => False
def PoS (C : Ct) (v0 : List V) (W : WX) (A : Addr → Prop) (r : List SV) (σ : St) (H : Hp) (N : Ends) : R Fl → Prop
  | .ok .nx r' => ∀ A' σ' H', Rp C v0 A' r' σ' H' → Stp A r σ H A' r' σ' H' → N.nx σ' H'
  | .ok .bk r' => ∀ A' σ' H', Rp C v0 A' r' σ' H' → Stp A r σ H A' r' σ' H' → N.bk σ' H'
  | .ok .ct r' => ∀ A' σ' H', Rp C v0 A' r' σ' H' → Stp A r σ H A' r' σ' H' → N.ct σ' H'
  | .ok (.rt ev) r' => ∀ A' σ' H' v, Rp C v0 A' r' σ' H' → Stp A r σ H A' r' σ' H' → RelE C A' H r' σ' H' ev v → N.rt v H'
  | .exc c fs r' => ∀ A' σ' H' cl d, Rp C v0 A' r' σ' H' → Stp A r σ H A' r' σ' H' → ExcR C A' H' c fs cl d → W (.ref cl) d σ' H'
  | .no => False
/-- two new things are not the same one -/
def Dst (evs : List EV) (vs : List V) : Prop := ∀ (i j : Nat) (d d' : D), i ≠ j → evs[i]? = some (.own d) → evs[j]? = some (.own d') → vs[i]? ≠ vs[j]?
def RelEs (C : Ct) : RelT3 (List EV) (List V) := fun A H0 r σ H evs vs => Paired (RelE C A H0 r σ H) evs vs ∧ Dst evs vs
theorem Dst.nil {vs : List V} : Dst [] vs := fun i j d d' _ h => by simp at h
theorem paired_get0 {α β : Type} {F : α → β → Prop} : ∀ {xs : List α} {ys : List β} {i : Nat} {x : α}, Paired F xs ys → xs[i]? = some x → ∃ y, ys[i]? = some y ∧ F x y
  | _, _, 0, _, .cons h _, e => by simp at e; subst e; exact ⟨_, rfl, h⟩
  | _, _, i + 1, x, .cons _ t, e => by
    obtain ⟨y, a, b⟩ := paired_get0 (i := i) (x := x) t (by simpa using e)
    exact ⟨y, by simpa using a, b⟩
  | _, _, i, _, .nil, e => by simp at e
theorem Dst.cons {ev : EV} {evs : List EV} {v : V} {vs : List V} (h : Dst evs vs) (k : ∀ d, ev = .own d → ∀ (j : Nat) (d' : D), evs[j]? = some (.own d') → vs[j]? ≠ some v) : Dst (ev :: evs) (v :: vs) := fun i j d d' ne h1 h2 => by
  cases i with
  | zero =>
    cases j with
    | zero => exact absurd rfl ne
    | succ j =>
      have e : ev = .own d := by simpa using h1
      exact fun z => k d e j d' (by simpa using h2) (by simpa using z.symm)
  | succ i =>
    cases j with
    | zero =>
      have e : ev = .own d' := by simpa using h2
      exact fun z => k d' e i d (by simpa using h1) (by simpa using z)
    | succ j => exact fun z => h i j d d' (by omega) (by simpa using h1) (by simpa using h2) (by simpa using z)
def RelB : RelT3 Bool Bool := fun _ _ _ _ _ a b => b = a

def tE (C : Ct) (v0 : List V) (W : WX) (m : M EV) : TE := fun σ H Q => ∃ A r, Rp C v0 A r σ H ∧ Po C v0 W (RelE C) A r σ H Q (m r)
def tEs (C : Ct) (v0 : List V) (W : WX) (m : M (List EV)) : TA := fun σ H Q => ∃ A r, Rp C v0 A r σ H ∧ Po C v0 W (RelEs C) A r σ H Q (m r)
def tT (C : Ct) (v0 : List V) (W : WX) (m : M Bool) : TT := fun σ H Q => ∃ A r, Rp C v0 A r σ H ∧ Po C v0 W RelB A r σ H Q (m r)
def tS (C : Ct) (v0 : List V) (W : WX) (m : M Fl) : TS := fun N σ H => ∃ A r, Rp C v0 A r σ H ∧ PoS C v0 W A r σ H N (m r)

theorem PE.imp {X : Cx} {e : Expr} {t u : TE} (h : PE X e t) (k : ∀ σ H Q, u σ H Q → t σ H Q) : PE X e u := ⟨fun p s σ H Q I x => h.run p s σ H Q I (k σ H Q x)⟩
theorem PT.imp {X : Cx} {e : Expr} {t u : TT} (h : PT X e t) (k : ∀ σ H Q, u σ H Q → t σ H Q) : PT X e u := ⟨fun p s σ H Q I x => h.run p s σ H Q I (k σ H Q x)⟩
theorem PA.imp {X : Cx} {e : List Expr} {t u : TA} (h : PA X e t) (k : ∀ σ H Q, u σ H Q → t σ H Q) : PA X e u := ⟨fun y p s σ H Q I x => h.run y p s σ H Q I (k σ H Q x)⟩
theorem PS.imp {X : Cx} {e : Stmt} {t u : TS} (h : PS X e t) (k : ∀ N σ H, u N σ H → t N σ H) : PS X e u := ⟨fun p s σ H N I x => h.run p s σ H N I (k N σ H x)⟩
theorem PSs.imp {X : Cx} {e : List Stmt} {t u : TS} (h : PSs X e t) (k : ∀ N σ H, u N σ H → t N σ H) : PSs X e u := ⟨fun p s σ H N I x => h.run p s σ H N I (k N σ H x)⟩
theorem PTs.imp {X : Cx} {e : List Expr} {t u : TT} (h : PTs X e t) (k : ∀ σ H Q, u σ H Q → t σ H Q) : PTs X e u := ⟨fun p s σ H Q I x => h.run p s σ H Q I (k σ H Q x)⟩

section
variable {C : Ct} {v0 : List V} {W : WX} {α β γ δ : Type} {Rl : RelT3 α β} {Rm : RelT3 γ δ} {A A1 : Addr → Prop} {r r1 : List SV} {σ σ1 : St} {H H1 : Hp}
/-- one after the other; the wish is told from the state ahead of both -/
theorem Po.bnd {A0 : Addr → Prop} {r0 : List SV} {H0 : Hp} (s0 : Stp A0 r0 σ H0 A r σ H) {Q : δ → Hp → Prop} {m : M α} {f : α → M γ} (h : Po C v0 W Rm A0 r0 σ H0 Q (Mi.bnd m f r)) :
    Po C v0 W Rl A r σ H (fun x H1 => ∃ A1 r1 a, Rp C v0 A1 r1 σ H1 ∧ Stp A r σ H A1 r1 σ H1 ∧ Rl A1 H r1 σ H1 a x ∧ Po C v0 W Rm A0 r0 σ H0 Q (f a r1)) (m r) := by
  unfold Mi.bnd at h
  cases e : m r with
  | ok a r' =>
    rw [e] at h
    exact fun A' H' v p s z => ⟨A', r', a, p, s, z, h⟩
  | exc c fs r' => rw [e] at h; exact fun A' H' cl d p s z => h A' H' cl d p (s0.trans s) z
  | no => rw [e] at h; exact h
theorem PoS.shift {σ1 : St} (s : Stp A r σ H A1 r1 σ1 H1) {N : Ends} {x : R Fl} (h : PoS C v0 W A r σ H N x) : PoS C v0 W A1 r1 σ1 H1 N x := by
  cases x with
  | ok a r' =>
    cases a with
    | nx => exact fun A' σ' H' p s' => h A' σ' H' p (s.trans s')
    | bk => exact fun A' σ' H' p s' => h A' σ' H' p (s.trans s')
    | ct => exact fun A' σ' H' p s' => h A' σ' H' p (s.trans s')
    | rt ev =>
      refine fun A' σ' H' v p s' z => h A' σ' H' v p (s.trans s') ?_
      cases ev with
      | val d => exact z
      | bx i => exact z
      | own d =>
        obtain ⟨a, e, h0, n⟩ := z
        exact ⟨a, e, s.dom_none h0, n⟩
  | exc c fs r' => exact fun A' σ' H' cl d p s' z => h A' σ' H' cl d p (s.trans s') z
  | no => exact h
theorem PoS.bnd {A0 : Addr → Prop} {r0 : List SV} {H0 : Hp} {σ0 : St} (s0 : Stp A0 r0 σ0 H0 A r σ H) {N : Ends} {m : M α} {f : α → M Fl} (h : PoS C v0 W A0 r0 σ0 H0 N (Mi.bnd m f r)) :
    Po C v0 W Rl A r σ H (fun x H1 => ∃ A1 r1 a, Rp C v0 A1 r1 σ H1 ∧ Stp A r σ H A1 r1 σ H1 ∧ Rl A1 H r1 σ H1 a x ∧ PoS C v0 W A0 r0 σ0 H0 N (f a r1)) (m r) := by
  unfold Mi.bnd at h
  cases e : m r with
  | ok a r' =>
    rw [e] at h
    exact fun A' H' v p s z => ⟨A', r', a, p, s, z, h⟩
  | exc c fs r' => rw [e] at h; exact fun A' H' cl d p s z => h A' σ H' cl d p (s0.trans s) z
  | no => rw [e] at h; exact h
end

/-! ### reading -/
def look (r : List SV) : EV → Option D
  | .val d => some d
  | .own d => some d
  | .bx i => match r[i]? with
    | some (.box d) => some d
    | some (.pbx d) => some d
    | some (.val d) => some d
    | _ => none
/-- a value as it is read: nobody's, or somebody's -/
def RelW (C : Ct) (A : Addr → Prop) (H : Hp) (d : D) (v : V) : Prop := Rel C A H d v ∨ ∃ p, v = .ref p ∧ Own C A H d p
section
variable {C : Ct} {v0 : List V} {A A' : Addr → Prop} {r r' : List SV} {σ σ' : St} {H H' H0 : Hp}
theorem RelE.look (p : Rp C v0 A r σ H) {ev : EV} {v : V} (h : RelE C A H0 r σ H ev v) {d : D} (e : Mi.look r ev = some d) : RelW C A H d v := by
  cases ev with
  | val d' => cases e; exact .inl h
  | own d' =>
    cases e
    obtain ⟨a, e, _, _, _, o⟩ := h
    exact .inr ⟨a, e, o⟩
  | bx i =>
    obtain ⟨h, _⟩ := h
    unfold Mi.look at e
    dsimp only at e
    split at e
    · rename_i d' q
      cases e
      obtain ⟨b, e1, _, o⟩ := p.box i d q
      rw [h] at e1; cases e1
      exact .inr ⟨b, rfl, o⟩
    · rename_i d' q
      cases e
      obtain ⟨b, e1, _, _, o⟩ := p.pbx i d q
      rw [h] at e1; cases e1
      exact .inr ⟨b, rfl, o⟩
    · rename_i d' q
      cases e
      obtain ⟨v', e1, o⟩ := p.val i d q
      rw [h] at e1; cases e1
      exact .inl o
    · cases e
theorem RelW.lst {xs : List D} {v : V} (h : RelW C A H (.lst xs) v) : ∃ a vs, v = .ref a ∧ H a = some (.lst vs) ∧ RelL C A H xs vs := by
  rcases h with ⟨a, vs, e, l, t⟩ | ⟨p, e, vs, l, t⟩
  · exact ⟨a, vs, e, l.2, t⟩
  · exact ⟨p, vs, e, l, t⟩
theorem RelW.scr {ns : List Int} {v : V} (h : RelW C A H (.scr ns) v) : ∃ a, v = .ref a ∧ Scr C.K H a (ns.map V.int) := by
  rcases h with h | ⟨p, e, o⟩
  · exact h
  · exact o.elim
theorem RelW.tup {xs : List D} {v : V} (h : RelW C A H (.tup xs) v) : ∃ a vs, v = .ref a ∧ SqT C.K H a vs ∧ RelL C A H xs vs := by
  rcases h with h | ⟨p, e, o⟩
  · exact h
  · exact o.elim
theorem RelW.dK {xs : List (Key × D)} {v : V} (h : RelW C A H (.dK xs) v) : ∃ a vs, v = .ref a ∧ H a = some (.dK vs) ∧ RelK C A H xs vs := by
  rcases h with ⟨a, vs, e, l, t⟩ | ⟨p, e, vs, l, t⟩
  · exact ⟨a, vs, e, l.2, t⟩
  · exact ⟨p, vs, e, l, t⟩
theorem RelW.dT {xs : List (List Key × D)} {v : V} (h : RelW C A H (.dT xs) v) : ∃ a vs, v = .ref a ∧ H a = some (.dT vs) ∧ RelT C A H xs vs := by
  rcases h with ⟨a, vs, e, l, t⟩ | ⟨p, e, vs, l, t⟩
  · exact ⟨a, vs, e, l.2, t⟩
  · exact ⟨p, vs, e, l, t⟩
theorem RelW.non {v : V} (h : RelW C A H .none v) : v = .non := by
  rcases h with h | ⟨p, e, o⟩
  · exact h
  · exact o.elim
theorem RelW.bl {b : Bool} {v : V} (h : RelW C A H (.bl b) v) : v = .bl b := by
  rcases h with h | ⟨p, e, o⟩
  · exact h
  · exact o.elim
theorem RelW.int {i : Int} {v : V} (h : RelW C A H (.int i) v) : v = .int i := by
  rcases h with h | ⟨p, e, o⟩
  · exact h
  · exact o.elim
theorem RelW.str {x : Str} {v : V} (h : RelW C A H (.str x) v) : v = .str x := by
  rcases h with h | ⟨p, e, o⟩
  · exact h
  · exact o.elim
theorem RelW.fn {x : Str} {v : V} (h : RelW C A H (.fn x) v) : ∃ f, v = .ref f ∧ C.mg x = some (.ref f) := by
  rcases h with h | ⟨p, e, o⟩
  · exact h
  · exact o.elim
theorem RelW.carry (c : Carry A A' H H') {d : D} {v : V} (hk : ∀ p o, v = .ref p → H p = some o → (∀ ps, o ≠ .tbl ps) → H' p = some o) (h : RelW C A H d v) : RelW C A' H' d v := by
  rcases h with h | ⟨p, e, o⟩
  · exact .inl (h.carry c)
  · exact .inr ⟨p, e, o.carry c fun u q t => hk p u e q t⟩
end
end Mi
end
section
set_option maxRecDepth 100000
set_option maxHeartbeats 2000000
namespace Mi
open PySem PySem.Spec L2
open PyProof.Rows hiding St

section
variable {C : Ct} {v0 : List V} {A A0 A' : Addr → Prop} {r r0 r' : List SV} {σ σ' : St} {H H' H0 : Hp}
/-! ### a new thing is laid -/
theorem carry_lay {p : Addr} {o : HO} (hp : H p = none) : Carry A A H (upd H p o) where
  up := fun _ h => h
  at_ := fun b u _ e _ => by rw [upd_ne (ne_of_none e hp)]; exact e
  tup := fun b u e => by rw [upd_ne (ne_of_none e hp)]; exact e
  frz := fun b u w e => by rw [upd_ne (ne_of_none e hp)]; exact e
theorem ext_lay {p : Addr} {o : HO} (hp : H p = none) : ∀ b u, H b = some u → upd H p o b = some u := fun b u e => by rw [upd_ne (ne_of_none e hp)]; exact e
theorem Rp.ext (p : Rp C v0 A r σ H) (x : ∀ b u, H b = some u → H' b = some u) : Rp C v0 A r σ H' where
  len := p.len
  val := fun i d e => let ⟨v, a, b⟩ := p.val i d e; ⟨v, a, b.carry ⟨fun _ h => h, fun b u _ e _ => x b u e, fun b u e => x b _ e, fun b u w e => x b _ e⟩⟩
  box := fun i d e => let ⟨b, a, n, o⟩ := p.box i d e; ⟨b, a, n, o.carry ⟨fun _ h => h, fun b u _ e _ => x b u e, fun b u e => x b _ e, fun b u w e => x b _ e⟩ fun u q _ => x _ u q⟩
  pbx := fun i d e => let ⟨b, a, c, n, o⟩ := p.pbx i d e; ⟨b, a, c, n, o.carry ⟨fun _ h => h, fun b u _ e _ => x b u e, fun b u e => x b _ e, fun b u w e => x b _ e⟩ fun u q _ => x _ u q⟩
  inj := p.inj
  dom := fun b h => let ⟨o, e, t⟩ := p.dom b h; ⟨o, x b o e, t⟩
  tabs := p.tabs.ext x
theorem stp_ext (x : ∀ b u, H b = some u → H' b = some u) : Stp A r σ H A r σ H' :=
  ⟨fun b o h _ _ => x b o h, fun b o h => ⟨o, x b o h⟩, fun _ h => h, fun _ h => .inl h, fun _ h => .inl h, fun _ h => .inl h⟩
/-- a new tuple -/
theorem lay_tup (p : Rp C v0 A r σ H) {a : Addr} {ds : List D} {vs : List V} (ha : H a = none) (t : RelL C A H ds vs) : Rp C v0 A r σ (upd H a (.tup vs)) ∧ Stp A r σ H A r σ (upd H a (.tup vs)) ∧ Rel C A (upd H a (.tup vs)) (.tup ds) (.ref a) :=
  ⟨p.ext (ext_lay ha), stp_ext (ext_lay ha), a, vs, rfl, .of upd_same, t.carry (carry_lay ha)⟩
/-- .. anything else that is told by Own -/
theorem lay_own (p : Rp C v0 A r σ H) (s : Stp A0 r0 σ H0 A r σ H) {a : Addr} {o : HO} {d : D} (ha : H a = none) (w : Own C A (upd H a o) d a) :
    Rp C v0 A r σ (upd H a o) ∧ Stp A0 r0 σ H0 A r σ (upd H a o) ∧ RelE C A H0 r σ (upd H a o) (.own d) (.ref a) := by
  refine ⟨p.ext (ext_lay ha), s.trans (stp_ext (ext_lay ha)), a, rfl, s.dom_none ha, fun z => ?_, fun z => ?_, w⟩
  · obtain ⟨u, e, _⟩ := p.dom a z
    rw [ha] at e; cases e
  · obtain ⟨u, e, _⟩ := p.bxd z
    rw [ha] at e; cases e

/-! ### what was one's own becomes a value for good -/
def or1 (A : Addr → Prop) (p : Addr) : Addr → Prop := fun b => A b ∨ b = p
theorem Own.rel {d : D} {p : Addr} (h : Own C A H d p) : Rel C (or1 A p) H d (.ref p) := by
  have c : Carry A (or1 A p) H H := ⟨fun _ h => .inl h, fun _ _ _ h _ => h, fun _ _ h => h, fun _ _ _ h => h⟩
  cases d with
  | lst xs => obtain ⟨vs, e, t⟩ := h; exact ⟨p, vs, rfl, ⟨.inr rfl, e⟩, t.carry c⟩
  | dK xs => obtain ⟨vs, e, t⟩ := h; exact ⟨p, vs, rfl, ⟨.inr rfl, e⟩, RelK.carry c _ t⟩
  | dT xs => obtain ⟨vs, e, t⟩ := h; exact ⟨p, vs, rfl, ⟨.inr rfl, e⟩, RelT.carry c _ t⟩
  | ins c' fs => obtain ⟨cl, dx, ws, e1, e, t⟩ := h; exact ⟨p, cl, dx, ws, rfl, e1, .inr rfl, e, RelF.carry c _ t⟩
  | _ => exact h.elim
def toV : EV → List SV → Option (D × List SV)
  | .val d, r => some (d, r)
  | .own d, r => some (d, r)
  | .bx i, r => match r[i]? with
    | some (.box d) => some (d, r.set i (.val d))
    | some (.val d) => some (d, r)
    | _ => none
def toVs : List EV → List SV → Option (List D × List SV)
  | [], r => some ([], r)
  | ev :: es, r => match toV ev r with
    | some (d, r1) => match toVs es r1 with
      | some (ds, r2) => some (d :: ds, r2)
      | none => none
    | none => none
/-- what may be made a value for good -/
def RelQ (C : Ct) (A : Addr → Prop) (H0 : Hp) (r : List SV) (σ : St) (H : Hp) (ev : EV) (v : V) : Prop := match ev with
  | .val d => Rel C A H d v
  | .own d => ∃ p, v = .ref p ∧ H0 p = none ∧ ¬ Bx r σ p ∧ Own C A H d p
  | .bx i => σ[i]? = some (some v) ∧ ∃ b, v = .ref b
theorem RelE.q {ev : EV} {v : V} (h : RelE C A H0 r σ H ev v) : RelQ C A H0 r σ H ev v := by
  cases ev with
  | val d => exact h
  | bx i => exact h
  | own d => obtain ⟨a, b, c, _, e, f⟩ := h; exact ⟨a, b, c, e, f⟩
theorem getElem?_set_cases {α : Type} {l : List α} {i j : Nat} {x y : α} (h : (l.set i x)[j]? = some y) : (i = j ∧ y = x ∧ j < l.length) ∨ (i ≠ j ∧ l[j]? = some y) := by
  by_cases e : i = j
  · subst e
    by_cases hl : i < l.length
    · rw [List.getElem?_set_self hl] at h
      cases h
      exact .inl ⟨rfl, rfl, hl⟩
    · rw [List.getElem?_eq_none (by simpa using hl)] at h
      cases h
  · rw [List.getElem?_set_ne e] at h
    exact .inr ⟨e, h⟩
/-- more addresses are told to be values -/
theorem Rp.more (p : Rp C v0 A r σ H) {a : Addr} {o : HO} (ho : H a = some o) (t : ∀ ps, o ≠ .tbl ps) (nb : ¬ Bx r σ a) : Rp C v0 (or1 A a) r σ H := by
  have c : Carry A (or1 A a) H H := ⟨fun _ h => .inl h, fun _ _ _ h _ => h, fun _ _ h => h, fun _ _ _ h => h⟩
  refine ⟨p.len, fun i d e => ?_, fun i d e => ?_, fun i d e => ?_, p.inj, fun b h => ?_, p.tabs⟩
  · obtain ⟨v, x, y⟩ := p.val i d e
    exact ⟨v, x, y.carry c⟩
  · obtain ⟨b, x, n, y⟩ := p.box i d e
    exact ⟨b, x, fun z => z.elim n fun z => nb ⟨i, d, .inl e, by rw [← z]; exact x⟩, y.carry c fun _ q _ => q⟩
  · obtain ⟨b, x, x2, n, y⟩ := p.pbx i d e
    exact ⟨b, x, x2, fun z => z.elim n fun z => nb ⟨i, d, .inr e, by rw [← z]; exact x⟩, y.carry c fun _ q _ => q⟩
  · rcases h with h | h
    · exact p.dom b h
    · rw [h]
      exact ⟨o, ho, t⟩
theorem toV_ok6 (p : Rp C v0 A r σ H) (s : Stp A0 r0 σ H0 A r σ H) {ev : EV} {v : V} {d : D} (h : RelQ C A H0 r σ H ev v) (e : toV ev r = some (d, r')) :
    ∃ A', Rp C v0 A' r' σ H ∧ Stp A0 r0 σ H0 A' r' σ H ∧ Rel C A' H d v ∧ Carry A A' H H ∧ (∀ b, Bx r' σ b → Bx r σ b) ∧ ∀ b, A' b → A b ∨ (v = .ref b ∧ ((∃ d', ev = .own d') ∨ Bx r σ b)) := by
  cases ev with
  | val d' => cases e; exact ⟨A, p, s, h, ⟨fun _ h => h, fun _ _ _ h _ => h, fun _ _ h => h, fun _ _ _ h => h⟩, fun _ h => h, fun _ h => .inl h⟩
  | own d' =>
    cases e
    obtain ⟨a, rfl, h0, nb, o⟩ := h
    obtain ⟨u, hu, tu, _⟩ := o.obj
    exact ⟨or1 A a, p.more hu tu nb, ⟨s.keep, s.dom, fun b h => .inl (s.up b h), fun b h => h.elim (s.an b) fun z => .inr (.inl (by rw [z]; exact h0)), s.bn, s.ln⟩, o.rel, ⟨fun _ h => .inl h, fun _ _ _ h _ => h, fun _ _ h => h, fun _ _ _ h => h⟩, fun _ h => h, fun b h => h.imp_right fun z => ⟨by rw [z], .inl ⟨_, rfl⟩⟩⟩
  | bx i =>
    obtain ⟨hv, b, rfl⟩ := h
    unfold toV at e
    dsimp only at e
    split at e
    · rename_i dd q
      cases e
      obtain ⟨b', e1, nA, o⟩ := p.box i d q
      rw [hv] at e1; cases e1
      obtain ⟨u, hu, tu, _⟩ := o.obj
      have c : Carry A (or1 A b) H H := ⟨fun _ h => .inl h, fun _ _ _ h _ => h, fun _ _ h => h, fun _ _ _ h => h⟩
      have lx : Lx r σ b := ⟨i, d, q, hv⟩
      have bxs : ∀ c, Bx (r.set i (.val d)) σ c → Bx r σ c := fun c ⟨j, e, h1, h2⟩ => by
        rcases h1 with h1 | h1
        · rcases getElem?_set_cases h1 with ⟨_, z, _⟩ | ⟨_, z⟩
          · cases z
          · exact ⟨j, e, .inl z, h2⟩
        · rcases getElem?_set_cases h1 with ⟨_, z, _⟩ | ⟨_, z⟩
          · cases z
          · exact ⟨j, e, .inr z, h2⟩
      have lxs : ∀ c, Lx (r.set i (.val d)) σ c → Lx r σ c := fun c ⟨j, e, h1, h2⟩ => by
        rcases getElem?_set_cases h1 with ⟨_, z, _⟩ | ⟨_, z⟩
        · cases z
        · exact ⟨j, e, z, h2⟩
      refine ⟨or1 A b, ⟨?_, fun j e h1 => ?_, fun j e h1 => ?_, fun j e h1 => ?_, fun j k e f c h1 h2 h3 h4 => ?_, fun c h => ?_, p.tabs⟩, ⟨s.keep, s.dom, fun b h => .inl (s.up b h), fun c h => ?_, fun c h => s.bn c (bxs c h), fun c h => s.ln c (lxs c h)⟩, o.rel, c, bxs, fun c h => h.imp_right fun z => ⟨by rw [z], .inr (by rw [z]; exact lx.bx)⟩⟩
      · rw [List.length_set]; exact p.len
      · rcases getElem?_set_cases h1 with ⟨z1, z, _⟩ | ⟨_, z⟩
        · cases z; subst z1
          exact ⟨_, hv, o.rel⟩
        · obtain ⟨v, x, y⟩ := p.val j e z
          exact ⟨v, x, y.carry c⟩
      · rcases getElem?_set_cases h1 with ⟨_, z, _⟩ | ⟨ne, z⟩
        · cases z
        · obtain ⟨b', x, n, y⟩ := p.box j e z
          exact ⟨b', x, fun w => w.elim n fun w => ne (p.inj i j d e b (.inl q) (.inl z) hv (by rw [← w]; exact x)), y.carry c fun _ q _ => q⟩
      · rcases getElem?_set_cases h1 with ⟨_, z, _⟩ | ⟨ne, z⟩
        · cases z
        · obtain ⟨b', x, x2, n, y⟩ := p.pbx j e z
          exact ⟨b', x, x2, fun w => w.elim n fun w => ne (p.inj i j d e b (.inl q) (.inr z) hv (by rw [← w]; exact x)), y.carry c fun _ q _ => q⟩
      · have t : ∀ {j : Nat} {e : D}, ((r.set i (.val d))[j]? = some (.box e) ∨ (r.set i (.val d))[j]? = some (.pbx e)) → (r[j]? = some (.box e) ∨ r[j]? = some (.pbx e)) := fun {j e} h => by
          rcases h with h1 | h1
          · rcases getElem?_set_cases h1 with ⟨_, z, _⟩ | ⟨_, z⟩
            · cases z
            · exact .inl z
          · rcases getElem?_set_cases h1 with ⟨_, z, _⟩ | ⟨_, z⟩
            · cases z
            · exact .inr z
        exact p.inj j k e f c (t h1) (t h2) h3 h4
      · rcases h with h | h
        · exact p.dom c h
        · rw [h]; exact ⟨u, hu, tu⟩
      · rcases h with h | h
        · exact s.an c h
        · rw [h]
          rcases s.ln b lx with z | z
          · exact .inr (.inr z)
          · exact .inr (.inl z)
    · rename_i dd q
      cases e
      obtain ⟨v', e1, o⟩ := p.val i d q
      rw [hv] at e1; cases e1
      exact ⟨A, p, s, o, ⟨fun _ h => h, fun _ _ _ h _ => h, fun _ _ h => h, fun _ _ _ h => h⟩, fun _ h => h, fun _ h => .inl h⟩
    · cases e
theorem toV_ok (p : Rp C v0 A r σ H) (s : Stp A0 r0 σ H0 A r σ H) {ev : EV} {v : V} {d : D} (h : RelQ C A H0 r σ H ev v) (e : toV ev r = some (d, r')) :
    ∃ A', Rp C v0 A' r' σ H ∧ Stp A0 r0 σ H0 A' r' σ H ∧ Rel C A' H d v ∧ Carry A A' H H ∧ ∀ b, Bx r' σ b → Bx r σ b :=
  let ⟨A', a, b, c, d, e, _⟩ := toV_ok6 p s h e
  ⟨A', a, b, c, d, e⟩
theorem RelQ.carry (c : Carry A A' H H) (bx : ∀ b, Bx r' σ b → Bx r σ b) {ev : EV} {v : V} (h : RelQ C A H0 r σ H ev v) : RelQ C A' H0 r' σ H ev v := by
  cases ev with
  | val d => exact Rel.carry c d h
  | bx i => exact h
  | own d => obtain ⟨a, x, y, z, o⟩ := h; exact ⟨a, x, y, fun w => z (bx _ w), o.carry c fun _ q _ => q⟩
theorem toVs_ok : ∀ {es : List EV} {A : Addr → Prop} {r r' : List SV} {vs : List V} {ds : List D} (p : Rp C v0 A r σ H) (s : Stp A0 r0 σ H0 A r σ H) (h : Paired (RelQ C A H0 r σ H) es vs) (e : toVs es r = some (ds, r')),
    ∃ A', Rp C v0 A' r' σ H ∧ Stp A0 r0 σ H0 A' r' σ H ∧ RelL C A' H ds vs ∧ Carry A A' H H ∧ ∀ b, Bx r' σ b → Bx r σ b
  | [], A, r, r', vs, ds, p, s, h, e => by
    cases h
    cases e
    exact ⟨A, p, s, rfl, ⟨fun _ h => h, fun _ _ _ h _ => h, fun _ _ h => h, fun _ _ _ h => h⟩, fun _ h => h⟩
  | ev :: es, A, r, r', vs, ds, p, s, h, e => by
    cases h with
    | cons h1 h2 =>
      unfold toVs at e
      split at e
      · rename_i d r1 q
        split at e
        · rename_i ds' r2 q2
          cases e
          obtain ⟨A1, p1, s1, t1, c1, b1⟩ := toV_ok p s h1 q
          obtain ⟨A2, p2, s2, t2, c2, b2⟩ := toVs_ok p1 s1 (Paired.mapP h2 fun _ _ z => RelQ.carry c1 b1 z) q2
          exact ⟨A2, p2, s2, ⟨_, _, rfl, t1.carry c2, t2⟩, ⟨fun b h => c2.up b (c1.up b h), fun _ _ _ h _ => h, fun _ _ h => h, fun _ _ _ h => h⟩, fun b h => b1 b (b2 b h)⟩
        · cases e
      · cases e
end
end Mi
end
section
set_option maxRecDepth 100000
set_option maxHeartbeats 2000000
namespace Mi
open PySem PySem.Spec L2
open PyProof.Rows hiding St

/-! ### names and constants -/
def mVar (i : Nat) : M EV := fun r => match r[i]? with
  | some (.val d) => .ok (.val d) r
  | some (.box _) => .ok (.bx i) r
  | some (.pbx _) => .ok (.bx i) r
  | _ => .no
def mC (d : D) : M EV := rt (.val d)
section
variable {X : Cx} {C : Ct} {v0 : List V} {W : WX} {e : Expr} {x : Str} {pos : Pos}
theorem pm_var {i : Nat} (hN : X.N[i]? = some x) (hv : Vis X.env.scope x) (hd : (x == ("__debug__" : Str)) = false := by decide) (hcd : (x == ("__classdict__" : Str)) = false := by decide) : PE X (.Name x pos) (tE C v0 W (mVar i)) := by
  refine PE.imp (pe_var hN hv hd hcd) fun σ H Q h => ?_
  obtain ⟨A, r, p, q⟩ := h
  unfold mVar at q
  split at q
  · rename_i d h1
    obtain ⟨v, h2, h3⟩ := p.val i d h1
    exact ⟨v, h2, q A H v p .refl h3⟩
  · rename_i d h1
    obtain ⟨b, h2, h3⟩ := p.box i d h1
    exact ⟨_, h2, q A H _ p .refl ⟨h2, b, rfl⟩⟩
  · rename_i d h1
    obtain ⟨b, h2, h3⟩ := p.pbx i d h1
    exact ⟨_, h2, q A H _ p .refl ⟨h2, b, rfl⟩⟩
  · exact q.elim
theorem pm_tC {v : V} {d : D} (h : PE X e (tC v)) (r : ∀ A H, Rel C A H d v) : PE X e (tE C v0 W (mC d)) :=
  PE.imp h fun σ H Q ⟨A, r', p, q⟩ => q A H v p .refl (r A H)
theorem pm_int {i : Int} {j} : PE X (.Constant (.int i) j pos) (tE C v0 W (mC (.int i))) := pm_tC pe_int fun _ _ => rfl
theorem pm_bl {i : Bool} {j} : PE X (.Constant (.bool i) j pos) (tE C v0 W (mC (.bl i))) := pm_tC pe_bl fun _ _ => rfl
theorem pm_non {j} : PE X (.Constant .none j pos) (tE C v0 W (mC .none)) := pm_tC pe_non fun _ _ => rfl
theorem pm_str {i : Str} {j} : PE X (.Constant (.str i) j pos) (tE C v0 W (mC (.str i))) := pm_tC pe_str fun _ _ => rfl
/-- a def or class as a value -/
theorem pm_fn {f : Addr} (hg : Gl X x) (hm : X.mg x = some (.ref f)) (hC : C.mg = X.mg := by rfl) (hd : (x == ("__debug__" : Str)) = false := by decide) : PE X (.Name x pos) (tE C v0 W (mC (.fn x))) :=
  pm_tC (v := .ref f) (pe_glob hg hm rfl hd) fun _ _ => ⟨f, rfl, by rw [hC]; exact hm⟩
/-- a constant of the module -/
theorem pm_glob {d : D} {v : V} {u : Value} (hg : Gl X x) (hm : X.mg x = some u) (hr : RelV v u) (h : ∀ A H, Rel C A H d v) (hd : (x == ("__debug__" : Str)) = false := by decide) : PE X (.Name x pos) (tE C v0 W (mC d)) :=
  pm_tC (pe_glob hg hm hr hd) h

/-! ### argument lists -/
def mNil : M (List EV) := rt []
def mCons (m : M EV) (ms : M (List EV)) : M (List EV) := bnd m fun ev => bnd ms fun evs => rt (ev :: evs)
theorem pm_nil : PA X [] (tEs C v0 W mNil) := PA.imp pa_nil fun σ H Q ⟨A, r, p, q⟩ => q A H [] p .refl ⟨.nil, .nil⟩
theorem pm_cons {es : List Expr} {m : M EV} {ms : M (List EV)} (ha : PE X e (tE C v0 W m)) (hr : PA X es (tEs C v0 W ms)) (hs : starEach (e :: es) X.env = (false, eval e X.env) :: starEach es X.env := by rfl) : PA X (e :: es) (tEs C v0 W (mCons m ms)) := by
  refine PA.imp (pa_cons ha hr hs) fun σ H Q ⟨A, r, p, q⟩ => ?_
  refine ⟨A, r, p, ?_⟩
  have k := Po.bnd (Rl := RelE C) .refl q
  cases em : m r with
  | no => rw [em] at k; exact k
  | exc c fs r' => rw [em] at k; exact k
  | ok ev r1 =>
    rw [em] at k
    intro A1 H1 x p1 s1 e1
    obtain ⟨A2, r2, ev2, p2, s2, e2, q2⟩ := k A1 H1 x p1 s1 e1
    refine ⟨A2, r2, p2, ?_⟩
    have k2 := Po.bnd (Rl := RelEs C) s2 q2
    cases em2 : ms r2 with
    | no => rw [em2] at k2; exact k2
    | exc c fs r' => rw [em2] at k2; exact k2
    | ok evs r3 =>
      rw [em2] at k2
      intro A3 H3 xs p3 s3 e3
      obtain ⟨A4, r4, evs4, p4, s4, e4, q4⟩ := k2 A3 H3 xs p3 s3 e3
      refine q4 A4 H3 (x :: xs) p4 (s2.trans s4) ⟨.cons (e2.carry p2 s4) (Paired.mapP e4.1 fun _ _ z => RelE.from s2 z), e4.2.cons fun d hd j d' hj => ?_⟩
      subst hd
      obtain ⟨a, rfl, _, _, _, o⟩ := e2
      obtain ⟨u, hu, _⟩ := o.obj
      obtain ⟨y, hy, b, rfl, hb, _⟩ := paired_get0 e4.1 hj
      rw [hy]
      intro z
      cases z
      rw [hu] at hb; cases hb
end
/-- through a sub-expression: what is left to be shown behind it -/
theorem tE_bnd {C : Ct} {v0 : List V} {W : WX} {α δ β : Type} {Rm : RelT3 α δ} {Rl : RelT3 β γ} {A0 A : Addr → Prop} {r0 r : List SV} {σ : St} {H0 H : Hp} {Q : δ → Hp → Prop} {m : M β} {f : β → M α} {K : γ → Hp → Prop}
    (p : Rp C v0 A r σ H) (s0 : Stp A0 r0 σ H0 A r σ H) (q : Po C v0 W Rm A0 r0 σ H0 Q (bnd m f r))
    (h : ∀ A1 r1 H1 a x, Rp C v0 A1 r1 σ H1 → Stp A r σ H A1 r1 σ H1 → Rl A1 H r1 σ H1 a x → Po C v0 W Rm A0 r0 σ H0 Q (f a r1) → K x H1) : Po C v0 W Rl A r σ H K (m r) := by
  have k := Po.bnd (Rl := Rl) s0 q
  cases e : m r with
  | no => rw [e] at k; exact k
  | exc c fs r' => rw [e] at k; exact k
  | ok a r1 =>
    rw [e] at k
    intro A1 H1 x p1 s1 e1
    obtain ⟨A2, r2, a2, p2, s2, e2, q2⟩ := k A1 H1 x p1 s1 e1
    exact h A2 r2 H1 a2 x p2 s2 e2 q2
theorem tS_bnd {C : Ct} {v0 : List V} {W : WX} {β γ : Type} {Rl : RelT3 β γ} {A0 A : Addr → Prop} {r0 r : List SV} {σ0 σ : St} {H0 H : Hp} {N : Ends} {m : M β} {f : β → M Fl} {K : γ → Hp → Prop}
    (p : Rp C v0 A r σ H) (s0 : Stp A0 r0 σ0 H0 A r σ H) (q : PoS C v0 W A0 r0 σ0 H0 N (bnd m f r))
    (h : ∀ A1 r1 H1 a x, Rp C v0 A1 r1 σ H1 → Stp A r σ H A1 r1 σ H1 → Rl A1 H r1 σ H1 a x → PoS C v0 W A0 r0 σ0 H0 N (f a r1) → K x H1) : Po C v0 W Rl A r σ H K (m r) := by
  have k := PoS.bnd (Rl := Rl) s0 q
  cases e : m r with
  | no => rw [e] at k; exact k
  | exc c fs r' => rw [e] at k; exact k
  | ok a r1 =>
    rw [e] at k
    intro A1 H1 x p1 s1 e1
    obtain ⟨A2, r2, a2, p2, s2, e2, q2⟩ := k A1 H1 x p1 s1 e1
    exact h A2 r2 H1 a2 x p2 s2 e2 q2

/-! ### operations on values -/
def op1 (f : D → Option EV) (ma : M EV) : M EV := bnd ma fun ea r => match look r ea with
  | some d => match f d with
    | some ev => .ok ev r
    | none => .no
  | none => .no
def op2 (f : D → D → Option EV) (ma mb : M EV) : M EV := bnd ma fun ea => bnd mb fun eb r => match look r ea, look r eb with
  | some d, some e => match f d e with
    | some ev => .ok ev r
    | none => .no
  | _, _ => .no
/-- a rule on values serves the operation f -/
def Val1 (C : Ct) (f : D → Option EV) (rr : V → Hp → VK → Prop) : Prop :=
  ∀ {v0 : List V} {A0 A : Addr → Prop} {r0 r : List SV} {σ : St} {H0 H : Hp} {d : D} {x : V} {ev : EV} {Q : VK}, Rp C v0 A r σ H → Stp A0 r0 σ H0 A r σ H → RelW C A H d x → f d = some ev →
    (∀ A' H' v, Rp C v0 A' r σ H' → Stp A0 r0 σ H0 A' r σ H' → RelE C A' H0 r σ H' ev v → Q v H') → rr x H Q
def Val2 (C : Ct) (f : D → D → Option EV) (rr : R2) : Prop :=
  ∀ {v0 : List V} {A0 A : Addr → Prop} {r0 r : List SV} {σ : St} {H0 H : Hp} {d e : D} {x y : V} {ev : EV} {Q : VK}, Rp C v0 A r σ H → Stp A0 r0 σ H0 A r σ H → RelW C A H d x → RelW C A H e y → f d e = some ev →
    (∀ A' H' v, Rp C v0 A' r σ H' → Stp A0 r0 σ H0 A' r σ H' → RelE C A' H0 r σ H' ev v → Q v H') → rr x y H Q
theorem tUn_of {C : Ct} {v0 : List V} {W : WX} {f : D → Option EV} {rr : V → Hp → VK → Prop} (k : Val1 C f rr) {ma : M EV} {σ : St} {H : Hp} {Q : VK} (h : tE C v0 W (op1 f ma) σ H Q) : tUn rr (tE C v0 W ma) σ H Q := by
  obtain ⟨A, r, p, q⟩ := h
  refine ⟨A, r, p, tE_bnd p .refl q fun A1 r1 H1 ea x p1 s1 e1 q1 => ?_⟩
  cases l1 : look r1 ea with
  | none => rw [l1] at q1; exact q1.elim
  | some d =>
    rw [l1] at q1
    dsimp only at q1
    cases l3 : f d with
    | none => rw [l3] at q1; exact q1.elim
    | some ev =>
      rw [l3] at q1
      exact k p1 s1 (e1.look p1 l1) l3 fun A' H' v a b c => q1 A' H' v a b c
theorem tOp_of {C : Ct} {v0 : List V} {W : WX} {f : D → D → Option EV} {rr : R2} (k : Val2 C f rr) {ma mb : M EV} {σ : St} {H : Hp} {Q : VK} (h : tE C v0 W (op2 f ma mb) σ H Q) : tOp rr (tE C v0 W ma) (tE C v0 W mb) σ H Q := by
  obtain ⟨A, r, p, q⟩ := h
  refine ⟨A, r, p, tE_bnd p .refl q fun A1 r1 H1 ea x p1 s1 e1 q1 => ⟨A1, r1, p1, tE_bnd p1 s1 q1 fun A2 r2 H2 eb y p2 s2 e2 q2 => ?_⟩⟩
  have e1' := e1.carry p1 s2
  have e2' := RelE.from s1 e2
  cases l1 : look r2 ea with
  | none => rw [l1] at q2; exact q2.elim
  | some d =>
    cases l2 : look r2 eb with
    | none => rw [l1, l2] at q2; exact q2.elim
    | some e =>
      rw [l1, l2] at q2
      dsimp only at q2
      cases l3 : f d e with
      | none => rw [l3] at q2; exact q2.elim
      | some ev =>
        rw [l3] at q2
        exact k p2 (s1.trans s2) (e1'.look p2 l1) (e2'.look p2 l2) l3 fun A' H' v a b c => q2 A' H' v a b c
section
variable {X : Cx} {C : Ct} {v0 : List V} {W : WX} {a b : Expr} {ma mb : M EV} {pos : Pos} {f : D → D → Option EV} {rr : R2}
theorem pm_bin {op : Operator} (ho : OpR X (binaryOp op) rr) (k : Val2 C f rr) (ha : PE X a (tE C v0 W ma)) (hb : PE X b (tE C v0 W mb)) : PE X (.BinOp a op b pos) (tE C v0 W (op2 f ma mb)) :=
  PE.imp (pe_op ho ha hb) fun σ H Q h => tOp_of k h
theorem pm_cmp {op : CmpOp} (ho : OpR X (compareOp op) rr) (k : Val2 C f rr) (ha : PE X a (tE C v0 W ma)) (hb : PE X b (tE C v0 W mb)) (hm : behindInMarks op b = false) : PE X (.Compare a [op] [b] pos) (tE C v0 W (op2 f ma mb)) :=
  PE.imp (pe_cmpR ho ha hb hm) fun σ H Q h => tOp_of k h
theorem pm_un {op : UnaryOp} {f : D → Option EV} {rr : V → Hp → VK → Prop} (ho : UnR X (unaryOp op) rr) (k : Val1 C f rr) (ha : PE X a (tE C v0 W ma)) : PE X (.UnaryOp op a pos) (tE C v0 W (op1 f ma)) :=
  PE.imp (pe_un ho ha) fun σ H Q h => tUn_of k h
end
end Mi
end
section
set_option maxRecDepth 100000
set_option maxHeartbeats 2000000
namespace Mi
open PySem PySem.Spec L2
open PyProof.Rows hiding St

/-! ### what a def is worth -/
/-- a def's promise, where no repr is under way around it -/
structure FnG (P : Program) (w : World) (K : PySem.W.Frag) (mg : Str → Option Value) (base : Heap) (k : Nat) (f : Addr) (fd : FuncData) (ps : List Str) (sp : Sp) : Prop where
  len : ∀ vs H Q E, sp vs H Q E → vs.length = ps.length
  run : ∀ (A : Around) (outer : List Env) (s : Shared) (H : Hp) (args : Args) (us : List Value) (vs : List V) (Q : VK) (E : XK), Room k A → A.guards = some [] → Env0 P w K mg base A outer s H → BindsTo s fd args (ps.zip us) → Vals vs us → sp vs H Q E →
    codeAny (model P w) A (.call (.ref f) args) (CR (L2.CX P w) outer P w H s Q E) s
theorem FnG.mono {P : Program} {w : World} {K : PySem.W.Frag} {mg : Str → Option Value} {base : Heap} {j k : Nat} {f : Addr} {fd : FuncData} {ps : List Str} {sp : Sp} (F : FnG P w K mg base j f fd ps sp) (h : j ≤ k) : FnG P w K mg base k f fd ps sp :=
  ⟨F.len, fun A outer s H args us vs Q E hr => F.run A outer s H args us vs Q E (hr.mono h)⟩
/-- the slots handed in: no list of the def's own -/
def argsOk : List SV → Bool
  | [] => true
  | .box _ :: _ => false
  | .un :: _ => false
  | _ :: r => argsOk r
/-- F of the slots handed in: what comes back, and the slots behind (those handed in to be changed) -/
abbrev Fun1 := List SV → R EV
def spF (C : Ct) (n : Nat) (F : Fun1) : Sp := fun vs H Q E => vs.length = n ∧ ∃ A args, argsOk args = true ∧ Rp C vs A args (vs.map some) H ∧
  Po C vs (fun cl d _ H' => E cl d H') (RelE C) A args (vs.map some) H Q (F args)

theorem argsOk_get : ∀ {l : List SV} {i : Nat} {d : D}, argsOk l = true → l[i]? ≠ some (.box d)
  | [], _, _, _, e => by simp at e
  | .val _ :: r, 0, _, _, e => by simp at e
  | .pbx _ :: r, 0, _, _, e => by simp at e
  | .val _ :: r, i + 1, d, h, e => argsOk_get (l := r) (i := i) (d := d) h (by simpa using e)
  | .pbx _ :: r, i + 1, d, h, e => argsOk_get (l := r) (i := i) (d := d) h (by simpa using e)
  | .box _ :: _, _, _, h, _ => by simp [argsOk] at h
  | .un :: _, _, _, h, _ => by simp [argsOk] at h
theorem argsOk_lx {l : List SV} {σ : St} {b : Addr} (h : argsOk l = true) : ¬ Lx l σ b := fun ⟨_, _, e, _⟩ => argsOk_get h e

/-! ### a body -/
/-- what was handed in to be changed, as it is now -/
def back : List SV → List SV → Option (List SV)
  | [], _ => some []
  | .pbx _ :: l, .pbx d :: r => (back l r).map (.pbx d :: ·)
  | .pbx _ :: _, _ => none
  | a :: l, _ :: r => (back l r).map (a :: ·)
  | _ :: _, [] => none
/-- a body's end -/
def fin (args : List SV) : R Fl → R EV
  | .ok .nx r => match back args r with
    | some l => .ok (.val .none) l
    | none => .no
  | .ok (.rt (.val d)) r => match back args r with
    | some l => .ok (.val d) l
    | none => .no
  | .ok (.rt (.own d)) r => match back args r with
    | some l => .ok (.own d) l
    | none => .no
  | .ok (.rt (.bx i)) r => match r[i]? with
    | some (.box d) => match back args r with
      | some l => .ok (.own d) l
      | none => .no
    | some (.val d) => match back args r with
      | some l => .ok (.val d) l
      | none => .no
    | _ => .no
  | .ok _ _ => .no
  | .exc c fs r => match back args r with
    | some l => .exc c fs l
    | none => .no
  | .no => .no
/-- a def of the body m with n slots more than its parameters -/
def defF (n : Nat) (m : M Fl) : Fun1 := fun args => fin args (m (args ++ List.replicate n .un))

theorem back_get : ∀ {a r l : List SV} {i : Nat}, back a r = some l → (∀ d, l[i]? = some (.pbx d) → r[i]? = some (.pbx d) ∧ ∃ d', a[i]? = some (.pbx d')) ∧ (∀ d, l[i]? = some (.val d) → a[i]? = some (.val d)) ∧ (∀ d, l[i]? = some (.box d) → a[i]? = some (.box d)) ∧ l.length = a.length
  | [], r, l, i, h => by cases h; simp
  | .pbx d0 :: a, .pbx d1 :: r, l, i, h => by
    obtain ⟨l', h1, rfl⟩ := Option.map_eq_some_iff.mp h
    cases i with
    | zero => simp [(back_get (i := 0) h1).2.2.2]
    | succ i => simpa using back_get (i := i) h1
  | .pbx _ :: a, .un :: r, l, i, h => by simp [back] at h
  | .pbx _ :: a, .val _ :: r, l, i, h => by simp [back] at h
  | .pbx _ :: a, .box _ :: r, l, i, h => by simp [back] at h
  | .pbx _ :: a, [], l, i, h => by simp [back] at h
  | .un :: a, x :: r, l, i, h => by
    obtain ⟨l', h1, rfl⟩ := Option.map_eq_some_iff.mp h
    cases i with
    | zero => simp [(back_get (i := 0) h1).2.2.2]
    | succ i => simpa using back_get (i := i) h1
  | .val d :: a, x :: r, l, i, h => by
    obtain ⟨l', h1, rfl⟩ := Option.map_eq_some_iff.mp h
    cases i with
    | zero => simp [(back_get (i := 0) h1).2.2.2]
    | succ i => simpa using back_get (i := i) h1
  | .box d :: a, x :: r, l, i, h => by
    obtain ⟨l', h1, rfl⟩ := Option.map_eq_some_iff.mp h
    cases i with
    | zero => simp [(back_get (i := 0) h1).2.2.2]
    | succ i => simpa using back_get (i := i) h1
  | .un :: _, [], l, i, h => by simp [back] at h
  | .val _ :: _, [], l, i, h => by simp [back] at h
  | .box _ :: _, [], l, i, h => by simp [back] at h

section
variable {C : Ct} {A A' : Addr → Prop} {args r l : List SV} {vs : List V} {σ : St} {H H' : Hp} {n : Nat}
theorem get_some {vs : List V} {i : Nat} {v : V} (h : vs[i]? = some v) : (vs.map some)[i]? = some (some v) := by rw [List.getElem?_map, h]; rfl
theorem get_some' {vs : List V} {i : Nat} {v : V} (h : (vs.map some)[i]? = some (some v)) : vs[i]? = some v := by
  rw [List.getElem?_map] at h
  cases e : vs[i]? with
  | none => rw [e] at h; cases h
  | some a => rw [e] at h; cases h; rfl
/-- at the start of a body -/
theorem start_ok (p : Rp C vs A args (vs.map some) H) (N : List Str) (hN : N.length = vs.length + n) : Rp C vs A (args ++ List.replicate n .un) (L2.start N vs) H ∧ Stp A args (vs.map some) H A (args ++ List.replicate n .un) (L2.start N vs) H := by
  have hl : args.length = vs.length := by rw [p.len, List.length_map]
  have hs : L2.start N vs = vs.map some ++ List.replicate n none := by
    unfold L2.start
    congr 2
    omega
  have get : ∀ {i : Nat} {x : SV}, (args ++ List.replicate n .un)[i]? = some x → x ≠ .un → args[i]? = some x ∧ (L2.start N vs)[i]? = (vs.map some)[i]? := fun {i x} h hx => by
    by_cases hi : i < args.length
    · rw [List.getElem?_append_left hi] at h
      refine ⟨h, ?_⟩
      rw [hs, List.getElem?_append_left (by rw [List.length_map]; omega)]
    · rw [List.getElem?_append_right (by omega), List.getElem?_replicate] at h
      split at h
      · cases h; exact absurd rfl hx
      · cases h
  have bx : ∀ b, Bx (args ++ List.replicate n .un) (L2.start N vs) b → Bx args (vs.map some) b := fun b ⟨i, d, h, e⟩ => by
    rcases h with h | h
    · obtain ⟨h1, h2⟩ := get h (by simp)
      exact ⟨i, d, .inl h1, by rw [← h2]; exact e⟩
    · obtain ⟨h1, h2⟩ := get h (by simp)
      exact ⟨i, d, .inr h1, by rw [← h2]; exact e⟩
  have lx : ∀ b, Lx (args ++ List.replicate n .un) (L2.start N vs) b → Lx args (vs.map some) b := fun b ⟨i, d, h, e⟩ => by
    obtain ⟨h1, h2⟩ := get h (by simp)
    exact ⟨i, d, h1, by rw [← h2]; exact e⟩
  refine ⟨⟨?_, fun i d h => ?_, fun i d h => ?_, fun i d h => ?_, fun i j d e b h1 h2 h3 h4 => ?_, p.dom, p.tabs⟩, ⟨fun _ _ h _ _ => h, fun _ o h => ⟨o, h⟩, fun _ h => h, fun _ h => .inl h, fun b h => .inl (bx b h), fun b h => .inl (lx b h)⟩⟩
  · rw [hs]; simp [hl]
  · obtain ⟨h1, h2⟩ := get h (by simp)
    rw [h2]; exact p.val i d h1
  · obtain ⟨h1, h2⟩ := get h (by simp)
    rw [h2]; exact p.box i d h1
  · obtain ⟨h1, h2⟩ := get h (by simp)
    rw [h2]; exact p.pbx i d h1
  · have t : ∀ {i : Nat} {d : D}, ((args ++ List.replicate n .un)[i]? = some (.box d) ∨ (args ++ List.replicate n .un)[i]? = some (.pbx d)) → (args[i]? = some (.box d) ∨ args[i]? = some (.pbx d)) ∧ (L2.start N vs)[i]? = (vs.map some)[i]? := fun {i d} h => by
      rcases h with h | h
      · obtain ⟨h1, h2⟩ := get h (by simp)
        exact ⟨.inl h1, h2⟩
      · obtain ⟨h1, h2⟩ := get h (by simp)
        exact ⟨.inr h1, h2⟩
    obtain ⟨a1, a2⟩ := t h1
    obtain ⟨b1, b2⟩ := t h2
    exact p.inj i j d e b a1 b1 (by rw [← a2]; exact h3) (by rw [← b2]; exact h4)
/-- behind a body -/
theorem back_ok (p : Rp C vs A args (vs.map some) H) (ao : argsOk args = true) (p' : Rp C vs A' r σ H') (s : Stp A args (vs.map some) H A' r σ H') (h : back args r = some l) :
    Rp C vs A' l (vs.map some) H' ∧ Stp A args (vs.map some) H A' l (vs.map some) H' := by
  have hl : args.length = vs.length := by rw [p.len, List.length_map]
  have pb : ∀ {i : Nat} {d : D}, l[i]? = some (.pbx d) → ∃ b, σ[i]? = some (some (.ref b)) ∧ vs[i]? = some (.ref b) ∧ ¬ A' b ∧ Own C A' H' d b := fun {i d} e => p'.pbx i d ((back_get (i := i) h).1 d e).1
  have nobox : ∀ {i : Nat} {d : D}, l[i]? ≠ some (.box d) := fun {i d} e => argsOk_get ao ((back_get (i := i) h).2.2.1 d e)
  have bx : ∀ b, Bx l (vs.map some) b → Bx args (vs.map some) b := fun b ⟨i, d, e, z⟩ => by
    rcases e with e | e
    · exact absurd e nobox
    · obtain ⟨_, d', e'⟩ := (back_get (i := i) h).1 d e
      exact ⟨i, d', .inr e', z⟩
  refine ⟨⟨?_, fun i d e => ?_, fun i d e => absurd e nobox, fun i d e => ?_, fun i j d e b h1 h2 h3 h4 => ?_, p'.dom, p'.tabs⟩, ⟨s.keep, s.dom, s.up, s.an, fun b h => .inl (bx b h), fun b ⟨i, d, e, _⟩ => absurd e nobox⟩⟩
  · rw [(back_get (i := 0) h).2.2.2, p.len]
  · obtain ⟨v, e1, e2⟩ := p.val i d ((back_get (i := i) h).2.1 d e)
    exact ⟨v, e1, e2.carry (p.carry s)⟩
  · obtain ⟨b, e1, e2, e3, e4⟩ := pb e
    exact ⟨b, get_some e2, e2, e3, e4⟩
  · rcases h1 with h1 | h1
    · exact absurd h1 nobox
    · rcases h2 with h2 | h2
      · exact absurd h2 nobox
      · obtain ⟨_, d', e'⟩ := (back_get (i := i) h).1 d h1
        obtain ⟨_, d2, e2⟩ := (back_get (i := j) h).1 e h2
        exact p.inj i j d' d2 b (.inr e') (.inr e2) h3 h4
end
/-- the reading of a body gives the promise -/
theorem body_ok {C : Ct} {A : Addr → Prop} {args : List SV} {vs : List V} {H : Hp} {n : Nat} {N : List Str} {m : M Fl} {Q : VK} {E : XK} (p : Rp C vs A args (vs.map some) H) (ao : argsOk args = true) (hN : N.length = vs.length + n)
    (h : Po C vs (fun cl d _ H' => E cl d H') (RelE C) A args (vs.map some) H Q (defF n m args)) : tS C vs (fun cl d _ H' => E cl d H') m { nx := fun _ H' => Q .non H', rt := Q } (L2.start N vs) H := by
  obtain ⟨p1, s1⟩ := start_ok (n := n) p N hN
  refine ⟨A, _, p1, ?_⟩
  unfold defF at h
  cases e : m (args ++ List.replicate n .un) with
  | no => rw [e] at h; exact h
  | exc c fs r =>
    rw [e] at h
    unfold fin at h
    dsimp only at h
    intro A' σ' H' cl d p' s' x
    cases eb : back args r with
    | none => rw [eb] at h; exact h.elim
    | some l =>
      rw [eb] at h
      obtain ⟨p2, s2⟩ := back_ok p ao p' (s1.trans s') eb
      exact h A' H' cl d p2 s2 x
  | ok fl r =>
    rw [e] at h
    unfold fin at h
    cases fl with
    | bk => exact h.elim
    | ct => exact h.elim
    | nx =>
      dsimp only at h
      intro A' σ' H' p' s'
      cases eb : back args r with
      | none => rw [eb] at h; exact h.elim
      | some l =>
        rw [eb] at h
        obtain ⟨p2, s2⟩ := back_ok p ao p' (s1.trans s') eb
        exact h A' H' .non p2 s2 rfl
    | rt ev =>
      intro A' σ' H' v p' s' x
      cases ev with
      | val d =>
        dsimp only at h
        cases eb : back args r with
        | none => rw [eb] at h; exact h.elim
        | some l =>
          rw [eb] at h
          obtain ⟨p2, s2⟩ := back_ok p ao p' (s1.trans s') eb
          exact h A' H' v p2 s2 x
      | own d =>
        dsimp only at h
        cases eb : back args r with
        | none => rw [eb] at h; exact h.elim
        | some l =>
          rw [eb] at h
          obtain ⟨p2, s2⟩ := back_ok p ao p' (s1.trans s') eb
          obtain ⟨a, x1, x2, x3, x4, x5⟩ := x
          refine h A' H' v p2 s2 ⟨a, x1, s1.dom_none x2, x3, fun z => ?_, x5⟩
          obtain ⟨i, d', e1, e2⟩ := z
          rcases e1 with e1 | e1
          · exact argsOk_get ao ((back_get (i := i) eb).2.2.1 d' e1)
          · obtain ⟨e3, d2, e4⟩ := (back_get (i := i) eb).1 d' e1
            obtain ⟨b, y1, y2, _⟩ := p'.pbx i d' e3
            have e2' := get_some' e2
            rw [y2] at e2'
            cases e2'
            exact x4 ⟨i, d', .inr e3, y1⟩
      | bx i =>
        dsimp only at h
        cases ei : r[i]? with
        | none => rw [ei] at h; exact h.elim
        | some sv =>
          rw [ei] at h
          cases sv with
          | un => exact h.elim
          | pbx _ => exact h.elim
          | val d =>
            dsimp only at h
            cases eb : back args r with
            | none => rw [eb] at h; exact h.elim
            | some l =>
              rw [eb] at h
              obtain ⟨p2, s2⟩ := back_ok p ao p' (s1.trans s') eb
              obtain ⟨x1, _⟩ := x
              obtain ⟨v', y1, y2⟩ := p'.val i d ei
              rw [x1] at y1; cases y1
              exact h A' H' v p2 s2 y2
          | box d =>
            dsimp only at h
            cases eb : back args r with
            | none => rw [eb] at h; exact h.elim
            | some l =>
              rw [eb] at h
              obtain ⟨p2, s2⟩ := back_ok p ao p' (s1.trans s') eb
              obtain ⟨x1, _⟩ := x
              obtain ⟨b, y1, y2, y3⟩ := p'.box i d ei
              rw [x1] at y1; cases y1
              refine h A' H' _ p2 s2 ⟨b, rfl, ?_, y2, fun z => ?_, y3⟩
              · rcases (s1.trans s').ln b ⟨i, d, ei, x1⟩ with z | z
                · exact absurd z (argsOk_lx ao)
                · exact z
              · obtain ⟨j, d', e1, e2⟩ := z
                rcases e1 with e1 | e1
                · exact argsOk_get ao ((back_get (i := j) eb).2.2.1 d' e1)
                · obtain ⟨e3, d2, e4⟩ := (back_get (i := j) eb).1 d' e1
                  obtain ⟨b', w1, w2, _⟩ := p'.pbx j d' e3
                  have e2' := get_some' e2
                  rw [w2] at e2'
                  cases e2'
                  have := p'.inj i j d d' b (.inl ei) (.inr e3) x1 w1
                  subst this
                  rw [ei] at e3; cases e3
/-- THE RULE for a def: its body's derivation -/
theorem FnG.of {P : Program} {w : World} {K : PySem.W.Frag} {mg : Str → Option Value} {base : Heap} {x qual : Str} {st : Stmt} {f : Addr} {fd : FuncData} {N ps : List Str} {k n : Nat} {T : List (Addr × Str)} {m : M Fl} (F : L2.Fun K x qual st f fd) (S : FnScope N ps (defScope st))
    (hn : N.length = ps.length + n)
    (hbody : ∀ (cdv : Value) (A : Around) (outer : List Env) (s : Shared) (H : Hp) (vs : List V) (E : XK), Room k (A.deeper (envOfC qual (defScope st) s.heap.objs.size f cdv)) → A.guards = some [] → PySem.W.codeIn K cdv qual = true → (∃ oc od kV doc pm an ct osl, K.lookup f = some ⟨oc, od, .func (PySem.W.fnOf x qual (defArgs st) (defBody st) (defScope st) .none kV doc pm an cdv ct), osl⟩) →
      PSs (cxOf (L2.CX P w) P w K mg base N qual (defScope st) f cdv A outer s H E) (defBody st) (tS ⟨K, mg, T⟩ vs (fun cl d _ H' => E cl d H') m)) :
    FnG P w K mg base (k + 1) f fd ps (spF ⟨K, mg, T⟩ ps.length (defF n m)) := by
  obtain ⟨oc, od, kV, doc, pm, an, cdv, ct, osl, rfl, lk, hcd⟩ := F.ex
  refine ⟨fun vs H Q E h => h.1, fun A outer s H args us vs Q E hr hg e0 hb rv h => ?_⟩
  obtain ⟨hl, A0, as, ao, p, q⟩ := h
  refine LamX.run_ofS lk hcd S hr e0 hb rv hl fun hr' => ⟨_, hbody cdv A outer s H vs E hr' hg hcd ⟨oc, od, kV, doc, pm, an, ct, osl, lk⟩, body_ok p ao (by rw [hn, hl]) q⟩
end Mi
end
section
set_option maxRecDepth 100000
set_option maxHeartbeats 2000000
namespace Mi
open PySem PySem.Spec L2
open PyProof.Rows hiding St

/-! ### a def is called -/
section
variable {X : Cx} {k : Nat} {f : Addr} {fd : FuncData} {ps : List Str} {sp : Sp} {E : St → XK} {x : Str} {p pos : Pos} {e : Expr} {es : List Expr} {t : TA} {ds : List Value} {dvs : List V}
theorem run_G {pins : List (Addr × Obj)} {σ : St} {H : Hp} {s : Shared} {Q : VK} {us : List Value} {vs : List V} (F : FnG X.prog X.w X.K X.mg X.base k f fd ps sp) (hr : Room k X.A) (hgd : X.A.guards = some []) (hb : Binds X.K fd ps ds) (hd : Vals dvs ds) (hx : PassesAt (L2.CX X.prog X.w) X σ (E σ))
    (I : Inv X pins σ H s) (r : Vals vs us) (h : sp (vs ++ dvs) H Q (E σ)) : wpAny (model X.prog X.w) X.A (call (.ref f) us) (EP X pins σ Q) X.xe s := by
  have r2 := r.append hd
  have hl : (us ++ ds).length = ps.length := r2.length.symm.trans (F.len _ _ _ _ h)
  refine wpAny_call (codeAny_mono (F.run X.A X.stack s H ⟨us, []⟩ _ _ Q (E σ) hr hgd I.env0 (hb s us I.kIn hl) r2 h) fun res s' hq => ?_)
  cases res with
  | error er => exact hx pins H s er s' I hq
  | ok fl =>
    cases fl with
    | ret u => exact I.after hq
    | next => exact hq.elim
    | brk => exact hq.elim
    | cont => exact hq.elim
theorem pe_callG (F : FnG X.prog X.w X.K X.mg X.base k f fd ps sp) (hr : Room k X.A) (hgd : X.A.guards = some []) (hg : Gl X x) (hm : X.mg x = some (.ref f)) (hk : PySem.W.keepIn X.K (.ref f) = true) (hb : Binds X.K fd ps ds) (hd : Vals dvs ds) (hx : ∀ σ, PassesAt (L2.CX X.prog X.w) X σ (E σ))
    (ha : PA X (e :: es) t) (hdb : (x == ("__debug__" : Str)) = false := by decide) (he : starEach (e :: es) X.env = (false, eval e X.env) :: starEach es X.env := by rfl) (hpl : (backTo pos (starEach es X.env)).any (·.1) = false := by rfl) :
    PE X (.Call (.Name x p) (e :: es) [] pos) (fun σ H Q => t σ H fun vs H1 => sp (vs ++ dvs) H1 Q (E σ)) := by
  refine ⟨fun pins s σ H Q I h => wpAny_Call_Name_kw (ld_glob I hg hm ?_ hdb)⟩
  exact PySem.W.callWith_K (h₀ := X.base) I.ok.mod.kin hk (thn (ha.run pos pins s σ H _ I h) fun us s1 ⟨vs, H1, I1, r, q⟩ => ⟨I1.kIn, run_G F hr hgd hb hd (hx σ) I1 r q⟩) he hpl
theorem pe_call0G (F : FnG X.prog X.w X.K X.mg X.base k f fd ps sp) (hr : Room k X.A) (hgd : X.A.guards = some []) (hg : Gl X x) (hm : X.mg x = some (.ref f)) (hk : PySem.W.keepIn X.K (.ref f) = true) (hb : Binds X.K fd ps ds) (hd : Vals dvs ds) (hx : ∀ σ, PassesAt (L2.CX X.prog X.w) X σ (E σ))
    (hdb : (x == ("__debug__" : Str)) = false := by decide) :
    PE X (.Call (.Name x p) [] [] pos) (fun σ H Q => sp dvs H Q (E σ)) := by
  refine ⟨fun pins s σ H Q I h => wpAny_Call_Name_kw (ld_glob I hg hm ?_ hdb)⟩
  exact PySem.W.callWith_K0 I.kIn hk (run_G F hr hgd hb hd (hx σ) I (vs := []) (us := []) .nil h)
end

def noBx : R EV → R EV
  | .ok (.bx _) _ => .no
  | x => x
/-- f(..), values alone -/
def callV (F : Fun1) (evs : List EV) : M EV := fun r => match toVs evs r with
  | some (ds, r1) => match F (ds.map .val) with
    | .ok (.val d) _ => .ok (.val d) r1
    | .ok (.own d) _ => .ok (.own d) r1
    | .ok (.bx _) _ => .no
    | .exc c fs _ => .exc c fs r1
    | .no => .no
  | none => .no
def mCall (F : Fun1) (ms : M (List EV)) : M EV := bnd ms (callV F)
/-- f(..), the argument at j to be changed -/
def callR (F : Fun1) (j : Nat) (evs : List EV) : M EV := fun r => match evs[j]? with
  | some (.bx i) => match toVs (evs.set j (.val .none)) r with
    | some (ds, r1) => match r1[i]? with
      | some (.box d) => match F ((ds.map .val).set j (.pbx d)) with
        | .ok (.val y) l => (match l[j]? with
          | some (.pbx d') => .ok (.val y) (r1.set i (.box d'))
          | _ => .no)
        | .ok (.own y) l => (match l[j]? with
          | some (.pbx d') => .ok (.own y) (r1.set i (.box d'))
          | _ => .no)
        | .ok (.bx _) _ => .no
        | .exc c fs l => (match l[j]? with
          | some (.pbx d') => .exc c fs (r1.set i (.box d'))
          | _ => .no)
        | .no => .no
      | some (.pbx d) => match F ((ds.map .val).set j (.pbx d)) with
        | .ok (.val y) l => (match l[j]? with
          | some (.pbx d') => .ok (.val y) (r1.set i (.pbx d'))
          | _ => .no)
        | .ok (.own y) l => (match l[j]? with
          | some (.pbx d') => .ok (.own y) (r1.set i (.pbx d'))
          | _ => .no)
        | .ok (.bx _) _ => .no
        | .exc c fs l => (match l[j]? with
          | some (.pbx d') => .exc c fs (r1.set i (.pbx d'))
          | _ => .no)
        | .no => .no
      | _ => .no
    | none => .no
  | _ => .no
def mCallR (F : Fun1) (j : Nat) (ms : M (List EV)) : M EV := bnd ms (callR F j)

section
variable {C : Ct} {v0 : List V} {W : WX} {A A0 A' : Addr → Prop} {r r0 r' l : List SV} {σ : St} {H H0 H' : Hp} {ds : List D} {vs : List V}
theorem val_get {ds : List D} {i : Nat} {x : SV} (h : (ds.map SV.val)[i]? = some x) : ∃ d, ds[i]? = some d ∧ x = .val d := by
  rw [List.getElem?_map] at h
  cases e : ds[i]? with
  | none => rw [e] at h; cases h
  | some d => rw [e] at h; cases h; exact ⟨d, rfl, rfl⟩
theorem args_val (p : Rp C v0 A r σ H) (t : RelL C A H ds vs) : Rp C vs A (ds.map .val) (vs.map some) H where
  len := by rw [List.length_map, List.length_map, t.length]
  val := fun i d h => by
    obtain ⟨d', h1, e⟩ := val_get h
    cases e
    obtain ⟨v, h2, h3⟩ := t.get h1
    exact ⟨v, get_some h2, h3⟩
  box := fun i d h => by obtain ⟨d', _, e⟩ := val_get h; cases e
  pbx := fun i d h => by obtain ⟨d', _, e⟩ := val_get h; cases e
  inj := fun i j d e b h1 => by
    rcases h1 with h1 | h1
    · obtain ⟨d', _, e⟩ := val_get h1; cases e
    · obtain ⟨d', _, e⟩ := val_get h1; cases e
  dom := p.dom
  tabs := p.tabs
theorem argsOk_val : ∀ (ds : List D), argsOk (ds.map .val) = true
  | [] => rfl
  | _ :: ds => argsOk_val ds
theorem noBx_val {b : Addr} : ¬ Bx (ds.map .val) (vs.map some) b := fun ⟨i, d, h, _⟩ => by
  rcases h with h | h
  · obtain ⟨d', _, e⟩ := val_get h; cases e
  · obtain ⟨d', _, e⟩ := val_get h; cases e
/-- behind a call that changes nothing -/
theorem call_back (p : Rp C v0 A r σ H) (keep : ∀ b o, H b = some o → (∀ ps, o ≠ .tbl ps) → H' b = some o) (dom : ∀ b o, H b = some o → ∃ o', H' b = some o') (up : ∀ b, A b → A' b) (an : ∀ b, A' b → A b ∨ H b = none)
    (d' : ∀ b, A' b → ∃ o, H' b = some o ∧ ∀ ps, o ≠ .tbl ps) (tb : LamX.Tabs C.T H') : Rp C v0 A' r σ H' ∧ Stp A r σ H A' r σ H' := by
  have s : Stp A r σ H A' r σ H' := ⟨fun b o h _ t => keep b o h t, dom, up, fun b h => (an b h).imp_right .inl, fun _ h => .inl h, fun _ h => .inl h⟩
  have nA : ∀ {b : Addr} {d : D}, ¬ A b → Own C A H d b → ¬ A' b := fun {b d} n o z => by
    obtain ⟨u, e, _⟩ := o.obj
    rcases an b z with z | z
    · exact n z
    · rw [e] at z; cases z
  refine ⟨⟨p.len, fun i d h => ?_, fun i d h => ?_, fun i d h => ?_, p.inj, d', tb⟩, s⟩
  · obtain ⟨v, a, b⟩ := p.val i d h
    exact ⟨v, a, b.carry (p.carry s)⟩
  · obtain ⟨b, a, n, o⟩ := p.box i d h
    exact ⟨b, a, nA n o, o.carry (p.carry s) fun u q t => keep b u q t⟩
  · obtain ⟨b, a, a2, n, o⟩ := p.pbx i d h
    exact ⟨b, a, a2, nA n o, o.carry (p.carry s) fun u q t => keep b u q t⟩
/-- what a callee gave, told of the caller -/
theorem RelE.ret {r1 r2 l' : List SV} {σ' : St} (p : Rp C v0 A r1 σ H) (s : Stp A0 r0 σ H0 A r1 σ H) (bx : ∀ b, Bx r2 σ b → Bx r1 σ b) {ev : EV} {v : V} (h : RelE C A' H l' σ' H' ev v) (nb : ∀ i, ev ≠ .bx i) : RelE C A' H0 r2 σ H' ev v := by
  cases ev with
  | val d => exact h
  | bx i => exact absurd rfl (nb i)
  | own d =>
    obtain ⟨a, x1, x2, x3, x4, x5⟩ := h
    refine ⟨a, x1, s.dom_none x2, x3, fun z => ?_, x5⟩
    obtain ⟨o, e, _⟩ := p.bxd (bx a z)
    rw [x2] at e; cases e
theorem callV_ok {F : Fun1} {n : Nat} {evs : List EV} {Q : VK} (p : Rp C v0 A r σ H) (s : Stp A0 r0 σ H0 A r σ H) (h : Paired (RelE C A H0 r σ H) evs vs) (hn : vs.length = n) (q : Po C v0 W (RelE C) A0 r0 σ H0 Q (callV F evs r)) :
    spF C n F vs H Q (WE W σ) := by
  unfold callV at q
  cases e : toVs evs r with
  | none => rw [e] at q; exact q.elim
  | some z =>
    obtain ⟨ds, r1⟩ := z
    rw [e] at q
    dsimp only at q
    obtain ⟨A1, p1, s1, t1, c1, b1⟩ := toVs_ok p s (Paired.mapP h fun _ _ z => z.q) e
    refine ⟨hn, A1, ds.map .val, argsOk_val ds, args_val p1 t1, ?_⟩
    have bk : ∀ {A' : Addr → Prop} {l : List SV} {H' : Hp}, Rp C vs A' l (vs.map some) H' → Stp A1 (ds.map .val) (vs.map some) H A' l (vs.map some) H' → Rp C v0 A' r1 σ H' ∧ Stp A1 r1 σ H A' r1 σ H' := fun {A' l H'} p' s' =>
      call_back p1 (fun b o h t => s'.keep b o h noBx_val t) s'.dom s'.up (fun b h => (s'.an b h).imp_right fun z => z.elim id fun z => (noBx_val z.bx).elim) p'.dom p'.tabs
    cases ef : F (ds.map .val) with
    | no => rw [ef] at q; exact q.elim
    | exc c fs l =>
      rw [ef] at q
      intro A' H' cl d p' s' x
      obtain ⟨p2, s2⟩ := bk p' s'
      exact q A' H' cl d p2 (s1.trans s2) x
    | ok ev l =>
      rw [ef] at q
      intro A' H' v p' s' x
      obtain ⟨p2, s2⟩ := bk p' s'
      cases ev with
      | bx i => exact q.elim
      | val d => exact q A' H' v p2 (s1.trans s2) x
      | own d => exact q A' H' v p2 (s1.trans s2) (RelE.ret p1 s1 (fun _ z => z) x fun _ z => nomatch z)
end
section
variable {X : Cx} {C : Ct} {v0 : List V} {W : WX} {k n : Nat} {f : Addr} {fd : FuncData} {ps : List Str} {F : Fun1} {x : Str} {p pos : Pos} {e : Expr} {es : List Expr} {ms : M (List EV)}
/-- f(e, ..) -/
theorem pm_call (G : FnG X.prog X.w X.K X.mg X.base k f fd ps (spF C n F)) (hr : Room k X.A) (hgd : X.A.guards = some []) (hg : Gl X x) (hm : X.mg x = some (.ref f)) (hk : PySem.W.keepIn X.K (.ref f) = true) (hb : Binds X.K fd ps []) (tk : Takes X W)
    (ha : PA X (e :: es) (tEs C v0 W ms)) (hl : ∀ r evs r', ms r = .ok evs r' → evs.length = n) (hdb : (x == ("__debug__" : Str)) = false := by decide) (he : starEach (e :: es) X.env = (false, eval e X.env) :: starEach es X.env := by rfl) (hpl : (backTo pos (starEach es X.env)).any (·.1) = false := by rfl) :
    PE X (.Call (.Name x p) (e :: es) [] pos) (tE C v0 W (mCall F ms)) := by
  refine PE.imp (pe_callG (dvs := []) (E := WE W) G hr hgd hg hm hk hb .nil (fun σ => passAt tk σ) ha hdb he hpl) fun σ H Q h => ?_
  obtain ⟨A, r, p, q⟩ := h
  refine ⟨A, r, p, ?_⟩
  cases em : ms r with
  | no => have q' := Po.bnd (Rl := RelEs C) .refl q; rw [em] at q'; exact q'
  | exc c fs r' => have q' := Po.bnd (Rl := RelEs C) .refl q; rw [em] at q'; exact q'
  | ok evs r1 =>
    have q' := q
    unfold mCall bnd at q'
    rw [em] at q'
    intro A1 H1 vs p1 s1 e1
    rw [List.append_nil]
    refine callV_ok p1 s1 e1.1 ?_ q'
    have := Paired.length e1.1
    rw [← this]
    exact hl r evs r1 em
end
end Mi
end
section
set_option maxRecDepth 100000
set_option maxHeartbeats 2000000
namespace Mi
open PySem PySem.Spec L2
open PyProof.Rows hiding St
def LenM (ms : M (List EV)) (n : Nat) : Prop := ∀ r evs r', ms r = .ok evs r' → evs.length = n
theorem lenN : LenM mNil 0 := fun r evs r' h => by cases h; rfl
theorem lenC {m : M EV} {ms : M (List EV)} {n : Nat} (h : LenM ms n) : LenM (mCons m ms) (n + 1) := fun r evs r' e => by
  unfold mCons bnd at e
  cases em : m r with
  | no => rw [em] at e; cases e
  | exc c fs r1 => rw [em] at e; cases e
  | ok ev r1 =>
    rw [em] at e
    dsimp only at e
    cases em2 : ms r1 with
    | no => rw [em2] at e; cases e
    | exc c fs r2 => rw [em2] at e; cases e
    | ok evs' r2 =>
      rw [em2] at e
      cases e
      rw [List.length_cons, h r1 _ _ em2]
section
variable {C : Ct} {v0 : List V} {W : WX} {A A0 A' : Addr → Prop} {r r0 r' l : List SV} {σ : St} {H H0 H' : Hp} {ds : List D} {vs : List V}
theorem paired_get {α β : Type} {F : α → β → Prop} : ∀ {xs : List α} {ys : List β} {i : Nat} {x : α}, Paired F xs ys → xs[i]? = some x → ∃ y, ys[i]? = some y ∧ F x y
  | _, _, 0, _, .cons h _, e => by simp at e; subst e; exact ⟨_, rfl, h⟩
  | _, _, i + 1, x, .cons _ t, e => by
    obtain ⟨y, a, b⟩ := paired_get (i := i) (x := x) t (by simpa using e)
    exact ⟨y, by simpa using a, b⟩
  | _, _, i, _, .nil, e => by simp at e
theorem paired_set {α β : Type} {F G : α → β → Prop} (hg : ∀ a b, F a b → G a b) : ∀ {xs : List α} {ys : List β} {i : Nat} {x : α} {y : β}, Paired F xs ys → G x y → Paired G (xs.set i x) (ys.set i y)
  | _, _, _, _, _, .nil, _ => by simpa using Paired.nil
  | _, _, 0, _, _, .cons _ t, k => .cons k (Paired.mapP t hg)
  | _, _, i + 1, _, _, .cons h t, k => .cons (hg _ _ h) (paired_set hg t k)
theorem RelL.set {C : Ct} {A : Addr → Prop} {H : Hp} : ∀ {ds : List D} {vs : List V} {i : Nat} {d : D} {v : V}, RelL C A H ds vs → Rel C A H d v → RelL C A H (ds.set i d) (vs.set i v)
  | [], _, _, _, _, h, _ => by subst h; rfl
  | _ :: _, _, 0, _, _, ⟨v, r, e, h, t⟩, k => by subst e; exact ⟨_, _, rfl, k, t⟩
  | _ :: _, _, i + 1, _, _, ⟨v, r, e, h, t⟩, k => by subst e; exact ⟨v, _, rfl, h, RelL.set t k⟩
/-- the slots of a callee that may change the thing at b -/
theorem args_ref {j : Nat} {d : D} {b : Addr} (p : Rp C v0 A r σ H) (t : RelL C A H ds (vs.set j .non)) (hj : vs[j]? = some (.ref b)) (nA : ¬ A b) (o : Own C A H d b) :
    Rp C vs A ((ds.map .val).set j (.pbx d)) (vs.map some) H := by
  have hl : ds.length = vs.length := by rw [← t.length, List.length_set]
  have get : ∀ {i : Nat} {x : SV}, ((ds.map SV.val).set j (.pbx d))[i]? = some x → (i = j ∧ x = .pbx d) ∨ (i ≠ j ∧ ∃ d' v, x = .val d' ∧ vs[i]? = some v ∧ Rel C A H d' v) := fun {i x} h => by
    rcases getElem?_set_cases h with ⟨h1, h2, _⟩ | ⟨h1, h2⟩
    · exact .inl ⟨h1.symm, h2⟩
    · obtain ⟨d', h3, e⟩ := val_get h2
      obtain ⟨v, h4, h5⟩ := t.get h3
      rw [List.getElem?_set_ne h1] at h4
      exact .inr ⟨Ne.symm h1, d', v, e, h4, h5⟩
  refine ⟨by simp [hl], fun i d' h => ?_, fun i d' h => ?_, fun i d' h => ?_, fun i i' d1 d2 b' h1 h2 h3 h4 => ?_, p.dom, p.tabs⟩
  · rcases get h with ⟨_, e⟩ | ⟨_, d2, v, e, h4, h5⟩
    · cases e
    · cases e; exact ⟨v, get_some h4, h5⟩
  · rcases get h with ⟨_, e⟩ | ⟨_, d2, v, e, _⟩ <;> cases e
  · rcases get h with ⟨h1, e⟩ | ⟨_, d2, v, e, _⟩
    · cases e; subst h1; exact ⟨b, get_some hj, hj, nA, o⟩
    · cases e
  · have k : ∀ {i : Nat} {d' : D}, (((ds.map SV.val).set j (.pbx d))[i]? = some (.box d') ∨ ((ds.map SV.val).set j (.pbx d))[i]? = some (.pbx d')) → i = j := fun {i d'} h => by
      rcases h with h | h
      · rcases get h with ⟨h1, e⟩ | ⟨_, d2, v, e, _⟩ <;> cases e
      · rcases get h with ⟨h1, e⟩ | ⟨_, d2, v, e, _⟩
        · exact h1
        · cases e
    rw [k h1, k h2]
theorem argsOk_set : ∀ {l : List SV} {j : Nat} {d : D}, argsOk l = true → argsOk (l.set j (.pbx d)) = true
  | [], _, _, _ => by simp [argsOk]
  | .val _ :: r, 0, _, h => by simpa [argsOk] using h
  | .pbx _ :: r, 0, _, h => by simpa [argsOk] using h
  | .val _ :: r, j + 1, d, h => by simpa [argsOk] using argsOk_set (j := j) (d := d) (show argsOk r = true from h)
  | .pbx _ :: r, j + 1, d, h => by simpa [argsOk] using argsOk_set (j := j) (d := d) (show argsOk r = true from h)
  | .box _ :: _, _, _, h => by simp [argsOk] at h
  | .un :: _, _, _, h => by simp [argsOk] at h
theorem bx_ref {j : Nat} {d : D} {b b' : Addr} (hj : vs[j]? = some (.ref b)) (h : Bx ((ds.map .val).set j (.pbx d)) (vs.map some) b') : b' = b := by
  obtain ⟨i, d', e, z⟩ := h
  have k : i = j := by
    rcases e with e | e
    · rcases getElem?_set_cases e with ⟨_, w, _⟩ | ⟨_, w⟩
      · cases w
      · obtain ⟨_, _, w⟩ := val_get w; cases w
    · rcases getElem?_set_cases e with ⟨w, _, _⟩ | ⟨_, w⟩
      · exact w.symm
      · obtain ⟨_, _, w⟩ := val_get w; cases w
  subst k
  have := get_some' z
  rw [hj] at this
  cases this
  rfl
/-- the slot i holds another list behind; kind: own, or handed in -/
theorem ref_back {i : Nat} {b : Addr} {d d' : D} {r1 : List SV} {x : SV} (p : Rp C v0 A r1 σ H) (hi : r1[i]? = some (.box d) ∧ x = .box d' ∨ r1[i]? = some (.pbx d) ∧ x = .pbx d') (hb : σ[i]? = some (some (.ref b)))
    (keep : ∀ c o, H c = some o → c ≠ b → (∀ ps, o ≠ .tbl ps) → H' c = some o) (dom : ∀ b o, H b = some o → ∃ o', H' b = some o') (up : ∀ b, A b → A' b) (an : ∀ b, A' b → A b ∨ H b = none)
    (dd : ∀ b, A' b → ∃ o, H' b = some o ∧ ∀ ps, o ≠ .tbl ps) (tb : LamX.Tabs C.T H') (nA : ¬ A' b) (o : Own C A' H' d' b) : Rp C v0 A' (r1.set i x) σ H' ∧ Stp A r1 σ H A' (r1.set i x) σ H' ∧ ∀ c, Bx (r1.set i x) σ c → Bx r1 σ c := by
  have bxi : Bx r1 σ b := ⟨i, d, by rcases hi with ⟨h, _⟩ | ⟨h, _⟩; exact .inl h; exact .inr h, hb⟩
  have same : ∀ {j : Nat} {e : D}, ((r1.set i x)[j]? = some (.box e) ∨ (r1.set i x)[j]? = some (.pbx e)) → ∃ e', r1[j]? = some (.box e') ∨ r1[j]? = some (.pbx e') := fun {j e} h => by
    rcases h with h | h
    · rcases getElem?_set_cases h with ⟨w, w2, _⟩ | ⟨_, w⟩
      · subst w
        rcases hi with ⟨h1, _⟩ | ⟨h1, _⟩
        · exact ⟨d, .inl h1⟩
        · exact ⟨d, .inr h1⟩
      · exact ⟨e, .inl w⟩
    · rcases getElem?_set_cases h with ⟨w, w2, _⟩ | ⟨_, w⟩
      · subst w
        rcases hi with ⟨h1, _⟩ | ⟨h1, _⟩
        · exact ⟨d, .inl h1⟩
        · exact ⟨d, .inr h1⟩
      · exact ⟨e, .inr w⟩
  have bxs : ∀ c, Bx (r1.set i x) σ c → Bx r1 σ c := fun c ⟨j, e, h, z⟩ => by
    obtain ⟨e', h'⟩ := same h
    exact ⟨j, e', h', z⟩
  have lxs : ∀ c, Lx (r1.set i x) σ c → Lx r1 σ c := fun c ⟨j, e, h, z⟩ => by
    rcases getElem?_set_cases h with ⟨w, w2, _⟩ | ⟨_, w⟩
    · subst w
      rcases hi with ⟨h1, h2⟩ | ⟨h1, h2⟩
      · exact ⟨i, d, h1, z⟩
      · rw [h2] at w2; cases w2
    · exact ⟨j, e, w, z⟩
  have s : Stp A r1 σ H A' (r1.set i x) σ H' := ⟨fun c o h n t => keep c o h (fun w => n (by rw [w]; exact bxi)) t, dom, up, fun b h => (an b h).imp_right .inl, fun c h => .inl (bxs c h), fun c h => .inl (lxs c h)⟩
  have c := p.carry s
  have nb : ∀ {a : Addr} {e : D}, ¬ A a → Own C A H e a → ¬ A' a := fun {a e} n o z => by
    obtain ⟨u, e, _⟩ := o.obj
    rcases an a z with z | z
    · exact n z
    · rw [e] at z; cases z
  have other : ∀ {j : Nat} {e : D} {a : Addr}, j ≠ i → (r1[j]? = some (.box e) ∨ r1[j]? = some (.pbx e)) → σ[j]? = some (some (.ref a)) → a ≠ b := fun {j e a} ne h z w => by
    subst w
    refine ne (p.inj j i e d a h ?_ z hb)
    rcases hi with ⟨h1, _⟩ | ⟨h1, _⟩
    · exact .inl h1
    · exact .inr h1
  refine ⟨⟨by rw [List.length_set]; exact p.len, fun j e h => ?_, fun j e h => ?_, fun j e h => ?_, fun j k e f a h1 h2 h3 h4 => ?_, dd, tb⟩, s, bxs⟩
  · rcases getElem?_set_cases h with ⟨w, w2, _⟩ | ⟨_, w⟩
    · rcases hi with ⟨_, h2⟩ | ⟨_, h2⟩ <;> (rw [h2] at w2; cases w2)
    · obtain ⟨v, x1, x2⟩ := p.val j e w
      exact ⟨v, x1, x2.carry c⟩
  · rcases getElem?_set_cases h with ⟨w, w2, _⟩ | ⟨ne, w⟩
    · subst w
      rcases hi with ⟨_, h2⟩ | ⟨_, h2⟩
      · rw [h2] at w2; cases w2
        exact ⟨b, hb, nA, o⟩
      · rw [h2] at w2; cases w2
    · obtain ⟨a, x1, x2, x3⟩ := p.box j e w
      exact ⟨a, x1, nb x2 x3, x3.carry c fun u q t => keep a u q (other (Ne.symm ne) (.inl w) x1) t⟩
  · rcases getElem?_set_cases h with ⟨w, w2, _⟩ | ⟨ne, w⟩
    · subst w
      rcases hi with ⟨_, h2⟩ | ⟨h1, h2⟩
      · rw [h2] at w2; cases w2
      · rw [h2] at w2; cases w2
        obtain ⟨b', x1, x2, _⟩ := p.pbx i d h1
        rw [hb] at x1; cases x1
        exact ⟨b, hb, x2, nA, o⟩
    · obtain ⟨a, x1, x2, x3, x4⟩ := p.pbx j e w
      exact ⟨a, x1, x2, nb x3 x4, x4.carry c fun u q t => keep a u q (other (Ne.symm ne) (.inr w) x1) t⟩
  · obtain ⟨e', h1'⟩ := same h1
    obtain ⟨f', h2'⟩ := same h2
    exact p.inj j k e' f' a h1' h2' h3 h4
theorem callR_ok {F : Fun1} {n j : Nat} {evs : List EV} {Q : VK} (p : Rp C v0 A r σ H) (s : Stp A0 r0 σ H0 A r σ H) (h : Paired (RelE C A H0 r σ H) evs vs) (hn : vs.length = n) (q : Po C v0 W (RelE C) A0 r0 σ H0 Q (callR F j evs r)) :
    spF C n F vs H Q (WE W σ) := by
  unfold callR at q
  cases ej : evs[j]? with
  | none => rw [ej] at q; exact q.elim
  | some ev =>
    rw [ej] at q
    cases ev with
    | val d => exact q.elim
    | own d => exact q.elim
    | bx i =>
      dsimp only at q
      cases e : toVs (evs.set j (.val .none)) r with
      | none => rw [e] at q; exact q.elim
      | some z =>
        obtain ⟨ds, r1⟩ := z
        rw [e] at q
        dsimp only at q
        obtain ⟨v, hv, hs, b, rfl⟩ := paired_get h ej
        obtain ⟨A1, p1, s1, t1, c1, b1⟩ := toVs_ok (vs := vs.set j .non) p s (paired_set (x := .val .none) (fun _ _ z => RelE.q z) h (show RelQ C A H0 r σ H (.val .none) .non from rfl)) e
        -- the slot, either kind
        have main : ∀ (d : D) (mk : D → SV), (mk = .box ∨ mk = .pbx) → r1[i]? = some (mk d) → Po C v0 W (RelE C) A0 r0 σ H0 Q (match F ((ds.map .val).set j (.pbx d)) with
            | .ok (.val y) l => (match l[j]? with
              | some (.pbx d') => .ok (.val y) (r1.set i (mk d'))
              | _ => .no)
            | .ok (.own y) l => (match l[j]? with
              | some (.pbx d') => .ok (.own y) (r1.set i (mk d'))
              | _ => .no)
            | .ok (.bx _) _ => .no
            | .exc c fs l => (match l[j]? with
              | some (.pbx d') => .exc c fs (r1.set i (mk d'))
              | _ => .no)
            | .no => .no) → spF C n F vs H Q (WE W σ) := fun d mk hmk hi q => by
          have ob : ¬ A1 b ∧ Own C A1 H d b := by
            rcases hmk with hmk | hmk
            · rw [hmk] at hi
              obtain ⟨b', x1, x2, x3⟩ := p1.box i d hi
              rw [hs] at x1; cases x1
              exact ⟨x2, x3⟩
            · rw [hmk] at hi
              obtain ⟨b', x1, _, x2, x3⟩ := p1.pbx i d hi
              rw [hs] at x1; cases x1
              exact ⟨x2, x3⟩
          refine ⟨hn, A1, (ds.map .val).set j (.pbx d), argsOk_set (argsOk_val ds), args_ref p1 t1 hv ob.1 ob.2, ?_⟩
          have bk : ∀ {A' : Addr → Prop} {l : List SV} {H' : Hp} {d' : D}, Rp C vs A' l (vs.map some) H' → Stp A1 ((ds.map .val).set j (.pbx d)) (vs.map some) H A' l (vs.map some) H' → l[j]? = some (.pbx d') →
              Rp C v0 A' (r1.set i (mk d')) σ H' ∧ Stp A1 r1 σ H A' (r1.set i (mk d')) σ H' ∧ ∀ c, Bx (r1.set i (mk d')) σ c → Bx r1 σ c := fun {A' l H' d'} p' s' el => by
            obtain ⟨b', x1, x2, x3, x4⟩ := p'.pbx j d' el
            rw [hv] at x2; cases x2
            refine ref_back (d := d) (d' := d') p1 ?_ hs (fun c o h ne t => s'.keep c o h (fun z => ne (bx_ref hv z)) t) s'.dom s'.up (fun c h => (s'.an c h).imp_right fun z => z.elim id fun z => (argsOk_lx (argsOk_set (argsOk_val ds)) z).elim) p'.dom p'.tabs x3 x4
            rcases hmk with hmk | hmk
            · subst hmk; exact .inl ⟨hi, rfl⟩
            · subst hmk; exact .inr ⟨hi, rfl⟩
          cases ef : F ((ds.map .val).set j (.pbx d)) with
          | no => rw [ef] at q; exact q.elim
          | exc c fs l =>
            rw [ef] at q
            dsimp only at q
            intro A' H' cl dd p' s' x
            split at q
            · rename_i d' el
              obtain ⟨p2, s2, b2⟩ := bk p' s' el
              exact q A' H' cl dd p2 (s1.trans s2) x
            · exact q.elim
          | ok ev l =>
            rw [ef] at q
            intro A' H' v p' s' x
            cases ev with
            | bx i => exact q.elim
            | val y =>
              dsimp only at q
              split at q
              · rename_i d' el
                obtain ⟨p2, s2, b2⟩ := bk p' s' el
                exact q A' H' v p2 (s1.trans s2) x
              · exact q.elim
            | own y =>
              dsimp only at q
              split at q
              · rename_i d' el
                obtain ⟨p2, s2, b2⟩ := bk p' s' el
                exact q A' H' v p2 (s1.trans s2) (RelE.ret p1 s1 b2 x fun _ z => nomatch z)
              · exact q.elim
        split at q
        · rename_i d hi
          exact main d .box (.inl rfl) hi q
        · rename_i d hi
          exact main d .pbx (.inr rfl) hi q
        · exact q.elim
end
section
variable {X : Cx} {C : Ct} {v0 : List V} {W : WX} {k n j : Nat} {f : Addr} {fd : FuncData} {ps : List Str} {F : Fun1} {x : Str} {p pos : Pos} {e : Expr} {es : List Expr} {ms : M (List EV)}
theorem pm_callR (G : FnG X.prog X.w X.K X.mg X.base k f fd ps (spF C n F)) (hr : Room k X.A) (hgd : X.A.guards = some []) (hg : Gl X x) (hm : X.mg x = some (.ref f)) (hk : PySem.W.keepIn X.K (.ref f) = true) (hb : Binds X.K fd ps []) (tk : Takes X W)
    (ha : PA X (e :: es) (tEs C v0 W ms)) (hl : LenM ms n) (hdb : (x == ("__debug__" : Str)) = false := by decide) (he : starEach (e :: es) X.env = (false, eval e X.env) :: starEach es X.env := by rfl) (hpl : (backTo pos (starEach es X.env)).any (·.1) = false := by rfl) :
    PE X (.Call (.Name x p) (e :: es) [] pos) (tE C v0 W (mCallR F j ms)) := by
  refine PE.imp (pe_callG (dvs := []) (E := WE W) G hr hgd hg hm hk hb .nil (fun σ => passAt tk σ) ha hdb he hpl) fun σ H Q h => ?_
  obtain ⟨A, r, p, q⟩ := h
  refine ⟨A, r, p, ?_⟩
  cases em : ms r with
  | no => have q' := Po.bnd (Rl := RelEs C) .refl q; rw [em] at q'; exact q'
  | exc c fs r' => have q' := Po.bnd (Rl := RelEs C) .refl q; rw [em] at q'; exact q'
  | ok evs r1 =>
    have q' := q
    unfold mCallR bnd at q'
    rw [em] at q'
    intro A1 H1 vs p1 s1 e1
    rw [List.append_nil]
    exact callR_ok p1 s1 e1.1 ((Paired.length e1.1).symm.trans (hl r evs r1 em)) q'
end
end Mi
end
section
set_option maxRecDepth 100000
set_option maxHeartbeats 2000000
namespace Mi
open PySem PySem.Spec L2
open PyProof.Rows hiding St

/-! ### a slot is stored -/
section
variable {C : Ct} {v0 : List V} {W : WX} {A A0 A' : Addr → Prop} {r r0 r' : List SV} {σ σ0 : St} {H H0 : Hp} {i : Nat} {v : V}
theorem set_val {d : D} (p : Rp C v0 A r σ H) (s : Stp A0 r0 σ0 H0 A r σ H) (h : Rel C A H d v) : Rp C v0 A (r.set i (.val d)) (σ.set i (some v)) H ∧ Stp A0 r0 σ0 H0 A (r.set i (.val d)) (σ.set i (some v)) H := by
  have old : ∀ {j : Nat} {x : SV}, (r.set i (.val d))[j]? = some x → (∀ d, x ≠ .val d) → r[j]? = some x ∧ (σ.set i (some v))[j]? = σ[j]? := fun {j x} e n => by
    rcases getElem?_set_cases e with ⟨_, z, _⟩ | ⟨ne, z⟩
    · exact absurd z (n d)
    · exact ⟨z, List.getElem?_set_ne ne⟩
  have bxs : ∀ b, Bx (r.set i (.val d)) (σ.set i (some v)) b → Bx r σ b := fun b ⟨j, e, h1, h2⟩ => by
    rcases h1 with h1 | h1
    · obtain ⟨a, b⟩ := old h1 (fun _ z => nomatch z)
      exact ⟨j, e, .inl a, by rw [← b]; exact h2⟩
    · obtain ⟨a, b⟩ := old h1 (fun _ z => nomatch z)
      exact ⟨j, e, .inr a, by rw [← b]; exact h2⟩
  have lxs : ∀ b, Lx (r.set i (.val d)) (σ.set i (some v)) b → Lx r σ b := fun b ⟨j, e, h1, h2⟩ => by
    obtain ⟨a, b⟩ := old h1 (fun _ z => nomatch z)
    exact ⟨j, e, a, by rw [← b]; exact h2⟩
  refine ⟨⟨by rw [List.length_set, List.length_set]; exact p.len, fun j e h1 => ?_, fun j e h1 => ?_, fun j e h1 => ?_, fun j k e f b h1 h2 h3 h4 => ?_, p.dom, p.tabs⟩, ⟨s.keep, s.dom, s.up, s.an, fun b h => s.bn b (bxs b h), fun b h => s.ln b (lxs b h)⟩⟩
  · rcases getElem?_set_cases h1 with ⟨w, z, hl⟩ | ⟨ne, z⟩
    · cases z; subst w
      exact ⟨v, List.getElem?_set_self (by rw [← p.len]; exact hl), h⟩
    · obtain ⟨v', a, b⟩ := p.val j e z
      exact ⟨v', by rw [List.getElem?_set_ne ne]; exact a, b⟩
  · obtain ⟨a, b⟩ := old h1 (fun _ z => nomatch z)
    rw [b]; exact p.box j e a
  · obtain ⟨a, b⟩ := old h1 (fun _ z => nomatch z)
    rw [b]; exact p.pbx j e a
  · have t : ∀ {j : Nat} {e : D}, ((r.set i (.val d))[j]? = some (.box e) ∨ (r.set i (.val d))[j]? = some (.pbx e)) → (r[j]? = some (.box e) ∨ r[j]? = some (.pbx e)) ∧ (σ.set i (some v))[j]? = σ[j]? := fun {j e} h => by
      rcases h with h | h
      · obtain ⟨a, b⟩ := old h (fun _ z => nomatch z)
        exact ⟨.inl a, b⟩
      · obtain ⟨a, b⟩ := old h (fun _ z => nomatch z)
        exact ⟨.inr a, b⟩
    obtain ⟨a1, a2⟩ := t h1
    obtain ⟨b1, b2⟩ := t h2
    exact p.inj j k e f b a1 b1 (by rw [← a2]; exact h3) (by rw [← b2]; exact h4)
theorem set_box {d : D} {a : Addr} (p : Rp C v0 A r σ H) (s : Stp A0 r0 σ0 H0 A r σ H) (h0 : H0 a = none) (nA : ¬ A a) (nb : ¬ Bx r σ a) (o : Own C A H d a) : Rp C v0 A (r.set i (.box d)) (σ.set i (some (.ref a))) H ∧ Stp A0 r0 σ0 H0 A (r.set i (.box d)) (σ.set i (some (.ref a))) H := by
  have old : ∀ {j : Nat} {x : SV}, (r.set i (.box d))[j]? = some x → (j = i ∧ x = .box d ∧ (σ.set i (some (.ref a)))[j]? = some (some (.ref a))) ∨ (j ≠ i ∧ r[j]? = some x ∧ (σ.set i (some (.ref a)))[j]? = σ[j]?) := fun {j x} e => by
    rcases getElem?_set_cases e with ⟨w, z, hl⟩ | ⟨ne, z⟩
    · subst w; exact .inl ⟨rfl, z, List.getElem?_set_self (by rw [← p.len]; exact hl)⟩
    · exact .inr ⟨Ne.symm ne, z, List.getElem?_set_ne ne⟩
  have bxs : ∀ b, Bx (r.set i (.box d)) (σ.set i (some (.ref a))) b → Bx r σ b ∨ b = a := fun b ⟨j, e, h1, h2⟩ => by
    rcases h1 with h1 | h1
    · rcases old h1 with ⟨_, _, q⟩ | ⟨_, x, q⟩
      · rw [q] at h2; cases h2; exact .inr rfl
      · exact .inl ⟨j, e, .inl x, by rw [← q]; exact h2⟩
    · rcases old h1 with ⟨_, z, q⟩ | ⟨_, x, q⟩
      · cases z
      · exact .inl ⟨j, e, .inr x, by rw [← q]; exact h2⟩
  have lxs : ∀ b, Lx (r.set i (.box d)) (σ.set i (some (.ref a))) b → Lx r σ b ∨ b = a := fun b ⟨j, e, h1, h2⟩ => by
    rcases old h1 with ⟨_, _, q⟩ | ⟨_, x, q⟩
    · rw [q] at h2; cases h2; exact .inr rfl
    · exact .inl ⟨j, e, x, by rw [← q]; exact h2⟩
  refine ⟨⟨by rw [List.length_set, List.length_set]; exact p.len, fun j e h1 => ?_, fun j e h1 => ?_, fun j e h1 => ?_, fun j k e f b h1 h2 h3 h4 => ?_, p.dom, p.tabs⟩, ⟨s.keep, s.dom, s.up, s.an, fun b h => (bxs b h).elim (s.bn b) fun z => .inr (by rw [z]; exact h0), fun b h => (lxs b h).elim (s.ln b) fun z => .inr (by rw [z]; exact h0)⟩⟩
  · rcases old h1 with ⟨_, z, _⟩ | ⟨_, x, q⟩
    · cases z
    · rw [q]; exact p.val j e x
  · rcases old h1 with ⟨_, z, q⟩ | ⟨_, x, q⟩
    · cases z; exact ⟨a, q, nA, o⟩
    · rw [q]; exact p.box j e x
  · rcases old h1 with ⟨_, z, q⟩ | ⟨_, x, q⟩
    · cases z
    · rw [q]; exact p.pbx j e x
  · have t : ∀ {j : Nat} {e : D}, ((r.set i (.box d))[j]? = some (.box e) ∨ (r.set i (.box d))[j]? = some (.pbx e)) → (σ.set i (some (.ref a)))[j]? = some (some (.ref b)) → (j = i ∧ b = a) ∨ ((r[j]? = some (.box e) ∨ r[j]? = some (.pbx e)) ∧ σ[j]? = some (some (.ref b))) := fun {j e} h z => by
      rcases h with h | h
      · rcases old h with ⟨w, _, q⟩ | ⟨_, x, q⟩
        · rw [q] at z; cases z; exact .inl ⟨w, rfl⟩
        · exact .inr ⟨.inl x, by rw [← q]; exact z⟩
      · rcases old h with ⟨w, y, q⟩ | ⟨_, x, q⟩
        · cases y
        · exact .inr ⟨.inr x, by rw [← q]; exact z⟩
    rcases t h1 h3 with ⟨w1, w2⟩ | ⟨a1, a2⟩
    · rcases t h2 h4 with ⟨u1, _⟩ | ⟨b1, b2⟩
      · rw [w1, u1]
      · exact absurd ⟨k, f, b1, by rw [← w2]; exact b2⟩ nb
    · rcases t h2 h4 with ⟨_, u2⟩ | ⟨b1, b2⟩
      · exact absurd ⟨j, e, a1, by rw [← u2]; exact a2⟩ nb
      · exact p.inj j k e f b a1 b1 a2 b2
end
/-! ### statements -/
def mPass : M Fl := rt .nx
def mBreak : M Fl := rt .bk
def mCont : M Fl := rt .ct
def mSeq (a b : M Fl) : M Fl := bnd a fun fl => match fl with
  | .nx => b
  | x => rt x
def asg (i : Nat) (bx : Bool) (ev : EV) : M Fl := fun r => match ev with
  | .own d => if bx = true then .ok .nx (r.set i (.box d)) else .ok .nx (r.set i (.val d))
  | ev => match toV ev r with
    | some (d, r1) => .ok .nx (r1.set i (.val d))
    | none => .no
def mAsg (i : Nat) (bx : Bool) (m : M EV) : M Fl := bnd m (asg i bx)
def mRet (m : M EV) : M Fl := bnd m fun ev => rt (.rt ev)
def mExpr (m : M EV) : M Fl := bnd m fun _ => rt .nx
def mIf (c : M Bool) (a b : M Fl) : M Fl := bnd c fun x => if x = true then a else b
section
variable {X : Cx} {C : Ct} {v0 : List V} {W : WX} {st : Stmt} {rest : List Stmt} {a b : M Fl} {m : M EV} {e : Expr} {pos : Pos}
theorem pms_nil : PSs X [] (tS C v0 W mPass) := PSs.imp pss_nil fun N σ H ⟨A, r, p, q⟩ => q A σ H p .refl
theorem pms_one (h : PS X st (tS C v0 W a)) : PSs X [st] (tS C v0 W a) := pss_one h
theorem pms_cons (h1 : PS X st (tS C v0 W a)) (h2 : PSs X rest (tS C v0 W b)) : PSs X (st :: rest) (tS C v0 W (mSeq a b)) := by
  refine PSs.imp (pss_cons h1 h2) fun N σ H ⟨A, r, p, q⟩ => ⟨A, r, p, ?_⟩
  unfold mSeq bnd at q
  cases e : a r with
  | no => rw [e] at q; exact q
  | exc c fs r' => rw [e] at q; exact q
  | ok fl r1 =>
    rw [e] at q
    cases fl with
    | nx => exact fun A' σ' H' p' s' => ⟨A', r1, p', PoS.shift s' q⟩
    | bk => exact q
    | ct => exact q
    | rt ev => exact q
theorem pms_pass : PS X (.Pass pos) (tS C v0 W mPass) := PS.imp ps_pass fun N σ H ⟨A, r, p, q⟩ => q A σ H p .refl
theorem pms_break : PS X (.Break pos) (tS C v0 W mBreak) := PS.imp ps_break fun N σ H ⟨A, r, p, q⟩ => q A σ H p .refl
theorem pms_cont : PS X (.Continue pos) (tS C v0 W mCont) := PS.imp ps_continue fun N σ H ⟨A, r, p, q⟩ => q A σ H p .refl
theorem pms_doc {x j pos'} : PS X (.Expr (.Constant (.str x) j pos) pos') (tS C v0 W mPass) := PS.imp ps_doc fun N σ H ⟨A, r, p, q⟩ => q A σ H p .refl
theorem pms_ret (h : PE X e (tE C v0 W m)) : PS X (.Return (some e) pos) (tS C v0 W (mRet m)) := by
  refine PS.imp (ps_ret h) fun N σ H ⟨A, r, p, q⟩ => ⟨A, r, p, ?_⟩
  unfold mRet bnd at q
  cases e : m r with
  | no => rw [e] at q; exact q
  | exc c fs r' => rw [e] at q; exact fun A' H' cl d p s x => q A' σ H' cl d p s x
  | ok ev r1 => rw [e] at q; exact fun A' H' v p s x => q A' σ H' v p s x
theorem pms_retN : PS X (.Return none pos) (tS C v0 W (mRet (mC .none))) := PS.imp ps_retN fun N σ H ⟨A, r, p, q⟩ => q A σ H .non p .refl rfl
theorem pms_expr (h : PE X e (tE C v0 W m)) (hs : swapsWith e none pos.line X.env = pure false := by rfl) : PS X (.Expr e pos) (tS C v0 W (mExpr m)) := by
  refine PS.imp (ps_expr h hs) fun N σ H ⟨A, r, p, q⟩ => ⟨A, r, p, ?_⟩
  unfold mExpr bnd at q
  cases e : m r with
  | no => rw [e] at q; exact q
  | exc c fs r' => rw [e] at q; exact fun A' H' cl d p s x => q A' σ H' cl d p s x
  | ok ev r1 => rw [e] at q; exact fun A' H' v p s x => q A' σ H' p s
theorem pms_if {c : Expr} {s1 s2 : List Stmt} {mc : M Bool} (hc : PT X c (tT C v0 W mc)) (h1 : PSs X s1 (tS C v0 W a)) (h2 : PSs X s2 (tS C v0 W b)) : PS X (.If c s1 s2 pos) (tS C v0 W (mIf mc a b)) := by
  refine PS.imp (ps_if hc h1 h2) fun N σ H ⟨A, r, p, q⟩ => ⟨A, r, p, ?_⟩
  refine tS_bnd p .refl q fun A1 r1 H1 x y p1 s1 e1 q1 => ?_
  have e1 : y = x := e1
  subst e1
  cases y with
  | true => exact ⟨A1, r1, p1, PoS.shift s1 q1⟩
  | false => exact ⟨A1, r1, p1, PoS.shift s1 q1⟩
/-- what a store of a value leaves -/
theorem asg_ok {A A0 : Addr → Prop} {r r0 : List SV} {σ : St} {H H0 : Hp} {N : Ends} {i : Nat} {bx : Bool} {ev : EV} {v : V} (p : Rp C v0 A r σ H) (s : Stp A0 r0 σ H0 A r σ H) (h : RelE C A H0 r σ H ev v) (q : PoS C v0 W A0 r0 σ H0 N (asg i bx ev r)) : N.nx (σ.set i (some v)) H := by
  have viaV : ∀ {ev : EV}, RelE C A H0 r σ H ev v → PoS C v0 W A0 r0 σ H0 N (match toV ev r with
    | some (d, r1) => .ok .nx (r1.set i (.val d))
    | none => .no) → N.nx (σ.set i (some v)) H := fun {ev} h q => by
    cases e : toV ev r with
    | none => rw [e] at q; exact q.elim
    | some z =>
      obtain ⟨d, r1⟩ := z
      rw [e] at q
      obtain ⟨A1, p1, s1, t1, _⟩ := toV_ok p s h.q e
      obtain ⟨p2, s2⟩ := set_val (i := i) p1 s1 t1
      exact q A1 _ H p2 s2
  cases ev with
  | val d => exact viaV h q
  | bx j => exact viaV h q
  | own d =>
    unfold asg at q
    dsimp only at q
    cases bx with
    | false =>
      rw [if_neg Bool.false_ne_true] at q
      exact viaV h q
    | true =>
      rw [if_pos rfl] at q
      obtain ⟨a, rfl, h0, nA, nb, o⟩ := h
      obtain ⟨p2, s2⟩ := set_box (i := i) p s h0 nA nb o
      exact q A _ H p2 s2
theorem tAsg_of {A : Addr → Prop} {r : List SV} {σ : St} {H : Hp} {N : Ends} {i : Nat} {bx : Bool} (p : Rp C v0 A r σ H) (q : PoS C v0 W A r σ H N (mAsg i bx m r)) : tAsg (tE C v0 W m) (gName i) N σ H := by
  refine ⟨A, r, p, ?_⟩
  refine tS_bnd p .refl q fun A1 r1 H1 ev v p1 s1 e1 q1 => ?_
  exact asg_ok p1 s1 e1 q1
theorem pms_set {i : Nat} {x : Str} {pos' : Pos} (bx : Bool) (hN : X.N.Nodup) (hi : X.N[i]? = some x) (hx : Loc X.env.scope x) (he : PE X e (tE C v0 W m)) (hs : swapsWith e (some (.Name x pos')) pos.line X.env = pure false := by rfl) (hf : X.fn x = true ∨ X.env.scope.names.lookup x = some .local := by first | exact .inl rfl | exact .inr rfl | assumption) :
    PS X (.Assign [.Name x pos'] e pos) (tS C v0 W (mAsg i bx m)) := PS.imp (ps_set hN hi hx he hs hf) fun N σ H ⟨A, r, p, q⟩ => tAsg_of p q
end

/-! ### targets -/
abbrev Tgt := D → List SV → Option (List SV)
def tgN (i : Nat) : Tgt := fun d r => some (r.set i (.val d))
def tgL : List Tgt → List D → List SV → Option (List SV)
  | [], [], r => some r
  | t :: ts, d :: ds, r => match t d r with
    | some r1 => tgL ts ds r1
    | none => none
  | _, _, _ => none
def tgT (ts : List Tgt) : Tgt := fun d r => match d with
  | .tup ds => tgL ts ds r
  | _ => none
def tG (C : Ct) (v0 : List V) (T : Tgt) : TG := fun v σ H Q => ∃ A r d r', Rp C v0 A r σ H ∧ Rel C A H d v ∧ T d r = some r' ∧ ∀ σ', Rp C v0 A r' σ' H → Stp A r σ H A r' σ' H → Q σ' H
def tGs (C : Ct) (v0 : List V) (T : List D → List SV → Option (List SV)) : TGs := fun vs σ H Q => ∃ A r ds r', Rp C v0 A r σ H ∧ RelL C A H ds vs ∧ T ds r = some r' ∧ ∀ σ', Rp C v0 A r' σ' H → Stp A r σ H A r' σ' H → Q σ' H
theorem PG.imp {X : Cx} {e : Expr} {t u : TG} (h : PG X e t) (k : ∀ v σ H Q, u v σ H Q → t v σ H Q) : PG X e u := ⟨fun p s σ H v w Q I r x => h.run p s σ H v w Q I r (k v σ H Q x)⟩
theorem PGs.imp {X : Cx} {e : List Expr} {t u : TGs} (h : PGs X e t) (k : ∀ v σ H Q, u v σ H Q → t v σ H Q) : PGs X e u := ⟨fun p s σ H v w Q I r x => h.run p s σ H v w Q I r (k v σ H Q x)⟩
section
variable {X : Cx} {C : Ct} {v0 : List V} {W : WX} {e : Expr} {es : List Expr} {pos : Pos}
theorem pmg_name {i : Nat} {x : Str} (hN : X.N.Nodup) (hi : X.N[i]? = some x) (hx : Loc X.env.scope x) (hf : X.fn x = true ∨ X.env.scope.names.lookup x = some .local := by first | exact .inl rfl | exact .inr rfl | assumption) : PG X (.Name x pos) (tG C v0 (tgN i)) := by
  refine PG.imp (pg_name hN hi hx hf) fun v σ H Q ⟨A, r, d, r', p, h, e, k⟩ => ?_
  cases e
  obtain ⟨p2, s2⟩ := set_val (i := i) p .refl h
  exact k _ p2 s2
theorem pmg_nil : PGs X [] (tGs C v0 (tgL [])) := PGs.imp pgs_nil fun vs σ H Q ⟨A, r, ds, r', p, h, e, k⟩ => by
  cases ds with
  | nil => cases e; exact ⟨h, k σ p .refl⟩
  | cons d ds => cases e
theorem pmg_cons {t : Tgt} {ts : List Tgt} (h1 : PG X e (tG C v0 t)) (h2 : PGs X es (tGs C v0 (tgL ts))) (hs : (assignEach (e :: es) X.env).map (·.2) = assign e X.env :: (assignEach es X.env).map (·.2) := by rfl) : PGs X (e :: es) (tGs C v0 (tgL (t :: ts))) := by
  refine PGs.imp (pgs_cons h1 h2 hs) fun vs σ H Q ⟨A, r, ds, r', p, h, e, k⟩ => ?_
  cases ds with
  | nil => cases e
  | cons d ds =>
    obtain ⟨v, vr, rfl, hd, ht⟩ := h
    unfold tgL at e
    cases et : t d r with
    | none => rw [et] at e; cases e
    | some r1 =>
      rw [et] at e
      exact ⟨v, vr, rfl, A, r, d, r1, p, hd, et, fun σ1 p1 s1 => ⟨A, r1, ds, r', p1, ht, e, fun σ2 p2 s2 => k σ2 p2 (s1.trans s2)⟩⟩
theorem pmg_tup {ts : List Tgt} {k : Nat} {n : Nat} (hK : C.K = X.K) (hc : X.calm = true) (h : PGs X es (tGs C v0 (tgL ts))) (hn : (assignEach es X.env).length = n := by rfl) (hl : ts.length = n := by rfl) (hst : (assignEach es X.env).findIdx? (·.1) = none := by rfl) :
    PG X (.Tuple es k pos) (tG C v0 (tgT ts)) := by
  refine PG.imp (pg_tup hc h hn hst) fun v σ H Q ⟨A, r, d, r', p, h, e, kk⟩ => ?_
  unfold tgT at e
  cases d with
  | tup ds =>
    obtain ⟨a, vs, rfl, hq, t⟩ := h
    have key : ∀ (ts : List Tgt) (ds : List D) (r r' : List SV), tgL ts ds r = some r' → ds.length = ts.length := by
      intro ts
      induction ts with
      | nil => intro ds r r' e; cases ds with
        | nil => rfl
        | cons _ _ => cases e
      | cons t ts ih => intro ds r r' e; cases ds with
        | nil => cases e
        | cons d ds =>
          unfold tgL at e
          cases et : t d r with
          | none => rw [et] at e; cases e
          | some r1 => rw [et] at e; rw [List.length_cons, List.length_cons, ih ds r1 r' e]
    exact ⟨a, vs, rfl, by rw [← hK]; exact hq, by rw [t.length, key ts ds r r' e, hl], A, r, ds, r', p, t, e, kk⟩
  | _ => cases e
end
/-- target = e -/
def asgT (T : Tgt) (ev : EV) : M Fl := fun r => match toV ev r with
  | some (d, r1) => match T d r1 with
    | some r2 => .ok .nx r2
    | none => .no
  | none => .no
def mAsgT (T : Tgt) (m : M EV) : M Fl := bnd m (asgT T)
theorem pms_setT {X : Cx} {C : Ct} {v0 : List V} {W : WX} {e tg : Expr} {pos : Pos} {m : M EV} {T : Tgt} (he : PE X e (tE C v0 W m)) (hg : PG X tg (tG C v0 T)) (hs : swapsWithSole [tg] e pos.line X.env = pure false := by rfl) (hw : swappedStores [tg] e X.env = pure none := by rfl)
    (h1 : (assignEach [tg] X.env).map (·.2) = [assign tg X.env] := by rfl) : PS X (.Assign [tg] e pos) (tS C v0 W (mAsgT T m)) := by
  refine PS.imp (ps_asg he hg hs hw h1) fun N σ H ⟨A, r, p, q⟩ => ⟨A, r, p, ?_⟩
  refine tS_bnd p .refl q fun A1 r1 H1 ev v p1 s1 e1 q1 => ?_
  unfold asgT at q1
  cases e : toV ev r1 with
  | none => rw [e] at q1; exact q1.elim
  | some z =>
    obtain ⟨d, r2⟩ := z
    rw [e] at q1
    dsimp only at q1
    obtain ⟨A2, p2, s2, t2, _⟩ := toV_ok p1 s1 e1.q e
    cases et : T d r2 with
    | none => rw [et] at q1; exact q1.elim
    | some r3 =>
      rw [et] at q1
      exact ⟨A2, r2, d, r3, p2, t2, et, fun σ3 p3 s3 => q1 A2 σ3 H1 p3 (s2.trans s3)⟩
end Mi
end
section
set_option maxRecDepth 100000
set_option maxHeartbeats 2000000
namespace Mi
open PySem PySem.Spec L2
open PyProof.Rows hiding St

/-! ### what is walked -/
/-- J goes through the data ds, from the heap H1 on -/
def Wlk (C : Ct) (A1 : Addr → Prop) (H1 : Hp) (J : It) (ds : List D) : Prop :=
  ∀ A H, Carry A1 A H1 H → (∀ i, i < ds.length → J.go i H) ∧ (∀ i, ds.length ≤ i → J.stop i H) ∧
    ∀ i x H' d, ds[i]? = some d → J.yld i H x H' → (∀ b o, H b = some o → H' b = some o) ∧ Rel C A H' d x
def RelJ (C : Ct) : RelT3 (List D) It := fun A _ _ _ H ds J => Wlk C A H J ds
def tI (C : Ct) (v0 : List V) (W : WX) (m : M (List D)) : TI := fun σ H R => ∃ A r, Rp C v0 A r σ H ∧ Po C v0 W (RelJ C) A r σ H R (m r)
theorem Carry.refl {A : Addr → Prop} {H : Hp} : Carry A A H H := ⟨fun _ h => h, fun _ _ _ h _ => h, fun _ _ h => h, fun _ _ _ h => h⟩
theorem Carry.trans {A A1 A2 : Addr → Prop} {H H1 H2 : Hp} (x : Carry A A1 H H1) (y : Carry A1 A2 H1 H2) : Carry A A2 H H2 :=
  ⟨fun b h => y.up b (x.up b h), fun b o a h t => y.at_ b o (x.up b a) (x.at_ b o a h t) t, fun b s h => y.tup b s (x.tup b s h), fun b o u h => y.frz b o u (x.frz b o u h)⟩
def strD (s : Str) : List D := s.cps.toList.map fun c => .str ⟨#[c]⟩
def items : D → Option (List D)
  | .lst xs => some xs
  | .tup xs => some xs
  | .str s => some (strD s)
  | .scr ns => some (ns.map .int)
  | _ => none
def mItV (m : M EV) : M (List D) := bnd m fun ev r => match toV ev r with
  | some (d, r1) => match items d with
    | some l => .ok l r1
    | none => .no
  | none => .no
theorem PI.imp {X : Cx} {tg e : Expr} {t u : TI} (h : PI X tg e t) (k : ∀ σ H Q, u σ H Q → t σ H Q) : PI X tg e u := ⟨fun p s σ H Q I x => h.run p s σ H Q I (k σ H Q x)⟩
section
variable {C : Ct} {v0 : List V} {W : WX} {A A' : Addr → Prop} {r : List SV} {σ : St} {H H' : Hp}
theorem relL_ints : ∀ {ns : List Int}, RelL C A H (ns.map .int) (ns.map V.int)
  | [] => rfl
  | n :: ns => ⟨_, _, rfl, rfl, relL_ints⟩
theorem wlk_list {a : Addr} {xs : List D} {vs : List V} (h : ∀ A2 H2, Carry A A2 H H2 → SqL C.K H2 a vs) (t : RelL C A H xs vs) (un : ∀ H2 ws, SqL C.K H2 a vs → SqL C.K H2 a ws → True) : Wlk C A H (Itl C.K a) xs := fun A2 H2 c => by
  refine ⟨fun i hi => ?_, fun i hi => ⟨vs, h A2 H2 c, by rw [t.length]; exact hi⟩, fun i x H' d e y => ?_⟩
  · obtain ⟨v, hv, _⟩ := t.get (List.getElem?_eq_getElem hi)
    exact ⟨vs, v, h A2 H2 c, hv⟩
  · obtain ⟨rfl, y⟩ := y
    obtain ⟨v, hv, hr⟩ := t.get e
    have := y vs (h A2 _ c)
    rw [hv] at this
    cases this
    exact ⟨fun _ _ h => h, hr.carry c⟩
theorem wlk_tup {a : Addr} {xs : List D} {vs : List V} (h : SqT C.K H a vs) (t : RelL C A H xs vs) : Wlk C A H (Itt C.K a) xs := fun A2 H2 c => by
  have h2 := c.rd_tup h
  refine ⟨fun i hi => ?_, fun i hi => ⟨vs, h2, by rw [t.length]; exact hi⟩, fun i x H' d e y => ?_⟩
  · obtain ⟨v, hv, _⟩ := t.get (List.getElem?_eq_getElem hi)
    exact ⟨vs, v, h2, hv⟩
  · obtain ⟨rfl, y⟩ := y
    obtain ⟨v, hv, hr⟩ := t.get e
    have := y vs h2
    rw [hv] at this
    cases this
    exact ⟨fun _ _ h => h, hr.carry c⟩
theorem wlk_str {s : Str} : Wlk C A H (Its s) (strD s) := fun A2 H2 c => by
  have hl : (strD s).length = s.cps.size := by simp [strD]
  refine ⟨fun i hi => (by show i < s.cps.size; omega), fun i hi => (by show s.cps.size ≤ i; omega), fun i x H' d e y => ?_⟩
  obtain ⟨rfl, k, hk, rfl⟩ := y
  refine ⟨fun _ _ h => h, ?_⟩
  have : (strD s)[i]? = some (.str ⟨#[k]⟩) := by
    unfold strD
    rw [List.getElem?_map, Array.getElem?_toList, hk] <;> rfl
  rw [this] at e
  cases e
  rfl
end
/-- over a value, whichever -/
def iAny (K : PySem.W.Frag) (tl : TE) : TI := fun σ H R => tl σ H fun x H1 => (∃ a, x = .ref a ∧ (∃ xs, SqL K H1 a xs) ∧ R (Itl K a) H1) ∨ (∃ a, x = .ref a ∧ (∃ xs, SqT K H1 a xs) ∧ R (Itt K a) H1) ∨ ∃ s, x = .str s ∧ R (Its s) H1
theorem pi_any {X : Cx} {tg l : Expr} {tl : TE} (hl : PE X l tl) : PI X tg l (iAny X.K tl) := by
  refine ⟨fun pins s σ H R I h => ?_⟩
  refine thn (hl.run pins s σ H _ I h) fun v s1 ⟨x, H1, I1, r1, q1⟩ => ?_
  have dummy : PE X (.Constant .none 0 ⟨0, 0, 0, 0⟩) (tC .non) := pe_non
  rcases q1 with q1 | q1 | q1
  · obtain ⟨a, e, ⟨xs, hq⟩, q⟩ := q1
    subst e
    cases r1
    obtain ⟨its, rv, p, hz⟩ := I1.list hq
    refine wpAny_pyIter_list p.isList ?_
    exact pi_one (tk := s1.toks) I1 _ (turn_list a _) ⟨_, Heap.get?_push_size _ rfl, rfl, rfl⟩ q
  · obtain ⟨a, e, ⟨xs, hq⟩, q⟩ := q1
    subst e
    cases r1
    obtain ⟨its, rv, p, hz⟩ := I1.tuple hq
    refine wpAny_pyIter_tuple (show s1.heap.IsTuple a its.toArray from p) ?_
    exact pi_one (tk := s1.toks) I1 _ (turn_tuple a _) ⟨_, Heap.get?_push_size _ rfl, rfl, rfl⟩ q
  · obtain ⟨y, rfl, q⟩ := q1
    obtain ⟨t, rfl⟩ := r1
    cases ea : y.cps.all (· < 128) with
    | false => exact wpAny_pyIter_wide ea (pi_one (tk := s1.toks) I1 _ (turn_str _ y t "str_iterator" (.inr rfl)) ⟨_, Heap.get?_push_size _ rfl, rfl, rfl⟩ q)
    | true => exact wpAny_pyIter_ascii ea (pi_one (tk := s1.toks) I1 _ (turn_str _ y t "str_ascii_iterator" (.inl rfl)) ⟨_, Heap.get?_push_size _ rfl, rfl, rfl⟩ q)
section
variable {X : Cx} {C : Ct} {v0 : List V} {W : WX} {tg e : Expr} {m : M EV}
theorem pmi_any (hK : C.K = X.K) (h : PE X e (tE C v0 W m)) : PI X tg e (tI C v0 W (mItV m)) := by
  refine PI.imp (pi_any h) fun σ H R ⟨A, r, p, q⟩ => ⟨A, r, p, ?_⟩
  refine tE_bnd p .refl q fun A1 r1 H1 ev v p1 s1 e1 q1 => ?_
  cases et : toV ev r1 with
  | none => rw [et] at q1; exact q1.elim
  | some z =>
    obtain ⟨d, r2⟩ := z
    rw [et] at q1
    dsimp only at q1
    obtain ⟨A2, p2, s2, t2, _⟩ := toV_ok p1 s1 e1.q et
    cases ei : items d with
    | none => rw [ei] at q1; exact q1.elim
    | some l =>
      rw [ei] at q1
      have go : ∀ J, Wlk C A2 H1 J l → R J H1 := fun J w => q1 A2 H1 J p2 s2 w
      cases d with
      | lst xs =>
        cases ei
        obtain ⟨a, vs, rfl, ⟨ha, h⟩, t⟩ := t2
        refine .inl ⟨a, rfl, ⟨vs, .of h⟩, go _ ?_⟩
        rw [← hK]
        exact wlk_list (fun A3 H3 c => .of (c.at_ _ _ ha h (fun _ z => nomatch z))) t fun _ _ _ _ => trivial
      | tup xs =>
        cases ei
        obtain ⟨a, vs, rfl, h, t⟩ := t2
        refine .inr (.inl ⟨a, rfl, ⟨vs, by rw [← hK]; exact h⟩, go _ ?_⟩)
        rw [← hK]
        exact wlk_tup h t
      | str s =>
        cases ei
        cases t2
        exact .inr (.inr ⟨s, rfl, go _ wlk_str⟩)
      | scr ns =>
        cases ei
        obtain ⟨a, rfl, h⟩ := t2
        refine .inl ⟨a, rfl, ⟨_, by rw [← hK]; exact h.seq⟩, go _ ?_⟩
        rw [← hK]
        exact wlk_list (fun A3 H3 c => (c.scr h).seq) relL_ints fun _ _ _ _ => trivial
      | _ => cases ei
/-- for i in range(a, b): the numbers -/
def rng (a b : Int) : List D := (List.range (b - a).toNat).map fun (i : Nat) => .int (a + i)
theorem wlk_rng {A : Addr → Prop} {H : Hp} {lo : Int} {n : Nat} : Wlk C A H (Itr lo n) ((List.range n).map fun (i : Nat) => D.int (lo + i)) := fun A2 H2 c => by
  refine ⟨fun i hi => (by show i < n; simpa using hi), fun i hi => (by show n ≤ i; simpa using hi), fun i x H' d e y => ?_⟩
  obtain ⟨rfl, rfl⟩ := y
  refine ⟨fun _ _ h => h, ?_⟩
  rw [List.getElem?_map] at e
  by_cases hi : i < n
  · rw [List.getElem?_range hi] at e
    cases e
    rfl
  · rw [List.getElem?_eq_none (by simpa using hi)] at e
    cases e
def lim (i : Int) : Bool := decide (-(2 ^ 62) ≤ i ∧ i < 2 ^ 62)
def rng1 (evs : List EV) : M (List D) := fun r => match evs with
  | [a] => match look r a with
    | some (.int j) => if lim j = true then .ok (rng 0 j) r else .no
    | _ => .no
  | _ => .no
def rng2 (evs : List EV) : M (List D) := fun r => match evs with
  | [a, b] => match look r a, look r b with
    | some (.int i), some (.int j) => if lim i = true ∧ lim j = true then .ok (rng i j) r else .no
    | _, _ => .no
  | _ => .no
def mRng1 (ms : M (List EV)) : M (List D) := bnd ms rng1
def mRng2 (ms : M (List EV)) : M (List D) := bnd ms rng2
theorem pmi_rng1 {a : Expr} {ms : M (List EV)} {p pos : Pos} (hg : Gl X "range") (hm : X.mg "range" = none) (ha : PA X [a] (tEs C v0 W ms)) (hs : starEach [a] X.env = [(false, eval a X.env)] := by rfl) : PI X tg (.Call (.Name "range" p) [a] [] pos) (tI C v0 W (mRng1 ms)) := by
  refine PI.imp (pi_range1 hg hm ha hs) fun σ H R ⟨A, r, p, q⟩ => ⟨A, r, p, ?_⟩
  refine tE_bnd p .refl q fun A1 r1 H1 evs vs p1 s1 e1 q1 => ?_
  unfold rng1 at q1
  split at q1
  · have e1 := e1.1
    cases e1 with
    | cons x1 x2 =>
      cases x2
      split at q1
      · rename_i j hj
        by_cases hl : lim j = true
        · rw [if_pos hl] at q1
          have := (x1.look p1 hj).int
          subst this
          have hl' : -(2 ^ 62) ≤ j ∧ j < 2 ^ 62 := by simpa [lim] using hl
          refine ⟨j, rfl, hl'.1, hl'.2, q1 A1 H1 _ p1 s1 ?_⟩
          have := wlk_rng (C := C) (A := A1) (H := H1) (lo := 0) (n := j.toNat)
          simpa [rng, RelJ] using this
        · rw [if_neg hl] at q1; exact q1.elim
      · exact q1.elim
  · exact q1.elim
theorem pmi_rng2 {a b : Expr} {ms : M (List EV)} {p pos : Pos} (hg : Gl X "range") (hm : X.mg "range" = none) (ha : PA X [a, b] (tEs C v0 W ms)) (hs : starEach [a, b] X.env = [(false, eval a X.env), (false, eval b X.env)] := by rfl) (hs2 : starEach [b] X.env = [(false, eval b X.env)] := by rfl) :
    PI X tg (.Call (.Name "range" p) [a, b] [] pos) (tI C v0 W (mRng2 ms)) := by
  refine PI.imp (pi_range2 hg hm ha hs hs2) fun σ H R ⟨A, r, p, q⟩ => ⟨A, r, p, ?_⟩
  refine tE_bnd p .refl q fun A1 r1 H1 evs vs p1 s1 e1 q1 => ?_
  unfold rng2 at q1
  split at q1
  · have e1 := e1.1
    cases e1 with
    | cons x1 x2 =>
      cases x2 with
      | cons x2 x3 =>
        cases x3
        split at q1
        · rename_i i j hi hj
          by_cases hl : lim i = true ∧ lim j = true
          · rw [if_pos hl] at q1
            have h1 := (x1.look p1 hi).int
            have h2 := (x2.look p1 hj).int
            subst h1; subst h2
            have hl1 : -(2 ^ 62) ≤ i ∧ i < 2 ^ 62 := by simpa [lim] using hl.1
            have hl2 : -(2 ^ 62) ≤ j ∧ j < 2 ^ 62 := by simpa [lim] using hl.2
            exact ⟨i, j, rfl, ⟨hl1.1, hl1.2, hl2.1, hl2.2⟩, q1 A1 H1 _ p1 s1 wlk_rng⟩
          · rw [if_neg hl] at q1; exact q1.elim
        · exact q1.elim
  · exact q1.elim
end

/-! ### for, while -/
def tgtM (T : Tgt) (d : D) : M Unit := fun r => match T d r with
  | some r1 => .ok () r1
  | none => .no
def loopF (T : Tgt) (body : M Fl) : List D → M Fl
  | [] => rt .nx
  | d :: ds => bnd (tgtM T d) fun _ => bnd body fun fl => match fl with
    | .nx => loopF T body ds
    | .ct => loopF T body ds
    | .bk => rt .nx
    | .rt ev => rt (.rt ev)
def mFor (mi : M (List D)) (T : Tgt) (body : M Fl) : M Fl := bnd mi fun ds => loopF T body ds
def whileN (c : M Bool) (body : M Fl) : Nat → M Fl
  | 0 => fun _ => .no
  | n + 1 => bnd c fun b => if b = true then bnd body fun fl => match fl with
    | .nx => whileN c body n
    | .ct => whileN c body n
    | .bk => rt .nx
    | .rt ev => rt (.rt ev)
    else rt .nx
open Classical in
noncomputable def mWhile (c : M Bool) (body : M Fl) : M Fl := fun r => if h : ∃ n, whileN c body n r ≠ .no then whileN c body (Classical.choose h) r else .no
theorem whileN_up {c : M Bool} {body : M Fl} : ∀ {n : Nat} {r : List SV}, whileN c body n r ≠ .no → whileN c body (n + 1) r = whileN c body n r
  | 0, r, h => absurd rfl h
  | n + 1, r, h => by
    show bnd c _ r = bnd c _ r
    unfold whileN bnd at h
    unfold bnd
    cases ec : c r with
    | no => rfl
    | exc _ _ _ => rfl
    | ok b r1 =>
      rw [ec] at h
      dsimp only at h ⊢
      cases b with
      | false => rfl
      | true =>
        rw [if_pos rfl] at h
        rw [if_pos rfl, if_pos rfl]
        cases eb : body r1 with
        | no => rfl
        | exc _ _ _ => rfl
        | ok fl r2 =>
          rw [eb] at h
          dsimp only at h ⊢
          cases fl with
          | nx => exact whileN_up h
          | ct => exact whileN_up h
          | bk => rfl
          | rt _ => rfl
theorem whileN_le {c : M Bool} {body : M Fl} {n k : Nat} {r : List SV} (h : whileN c body n r ≠ .no) (hk : n ≤ k) : whileN c body k r = whileN c body n r := by
  induction k with
  | zero => rw [Nat.le_zero.mp hk]
  | succ k ih =>
    rcases Nat.lt_or_ge k n with h1 | h1
    · rw [show k + 1 = n by omega]
    · have := ih h1
      rw [← this] at h ⊢
      exact whileN_up h
theorem mWhile_eq {c : M Bool} {body : M Fl} {n : Nat} {r : List SV} {x : R Fl} (h : whileN c body n r = x) (hx : x ≠ .no) : mWhile c body r = x := by
  have hn : whileN c body n r ≠ .no := by rw [h]; exact hx
  unfold mWhile
  rw [dif_pos ⟨n, hn⟩]
  have h2 := Classical.choose_spec (⟨n, hn⟩ : ∃ n, whileN c body n r ≠ .no)
  rw [← h, ← whileN_le hn (Nat.le_max_left n _), whileN_le h2 (Nat.le_max_right n _)]
section
variable {X : Cx} {C : Ct} {v0 : List V} {W : WX} {tg e iter : Expr} {body : List Stmt} {mi : M (List D)} {T : Tgt} {mb : M Fl} {mc : M Bool} {pos : Pos}
theorem pms_for (hp : PassesOwn (model X.prog X.w) X.A X.env X.xe) (hc : X.calm = true) (hi : PI X tg iter (tI C v0 W mi)) (hg : PG X tg (tG C v0 T)) (hb : PSs X body (tS C v0 W mb)) (hs : ∀ x, foldedSetIterable iter X.env x = pure x := by intro _; rfl) :
    PS X (.For tg iter body [] pos) (tS C v0 W (mFor mi T mb)) := by
  refine PS.imp (ps_for hp hc hi hg hb hs) fun N σ H ⟨A, r, p, q⟩ => ⟨A, r, p, ?_⟩
  refine tS_bnd p .refl q fun A1 r1 H1 ds J p1 s1 w1 q1 => ?_
  refine ⟨fun i m σ' H' => m = ds.length - i ∧ i ≤ ds.length ∧ ∃ A' r', Rp C v0 A' r' σ' H' ∧ Carry A1 A' H1 H' ∧ PoS C v0 W A' r' σ' H' N (loopF T mb (ds.drop i) r'), ⟨ds.length, by simp, Nat.zero_le _, A1, r1, p1, .refl, PoS.shift s1 q1⟩, ?_⟩
  rintro i m σ' H' ⟨rfl, hi, A', r', p', c', q'⟩
  obtain ⟨go, stop, yld⟩ := w1 A' H' c'
  by_cases hlt : i < ds.length
  · refine .inr ⟨go i hlt, fun σ2 H2 => i + 1 ≤ ds.length ∧ ∃ A2 r2, Rp C v0 A2 r2 σ2 H2 ∧ Carry A1 A2 H1 H2 ∧ PoS C v0 W A2 r2 σ2 H2 N (loopF T mb (ds.drop (i + 1)) r2), fun σ2 H2 ⟨h1, h2⟩ => ⟨ds.length - (i + 1), by omega, rfl, h1, h2⟩, fun x H2 y => ?_⟩
    obtain ⟨ext, rel⟩ := yld i x H2 _ (List.getElem?_eq_getElem hlt) y
    have p2 := p'.ext ext
    have s2 : Stp A' r' σ' H' A' r' σ' H2 := stp_ext ext
    rw [List.drop_eq_getElem_cons hlt] at q'
    unfold loopF bnd tgtM at q'
    cases et : T ds[i] r' with
    | none => rw [et] at q'; exact q'.elim
    | some r3 =>
      rw [et] at q'
      dsimp only at q'
      refine ⟨A', r', ds[i], r3, p2, rel, et, fun σ3 p3 s3 => ⟨A', r3, p3, ?_⟩⟩
      have s23 := s2.trans s3
      have cc : ∀ {A4 : Addr → Prop} {r4 : List SV} {σ4 : St} {H4 : Hp}, Stp A' r3 σ3 H2 A4 r4 σ4 H4 → Carry A1 A4 H1 H4 := fun {A4 r4 σ4 H4} s4 => c'.trans (p'.carry (s23.trans s4))
      cases eb : mb r3 with
      | no => rw [eb] at q'; exact q'.elim
      | exc c fs r4 => rw [eb] at q'; exact fun A4 σ4 H4 cl d p4 s4 x => q' A4 σ4 H4 cl d p4 (s23.trans s4) x
      | ok fl r4 =>
        rw [eb] at q'
        cases fl with
        | nx => exact fun A4 σ4 H4 p4 s4 => ⟨hlt, A4, r4, p4, cc s4, PoS.shift (s23.trans s4) q'⟩
        | ct => exact fun A4 σ4 H4 p4 s4 => ⟨hlt, A4, r4, p4, cc s4, PoS.shift (s23.trans s4) q'⟩
        | bk => exact fun A4 σ4 H4 p4 s4 => q' A4 σ4 H4 p4 (s23.trans s4)
        | rt ev => exact PoS.shift s23 q'
  · refine .inl ⟨stop i (by omega), ?_⟩
    rw [List.drop_eq_nil_of_le (by omega)] at q'
    exact q' A' σ' H' p' .refl
theorem pms_while (hp : PassesOwn (model X.prog X.w) X.A X.env X.xe) (hc : PT X e (tT C v0 W mc)) (hb : PSs X body (tS C v0 W mb)) : PS X (.While e body [] pos) (tS C v0 W (mWhile mc mb)) := by
  refine PS.imp (ps_while hp hc hb) fun N σ H ⟨A, r, p, q⟩ => ?_
  unfold mWhile at q
  split at q
  · rename_i h
    generalize Classical.choose h = n at q
    refine ⟨fun m σ' H' => ∃ A' r', Rp C v0 A' r' σ' H' ∧ PoS C v0 W A' r' σ' H' N (whileN mc mb m r'), ⟨n, A, r, p, q⟩, ?_⟩
    rintro m σ' H' ⟨A', r', p', q'⟩
    cases m with
    | zero => exact q'.elim
    | succ m =>
      refine ⟨A', r', p', ?_⟩
      refine tS_bnd p' .refl q' fun A1 r1 H1 x y p1 s1 e1 q1 => ?_
      have e1 : y = x := e1
      subst e1
      cases y with
      | false => exact q1 A1 σ' H1 p1 s1
      | true =>
        rw [if_pos rfl]
        rw [if_pos rfl] at q1
        refine ⟨fun σ2 H2 => ∃ A2 r2, Rp C v0 A2 r2 σ2 H2 ∧ PoS C v0 W A2 r2 σ2 H2 N (whileN mc mb m r2), fun σ2 H2 h => ⟨m, Nat.lt_succ_self m, h⟩, A1, r1, p1, ?_⟩
        unfold bnd at q1
        cases eb : mb r1 with
        | no => rw [eb] at q1; exact q1.elim
        | exc c fs r4 => rw [eb] at q1; exact fun A4 σ4 H4 cl d p4 s4 x => q1 A4 σ4 H4 cl d p4 (s1.trans s4) x
        | ok fl r4 =>
          rw [eb] at q1
          cases fl with
          | nx => exact fun A4 σ4 H4 p4 s4 => ⟨A4, r4, p4, PoS.shift (s1.trans s4) q1⟩
          | ct => exact fun A4 σ4 H4 p4 s4 => ⟨A4, r4, p4, PoS.shift (s1.trans s4) q1⟩
          | bk => exact fun A4 σ4 H4 p4 s4 => q1 A4 σ4 H4 p4 (s1.trans s4)
          | rt ev => exact PoS.shift s1 q1
  · exact q.elim
end
end Mi
end
section
set_option maxRecDepth 100000
set_option maxHeartbeats 2000000
namespace Mi
open PySem PySem.Spec L2
open PyProof.Rows hiding St

/-! ### data as the library has it -/
mutual
def toPy : D → Option PyData
  | .none => some .none
  | .bl b => some (.bool b)
  | .int i => some (.int i)
  | .str s => some (.str s)
  | .tup xs => (toPyL xs).map .tuple
  | .lst xs => (toPyL xs).map .list
  | _ => none
def toPyL : List D → Option (List PyData)
  | [] => some []
  | d :: r => match toPy d, toPyL r with
    | some x, some y => some (x :: y)
    | _, _ => none
end
mutual
theorem Rel.dp {C : Ct} {A : Addr → Prop} {H : Hp} : ∀ (d : D) {v : V} {y : PyData}, Rel C A H d v → toPy d = some y → Dp C.K H v y
  | .none, _, _, h, e => by cases h; cases e; exact .non
  | .bl b, _, _, h, e => by cases h; cases e; exact .bl b
  | .int i, _, _, h, e => by cases h; cases e; exact .int i
  | .str s, _, _, h, e => by cases h; cases e; exact .str s
  | .tup xs, _, _, ⟨a, vs, e1, h, t⟩, e => by
    unfold toPy at e
    obtain ⟨ys, e2, rfl⟩ := Option.map_eq_some_iff.mp e
    subst e1
    exact .tup h (RelL.dp xs t e2)
  | .lst xs, _, _, ⟨a, vs, e1, h, t⟩, e => by
    unfold toPy at e
    obtain ⟨ys, e2, rfl⟩ := Option.map_eq_some_iff.mp e
    subst e1
    exact .lst (.of h.2) (RelL.dp xs t e2)
  | .dK _, _, _, _, e => by simp [toPy] at e
  | .dT _, _, _, _, e => by simp [toPy] at e
  | .fn _, _, _, _, e => by simp [toPy] at e
  | .ins _ _, _, _, _, e => by simp [toPy] at e
  | .scr _, _, _, _, e => by simp [toPy] at e
theorem RelL.dp {C : Ct} {A : Addr → Prop} {H : Hp} : ∀ (ds : List D) {vs : List V} {ys : List PyData}, RelL C A H ds vs → toPyL ds = some ys → DpAll C.K H vs ys
  | [], _, _, h, e => by cases h; cases e; exact .nil
  | d :: ds, _, _, ⟨v, r, e1, h, t⟩, e => by
    unfold toPyL at e
    cases e2 : toPy d with
    | none => rw [e2] at e; cases e
    | some x =>
      cases e3 : toPyL ds with
      | none => rw [e2, e3] at e; cases e
      | some y =>
        rw [e2, e3] at e
        cases e
        subst e1
        exact .cons (Rel.dp d h e2) (RelL.dp ds t e3)
end
theorem RelW.dp {C : Ct} {A : Addr → Prop} {H : Hp} {d : D} {v : V} {y : PyData} (h : RelW C A H d v) (e : toPy d = some y) : Dp C.K H v y := by
  rcases h with h | ⟨p, rfl, o⟩
  · exact Rel.dp d h e
  · cases d with
    | lst xs =>
      obtain ⟨vs, h, t⟩ := o
      unfold toPy at e
      obtain ⟨ys, e2, rfl⟩ := Option.map_eq_some_iff.mp e
      exact .lst (.of h) (RelL.dp xs t e2)
    | dK _ => simp [toPy] at e
    | dT _ => simp [toPy] at e
    | ins _ _ => simp [toPy] at e
    | _ => exact o.elim
def eqD (d e : D) : Option Bool := match toPy d, toPy e with
  | some x, some y => if SeqAt.shaped x = true ∧ SeqAt.shaped y = true then some (PyData.eqv x y) else none
  | _, _ => none
def bEq (d e : D) : Option EV := (eqD d e).map fun b => .val (.bl b)
def bNe (d e : D) : Option EV := (eqD d e).map fun b => .val (.bl (!b))
section
variable {X : Cx} {C : Ct}
theorem val2_eq (hK : C.K = X.K) : Val2 C bEq (rEqD X.K) := by
  intro v0 A0 A r0 r σ H0 H d e x y ev Q p s hx hy hf k
  unfold bEq eqD at hf
  cases e1 : toPy d with
  | none => rw [e1] at hf; cases hf
  | some x' =>
    cases e2 : toPy e with
    | none => rw [e1, e2] at hf; cases hf
    | some y' =>
      rw [e1, e2] at hf
      dsimp only at hf
      by_cases hs : SeqAt.shaped x' = true ∧ SeqAt.shaped y' = true
      · rw [if_pos hs] at hf
        cases hf
        rw [← hK]
        exact ⟨x', y', hx.dp e1, hy.dp e2, hs.1, hs.2, k A H _ p s rfl⟩
      · rw [if_neg hs] at hf; cases hf
theorem val2_ne (hK : C.K = X.K) : Val2 C bNe (rNeD X.K) := by
  intro v0 A0 A r0 r σ H0 H d e x y ev Q p s hx hy hf k
  unfold bNe eqD at hf
  cases e1 : toPy d with
  | none => rw [e1] at hf; cases hf
  | some x' =>
    cases e2 : toPy e with
    | none => rw [e1, e2] at hf; cases hf
    | some y' =>
      rw [e1, e2] at hf
      dsimp only at hf
      by_cases hs : SeqAt.shaped x' = true ∧ SeqAt.shaped y' = true
      · rw [if_pos hs] at hf
        cases hf
        rw [← hK]
        exact ⟨x', y', hx.dp e1, hy.dp e2, hs.1, hs.2, k A H _ p s rfl⟩
      · rw [if_neg hs] at hf; cases hf
end

/-! ### arithmetic -/
def bAdd : D → D → Option EV
  | .int i, .int j => some (.val (.int (i + j)))
  | .int i, .bl b => some (.val (.int (i + b2i b)))
  | .str i, .str j => if i.length + j.length ≤ sizeLine then some (.val (.str (i ++ j))) else none
  | .lst xs, .lst ys => if xs.length + ys.length ≤ sizeLine then some (.own (.lst (xs ++ ys))) else none
  | .tup xs, .tup ys => if xs.length + ys.length ≤ sizeLine then some (.val (.tup (xs ++ ys))) else none
  | _, _ => none
def bSub : D → D → Option EV
  | .int i, .int j => some (.val (.int (i - j)))
  | _, _ => none
def okMul (i j : Int) : Bool := decide (i.natAbs.log2 + j.natAbs.log2 < 1000000)
def bMul : D → D → Option EV
  | .int i, .int j => if okMul i j = true then some (.val (.int (i * j))) else none
  | .lst xs, .int k => if -(2 ^ 63) ≤ k ∧ k < 2 ^ 63 ∧ xs.length * k.toNat ≤ sizeLine then some (.own (.lst (List.replicate k.toNat xs).flatten)) else none
  | _, _ => none
def okDiv (j : Int) : Bool := decide (j ≠ 0 ∧ j.natAbs.log2 < 9000)
def bDiv : D → D → Option EV
  | .int i, .int j => if okDiv j = true then some (.val (.int (i.fdiv j))) else none
  | _, _ => none
def bMod : D → D → Option EV
  | .int i, .int j => if j ≠ 0 then some (.val (.int (i.fmod j))) else none
  | _, _ => none
def okPow (i j : Int) : Bool := decide (0 ≤ j ∧ j ≤ 1000000 ∧ i.natAbs < 2 ^ 64)
def bPow : D → D → Option EV
  | .int i, .int j => if okPow i j = true then some (.val (.int (i ^ j.toNat))) else none
  | _, _ => none
def uNeg : D → Option EV
  | .int i => some (.val (.int (-i)))
  | _ => none
section
variable {X : Cx} {C : Ct}
theorem op_fdivX : OpR X (binaryOp .FloorDiv) (rI (fun _ j => j ≠ 0 ∧ j.natAbs.log2 < 9000) fun i j => .int (i.fdiv j)) := opI fun _ _ _ _ _ _ _ hc q => floordiv_int hc.1 q (.inl (PyProof.noPylong_of_log2 hc.2))
theorem val2_sub : Val2 C bSub (rI0 fun i j => .int (i - j)) := by
  intro v0 A0 A r0 r σ H0 H d e x y ev Q p s hx hy hf k
  unfold bSub at hf
  split at hf
  · cases hf; exact ⟨_, _, hx.int, hy.int, k A H _ p s rfl⟩
  · cases hf
theorem val2_div : Val2 C bDiv (rI (fun _ j => j ≠ 0 ∧ j.natAbs.log2 < 9000) fun i j => .int (i.fdiv j)) := by
  intro v0 A0 A r0 r σ H0 H d e x y ev Q p s hx hy hf k
  unfold bDiv at hf
  split at hf
  · rename_i i j
    by_cases h : okDiv j = true
    · rw [if_pos h] at hf
      cases hf; exact ⟨_, _, hx.int, hy.int, of_decide_eq_true h, k A H _ p s rfl⟩
    · rw [if_neg h] at hf; cases hf
  · cases hf
theorem val2_mod : Val2 C bMod (rI (fun _ j => j ≠ 0) fun i j => .int (i.fmod j)) := by
  intro v0 A0 A r0 r σ H0 H d e x y ev Q p s hx hy hf k
  unfold bMod at hf
  split at hf
  · rename_i i j
    by_cases h : j ≠ 0
    · rw [if_pos h] at hf
      cases hf; exact ⟨_, _, hx.int, hy.int, h, k A H _ p s rfl⟩
    · rw [if_neg h] at hf; cases hf
  · cases hf
theorem val2_pow : Val2 C bPow (rI CPow fun i j => .int (i ^ j.toNat)) := by
  intro v0 A0 A r0 r σ H0 H d e x y ev Q p s hx hy hf k
  unfold bPow at hf
  split at hf
  · rename_i i j
    by_cases h : okPow i j = true
    · rw [if_pos h] at hf
      cases hf; exact ⟨_, _, hx.int, hy.int, (by have h := of_decide_eq_true (show decide (0 ≤ j ∧ j ≤ 1000000 ∧ i.natAbs < 2 ^ 64) = true from h); exact h), k A H _ p s rfl⟩
    · rw [if_neg h] at hf; cases hf
  · cases hf
def rMulA : R2 := fun x y H Q => rI CMulW (fun i j => .int (i * j)) x y H Q ∨ rRep x y H Q
theorem op_mulA : OpR X (binaryOp .Mult) rMulA := OpR.or op_mulW op_rep
theorem replicate_rel {A : Addr → Prop} {H : Hp} {xs : List D} {vs : List V} (t : RelL C A H xs vs) : ∀ n : Nat, RelL C A H (List.replicate n xs).flatten (List.replicate n vs).flatten
  | 0 => rfl
  | n + 1 => by
    rw [List.replicate_succ, List.replicate_succ, List.flatten_cons, List.flatten_cons]
    exact t.append (replicate_rel t n)
theorem val2_mul : Val2 C bMul rMulA := by
  intro v0 A0 A r0 r σ H0 H d e x y ev Q p s hx hy hf k
  unfold bMul at hf
  split at hf
  · rename_i i j
    by_cases h : okMul i j = true
    · rw [if_pos h] at hf
      cases hf; exact .inl ⟨_, _, hx.int, hy.int, (by have h := of_decide_eq_true (show decide (i.natAbs.log2 + j.natAbs.log2 < 1000000) = true from h); exact h), k A H _ p s rfl⟩
    · rw [if_neg h] at hf; cases hf
  · rename_i xs n
    by_cases h : -(2 ^ 63) ≤ n ∧ n < 2 ^ 63 ∧ xs.length * n.toNat ≤ sizeLine
    · rw [if_pos h] at hf
      cases hf
      obtain ⟨a, vs, rfl, ha, t⟩ := hx.lst
      refine .inr ⟨a, n, vs, rfl, hy.int, ha, h.1, h.2.1, by rw [t.length]; exact h.2.2, fun q hq => ?_⟩
      obtain ⟨p2, s2, e2⟩ := lay_own (d := .lst (List.replicate n.toNat xs).flatten) (o := .lst (List.replicate n.toNat vs).flatten) p s hq ⟨_, upd_same, (replicate_rel t n.toNat).carry (carry_lay hq)⟩
      exact k A _ _ p2 s2 e2
    · rw [if_neg h] at hf; cases hf
  · cases hf
def rAddA (K : PySem.W.Frag) : R2 := fun x y H Q => (rI0 (fun i j => .int (i + j)) x y H Q ∨ (∃ i k, x = .int i ∧ y = .bl k ∧ Q (.int (i + b2i k)) H)) ∨
  ((∃ i j, x = .str i ∧ y = .str j ∧ i.length + j.length ≤ sizeLine ∧ Q (.str (i ++ j)) H) ∨ (rCat x y H Q ∨ rCatA K x y H Q))
theorem op_addA : OpR X (binaryOp .Add) (rAddA X.K) := OpR.or (OpR.or op_add op_add_ib) (OpR.or op_add_str (OpR.or op_cat op_catA))
theorem val2_add (hK : C.K = X.K) : Val2 C bAdd (rAddA X.K) := by
  intro v0 A0 A r0 r σ H0 H d e x y ev Q p s hx hy hf k
  unfold bAdd at hf
  split at hf
  · cases hf; exact .inl (.inl ⟨_, _, hx.int, hy.int, k A H _ p s rfl⟩)
  · cases hf; exact .inl (.inr ⟨_, _, hx.int, hy.bl, k A H _ p s rfl⟩)
  · split at hf
    · rename_i h
      cases hf; exact .inr (.inl ⟨_, _, hx.str, hy.str, h, k A H _ p s rfl⟩)
    · cases hf
  · rename_i xs ys
    split at hf
    · rename_i h
      cases hf
      obtain ⟨a, vs, rfl, ha, t⟩ := hx.lst
      obtain ⟨b, ws, rfl, hb, u⟩ := hy.lst
      refine .inr (.inr (.inl ⟨a, b, vs, ws, rfl, rfl, ha, hb, by rw [t.length, u.length]; exact h, fun q hq => ?_⟩))
      obtain ⟨p2, s2, e2⟩ := lay_own (d := .lst (xs ++ ys)) (o := .lst (vs ++ ws)) p s hq ⟨_, upd_same, (t.append u).carry (carry_lay hq)⟩
      exact k A _ _ p2 s2 e2
    · cases hf
  · rename_i xs ys
    split at hf
    · rename_i h
      cases hf
      obtain ⟨a, vs, rfl, ha, t⟩ := hx.tup
      obtain ⟨b, ws, rfl, hb, u⟩ := hy.tup
      refine .inr (.inr (.inr ⟨a, b, vs, ws, rfl, rfl, by rw [← hK]; exact ha, by rw [← hK]; exact hb, by rw [t.length, u.length]; exact h, fun e1 => ?_, fun e1 e2 => ?_, fun e1 e2 q hq => ?_⟩))
      · have : xs = [] := List.eq_nil_of_length_eq_zero (by rw [← t.length, e1]; rfl)
        subst this
        exact k A H _ p s ⟨b, ws, rfl, hb, u⟩
      · have : ys = [] := List.eq_nil_of_length_eq_zero (by rw [← u.length, e2]; rfl)
        subst this
        exact k A H _ p s ⟨a, vs, rfl, ha, by simpa using t⟩
      · obtain ⟨p2, s2, e2⟩ := lay_tup p hq (t.append u)
        exact k A _ _ p2 (s.trans s2) e2
    · cases hf
  · cases hf
theorem val1_neg : Val1 C uNeg (rU fun i => .int (-i)) := by
  intro v0 A0 A r0 r σ H0 H d x ev Q p s hx hf k
  unfold uNeg at hf
  split at hf
  · cases hf; exact ⟨_, hx.int, k A H _ p s rfl⟩
  · cases hf

/-! ### order -/
def ltS (i j : Str) : Bool := decide (i.cps.toList < j.cps.toList)
def bLt : D → D → Option EV
  | .int i, .int j => some (.val (.bl (decide (i < j))))
  | .str i, .str j => some (.val (.bl (ltS i j)))
  | _, _ => none
def bGt : D → D → Option EV
  | .int i, .int j => some (.val (.bl (decide (j < i))))
  | .str i, .str j => some (.val (.bl (ltS j i)))
  | _, _ => none
def bLe : D → D → Option EV
  | .int i, .int j => some (.val (.bl (decide (i ≤ j))))
  | .str i, .str j => some (.val (.bl (!ltS j i)))
  | _, _ => none
def bGe : D → D → Option EV
  | .int i, .int j => some (.val (.bl (decide (j ≤ i))))
  | .str i, .str j => some (.val (.bl (!ltS i j)))
  | _, _ => none
def rStr (f : Str → Str → Bool) : R2 := fun x y H Q => ∃ i j, x = .str i ∧ y = .str j ∧ Q (.bl (f i j)) H
def rOrd (f : Int → Int → Bool) (g : Str → Str → Bool) : R2 := fun x y H Q => rI0 (fun i j => .bl (f i j)) x y H Q ∨ rStr g x y H Q
theorem op_ltA : OpR X (compareOp .Lt) (rOrd (fun i j => decide (i < j)) ltS) := OpR.or op_lt op_lt_str
theorem op_gtA : OpR X (compareOp .Gt) (rOrd (fun i j => decide (j < i)) fun i j => ltS j i) := OpR.or op_gt op_gt_str
theorem op_leA : OpR X (compareOp .LtE) (rOrd (fun i j => decide (i ≤ j)) fun i j => !ltS j i) := OpR.or op_le op_le_str
theorem op_geA : OpR X (compareOp .GtE) (rOrd (fun i j => decide (j ≤ i)) fun i j => !ltS i j) := OpR.or op_ge op_ge_str
theorem val2_lt : Val2 C bLt (rOrd (fun i j => decide (i < j)) ltS) := by
  intro v0 A0 A r0 r σ H0 H d e x y ev Q p s hx hy hf k
  unfold bLt at hf
  split at hf
  · cases hf; exact .inl ⟨_, _, hx.int, hy.int, k A H _ p s rfl⟩
  · cases hf; exact .inr ⟨_, _, hx.str, hy.str, k A H _ p s rfl⟩
  · cases hf
theorem val2_gt : Val2 C bGt (rOrd (fun i j => decide (j < i)) fun i j => ltS j i) := by
  intro v0 A0 A r0 r σ H0 H d e x y ev Q p s hx hy hf k
  unfold bGt at hf
  split at hf
  · cases hf; exact .inl ⟨_, _, hx.int, hy.int, k A H _ p s rfl⟩
  · cases hf; exact .inr ⟨_, _, hx.str, hy.str, k A H _ p s rfl⟩
  · cases hf
theorem val2_le : Val2 C bLe (rOrd (fun i j => decide (i ≤ j)) fun i j => !ltS j i) := by
  intro v0 A0 A r0 r σ H0 H d e x y ev Q p s hx hy hf k
  unfold bLe at hf
  split at hf
  · cases hf; exact .inl ⟨_, _, hx.int, hy.int, k A H _ p s rfl⟩
  · cases hf; exact .inr ⟨_, _, hx.str, hy.str, k A H _ p s rfl⟩
  · cases hf
theorem val2_ge : Val2 C bGe (rOrd (fun i j => decide (j ≤ i)) fun i j => !ltS i j) := by
  intro v0 A0 A r0 r σ H0 H d e x y ev Q p s hx hy hf k
  unfold bGe at hf
  split at hf
  · cases hf; exact .inl ⟨_, _, hx.int, hy.int, k A H _ p s rfl⟩
  · cases hf; exact .inr ⟨_, _, hx.str, hy.str, k A H _ p s rfl⟩
  · cases hf
/-! ### is -/
def D.isNone : D → Bool
  | .none => true
  | _ => false
def isD (neg : Bool) : D → D → Option EV
  | d, .none => some (.val (.bl (if neg = true then !d.isNone else d.isNone)))
  | .bl a, .bl b => some (.val (.bl (if neg = true then !decide (a = b) else decide (a = b))))
  | _, _ => none
def rIsA (neg : Bool) : R2 := fun x y H Q => (y = .non ∧ Q (.bl (if neg = true then !decide (x = .non) else decide (x = .non))) H) ∨ (∃ a b : Bool, x = .bl a ∧ y = .bl b ∧ Q (.bl (if neg = true then !decide (a = b) else decide (a = b))) H)
theorem op_isA : OpR X (compareOp .Is) (rIsA false) := OpR.or op_isN op_isBl
theorem op_isnotA : OpR X (compareOp .IsNot) (rIsA true) := OpR.or op_notN op_notBl
theorem relW_non {A : Addr → Prop} {H : Hp} {d : D} (h : RelW C A H d .non) : d = .none := by
  rcases h with h | ⟨p, e, _⟩
  · cases d with
    | none => rfl
    | bl _ => cases h
    | int _ => cases h
    | str _ => cases h
    | tup _ => obtain ⟨_, _, e, _⟩ := h; cases e
    | lst _ => obtain ⟨_, _, e, _⟩ := h; cases e
    | dK _ => obtain ⟨_, _, e, _⟩ := h; cases e
    | dT _ => obtain ⟨_, _, e, _⟩ := h; cases e
    | fn _ => obtain ⟨_, e, _⟩ := h; cases e
    | ins _ _ => obtain ⟨_, _, _, _, e, _⟩ := h; cases e
    | scr _ => obtain ⟨_, e, _⟩ := h; cases e
  · cases e
theorem val2_is (neg : Bool) : Val2 C (isD neg) (rIsA neg) := by
  intro v0 A0 A r0 r σ H0 H d e x y ev Q p s hx hy hf k
  unfold isD at hf
  split at hf
  · refine .inl ⟨hy.non, ?_⟩
    have hd : decide (x = V.non) = d.isNone := by
      by_cases z : x = V.non
      · subst z
        have := relW_non hx
        subst this
        rfl
      · rw [decide_eq_false z]
        cases d with
        | none => exact absurd hx.non z
        | _ => rfl
    rw [hd]
    cases hf
    exact k A H _ p s rfl
  · cases hf; exact .inr ⟨_, _, hx.bl, hy.bl, k A H _ p s rfl⟩
  · cases hf
end
end Mi
end
section
set_option maxRecDepth 100000
set_option maxHeartbeats 2000000
namespace Mi
open PySem PySem.Spec L2
open PyProof.Rows hiding St

/-! ### tables -/
section
variable {κ α : Type} [DecidableEq κ]
def gK (kvs : List (κ × α)) (k : κ) : Option α := (kvs.find? fun kv => decide (kv.1 = k)).map (·.2)
def pK (kvs : List (κ × α)) (k : κ) (v : α) : List (κ × α) :=
  if (kvs.any fun kv => decide (kv.1 = k)) = true then kvs.map (fun kv => if kv.1 = k then (kv.1, v) else kv) else kvs ++ [(k, v)]
end
/-- the tables of one kind of key -/
def RelG (C : Ct) (A : Addr → Prop) (H : Hp) {κ : Type} (kvs : List (κ × D)) (ws : List (κ × V)) : Prop := Paired (fun p q => p.1 = q.1 ∧ Rel C A H p.2 q.2) kvs ws
section
variable {C : Ct} {A A' : Addr → Prop} {H H' : Hp}
theorem relK_g : ∀ {kvs : List (Key × D)} {ws : List (Key × V)}, RelK C A H kvs ws ↔ RelG C A H kvs ws
  | [], ws => ⟨fun h => by cases h; exact .nil, fun h => by cases h; rfl⟩
  | (k, d) :: r, ws => ⟨fun ⟨v, s, e, h, t⟩ => by subst e; exact .cons ⟨rfl, h⟩ (relK_g.mp t), fun h => by
    cases h with
    | @cons _ q _ ws' h t => obtain ⟨k', v⟩ := q; obtain ⟨rfl, h⟩ := h; exact ⟨v, _, rfl, h, relK_g.mpr t⟩⟩
theorem relT_g : ∀ {kvs : List (List Key × D)} {ws : List (List Key × V)}, RelT C A H kvs ws ↔ RelG C A H kvs ws
  | [], ws => ⟨fun h => by cases h; exact .nil, fun h => by cases h; rfl⟩
  | (k, d) :: r, ws => ⟨fun ⟨v, s, e, h, t⟩ => by subst e; exact .cons ⟨rfl, h⟩ (relT_g.mp t), fun h => by
    cases h with
    | @cons _ q _ ws' h t => obtain ⟨k', v⟩ := q; obtain ⟨rfl, h⟩ := h; exact ⟨v, _, rfl, h, relT_g.mpr t⟩⟩
variable {κ : Type} [DecidableEq κ]
theorem RelG.carry (c : Carry A A' H H') {kvs : List (κ × D)} {ws : List (κ × V)} (h : RelG C A H kvs ws) : RelG C A' H' kvs ws := Paired.mapP h fun _ _ z => ⟨z.1, z.2.carry c⟩
theorem RelG.get : ∀ {kvs : List (κ × D)} {ws : List (κ × V)} (k : κ), RelG C A H kvs ws → (∀ d, gK kvs k = some d → ∃ v, valV ws k = some v ∧ Rel C A H d v) ∧ (gK kvs k = none → valV ws k = none)
  | [], _, k, h => by cases h; exact ⟨fun d e => by simp [gK] at e, fun _ => rfl⟩
  | (k', d) :: r, _, k, h => by
    cases h with
    | @cons _ q _ ws' h t =>
      obtain ⟨k2, v⟩ := q
      obtain ⟨e, h⟩ := h
      have e : k' = k2 := e
      subst e
      have ih := RelG.get k t
      by_cases hk : k' = k
      · have z : valV ((k', v) :: ws') k = some v := valV_pos hk
        refine ⟨fun d' e' => ⟨v, z, ?_⟩, fun e' => ?_⟩
        · have : d = d' := by simpa [gK, List.find?_cons, hk] using e'
          rw [← this]; exact h
        · simp [gK, List.find?_cons, hk] at e'
      · have z : valV ((k', v) :: ws') k = valV ws' k := valV_neg hk
        have y : gK ((k', d) :: r) k = gK r k := by simp [gK, List.find?_cons, hk]
        rw [z, y]
        exact ih
theorem RelG.any {kvs : List (κ × D)} {ws : List (κ × V)} (k : κ) (h : RelG C A H kvs ws) : (kvs.any fun kv => decide (kv.1 = k)) = ws.any fun kv => decide (kv.1 = k) := by
  induction h with
  | nil => rfl
  | cons h _ ih => rw [List.any_cons, List.any_cons, ih, h.1]
theorem RelG.append {kvs more : List (κ × D)} {ws mws : List (κ × V)} (h : RelG C A H kvs ws) (h2 : RelG C A H more mws) : RelG C A H (kvs ++ more) (ws ++ mws) := by
  induction h with
  | nil => exact h2
  | cons h _ ih => exact .cons h ih
theorem RelG.put {kvs : List (κ × D)} {ws : List (κ × V)} {k : κ} {d : D} {v : V} (h : RelG C A H kvs ws) (hd : Rel C A H d v) : RelG C A H (pK kvs k d) (putK ws k v) := by
  unfold pK putK
  rw [h.any k]
  split
  · rename_i hc
    clear hc
    induction h with
    | nil => exact .nil
    | @cons p q _ _ hh _ ih =>
      refine .cons ?_ ih
      obtain ⟨p1, p2⟩ := p
      obtain ⟨q1, q2⟩ := q
      obtain ⟨e, hh⟩ := hh
      have e : p1 = q1 := e
      subst e
      by_cases hk : p1 = k
      · dsimp only; rw [if_pos hk, if_pos hk]; exact ⟨rfl, hd⟩
      · dsimp only; rw [if_neg hk, if_neg hk]; exact ⟨rfl, hh⟩
  · exact h.append (.cons ⟨rfl, hd⟩ .nil)
theorem RelG.len {kvs : List (κ × D)} {ws : List (κ × V)} (h : RelG C A H kvs ws) : ws.length = kvs.length := (Paired.length h).symm
end
/-- a key -/
def keyD : D → Option Key
  | .int i => some (.inl i)
  | .str s => some (.inr s)
  | _ => none
def keysL : List D → Option (List Key)
  | [] => some []
  | d :: r => match keyD d, keysL r with
    | some k, some ks => some (k :: ks)
    | _, _ => none
def keyT : D → Option (List Key)
  | .tup xs => keysL xs
  | _ => none
section
variable {C : Ct} {A : Addr → Prop} {H : Hp}
theorem keyD_rel {d : D} {v : V} {k : Key} (h : Rel C A H d v) (e : keyD d = some k) : v = kV k := by
  unfold keyD at e
  split at e
  · cases e; cases h; rfl
  · cases e; cases h; rfl
  · cases e
theorem keysL_rel : ∀ {ds : List D} {vs : List V} {ks : List Key}, RelL C A H ds vs → keysL ds = some ks → vs = ks.map kV
  | [], _, _, h, e => by cases h; cases e; rfl
  | d :: ds, _, _, ⟨v, r, e1, h, t⟩, e => by
    unfold keysL at e
    split at e
    · rename_i k ks e2 e3
      cases e
      subst e1
      rw [keyD_rel h e2, keysL_rel t e3]
      rfl
    · cases e
/-- a dict is asked -/
def dGet (d k : D) : Option (Option D) := match d with
  | .dK kvs => match keyD k with
    | some k => some (gK kvs k)
    | none => none
  | .dT kvs => match keyT k with
    | some k => some (gK kvs k)
    | none => match kvs with
      | [] => match keyD k with
        | some _ => none
        | none => none
      | _ => none
  | _ => none
/-- what stands for a new dict's first key -/
theorem keyW {k : D} {y : V} (h : RelW C A H k y) (n : (keyD k).isSome = true ∨ (keyT k).isSome = true) : Rel C A H k y := by
  rcases h with h | ⟨p, _, o⟩
  · exact h
  · cases k with
    | lst _ => simp [keyD, keyT] at n
    | dK _ => simp [keyD, keyT] at n
    | dT _ => simp [keyD, keyT] at n
    | ins _ _ => simp [keyD, keyT] at n
    | _ => exact o.elim
end
/-- a tuple of keys that is tracked -/
def TrT (H : Hp) (a : Addr) (vs : List V) : Prop := H a = some (.tup vs)
section
variable {X : Cx} {C : Ct} {v0 : List V} {W : WX} {A A0 : Addr → Prop} {r r0 : List SV} {σ : St} {H H0 : Hp}
theorem dGet_ok {d k : D} {x y : V} {o : Option D} (hx : RelW C A H d x) (hy : RelW C A H k y) (e : dGet d k = some o) (ht : ∀ kvs, d ≠ .dT kvs) : ∃ a ov, x = .ref a ∧ DGet H a y ov ∧ (∀ d', o = some d' → ∃ v, ov = some v ∧ Rel C A H d' v) ∧ (o = none → ov = none) := by
  unfold dGet at e
  split at e
  · rename_i kvs
    obtain ⟨a, ws, rfl, ha, t⟩ := hx.dK
    cases ek : keyD k with
    | none => rw [ek] at e; cases e
    | some k' =>
      rw [ek] at e
      cases e
      have := keyD_rel (keyW hy (.inl (by rw [ek]; rfl))) ek
      subst this
      have g := RelG.get k' (relK_g.mp t)
      exact ⟨a, _, rfl, DGet.k ha, fun d' e' => g.1 d' e', g.2⟩
  · rename_i kvs; exact absurd rfl (ht kvs)
  · cases e

/-! ### a[i] -/
def at1 {α : Type} (xs : List α) (i : Int) : Option α := (ixN xs.length i).bind fun j => xs[j]?
def bIx : D → D → Option EV
  | .lst xs, .int i => (at1 xs i).map .val
  | .tup xs, .int i => (at1 xs i).map .val
  | .str s, .int i => if s.length ≤ sizeLine then (at1 s.cps.toList i).map fun c => .val (.str ⟨#[c]⟩) else none
  | .dK kvs, k => match dGet (.dK kvs) k with
    | some (some d) => some (.val d)
    | _ => none
  | _, _ => none
def rIxDk : R2 := fun x y H Q => ∃ a v, x = .ref a ∧ DGet H a y (some v) ∧ Q v H
theorem ix_dk (hu : X.A.units + 1 < cLine) : IxR X rIxDk := by
  intro value slice pins s σ H x y v u Q I rx ry h hs
  obtain ⟨a, z, rfl, g, q⟩ := h
  cases rx
  exact tail_any (dict_typeIs I g) slot_dict_getitem.lookup (d_getItem hu I g ry fun w' s3 I3 rw' => ⟨z, H, I3, rw', q⟩) hs
def rIxA (K : PySem.W.Frag) : R2 := fun x y H Q => rIx K x y H Q ∨ rIxDk x y H Q
theorem ix_any (hu : X.A.units + 1 < cLine) : IxR X (rIxA X.K) := ix_seq.or (ix_dk hu)
theorem at1_rel {ds : List D} {vs : List V} {i : Int} {d : D} (t : RelL C A H ds vs) (e : at1 ds i = some d) : ∃ v, atI vs i = some v ∧ Rel C A H d v := by
  unfold at1 at e
  unfold atI
  rw [t.length]
  cases ej : ixN ds.length i with
  | none => rw [ej] at e; cases e
  | some j => rw [ej] at e; exact t.get e
theorem val2_ix (hK : C.K = X.K) : Val2 C bIx (rIxA X.K) := by
  intro v0 A0 A r0 r σ H0 H d e x y ev Q p s hx hy hf k
  unfold bIx at hf
  split at hf
  · rename_i xs i
    obtain ⟨d', e1, rfl⟩ := Option.map_eq_some_iff.mp hf
    obtain ⟨a, vs, rfl, ha, t⟩ := hx.lst
    obtain ⟨v, e2, hv⟩ := at1_rel t e1
    exact .inl (.inl ⟨a, vs, i, v, rfl, hy.int, .of ha, e2, k A H v p s hv⟩)
  · rename_i xs i
    obtain ⟨d', e1, rfl⟩ := Option.map_eq_some_iff.mp hf
    obtain ⟨a, vs, rfl, ha, t⟩ := hx.tup
    obtain ⟨v, e2, hv⟩ := at1_rel t e1
    exact .inl (.inr (.inl ⟨a, vs, i, v, rfl, hy.int, by rw [← hK]; exact ha, e2, k A H v p s hv⟩))
  · rename_i z i
    by_cases hz : z.length ≤ sizeLine
    · rw [if_pos hz] at hf
      obtain ⟨c, e1, rfl⟩ := Option.map_eq_some_iff.mp hf
      exact .inl (.inr (.inr ⟨z, i, c, hx.str, hy.int, hz, e1, k A H _ p s rfl⟩))
    · rw [if_neg hz] at hf; cases hf
  · rename_i kvs
    cases eg : dGet (.dK kvs) e with
    | none => rw [eg] at hf; cases hf
    | some o =>
      rw [eg] at hf
      cases o with
      | none => cases hf
      | some d' =>
        cases hf
        obtain ⟨a, ov, rfl, g, g1, _⟩ := dGet_ok hx hy eg (fun _ z => nomatch z)
        obtain ⟨v, rfl, hv⟩ := g1 d' rfl
        exact .inr ⟨a, v, rfl, g, k A H v p s hv⟩
  · cases hf
theorem pm_ix {a b : Expr} {ma mb : M EV} {pos : Pos} (hK : C.K = X.K) (hu : X.A.units + 1 < cLine) (ha : PE X a (tE C v0 W ma)) (hb : PE X b (tE C v0 W mb)) (hs : PlainIx b := by exact fun _ _ => rfl) : PE X (.Subscript a b pos) (tE C v0 W (op2 bIx ma mb)) :=
  PE.imp (pe_ix (ix_any hu) ha hb hs) fun σ H Q h => tOp_of (val2_ix hK) h

/-! ### slices -/
def cut {α : Type} (xs : List α) (lo hi : Option Int) : List α := (xs.drop (HT.sIx xs.length 0 lo)).take (HT.sIx xs.length xs.length hi - HT.sIx xs.length 0 lo)
def bSl (d : D) (lo hi : Option Int) : Option EV := match d with
  | .lst xs => some (.own (.lst (cut xs lo hi)))
  | .tup xs => some (.val (.tup (cut xs lo hi)))
  | .str s => if s.length ≤ sizeLine then some (.val (.str (cutS s lo hi))) else none
  | _ => none
def mPart : Option (M EV) → M (Option Int)
  | none => rt none
  | some m => bnd m fun ev r => match look r ev with
    | some (.int i) => .ok (some i) r
    | _ => .no
def slF (lo hi : Option Int) (ev : EV) : M EV := fun r => match look r ev with
  | some d => match bSl d lo hi with
    | some y => .ok y r
    | none => .no
  | none => .no
def mSl (m : M EV) (lo hi : Option (M EV)) : M EV := bnd m fun ev => bnd (mPart lo) fun l => bnd (mPart hi) fun h => slF l h ev
def rSlAny (K : PySem.W.Frag) : V → Option Int → Option Int → Hp → VK → Prop := fun x lo hi H Q => rSlL K x lo hi H Q ∨ (rSlA K x lo hi H Q ∨ rSlS x lo hi H Q)
theorem sl_any : SlR X (rSlAny X.K) := SlR.or sl_list (SlR.or sl_tupA sl_str)
/-- a slice's end -/
structure POm (X : Cx) (C : Ct) (v0 : List V) (W : WX) (e : Option Expr) (m : Option (M EV)) : Prop where
  ex : ∃ t : TO, PO X e t ∧ ∀ σ H Q, (∃ A r, Rp C v0 A r σ H ∧ Po C v0 W (fun _ _ _ _ _ a b => b = a) A r σ H Q (mPart m r)) → t σ H Q
theorem pom_none : POm X C v0 W none none := ⟨_, po_none, fun σ H Q ⟨A, r, p, q⟩ => q A H none p .refl rfl⟩
theorem pom_some {e : Expr} {m : M EV} (h : PE X e (tE C v0 W m)) : POm X C v0 W (some e) (some m) := ⟨_, po_some h, fun σ H Q ⟨A, r, p, q⟩ => ⟨A, r, p, by
  refine tE_bnd p .refl q fun A1 r1 H1 ev v p1 s1 e1 q1 => ?_
  split at q1
  · rename_i i hl
    exact ⟨i, (e1.look p1 hl).int, q1 A1 H1 _ p1 s1 rfl⟩
  · exact q1.elim⟩⟩
theorem cut_rel {ds : List D} {vs : List V} (t : RelL C A H ds vs) (lo hi : Option Int) : RelL C A H (cut ds lo hi) (cutV vs lo hi) := by
  unfold cut cutV
  rw [t.length]
  exact (t.drop _).take _
theorem pm_sl {e : Expr} {lo hi : Option Expr} {m : M EV} {ml mh : Option (M EV)} {p2 pos : Pos} (hK : C.K = X.K) (he : PE X e (tE C v0 W m)) (hl : POm X C v0 W lo ml) (hh : POm X C v0 W hi mh) : PE X (.Subscript e (.Slice lo hi none p2) pos) (tE C v0 W (mSl m ml mh)) := by
  obtain ⟨tl, hl, kl⟩ := hl.ex
  obtain ⟨th, hh, kh⟩ := hh.ex
  refine PE.imp (pe_slice sl_any he hl hh) fun σ H Q ⟨A, r, p, q⟩ => ⟨A, r, p, ?_⟩
  refine tE_bnd p .refl q fun A1 r1 H1 ev v p1 s1 e1 q1 => kl _ _ _ ⟨A1, r1, p1, ?_⟩
  refine tE_bnd p1 s1 q1 fun A2 r2 H2 l l' p2 s2 e2 q2 => kh _ _ _ ⟨A2, r2, p2, ?_⟩
  refine tE_bnd p2 (s1.trans s2) q2 fun A3 r3 H3 u u' p3 s3 e3 q3 => ?_
  have e2 : l' = l := e2
  have e3 : u' = u := e3
  subst e2; subst e3
  have e4 := (e1.carry p1 s2).carry p2 s3
  have s4 := (s1.trans s2).trans s3
  unfold slF at q3
  cases ed : look r3 ev with
  | none => rw [ed] at q3; exact q3.elim
  | some d =>
    rw [ed] at q3
    dsimp only at q3
    have w := e4.look p3 ed
    cases eb : bSl d l' u' with
    | none => rw [eb] at q3; exact q3.elim
    | some y =>
      rw [eb] at q3
      unfold bSl at eb
      split at eb
      · rename_i xs
        cases eb
        obtain ⟨a, vs, rfl, ha, t⟩ := w.lst
        refine .inl ⟨a, vs, rfl, .of ha, fun q hq => ?_⟩
        obtain ⟨p5, s5, e5⟩ := lay_own (d := .lst (cut xs l' u')) (o := .lst (cutV vs l' u')) p3 s4 hq ⟨_, upd_same, (cut_rel t l' u').carry (carry_lay hq)⟩
        exact q3 A3 _ _ p5 s5 e5
      · rename_i xs
        cases eb
        obtain ⟨a, vs, rfl, ha, t⟩ := w.tup
        refine .inr (.inl ⟨a, vs, rfl, by rw [← hK]; exact ha, fun hw => ?_, fun hw q hq => ?_⟩)
        · have : cut xs l' u' = xs := by
            unfold cut
            rw [← t.length, hw.1, hw.2]
            simp [t.length]
          refine q3 A3 H3 _ p3 s4 ?_
          rw [this]
          exact ⟨a, vs, rfl, ha, t⟩
        · obtain ⟨p5, s5, e5⟩ := lay_tup p3 hq (cut_rel t l' u')
          exact q3 A3 _ _ p5 (s4.trans s5) e5
      · rename_i z
        by_cases hz : z.length ≤ sizeLine
        · rw [if_pos hz] at eb
          cases eb
          exact .inr (.inr ⟨z, w.str, hz, q3 A3 H3 _ p3 s4 rfl⟩)
        · rw [if_neg hz] at eb; cases eb
      · cases eb

/-! ### in -/
def inS (i j : Str) : Bool := match i.cps.toList with
  | [c] => decide (c ∈ j.cps.toList)
  | _ => !(Builtin.Str.occurrences j i 0 j.length 1).isEmpty
def D.flat : D → Bool
  | .none | .bl _ | .int _ | .str _ => true
  | _ => false
/-- == of flat things -/
def eqF : D → D → Bool
  | .none, .none => true
  | .bl a, .bl b => a == b
  | .bl a, .int b => (if a then 1 else 0) == b
  | .int a, .bl b => a == (if b then 1 else 0)
  | .int a, .int b => a == b
  | .str a, .str b => a == b
  | _, _ => false
def inL (d : D) (xs : List D) : Option Bool := match toPy d, toPyL xs with
  | some x, some ys => if SeqAt.shaped x = true ∧ SeqAt.shaped (.list ys) = true then some (ys.any fun z => PyData.eqv z x) else none
  | _, _ => none
def inD (d e : D) : Option Bool := match e with
  | .lst xs => inL d xs
  | .tup xs => if d.flat = true ∧ xs.all D.flat = true then some (xs.any fun y => eqF y d) else none
  | .str j => match d with
    | .str i => some (inS i j)
    | _ => none
  | .dK kvs => (dGet (.dK kvs) d).map (·.isSome)
  | _ => none
def bIn (d e : D) : Option EV := (inD d e).map fun b => .val (.bl b)
def bNotIn (d e : D) : Option EV := (inD d e).map fun b => .val (.bl (!b))
def rInDk (neg : Bool) : R2 := fun x y H Q => ∃ a o, y = .ref a ∧ DGet H a x o ∧ Q (.bl (if neg = true then !o.isSome else o.isSome)) H
theorem op_inDk (hu : X.A.units + 1 < cLine) : OpR X (compareOp .In) (rInDk false) := by
  intro pins s σ H x y v u Q I rx ry h
  obtain ⟨a, o, rfl, g, q⟩ := h
  cases ry
  exact d_in hu I g rx fun s3 I3 => ⟨.bl o.isSome, H, I3, rfl, q⟩
theorem op_notinDk (hu : X.A.units + 1 < cLine) : OpR X (compareOp .NotIn) (rInDk true) := by
  intro pins s σ H x y v u Q I rx ry h
  obtain ⟨a, o, rfl, g, q⟩ := h
  cases ry
  exact d_notIn hu I g rx fun s3 I3 => ⟨.bl (!o.isSome), H, I3, rfl, q⟩
def rInA (K : PySem.W.Frag) : R2 := fun x y H Q => (rInD K x y H Q ∨ rIn K false x y H Q) ∨ ((rInDk false x y H Q ∨ (∃ (c : Nat) (z : Str), x = .str ⟨#[c]⟩ ∧ y = .str z ∧ Q (.bl (decide (c ∈ z.cps.toList))) H)) ∨ rStr (fun i j => !(Builtin.Str.occurrences j i 0 j.length 1).isEmpty) x y H Q)
def rNotInA (K : PySem.W.Frag) : R2 := fun x y H Q => (rNotInD K x y H Q ∨ rIn K true x y H Q) ∨ ((rInDk true x y H Q ∨ (∃ (c : Nat) (z : Str), x = .str ⟨#[c]⟩ ∧ y = .str z ∧ Q (.bl (!decide (c ∈ z.cps.toList))) H)) ∨ rStr (fun i j => !(!(Builtin.Str.occurrences j i 0 j.length 1).isEmpty)) x y H Q)
theorem op_inA (hu : X.A.units + 65 < cLine) : OpR X (compareOp .In) (rInA X.K) := OpR.or (OpR.or (op_inD hu) op_in_seq) (OpR.or (OpR.or (op_inDk (by omega)) op_in_sign) op_in_str)
theorem op_notinA (hu : X.A.units + 65 < cLine) : OpR X (compareOp .NotIn) (rNotInA X.K) := OpR.or (OpR.or (op_notInD hu) op_notIn_seq) (OpR.or (OpR.or (op_notinDk (by omega)) op_notIn_sign) op_notin_str)
theorem flat_rel {d : D} {v : V} (h : Rel C A H d v) (f : d.flat = true) : flatV v = true := by
  cases d <;> first
    | (cases h; rfl)
    | (simp [D.flat] at f; done)
theorem eqF_rel {d e : D} {v w : V} (h : Rel C A H d v) (k : Rel C A H e w) (f : d.flat = true) (g : e.flat = true) : eqV v w = eqF d e := by
  cases d <;> cases e <;> first
    | (cases h; cases k; rfl)
    | (simp [D.flat] at f; done)
    | (simp [D.flat] at g; done)
theorem inF_rel {d : D} {v : V} (h : Rel C A H d v) (f : d.flat = true) : ∀ {ds : List D} {vs : List V}, RelL C A H ds vs → ds.all D.flat = true → vs.all flatV = true ∧ inV v vs = ds.any fun y => eqF y d
  | [], _, t, _ => by cases t; exact ⟨rfl, rfl⟩
  | e :: ds, _, ⟨w, r, e1, hw, t⟩, g => by
    have g' : e.flat = true ∧ ds.all D.flat = true := by simpa using g
    obtain ⟨i1, i2⟩ := inF_rel h f t g'.2
    subst e1
    unfold inV at i2 ⊢
    refine ⟨by rw [List.all_cons, flat_rel hw g'.1, i1] <;> rfl, by rw [List.any_cons, List.any_cons, i2, eqF_rel hw h g'.1 f]⟩
theorem flatW {d : D} {v : V} (h : RelW C A H d v) (f : d.flat = true) : Rel C A H d v := by
  rcases h with h | ⟨p, _, o⟩
  · exact h
  · cases d with
    | lst _ => cases f
    | dK _ => cases f
    | dT _ => cases f
    | ins _ _ => cases f
    | _ => exact o.elim
theorem inS_sign {c : Nat} {j : Str} : inS ⟨#[c]⟩ j = decide (c ∈ j.cps.toList) := rfl
theorem val2_in (hK : C.K = X.K) : Val2 C bIn (rInA X.K) := by
  intro v0 A0 A r0 r σ H0 H d e x y ev Q p s hx hy hf k
  unfold bIn at hf
  obtain ⟨b, hb, rfl⟩ := Option.map_eq_some_iff.mp hf
  have fin : Q (.bl b) H := k A H _ p s rfl
  unfold inD at hb
  split at hb
  · rename_i xs
    unfold inL at hb
    split at hb
    · rename_i x' ys' e1 e2
      by_cases hs : SeqAt.shaped x' = true ∧ SeqAt.shaped (.list ys') = true
      · rw [if_pos hs] at hb
        cases hb
        refine .inl (.inl ⟨x', ys', by rw [← hK]; exact hx.dp e1, by rw [← hK]; exact hy.dp (by unfold toPy; rw [e2] <;> rfl), hs.1, hs.2, fin⟩)
      · rw [if_neg hs] at hb; cases hb
    · cases hb
  · rename_i xs
    by_cases hs : d.flat = true ∧ xs.all D.flat = true
    · rw [if_pos hs] at hb
      cases hb
      obtain ⟨a, vs, rfl, ha, t⟩ := hy.tup
      obtain ⟨i1, i2⟩ := inF_rel (flatW hx hs.1) hs.1 t hs.2
      refine .inl (.inr ⟨a, vs, rfl, .inr (by rw [← hK]; exact ha), flat_rel (flatW hx hs.1) hs.1, i1, ?_⟩)
      rw [if_neg Bool.false_ne_true, i2]
      exact fin
    · rw [if_neg hs] at hb; cases hb
  · rename_i j
    split at hb
    · rename_i i
      cases hb
      have hx := hx.str
      have hy := hy.str
      subst hx; subst hy
      unfold inS at fin
      split at fin
      · rename_i c hc
        refine .inr (.inl (.inr ⟨c, j, ?_, rfl, fin⟩))
        obtain ⟨⟨l⟩⟩ := i
        simp only at hc
        rw [hc]
      · exact .inr (.inr ⟨i, j, rfl, rfl, fin⟩)
    · cases hb
  · rename_i kvs
    obtain ⟨o, eo, rfl⟩ := Option.map_eq_some_iff.mp hb
    obtain ⟨a, ov, rfl, g, g1, g2⟩ := dGet_ok hy hx eo (fun _ z => nomatch z)
    refine .inr (.inl (.inl ⟨a, ov, rfl, g, ?_⟩))
    rw [if_neg Bool.false_ne_true]
    have : ov.isSome = o.isSome := by
      cases o with
      | none => (rw [g2 rfl]; rfl)
      | some d' => obtain ⟨v, rfl, _⟩ := g1 d' rfl; rfl
    rw [this]
    exact fin
  · cases hb
theorem val2_notin (hK : C.K = X.K) : Val2 C bNotIn (rNotInA X.K) := by
  intro v0 A0 A r0 r σ H0 H d e x y ev Q p s hx hy hf k
  unfold bNotIn at hf
  obtain ⟨b, hb, rfl⟩ := Option.map_eq_some_iff.mp hf
  have fin : Q (.bl (!b)) H := k A H _ p s rfl
  unfold inD at hb
  split at hb
  · rename_i xs
    unfold inL at hb
    split at hb
    · rename_i x' ys' e1 e2
      by_cases hs : SeqAt.shaped x' = true ∧ SeqAt.shaped (.list ys') = true
      · rw [if_pos hs] at hb
        cases hb
        refine .inl (.inl ⟨x', ys', by rw [← hK]; exact hx.dp e1, by rw [← hK]; exact hy.dp (by unfold toPy; rw [e2] <;> rfl), hs.1, hs.2, fin⟩)
      · rw [if_neg hs] at hb; cases hb
    · cases hb
  · rename_i xs
    by_cases hs : d.flat = true ∧ xs.all D.flat = true
    · rw [if_pos hs] at hb
      cases hb
      obtain ⟨a, vs, rfl, ha, t⟩ := hy.tup
      obtain ⟨i1, i2⟩ := inF_rel (flatW hx hs.1) hs.1 t hs.2
      refine .inl (.inr ⟨a, vs, rfl, .inr (by rw [← hK]; exact ha), flat_rel (flatW hx hs.1) hs.1, i1, ?_⟩)
      rw [if_pos rfl, i2]
      exact fin
    · rw [if_neg hs] at hb; cases hb
  · rename_i j
    split at hb
    · rename_i i
      cases hb
      have hx := hx.str
      have hy := hy.str
      subst hx; subst hy
      unfold inS at fin
      split at fin
      · rename_i c hc
        refine .inr (.inl (.inr ⟨c, j, ?_, rfl, fin⟩))
        obtain ⟨⟨l⟩⟩ := i
        simp only at hc
        rw [hc]
      · exact .inr (.inr ⟨i, j, rfl, rfl, fin⟩)
    · cases hb
  · rename_i kvs
    obtain ⟨o, eo, rfl⟩ := Option.map_eq_some_iff.mp hb
    obtain ⟨a, ov, rfl, g, g1, g2⟩ := dGet_ok hy hx eo (fun _ z => nomatch z)
    refine .inr (.inl (.inl ⟨a, ov, rfl, g, ?_⟩))
    rw [if_pos rfl]
    have : ov.isSome = o.isSome := by
      cases o with
      | none => (rw [g2 rfl]; rfl)
      | some d' => obtain ⟨v, rfl, _⟩ := g1 d' rfl; rfl
    rw [this]
    exact fin
  · cases hb
end
end Mi
end
section
set_option maxRecDepth 100000
set_option maxHeartbeats 2000000
namespace Mi
open PySem PySem.Spec L2
open PyProof.Rows hiding St

/-! ### tests -/
/-- a bool, as a test -/
def asB (ev : EV) : M Bool := fun r => match look r ev with
  | some (.bl b) => .ok b r
  | _ => .no
def mTst (m : M EV) : M Bool := bnd m asB
theorem asB_ok {ev : EV} {r r2 : List SV} {b : Bool} (h : asB ev r = .ok b r2) : r2 = r ∧ look r ev = some (.bl b) := by
  unfold asB at h
  split at h
  · rename_i b' l; cases h; exact ⟨rfl, l⟩
  · cases h
theorem asB_exc {ev : EV} {r r2 : List SV} {c : Str} {fs : List (Str × D)} : asB ev r ≠ .exc c fs r2 := by
  unfold asB
  split <;> exact fun h => nomatch h
theorem bnd_assoc {α β γ : Type} (m : M α) (f : α → M β) (g : β → M γ) : bnd (bnd m f) g = bnd m fun a => bnd (f a) g := by
  funext r
  unfold bnd
  cases m r <;> rfl
/-- a value's truth -/
def truD : D → Option Bool
  | .none => some false
  | .bl b => some b
  | .int i => some (i != 0)
  | .str s => if s.length ≤ sizeLine then some ((s.length : Int) != 0) else none
  | .tup xs => some (!xs.isEmpty)
  | .lst xs => some (!xs.isEmpty)
  | .dK xs => some (!xs.isEmpty)
  | .scr xs => some (!xs.isEmpty)
  | _ => none
def mTru (m : M EV) : M Bool := bnd m fun ev r => match look r ev with
  | some d => match truD d with
    | some b => .ok b r
    | none => .no
  | none => .no
def mAnd (a b : M Bool) : M Bool := bnd a fun x => if x = true then b else rt false
def mOr (a b : M Bool) : M Bool := bnd a fun x => if x = true then rt true else b
def mNot (a : M Bool) : M Bool := bnd a fun x => rt (!x)
def mBl (a : M Bool) : M EV := bnd a fun x => rt (.val (.bl x))
def mAndV (a b : M EV) : M EV := bnd (mTst a) fun x => if x = true then b else rt (.val (.bl false))
def mOrV (a b : M EV) : M EV := bnd (mTst a) fun x => if x = true then rt (.val (.bl true)) else b
def mNotV (a : M EV) : M EV := bnd (mTst a) fun x => rt (.val (.bl (!x)))
def mIte (c : M Bool) (a b : M EV) : M EV := bnd c fun x => if x = true then a else b
section
variable {C : Ct} {v0 : List V} {W : WX} {A A0 : Addr → Prop} {r r0 : List SV} {σ : St} {H H0 : Hp}
theorem relK_empty : ∀ {kvs : List (Key × D)} {ws : List (Key × V)}, RelK C A H kvs ws → ws.isEmpty = kvs.isEmpty
  | [], _, h => by cases h; rfl
  | (_, _) :: _, _, ⟨_, _, e, _⟩ => by rw [e]; rfl
theorem relL_empty {xs : List D} {vs : List V} (t : RelL C A H xs vs) : vs.isEmpty = xs.isEmpty := by
  cases xs with
  | nil => cases t; rfl
  | cons d ds => obtain ⟨v, w, e, _⟩ := t; rw [e]; rfl
theorem truD_ok {K : PySem.W.Frag} (hK : C.K = K) {d : D} {x : V} {b : Bool} (h : RelW C A H d x) (e : truD d = some b) : TruV K x H b := by
  unfold truD at e
  split at e
  · cases e; rw [h.non]; rfl
  · cases e; rw [h.bl]; rfl
  · cases e; rw [h.int]; rfl
  · rename_i s
    by_cases hs : s.length ≤ sizeLine
    · rw [if_pos hs] at e; cases e; rw [h.str]; exact ⟨hs, rfl⟩
    · rw [if_neg hs] at e; cases e
  · cases e
    obtain ⟨a, vs, rfl, ha, t⟩ := h.tup
    exact .inr (.inl ⟨vs, by rw [← hK]; exact ha, by rw [relL_empty t]⟩)
  · cases e
    obtain ⟨a, vs, rfl, ha, t⟩ := h.lst
    exact .inl ⟨vs, .of ha, by rw [relL_empty t]⟩
  · cases e
    obtain ⟨a, vs, rfl, ha, t⟩ := h.dK
    exact .inr (.inr ⟨vs, ha, by rw [relK_empty t]⟩)
  · rename_i ns
    cases e
    obtain ⟨a, rfl, ha⟩ := h.scr
    exact .inl ⟨_, by rw [← hK]; exact ha.seq, by cases ns <;> rfl⟩
  · cases e
theorem tTru_of {K : PySem.W.Frag} (hK : C.K = K) {m : M EV} {Q : Bool → Hp → Prop} (h : tT C v0 W (mTru m) σ H Q) : tE C v0 W m σ H fun x H' => ∃ k, TruV K x H' k ∧ Q k H' := by
  obtain ⟨A, r, p, q⟩ := h
  refine ⟨A, r, p, tE_bnd p .refl q fun A1 r1 H1 ev x p1 s1 e1 q1 => ?_⟩
  cases l1 : look r1 ev with
  | none => rw [l1] at q1; exact q1.elim
  | some d =>
    rw [l1] at q1
    dsimp only at q1
    cases l3 : truD d with
    | none => rw [l3] at q1; exact q1.elim
    | some b =>
      rw [l3] at q1
      exact ⟨b, truD_ok hK (e1.look p1 l1) l3, q1 A1 H1 b p1 s1 rfl⟩
theorem tTst_of {m : M EV} {Q : Bool → Hp → Prop} (h : tT C v0 W (mTst m) σ H Q) : tE C v0 W m σ H fun x H' => ∃ k, x = .bl k ∧ Q k H' := by
  obtain ⟨A, r, p, q⟩ := h
  refine ⟨A, r, p, tE_bnd p .refl q fun A1 r1 H1 ev x p1 s1 e1 q1 => ?_⟩
  cases eb : asB ev r1 with
  | no => rw [eb] at q1; exact q1.elim
  | exc c fs r2 => exact absurd eb asB_exc
  | ok b r2 =>
    obtain ⟨rfl, l1⟩ := asB_ok eb
    rw [eb] at q1
    exact ⟨b, (e1.look p1 l1).bl, q1 A1 H1 b p1 s1 rfl⟩
end
section
variable {X : Cx} {C : Ct} {v0 : List V} {W : WX} {a b c : Expr} {rest : List Expr} {ma mb mc : M EV} {ta tb : M Bool} {pos : Pos} {f g : D → D → Option EV} {rr rr' : R2}
theorem pmt_cmp {op : CmpOp} (ho : OpR X (compareOp op) rr) (k : Val2 C f rr) (ha : PE X a (tE C v0 W ma)) (hb : PE X b (tE C v0 W mb)) (hm : behindInMarks op b = false) : PT X (.Compare a [op] [b] pos) (tT C v0 W (mTst (op2 f ma mb))) :=
  PT.imp (pt_cmpR ho ha hb hm) fun σ H Q h => tOp_of k (tTst_of h)
theorem pmt_tru (hK : C.K = X.K) (ha : PE X a (tE C v0 W ma)) (he : ∀ whole, isTrue a X.env whole = (do let v ← whole; standAt a.pos; holding [v] (truthy v)) := by intro _; rfl) : PT X a (tT C v0 W (mTru ma)) :=
  PT.imp (pt_truth ha he) fun σ H Q h => tTru_of hK h
theorem pmt_val (ha : PE X a (tE C v0 W ma)) (he : ∀ whole, isTrue a X.env whole = (do let v ← whole; standAt a.pos; holding [v] (truthy v)) := by intro _; rfl) : PT X a (tT C v0 W (mTst ma)) :=
  PT.imp (pt_val ha he) fun σ H Q h => tTst_of h
theorem pmw_and1 (ha : PT X a (tT C v0 W ta)) : PW X (.BoolOp .And [a] pos) (tT C v0 W ta) := pw_and1 ha
theorem pmw_or1 (ha : PT X a (tT C v0 W ta)) : PW X (.BoolOp .Or [a] pos) (tT C v0 W ta) := pw_or1 ha
theorem PW.imp {X : Cx} {e : Expr} {t u : TT} (h : PW X e t) (k : ∀ σ H Q, u σ H Q → t σ H Q) : PW X e u := ⟨fun w p s σ H Q I x => h.run w p s σ H Q I (k σ H Q x)⟩
theorem pmw_and (ha : PT X a (tT C v0 W ta)) (hb : PW X (.BoolOp .And (b :: rest) pos) (tT C v0 W tb)) : PW X (.BoolOp .And (a :: b :: rest) pos) (tT C v0 W (mAnd ta tb)) := by
  refine PW.imp (pw_and ha hb) fun σ H Q ⟨A, r, p, q⟩ => ⟨A, r, p, ?_⟩
  refine tE_bnd p .refl q fun A1 r1 H1 x y p1 s1 e1 q1 => ?_
  have e1 : y = x := e1
  subst e1
  cases y with
  | true =>
    rw [if_pos rfl]
    rw [if_pos rfl] at q1
    refine ⟨A1, r1, p1, ?_⟩
    cases et : tb r1 with
    | no => rw [et] at q1; exact q1
    | exc c fs r2 => rw [et] at q1; exact fun A' H' cl d p' s' x => q1 A' H' cl d p' (s1.trans s') x
    | ok z r2 => rw [et] at q1; exact fun A' H' v p' s' x => q1 A' H' v p' (s1.trans s') x
  | false => exact q1 A1 H1 false p1 s1 rfl
theorem pmw_or (ha : PT X a (tT C v0 W ta)) (hb : PW X (.BoolOp .Or (b :: rest) pos) (tT C v0 W tb)) : PW X (.BoolOp .Or (a :: b :: rest) pos) (tT C v0 W (mOr ta tb)) := by
  refine PW.imp (pw_or ha hb) fun σ H Q ⟨A, r, p, q⟩ => ⟨A, r, p, ?_⟩
  refine tE_bnd p .refl q fun A1 r1 H1 x y p1 s1 e1 q1 => ?_
  have e1 : y = x := e1
  subst e1
  cases y with
  | false =>
    rw [if_neg Bool.false_ne_true]
    rw [if_neg Bool.false_ne_true] at q1
    refine ⟨A1, r1, p1, ?_⟩
    cases et : tb r1 with
    | no => rw [et] at q1; exact q1
    | exc c fs r2 => rw [et] at q1; exact fun A' H' cl d p' s' x => q1 A' H' cl d p' (s1.trans s') x
    | ok z r2 => rw [et] at q1; exact fun A' H' v p' s' x => q1 A' H' v p' (s1.trans s') x
  | true => exact q1 A1 H1 true p1 s1 rfl
theorem pmt_and (h : PW X (.BoolOp .And (a :: b :: rest) pos) (tT C v0 W ta)) : PT X (.BoolOp .And (a :: b :: rest) pos) (tT C v0 W ta) := h.pt
theorem pmt_or (h : PW X (.BoolOp .Or (a :: b :: rest) pos) (tT C v0 W ta)) : PT X (.BoolOp .Or (a :: b :: rest) pos) (tT C v0 W ta) := h.pt
theorem pmt_not (ha : PT X a (tT C v0 W ta)) : PT X (.UnaryOp .Not a pos) (tT C v0 W (mNot ta)) := by
  refine PT.imp (pt_not ha) fun σ H Q ⟨A, r, p, q⟩ => ⟨A, r, p, ?_⟩
  refine tE_bnd p .refl q fun A1 r1 H1 x y p1 s1 e1 q1 => ?_
  have e1 : y = x := e1
  subst e1
  exact q1 A1 H1 _ p1 s1 rfl
/-! ### .. as values -/
theorem Po.tr {α β : Type} {Rl : RelT3 α β} {A A0 : Addr → Prop} {r r0 : List SV} {σ : St} {H H0 : Hp} {Q : β → Hp → Prop} {x : R α} (s : Stp A0 r0 σ H0 A r σ H) (hR : ∀ {A' r' H' a v}, Rl A' H r' σ H' a v → Rl A' H0 r' σ H' a v) (q : Po C v0 W Rl A0 r0 σ H0 Q x) : Po C v0 W Rl A r σ H Q x := by
  cases x with
  | no => exact q
  | exc c fs r2 => exact fun A' H' cl d p' s' x => q A' H' cl d p' (s.trans s') x
  | ok z r2 => exact fun A' H' v p' s' x => q A' H' v p' (s.trans s') (hR x)
theorem Po.trE {A A0 : Addr → Prop} {r r0 : List SV} {σ : St} {H H0 : Hp} {Q : VK} {x : R EV} (s : Stp A0 r0 σ H0 A r σ H) (q : Po C v0 W (RelE C) A0 r0 σ H0 Q x) : Po C v0 W (RelE C) A r σ H Q x := Po.tr s (fun z => RelE.from s z) q
theorem pme_one {op : BoolOp} (h : PE X a (tE C v0 W ma)) : PE X (.BoolOp op [a] pos) (tE C v0 W ma) := pe_one h
theorem tstE {A A0 : Addr → Prop} {r r0 : List SV} {σ : St} {H H0 : Hp} {Q : VK} {K : VK} {f : Bool → M EV} (p : Rp C v0 A r σ H) (s0 : Stp A0 r0 σ H0 A r σ H) (q : Po C v0 W (RelE C) A0 r0 σ H0 Q (bnd (mTst ma) f r))
    (h : ∀ A1 r1 H1 b, Rp C v0 A1 r1 σ H1 → Stp A r σ H A1 r1 σ H1 → Po C v0 W (RelE C) A0 r0 σ H0 Q (f b r1) → K (.bl b) H1) : Po C v0 W (RelE C) A r σ H K (ma r) := by
  unfold mTst at q
  rw [bnd_assoc] at q
  refine tE_bnd p s0 q fun A1 r1 H1 ev x p1 s1 e1 q1 => ?_
  unfold bnd at q1
  cases eb : asB ev r1 with
  | no => rw [eb] at q1; exact q1.elim
  | exc c fs r2 => exact absurd eb asB_exc
  | ok b r2 =>
    obtain ⟨rfl, l1⟩ := asB_ok eb
    rw [eb] at q1
    have := (e1.look p1 l1).bl
    subst this
    exact h A1 r2 H1 b p1 s1 q1
theorem pme_and (ha : PE X a (tE C v0 W ma)) (hb : PE X (.BoolOp .And (b :: rest) pos) (tE C v0 W mb)) : PE X (.BoolOp .And (a :: b :: rest) pos) (tE C v0 W (mAndV ma mb)) := by
  refine PE.imp (pe_and ha hb) fun σ H Q ⟨A, r, p, q⟩ => ⟨A, r, p, ?_⟩
  refine tstE p .refl q fun A1 r1 H1 b p1 s1 q1 => ⟨b, rfl, ?_⟩
  cases b with
  | true => rw [if_pos rfl]; rw [if_pos rfl] at q1; exact ⟨A1, r1, p1, Po.trE s1 q1⟩
  | false => exact q1 A1 H1 _ p1 s1 rfl
theorem pme_or (ha : PE X a (tE C v0 W ma)) (hb : PE X (.BoolOp .Or (b :: rest) pos) (tE C v0 W mb)) : PE X (.BoolOp .Or (a :: b :: rest) pos) (tE C v0 W (mOrV ma mb)) := by
  refine PE.imp (pe_or ha hb) fun σ H Q ⟨A, r, p, q⟩ => ⟨A, r, p, ?_⟩
  refine tstE p .refl q fun A1 r1 H1 b p1 s1 q1 => ⟨b, rfl, ?_⟩
  cases b with
  | false => rw [if_neg Bool.false_ne_true]; rw [if_neg Bool.false_ne_true] at q1; exact ⟨A1, r1, p1, Po.trE s1 q1⟩
  | true => exact q1 A1 H1 _ p1 s1 rfl
theorem pme_not (ha : PE X a (tE C v0 W ma)) : PE X (.UnaryOp .Not a pos) (tE C v0 W (mNotV ma)) := by
  refine PE.imp (pe_not ha) fun σ H Q ⟨A, r, p, q⟩ => ⟨A, r, p, ?_⟩
  exact tstE p .refl q fun A1 r1 H1 b p1 s1 q1 => ⟨b, rfl, q1 A1 H1 _ p1 s1 rfl⟩
theorem pme_if (hc : PT X c (tT C v0 W ta)) (ha : PE X a (tE C v0 W ma)) (hb : PE X b (tE C v0 W mb)) : PE X (.IfExp c a b pos) (tE C v0 W (mIte ta ma mb)) := by
  refine PE.imp (pe_ifExp hc ha hb) fun σ H Q ⟨A, r, p, q⟩ => ⟨A, r, p, ?_⟩
  refine tE_bnd p .refl q fun A1 r1 H1 x y p1 s1 e1 q1 => ?_
  have e1 : y = x := e1
  subst e1
  cases y with
  | true => exact ⟨A1, r1, p1, Po.trE s1 q1⟩
  | false => exact ⟨A1, r1, p1, Po.trE s1 q1⟩
/-! ### a op b op' c -/
def lk2 (f : D → D → Option EV) (ea eb : EV) : M EV := fun r => match look r ea, look r eb with
  | some d, some e => match f d e with
    | some ev => .ok ev r
    | none => .no
  | _, _ => .no
theorem lk2_ok {f : D → D → Option EV} {ea eb : EV} {r r2 : List SV} {ev : EV} (h : lk2 f ea eb r = .ok ev r2) : r2 = r ∧ ∃ d e : D, look r ea = some d ∧ look r eb = some e ∧ f d e = some ev := by
  unfold lk2 at h
  split at h
  · rename_i d e l1 l2
    split at h
    · rename_i x l3; cases h; exact ⟨rfl, d, e, l1, l2, l3⟩
    · cases h
  · cases h
theorem lk2_exc {f : D → D → Option EV} {ea eb : EV} {r r2 : List SV} {c : Str} {fs : List (Str × D)} : lk2 f ea eb r ≠ .exc c fs r2 := by
  unfold lk2
  split
  · split <;> exact fun h => nomatch h
  · exact fun h => nomatch h
def mChain (f g : D → D → Option EV) (ma mb mc : M EV) : M EV := bnd ma fun ea => bnd mb fun eb => bnd (mTst (lk2 f ea eb)) fun x => if x = true then bnd mc (lk2 g eb) else rt (.val (.bl false))
theorem tChain_of (k : Val2 C f rr) (k' : Val2 C g rr') {σ : St} {H : Hp} {Q : VK} (h : tE C v0 W (mChain f g ma mb mc) σ H Q) : tChain rr rr' (tE C v0 W ma) (tE C v0 W mb) (tE C v0 W mc) σ H Q := by
  obtain ⟨A, r, p, q⟩ := h
  refine ⟨A, r, p, tE_bnd p .refl q fun A1 r1 H1 ea x p1 s1 e1 q1 => ⟨A1, r1, p1, tE_bnd p1 s1 q1 fun A2 r2 H2 eb y p2 s2 e2 q2 => ?_⟩⟩
  have e1' := e1.carry p1 s2
  have s12 := s1.trans s2
  unfold mTst at q2
  rw [bnd_assoc] at q2
  unfold bnd at q2
  cases ek : lk2 f ea eb r2 with
  | no => rw [ek] at q2; exact q2.elim
  | exc c fs r3 => exact absurd ek lk2_exc
  | ok ev r3 =>
    obtain ⟨rfl, d, e, l1, l2, l3⟩ := lk2_ok ek
    rw [ek] at q2
    dsimp only at q2
    refine k p2 .refl (e1'.look p2 l1) (e2.look p2 l2) l3 fun A3 H3 v p3 s3 e3 => ?_
    cases el : asB ev r3 with
    | no => rw [el] at q2; exact q2.elim
    | exc c fs r3 => exact absurd el asB_exc
    | ok b r4 =>
      obtain ⟨rfl, l4⟩ := asB_ok el
      rw [el] at q2
      dsimp only at q2
      have := (e3.look p3 l4).bl
      subst this
      refine ⟨b, rfl, ?_⟩
      cases b with
      | false => exact q2 A3 H3 _ p3 (s12.trans s3) rfl
      | true =>
        rw [if_pos rfl]
        rw [if_pos rfl] at q2
        refine ⟨A3, r4, p3, ?_⟩
        refine tE_bnd p3 (s12.trans s3) q2 fun A4 r5 H4 ec z p4 s4 e4 q4 => ?_
        cases eg : lk2 g eb ec r5 with
        | no => rw [eg] at q4; exact q4.elim
        | exc c fs r3 => exact absurd eg lk2_exc
        | ok ev7 r6 =>
          obtain ⟨rfl, d5, d6, l5, l6, l7⟩ := lk2_ok eg
          rw [eg] at q4
          exact k' p4 ((s12.trans s3).trans s4) (((e2.carry p2 s3).carry p3 s4).look p4 l5) (e4.look p4 l6) l7 fun A' H' v a b c => q4 A' H' v a b c
theorem pm_chain {op op' : CmpOp} (ho : OpR X (compareOp op) rr) (ho' : OpR X (compareOp op') rr') (k : Val2 C f rr) (k' : Val2 C g rr') (ha : PE X a (tE C v0 W ma)) (hb : PE X b (tE C v0 W mb)) (hc : PE X c (tE C v0 W mc))
    (hm : lastMarks [op, op'] [b, c] = false := by with_unfolding_all rfl) : PE X (.Compare a [op, op'] [b, c] pos) (tE C v0 W (mChain f g ma mb mc)) :=
  PE.imp (pe_chain ho ho' ha hb hc hm) fun σ H Q h => tChain_of k k' h
theorem pmt_chain {op op' : CmpOp} (ho : OpR X (compareOp op) rr) (ho' : OpR X (compareOp op') rr') (k : Val2 C f rr) (k' : Val2 C g rr') (ha : PE X a (tE C v0 W ma)) (hb : PE X b (tE C v0 W mb)) (hc : PE X c (tE C v0 W mc))
    (hm : lastMarks [op, op'] [b, c] = false := by with_unfolding_all rfl) : PT X (.Compare a [op, op'] [b, c] pos) (tT C v0 W (mTst (mChain f g ma mb mc))) :=
  PT.imp (pt_chain ho ho' ha hb hc hm) fun σ H Q h => tChain_of k k' (tTst_of h)
end
end Mi
end
section
set_option maxRecDepth 100000
set_option maxHeartbeats 2000000
namespace Mi
open PySem PySem.Spec L2
open PyProof.Rows hiding St

/-! ### displays -/
def tupF (evs : List EV) : M EV := fun r => match toVs evs r with
  | some (ds, r1) => .ok (.val (.tup ds)) r1
  | none => .no
def lstF (evs : List EV) : M EV := fun r => match toVs evs r with
  | some (ds, r1) => .ok (.own (.lst ds)) r1
  | none => .no
def mTup (ms : M (List EV)) : M EV := bnd ms tupF
def mLst (ms : M (List EV)) : M EV := bnd ms lstF
/-- the values of a list of expressions -/
def looks (r : List SV) : List EV → Option (List D)
  | [] => some []
  | e :: es => match look r e, looks r es with
    | some d, some ds => some (d :: ds)
    | _, _ => none
def bF (f : List D → Option EV) (evs : List EV) : M EV := fun r => match looks r evs with
  | some ds => match f ds with
    | some ev => .ok ev r
    | none => .no
  | none => .no
/-- a built-in of values -/
def mB (f : List D → Option EV) (ms : M (List EV)) : M EV := bnd ms (bF f)
def ValN (C : Ct) (f : List D → Option EV) (rr : List V → Hp → VK → Prop) : Prop :=
  ∀ {v0 : List V} {A0 A : Addr → Prop} {r0 r : List SV} {σ : St} {H0 H : Hp} {ds : List D} {xs : List V} {ev : EV} {Q : VK}, Rp C v0 A r σ H → Stp A0 r0 σ H0 A r σ H → Paired (RelW C A H) ds xs → f ds = some ev →
    (∀ A' H' v, Rp C v0 A' r σ H' → Stp A0 r0 σ H0 A' r σ H' → RelE C A' H0 r σ H' ev v → Q v H') → rr xs H Q
section
variable {X : Cx} {C : Ct} {v0 : List V} {W : WX} {e : Expr} {es : List Expr} {ms : M (List EV)} {p pos : Pos} {x : Str} {id : String} {f : List D → Option EV} {rr : List V → Hp → VK → Prop}
theorem paired_len {α β : Type} {F : α → β → Prop} {xs : List α} {ys : List β} (h : Paired F xs ys) : xs.length = ys.length := Paired.length h
theorem looks_ok {A : Addr → Prop} {r : List SV} {σ : St} {H H0 : Hp} (p : Rp C v0 A r σ H) : ∀ {evs : List EV} {vs : List V} {ds : List D}, Paired (RelE C A H0 r σ H) evs vs → looks r evs = some ds → Paired (RelW C A H) ds vs
  | _, _, ds, .nil, h => by cases h; exact .nil
  | _, _, ds, .cons h1 h2, h => by
    unfold looks at h
    split at h
    · rename_i d ds' l1 l2
      cases h
      exact .cons (h1.look p l1) (looks_ok p h2 l2)
    · cases h
theorem pm_tup {n k : Nat} (ha : PA X es (tEs C v0 W ms)) (hl : LenM ms n) (hn : n ≤ 1000 := by decide) : PE X (.Tuple es k pos) (tE C v0 W (mTup ms)) := by
  refine PE.imp (pe_tup ha) fun σ H Q ⟨A, r, p, q⟩ => ⟨A, r, p, ?_⟩
  cases em : ms r with
  | no => unfold mTup bnd at q; rw [em] at q; exact q
  | exc c fs r' => unfold mTup bnd at q; rw [em] at q; exact q
  | ok evs r1 =>
    have hlen := hl r evs r1 em
    unfold mTup bnd at q
    rw [em] at q
    intro A1 H1 xs p1 s1 e1
    refine ⟨by rw [← paired_len e1.1, hlen, sizeLine_eq]; omega, fun b hb => ?_⟩
    dsimp only at q
    unfold tupF at q
    cases et : toVs evs r1 with
    | none => rw [et] at q; exact q.elim
    | some z =>
      obtain ⟨ds, r2⟩ := z
      rw [et] at q
      obtain ⟨A2, p2, s2, t2, c2, b2⟩ := toVs_ok p1 s1 (Paired.mapP e1.1 fun _ _ z => z.q) et
      obtain ⟨p3, s3, e3⟩ := lay_tup p2 hb t2
      exact q A2 _ _ p3 (s2.trans s3) e3
theorem pm_lst {n : Nat} (ha : PA X es (tEs C v0 W ms)) (hl : LenM ms n) (hn : n ≤ 1000 := by decide) : PE X (.List es pos) (tE C v0 W (mLst ms)) := by
  refine PE.imp (pe_lst ha) fun σ H Q ⟨A, r, p, q⟩ => ⟨A, r, p, ?_⟩
  cases em : ms r with
  | no => unfold mLst bnd at q; rw [em] at q; exact q
  | exc c fs r' => unfold mLst bnd at q; rw [em] at q; exact q
  | ok evs r1 =>
    have hlen := hl r evs r1 em
    unfold mLst bnd at q
    rw [em] at q
    intro A1 H1 xs p1 s1 e1
    refine ⟨by rw [← paired_len e1.1, hlen, sizeLine_eq]; omega, fun b hb => ?_⟩
    dsimp only at q
    unfold lstF at q
    cases et : toVs evs r1 with
    | none => rw [et] at q; exact q.elim
    | some z =>
      obtain ⟨ds, r2⟩ := z
      rw [et] at q
      obtain ⟨A2, p2, s2, t2, c2, b2⟩ := toVs_ok p1 s1 (Paired.mapP e1.1 fun _ _ z => z.q) et
      obtain ⟨p3, s3, e3⟩ := lay_own (d := .lst ds) (o := .lst xs) p2 s2 hb ⟨_, upd_same, t2.carry (carry_lay hb)⟩
      exact q A2 _ _ p3 s3 e3
theorem tB_of (k : ValN C f rr) {σ : St} {H : Hp} {Q : VK} (h : tE C v0 W (mB f ms) σ H Q) : tCB rr (tEs C v0 W ms) σ H Q := by
  obtain ⟨A, r, p, q⟩ := h
  refine ⟨A, r, p, tE_bnd p .refl q fun A1 r1 H1 evs vs p1 s1 e1 q1 => ?_⟩
  unfold bF at q1
  cases el : looks r1 evs with
  | none => rw [el] at q1; exact q1.elim
  | some ds =>
    rw [el] at q1
    dsimp only at q1
    cases ef : f ds with
    | none => rw [ef] at q1; exact q1.elim
    | some ev =>
      rw [ef] at q1
      exact k p1 s1 (looks_ok p1 e1.1 el) ef fun A' H' v a b c => q1 A' H' v a b c
/-- f(e, ..), f a built-in function -/
theorem pm_callB (hc : CallR X (.builtin id) rr) (k : ValN C f rr) (hg : Gl X x) (hm : X.mg x = none) (hv : bootBuiltins x = some (.builtin id)) (ha : PA X (e :: es) (tEs C v0 W ms)) (hn : x ≠ "__name__" := by decide) (hdb : (x == ("__debug__" : Str)) = false := by decide)
    (he : starEach (e :: es) X.env = (false, eval e X.env) :: starEach es X.env := by rfl) (hpl : (backTo pos (starEach es X.env)).any (·.1) = false := by rfl) : PE X (.Call (.Name x p) (e :: es) [] pos) (tE C v0 W (mB f ms)) :=
  PE.imp (pe_callB hc hg hm hv ha hn hdb he hpl) fun σ H Q h => tB_of k h
theorem pm_callTy (hc : CallR X (.type id) rr) (k : ValN C f rr) (hg : Gl X x) (hm : X.mg x = none) (hv : bootBuiltins x = some (.type id)) (ha : PA X (e :: es) (tEs C v0 W ms)) (hn : x ≠ "__name__" := by decide) (hdb : (x == ("__debug__" : Str)) = false := by decide)
    (he : starEach (e :: es) X.env = (false, eval e X.env) :: starEach es X.env := by rfl) (hpl : (backTo pos (starEach es X.env)).any (·.1) = false := by rfl) : PE X (.Call (.Name x p) (e :: es) [] pos) (tE C v0 W (mB f ms)) :=
  PE.imp (pe_callTy hc hg hm hv ha hn hdb he hpl) fun σ H Q h => tB_of k h
theorem pm_callBfun (hc : CallR X (.builtin id) rr) (k : ValN C f rr) (hg : Gl X x) (hm : X.mg x = some (.builtin id)) (ha : PA X (e :: es) (tEs C v0 W ms)) (hdb : (x == ("__debug__" : Str)) = false := by decide)
    (he : starEach (e :: es) X.env = (false, eval e X.env) :: starEach es X.env := by rfl) (hpl : (backTo pos (starEach es X.env)).any (·.1) = false := by rfl) : PE X (.Call (.Name x p) (e :: es) [] pos) (tE C v0 W (mB f ms)) :=
  PE.imp (pe_callBfun hc hg hm ha hdb he hpl) fun σ H Q h => tB_of k h
end
/-! ### the built-ins -/
def intsOf : List D → Option (List Int)
  | [] => some []
  | .int i :: r => (intsOf r).map (i :: ·)
  | _ :: _ => none
def blsOf : List D → Option (List Bool)
  | [] => some []
  | .bl i :: r => (blsOf r).map (i :: ·)
  | _ :: _ => none
def strsOf : List D → Option (List Str)
  | [] => some []
  | .str i :: r => (strsOf r).map (i :: ·)
  | _ :: _ => none
def fLen : List D → Option EV
  | [.lst xs] => some (.val (.int xs.length))
  | [.tup xs] => some (.val (.int xs.length))
  | [.str s] => if s.length ≤ sizeLine then some (.val (.int s.length)) else none
  | [.dK xs] => some (.val (.int xs.length))
  | [.dT xs] => some (.val (.int xs.length))
  | [.scr xs] => some (.val (.int xs.length))
  | _ => none
def fAbs : List D → Option EV
  | [.int i] => some (.val (.int (if i < 0 then -i else i)))
  | _ => none
def fMax2 : List D → Option EV
  | [.int i, .int j] => some (.val (.int (if j > i then j else i)))
  | _ => none
def fMin2 : List D → Option EV
  | [.int i, .int j] => some (.val (.int (if j < i then j else i)))
  | _ => none
def maxI (i : Int) : List Int → Int
  | [] => i
  | j :: r => maxI (if j > i then j else i) r
def minI (i : Int) : List Int → Int
  | [] => i
  | j :: r => minI (if j < i then j else i) r
def fMax1 : List D → Option EV
  | [.lst xs] => match intsOf xs with
    | some (i :: r) => some (.val (.int (maxI i r)))
    | _ => none
  | _ => none
def fMin1 : List D → Option EV
  | [.lst xs] => match intsOf xs with
    | some (i :: r) => some (.val (.int (minI i r)))
    | _ => none
  | _ => none
def fSum : List D → Option EV
  | [.lst xs] => (intsOf xs).map fun ns => .val (.int ns.sum)
  | _ => none
def fAll : List D → Option EV
  | [.lst xs] => (blsOf xs).map fun bs => .val (.bl (bs.all id))
  | _ => none
def fAny : List D → Option EV
  | [.lst xs] => (blsOf xs).map fun bs => .val (.bl (bs.any id))
  | _ => none
def fInt : List D → Option EV
  | [.int i] => some (.val (.int i))
  | [.bl b] => some (.val (.int (if b then 1 else 0)))
  | _ => none
def okShow (i : Int) : Bool := decide (i.natAbs.log2 < 1920)
def fStr : List D → Option EV
  | [.int i] => if okShow i = true then some (.val (.str (toString i))) else none
  | [.str s] => some (.val (.str s))
  | _ => none
def fList : List D → Option EV
  | [.lst xs] => some (.own (.lst xs))
  | [.tup xs] => some (.own (.lst xs))
  | [.scr ns] => some (.own (.lst (ns.map .int)))
  | _ => none
def fTuple : List D → Option EV
  | [.lst xs] => some (.val (.tup xs))
  | [.tup xs] => some (.val (.tup xs))
  | _ => none
def fGcd : List D → Option EV
  | [.int a, .int b] => some (.val (.int ((Nat.gcd a.natAbs b.natAbs : Nat) : Int)))
  | _ => none
section
variable {X : Cx} {C : Ct} {A : Addr → Prop} {H : Hp}
theorem intsOf_map : ∀ {xs : List D} {ns : List Int}, intsOf xs = some ns → xs = ns.map .int
  | [], ns, h => by cases h; rfl
  | d :: r, ns, h => by
    cases d <;> simp only [intsOf] at h <;> first | cases h | skip
    obtain ⟨l, h1, rfl⟩ := Option.map_eq_some_iff.mp h
    rw [intsOf_map h1]; rfl
theorem blsOf_map : ∀ {xs : List D} {ns : List Bool}, blsOf xs = some ns → xs = ns.map .bl
  | [], ns, h => by cases h; rfl
  | d :: r, ns, h => by
    cases d <;> simp only [blsOf] at h <;> first | cases h | skip
    obtain ⟨l, h1, rfl⟩ := Option.map_eq_some_iff.mp h
    rw [blsOf_map h1]; rfl
theorem strsOf_map : ∀ {xs : List D} {ns : List Str}, strsOf xs = some ns → xs = ns.map .str
  | [], ns, h => by cases h; rfl
  | d :: r, ns, h => by
    cases d <;> simp only [strsOf] at h <;> first | cases h | skip
    obtain ⟨l, h1, rfl⟩ := Option.map_eq_some_iff.mp h
    rw [strsOf_map h1]; rfl
@[simp] theorem intsOf_ints (ns : List Int) : intsOf (ns.map .int) = some ns := by
  induction ns with
  | nil => rfl
  | cons n r ih => simp [intsOf, ih]
@[simp] theorem blsOf_bls (ns : List Bool) : blsOf (ns.map .bl) = some ns := by
  induction ns with
  | nil => rfl
  | cons n r ih => simp [blsOf, ih]
@[simp] theorem strsOf_strs (ns : List Str) : strsOf (ns.map .str) = some ns := by
  induction ns with
  | nil => rfl
  | cons n r ih => simp [strsOf, ih]
theorem relL_ints' : ∀ {ns : List Int} {vs : List V}, RelL C A H (ns.map .int) vs → vs = ns.map V.int
  | [], _, h => h
  | n :: ns, _, ⟨v, r, e, h, t⟩ => by rw [e, relL_ints' t]; cases h; rfl
theorem relL_bls' : ∀ {ns : List Bool} {vs : List V}, RelL C A H (ns.map .bl) vs → vs = ns.map V.bl
  | [], _, h => h
  | n :: ns, _, ⟨v, r, e, h, t⟩ => by rw [e, relL_bls' t]; cases h; rfl
theorem relL_strs' : ∀ {ns : List Str} {vs : List V}, RelL C A H (ns.map .str) vs → vs = ns.map V.str
  | [], _, h => h
  | n :: ns, _, ⟨v, r, e, h, t⟩ => by rw [e, relL_strs' t]; cases h; rfl
theorem relL_strs : ∀ {ns : List Str}, RelL C A H (ns.map .str) (ns.map V.str)
  | [] => rfl
  | n :: ns => ⟨_, _, rfl, rfl, relL_strs⟩
theorem pair1 {F : D → V → Prop} {d : D} {xs : List V} (h : Paired F [d] xs) : ∃ x, xs = [x] ∧ F d x := by
  cases h with
  | cons a b => cases b; exact ⟨_, rfl, a⟩
theorem pair2 {F : D → V → Prop} {d e : D} {xs : List V} (h : Paired F [d, e] xs) : ∃ x y, xs = [x, y] ∧ F d x ∧ F e y := by
  cases h with
  | cons a b =>
    cases b with
    | cons b c => cases c; exact ⟨_, _, rfl, a, b⟩
def rLenA (K : PySem.W.Frag) : List V → Hp → VK → Prop := fun xs H Q => (∃ x n, xs = [x] ∧ LenV K x H n ∧ Q (.int n) H) ∨ ((∃ a kvs, xs = [V.ref a] ∧ H a = some (.dK kvs) ∧ Q (.int kvs.length) H) ∨ rLenT xs H Q)
theorem cr_lenA : CallR X (.builtin "len") (rLenA X.K) := CallR.or call_len (CallR.or call_lenD call_len_dT)
theorem relK_len : ∀ {kvs : List (Key × D)} {ws : List (Key × V)}, RelK C A H kvs ws → ws.length = kvs.length
  | [], _, h => by cases h; rfl
  | (_, _) :: _, _, ⟨_, _, e, _, t⟩ => by rw [e, List.length_cons, List.length_cons, relK_len t]
theorem relT_len : ∀ {kvs : List (List Key × D)} {ws : List (List Key × V)}, RelT C A H kvs ws → ws.length = kvs.length
  | [], _, h => by cases h; rfl
  | (_, _) :: _, _, ⟨_, _, e, _, t⟩ => by rw [e, List.length_cons, List.length_cons, relT_len t]
theorem valN_len (hK : C.K = X.K) : ValN C fLen (rLenA X.K) := by
  intro v0 A0 A r0 r σ H0 H ds xs ev Q p s hp hf k
  unfold fLen at hf
  split at hf
  · cases hf
    obtain ⟨x, rfl, h⟩ := pair1 hp
    obtain ⟨a, vs, rfl, ha, t⟩ := h.lst
    exact .inl ⟨_, _, rfl, .inl ⟨vs, .of ha, rfl⟩, by rw [t.length]; exact k A H _ p s rfl⟩
  · cases hf
    obtain ⟨x, rfl, h⟩ := pair1 hp
    obtain ⟨a, vs, rfl, ha, t⟩ := h.tup
    exact .inl ⟨_, _, rfl, .inr ⟨vs, by rw [← hK]; exact ha, rfl⟩, by rw [t.length]; exact k A H _ p s rfl⟩
  · rename_i z
    by_cases hz : z.length ≤ sizeLine
    · rw [if_pos hz] at hf; cases hf
      obtain ⟨x, rfl, h⟩ := pair1 hp
      rw [h.str]
      exact .inl ⟨_, _, rfl, ⟨hz, rfl⟩, k A H _ p s rfl⟩
    · rw [if_neg hz] at hf; cases hf
  · cases hf
    obtain ⟨x, rfl, h⟩ := pair1 hp
    obtain ⟨a, vs, rfl, ha, t⟩ := h.dK
    exact .inr (.inl ⟨_, _, rfl, ha, by rw [relK_len t]; exact k A H _ p s rfl⟩)
  · cases hf
    obtain ⟨x, rfl, h⟩ := pair1 hp
    obtain ⟨a, vs, rfl, ha, t⟩ := h.dT
    exact .inr (.inr ⟨_, _, rfl, ha, by rw [relT_len t]; exact k A H _ p s rfl⟩)
  · rename_i ns
    cases hf
    obtain ⟨x, rfl, h⟩ := pair1 hp
    obtain ⟨a, rfl, ha⟩ := h.scr
    exact .inl ⟨_, _, rfl, .inl ⟨_, by rw [← hK]; exact ha.seq, rfl⟩, by rw [List.length_map]; exact k A H _ p s rfl⟩
  · cases hf
end
end Mi
end
section
set_option maxRecDepth 100000
set_option maxHeartbeats 2000000
namespace Mi
open PySem PySem.Spec L2
open PyProof.Rows hiding St

section
variable {X : Cx} {C : Ct}
theorem valN_abs : ValN C fAbs (fun xs H Q => ∃ i, xs = [.int i] ∧ Q (.int (if i < 0 then -i else i)) H) := by
  intro v0 A0 A r0 r σ H0 H ds xs ev Q p s hp hf k
  unfold fAbs at hf
  split at hf
  · cases hf
    obtain ⟨x, rfl, h⟩ := pair1 hp
    rw [h.int]
    exact ⟨_, rfl, k A H _ p s rfl⟩
  · cases hf
theorem valN_max2 : ValN C fMax2 (fun xs H Q => ∃ i j, xs = [.int i, .int j] ∧ Q (.int (if j > i then j else i)) H) := by
  intro v0 A0 A r0 r σ H0 H ds xs ev Q p s hp hf k
  unfold fMax2 at hf
  split at hf
  · cases hf
    obtain ⟨x, y, rfl, h, h2⟩ := pair2 hp
    rw [h.int, h2.int]
    exact ⟨_, _, rfl, k A H _ p s rfl⟩
  · cases hf
theorem valN_min2 : ValN C fMin2 (fun xs H Q => ∃ i j, xs = [.int i, .int j] ∧ Q (.int (if j < i then j else i)) H) := by
  intro v0 A0 A r0 r σ H0 H ds xs ev Q p s hp hf k
  unfold fMin2 at hf
  split at hf
  · cases hf
    obtain ⟨x, y, rfl, h, h2⟩ := pair2 hp
    rw [h.int, h2.int]
    exact ⟨_, _, rfl, k A H _ p s rfl⟩
  · cases hf
theorem maxI_spec : ∀ (r : List Int) (i m : Int), m ∈ i :: r → (∀ y, y ∈ i :: r → y ≤ m) → m = maxI i r
  | [], i, m, h, _ => by simpa [maxI] using h
  | j :: r, i, m, h, g => by
    unfold maxI
    refine maxI_spec r _ m ?_ fun y hy => ?_
    · have h1 := g i (by simp)
      have h2 := g j (by simp)
      simp only [List.mem_cons] at h ⊢
      rcases h with h | h | h
      · left; subst h; split <;> omega
      · left; subst h; split <;> omega
      · right; exact h
    · simp only [List.mem_cons] at hy
      rcases hy with h | h
      · subst h; split
        · exact g j (by simp)
        · exact g i (by simp)
      · exact g y (by simp [h])
theorem minI_spec : ∀ (r : List Int) (i m : Int), m ∈ i :: r → (∀ y, y ∈ i :: r → m ≤ y) → m = minI i r
  | [], i, m, h, _ => by simpa [minI] using h
  | j :: r, i, m, h, g => by
    unfold minI
    refine minI_spec r _ m ?_ fun y hy => ?_
    · have h1 := g i (by simp)
      have h2 := g j (by simp)
      simp only [List.mem_cons] at h ⊢
      rcases h with h | h | h
      · left; subst h; split <;> omega
      · left; subst h; split <;> omega
      · right; exact h
    · simp only [List.mem_cons] at hy
      rcases hy with h | h
      · subst h; split
        · exact g j (by simp)
        · exact g i (by simp)
      · exact g y (by simp [h])
theorem valN_max1 : ValN C fMax1 (rMax X.K) := by
  intro v0 A0 A r0 r σ H0 H ds xs ev Q p s hp hf k
  unfold fMax1 at hf
  split at hf
  · split at hf
    · rename_i ys i r' e
      cases hf
      have := intsOf_map e
      subst this
      obtain ⟨x, rfl, h⟩ := pair1 hp
      obtain ⟨a, vs, rfl, ha, t⟩ := h.lst
      rw [relL_ints' t] at ha
      exact ⟨a, _, rfl, .of ha, by simp, fun m h1 h2 => by rw [maxI_spec r' i m h1 h2]; exact k A H _ p s rfl⟩
    · cases hf
  · cases hf
theorem valN_min1 : ValN C fMin1 (rMin X.K) := by
  intro v0 A0 A r0 r σ H0 H ds xs ev Q p s hp hf k
  unfold fMin1 at hf
  split at hf
  · split at hf
    · rename_i ys i r' e
      cases hf
      have := intsOf_map e
      subst this
      obtain ⟨x, rfl, h⟩ := pair1 hp
      obtain ⟨a, vs, rfl, ha, t⟩ := h.lst
      rw [relL_ints' t] at ha
      exact ⟨a, _, rfl, .of ha, by simp, fun m h1 h2 => by rw [minI_spec r' i m h1 h2]; exact k A H _ p s rfl⟩
    · cases hf
  · cases hf
theorem valN_sum : ValN C fSum (rSum X.K) := by
  intro v0 A0 A r0 r σ H0 H ds xs ev Q p s hp hf k
  unfold fSum at hf
  split at hf
  · obtain ⟨ns, e, rfl⟩ := Option.map_eq_some_iff.mp hf
    have := intsOf_map e
    subst this
    obtain ⟨x, rfl, h⟩ := pair1 hp
    obtain ⟨a, vs, rfl, ha, t⟩ := h.lst
    rw [relL_ints' t] at ha
    exact ⟨a, _, rfl, .of ha, k A H _ p s rfl⟩
  · cases hf
theorem valN_all : ValN C fAll (rAll X.K) := by
  intro v0 A0 A r0 r σ H0 H ds xs ev Q p s hp hf k
  unfold fAll at hf
  split at hf
  · obtain ⟨ns, e, rfl⟩ := Option.map_eq_some_iff.mp hf
    have := blsOf_map e
    subst this
    obtain ⟨x, rfl, h⟩ := pair1 hp
    obtain ⟨a, vs, rfl, ha, t⟩ := h.lst
    rw [relL_bls' t] at ha
    exact ⟨a, _, rfl, .of ha, k A H _ p s rfl⟩
  · cases hf
theorem valN_any : ValN C fAny (rAny X.K) := by
  intro v0 A0 A r0 r σ H0 H ds xs ev Q p s hp hf k
  unfold fAny at hf
  split at hf
  · obtain ⟨ns, e, rfl⟩ := Option.map_eq_some_iff.mp hf
    have := blsOf_map e
    subst this
    obtain ⟨x, rfl, h⟩ := pair1 hp
    obtain ⟨a, vs, rfl, ha, t⟩ := h.lst
    rw [relL_bls' t] at ha
    exact ⟨a, _, rfl, .of ha, k A H _ p s rfl⟩
  · cases hf
theorem valN_int : ValN C fInt (fun xs H Q => (∃ i, xs = [.int i] ∧ Q (.int i) H) ∨ ∃ k, xs = [.bl k] ∧ Q (.int (if k then 1 else 0)) H) := by
  intro v0 A0 A r0 r σ H0 H ds xs ev Q p s hp hf k
  unfold fInt at hf
  split at hf
  · cases hf
    obtain ⟨x, rfl, h⟩ := pair1 hp
    rw [h.int]
    exact .inl ⟨_, rfl, k A H _ p s rfl⟩
  · cases hf
    obtain ⟨x, rfl, h⟩ := pair1 hp
    rw [h.bl]
    exact .inr ⟨_, rfl, k A H _ p s rfl⟩
  · cases hf
def rStrA : List V → Hp → VK → Prop := fun xs H Q => (∃ i, xs = [.int i] ∧ i.natAbs.log2 < 1920 ∧ Q (.str (toString i)) H) ∨ (∃ a, xs = [.str a] ∧ Q (.str a) H)
theorem cr_strA : CallR X (.type "str") rStrA := CallR.or call_str_int SkE.call_str_str
theorem valN_str : ValN C fStr rStrA := by
  intro v0 A0 A r0 r σ H0 H ds xs ev Q p s hp hf k
  unfold fStr at hf
  split at hf
  · rename_i i
    by_cases hi : okShow i = true
    · rw [if_pos hi] at hf; cases hf
      obtain ⟨x, rfl, h⟩ := pair1 hp
      rw [h.int]
      exact .inl ⟨_, rfl, of_decide_eq_true hi, k A H _ p s rfl⟩
    · rw [if_neg hi] at hf; cases hf
  · cases hf
    obtain ⟨x, rfl, h⟩ := pair1 hp
    rw [h.str]
    exact .inr ⟨_, rfl, k A H _ p s rfl⟩
  · cases hf
theorem valN_list (hK : C.K = X.K) : ValN C fList (fun xs H Q => ∃ p ys, xs = [.ref p] ∧ (SqL X.K H p ys ∨ SqT X.K H p ys) ∧ ∀ l, H l = none → Q (.ref l) (upd H l (.lst ys))) := by
  intro v0 A0 A r0 r σ H0 H ds xs ev Q p s hp hf k
  unfold fList at hf
  split at hf
  · cases hf
    obtain ⟨x, rfl, h⟩ := pair1 hp
    obtain ⟨a, vs, rfl, ha, t⟩ := h.lst
    refine ⟨a, vs, rfl, .inl (.of ha), fun l hl => ?_⟩
    obtain ⟨p3, s3, e3⟩ := lay_own (d := .lst _) (o := .lst vs) p s hl ⟨_, upd_same, t.carry (carry_lay hl)⟩
    exact k A _ _ p3 s3 e3
  · cases hf
    obtain ⟨x, rfl, h⟩ := pair1 hp
    obtain ⟨a, vs, rfl, ha, t⟩ := h.tup
    refine ⟨a, vs, rfl, .inr (by rw [← hK]; exact ha), fun l hl => ?_⟩
    obtain ⟨p3, s3, e3⟩ := lay_own (d := .lst _) (o := .lst vs) p s hl ⟨_, upd_same, t.carry (carry_lay hl)⟩
    exact k A _ _ p3 s3 e3
  · rename_i ns
    cases hf
    obtain ⟨x, rfl, h⟩ := pair1 hp
    obtain ⟨a, rfl, ha⟩ := h.scr
    refine ⟨a, _, rfl, .inl (by rw [← hK]; exact ha.seq), fun l hl => ?_⟩
    obtain ⟨p3, s3, e3⟩ := lay_own (d := .lst (ns.map .int)) (o := .lst (ns.map V.int)) p s hl ⟨_, upd_same, relL_ints⟩
    exact k A _ _ p3 s3 e3
  · cases hf
/-- tuple(x): the things of a list that nobody else holds are handed on -/
theorem valN_tuple (hK : C.K = X.K) : ValN C fTuple (fun xs H Q => ∃ p ys, xs = [.ref p] ∧ ((SqL X.K H p ys ∧ ∀ l, H l = none → Q (.ref l) (upd H l (.tup ys))) ∨ (SqT X.K H p ys ∧ Q (.ref p) H))) := by
  intro v0 A0 A r0 r σ H0 H ds xs ev Q p s hp hf k
  unfold fTuple at hf
  split at hf
  · cases hf
    obtain ⟨x, rfl, h⟩ := pair1 hp
    obtain ⟨a, vs, rfl, ha, t⟩ := h.lst
    refine ⟨a, vs, rfl, .inl ⟨.of ha, fun l hl => ?_⟩⟩
    obtain ⟨p3, s3, e3⟩ := lay_tup p hl t
    exact k A _ _ p3 (s.trans s3) e3
  · cases hf
    obtain ⟨x, rfl, h⟩ := pair1 hp
    obtain ⟨a, vs, rfl, ha, t⟩ := h.tup
    exact ⟨a, vs, rfl, .inr ⟨by rw [← hK]; exact ha, k A H _ p s ⟨a, vs, rfl, ha, t⟩⟩⟩
  · cases hf
theorem valN_gcd : ValN C fGcd rGcd := by
  intro v0 A0 A r0 r σ H0 H ds xs ev Q p s hp hf k
  unfold fGcd at hf
  split at hf
  · cases hf
    obtain ⟨x, y, rfl, h, h2⟩ := pair2 hp
    rw [h.int, h2.int]
    exact ⟨_, _, rfl, k A H _ p s rfl⟩
  · cases hf
end
/-! ### sorted -/
def leS (a b : Str) : Bool := !ltS b a
def srtS (xs : List Str) : List Str := xs.mergeSort leS
def srtI (xs : List Int) : List Int := xs.mergeSort fun a b => decide (a ≤ b)
def keysS : List Key → Option (List Str)
  | [] => some []
  | .inr s :: r => (keysS r).map (s :: ·)
  | _ :: _ => none
def keysI : List Key → Option (List Int)
  | [] => some []
  | .inl s :: r => (keysI r).map (s :: ·)
  | _ :: _ => none
def fSort : List D → Option EV
  | [.lst xs] => match intsOf xs with
    | some ns => some (.own (.lst ((srtI ns).map .int)))
    | none => match strsOf xs with
      | some ss => if ss.length < 64 then some (.own (.lst ((srtS ss).map .str))) else none
      | none => none
  | [.dK kvs] => if kvs.length < 64 then match keysI (kvs.map (·.1)) with
      | some ns => some (.own (.lst ((srtI ns).map .int)))
      | none => match keysS (kvs.map (·.1)) with
        | some ss => some (.own (.lst ((srtS ss).map .str)))
        | none => none
    else none
  | _ => none
section
variable {X : Cx} {C : Ct} {A : Addr → Prop} {H : Hp}
theorem srtI_eq {xs ys : List Int} (hp : ys.Perm xs) (hs : ys.Pairwise (· ≤ ·)) : ys = srtI xs := by
  have h1 : (srtI xs).Pairwise (fun a b => decide (a ≤ b) = true) := List.pairwise_mergeSort (le := fun a b => decide (a ≤ b)) (fun a b c h1 h2 => by simp at *; omega) (fun a b => by simp; omega) xs
  have h2 : (srtI xs).Perm xs := List.mergeSort_perm xs _
  exact List.Perm.eq_of_pairwise (le := fun a b : Int => a ≤ b) (fun a b _ _ h1 h2 => by omega) hs (h1.imp fun h => by simpa using h) (hp.trans h2.symm)
theorem cps_ext {a b : Str} (h : a.cps.toList = b.cps.toList) : a = b := by
  cases a; cases b
  simp at h
  congr
theorem leS_trans (a b c : Str) (h1 : leS a b = true) (h2 : leS b c = true) : leS a c = true := by
  simp only [leS, ltS, Bool.not_eq_true', decide_eq_false_iff_not] at *
  exact fun h => by
    have h1' : a.cps.toList ≤ b.cps.toList := List.not_lt.mp h1
    have h2' : b.cps.toList ≤ c.cps.toList := List.not_lt.mp h2
    exact absurd h (List.not_lt.mpr (List.le_trans h1' h2'))
theorem leS_total (a b : Str) : (leS a b || leS b a) = true := by
  simp only [leS, ltS, Bool.or_eq_true, Bool.not_eq_true', decide_eq_false_iff_not, List.not_lt]
  exact List.le_total _ _
theorem leS_antisymm {a b : Str} (h1 : leS a b = true) (h2 : leS b a = true) : a = b := by
  simp only [leS, ltS, Bool.not_eq_true', decide_eq_false_iff_not, List.not_lt] at *
  exact cps_ext (List.le_antisymm h1 h2)
theorem srtS_pw (xs : List Str) : (srtS xs).Pairwise fun a b => leS a b = true := List.pairwise_mergeSort leS_trans leS_total xs
theorem srtS_perm (xs : List Str) : (srtS xs).Perm xs := List.mergeSort_perm xs _
theorem rising_pw : ∀ {r : List Str} {x : Str}, risingS x r = true → (x :: r).Pairwise fun a b => leS a b = true
  | [], _, _ => by simp
  | y :: r, x, h => by
    unfold risingS at h
    rw [Bool.and_eq_true] at h
    have ih := rising_pw h.2
    have hxy : leS x y = true := by
      unfold leS ltS
      rw [le_meets]; exact h.1
    refine List.pairwise_cons.mpr ⟨fun z hz => ?_, ih⟩
    rcases List.mem_cons.mp hz with e | e
    · rw [e]; exact hxy
    · exact leS_trans _ _ _ hxy ((List.pairwise_cons.mp ih).1 z e)
theorem sortedS_pw : ∀ {ys : List Str}, sortedS ys = true → ys.Pairwise fun a b => leS a b = true
  | [], _ => .nil
  | x :: r, h => rising_pw h
theorem srtS_eq {xs ys : List Str} (hp : ys.Perm xs) (hs : sortedS ys = true) : ys = srtS xs :=
  List.Perm.eq_of_pairwise (le := fun a b : Str => leS a b = true) (fun a b _ _ h1 h2 => leS_antisymm h1 h2) (sortedS_pw hs) (srtS_pw xs) (hp.trans (srtS_perm xs).symm)
theorem keysI_map : ∀ {xs : List Key} {ns : List Int}, keysI xs = some ns → xs = ns.map .inl
  | [], ns, h => by cases h; rfl
  | d :: r, ns, h => by
    cases d <;> simp only [keysI] at h <;> first | cases h | skip
    obtain ⟨l, h1, rfl⟩ := Option.map_eq_some_iff.mp h
    rw [keysI_map h1]; rfl
theorem keysS_map : ∀ {xs : List Key} {ns : List Str}, keysS xs = some ns → xs = ns.map .inr
  | [], ns, h => by cases h; rfl
  | d :: r, ns, h => by
    cases d <;> simp only [keysS] at h <;> first | cases h | skip
    obtain ⟨l, h1, rfl⟩ := Option.map_eq_some_iff.mp h
    rw [keysS_map h1]; rfl
theorem relK_keys : ∀ {kvs : List (Key × D)} {ws : List (Key × V)}, RelK C A H kvs ws → ws.map (·.1) = kvs.map (·.1)
  | [], _, h => by cases h; rfl
  | (_, _) :: _, _, ⟨_, _, e, _, t⟩ => by rw [e, List.map_cons, List.map_cons, relK_keys t]
def rSortA (K : PySem.W.Frag) : List V → Hp → VK → Prop := fun xs H Q => (rSortedI K xs H Q ∨ rSortedS K xs H Q) ∨
  ((∃ (a : Addr) (kvs : List (Key × V)) (ks : List Str), xs = [.ref a] ∧ Rd H a (.dK kvs) ∧ kvs.map (·.1) = ks.map Sum.inr ∧ ks.length < 64 ∧ ∀ ys p, ys.Perm ks → sortedS ys = true → H p = none → Q (.ref p) (upd H p (.lst (ys.map V.str)))) ∨
   (∃ (a : Addr) (kvs : List (Key × V)) (ks : List Int), xs = [.ref a] ∧ Rd H a (.dK kvs) ∧ kvs.map (·.1) = ks.map Sum.inl ∧ ks.length < 64 ∧ ∀ (ys : List Int) (p : Addr), ys.Perm ks → ys.Pairwise (· ≤ ·) → H p = none → Q (.ref p) (upd H p (.lst (ys.map V.int)))))
theorem cr_sortA (hc : X.calm = true) : CallR X (.builtin "sorted") (rSortA X.K) := CallR.or (CallR.or cr_sortedI cr_sortedS) (CallR.or (call_sortedD hc) (call_sortedDI hc))
theorem valN_sort : ValN C fSort (rSortA X.K) := by
  intro v0 A0 A r0 r σ H0 H ds xs ev Q p s hp hf k
  have newI : ∀ {ns : List Int} (l : Addr), H l = none → ev = .own (.lst (ns.map .int)) → Q (.ref l) (upd H l (.lst (ns.map V.int))) := fun {ns} l hl e => by
    subst e
    obtain ⟨p3, s3, e3⟩ := lay_own (d := .lst (ns.map .int)) (o := .lst (ns.map V.int)) p s hl ⟨_, upd_same, relL_ints⟩
    exact k A _ _ p3 s3 e3
  have newS : ∀ {ns : List Str} (l : Addr), H l = none → ev = .own (.lst (ns.map .str)) → Q (.ref l) (upd H l (.lst (ns.map V.str))) := fun {ns} l hl e => by
    subst e
    obtain ⟨p3, s3, e3⟩ := lay_own (d := .lst (ns.map .str)) (o := .lst (ns.map V.str)) p s hl ⟨_, upd_same, relL_strs⟩
    exact k A _ _ p3 s3 e3
  unfold fSort at hf
  split at hf
  · rename_i ys
    obtain ⟨x, rfl, h⟩ := pair1 hp
    obtain ⟨a, vs, rfl, ha, t⟩ := h.lst
    split at hf
    · rename_i ns e
      cases hf
      have := intsOf_map e
      subst this
      rw [relL_ints' t] at ha
      exact .inl (.inl ⟨a, ns, rfl, .of ha, fun ns' l h1 h2 hl => by rw [srtI_eq h1 h2]; exact newI l hl rfl⟩)
    · split at hf
      · rename_i ss e
        by_cases h64 : ss.length < 64
        · rw [if_pos h64] at hf
          cases hf
          have := strsOf_map e
          subst this
          rw [relL_strs' t] at ha
          exact .inl (.inr ⟨a, ss, rfl, .of ha, h64, fun ns' l h1 h2 hl => by rw [srtS_eq h1 h2]; exact newS l hl rfl⟩)
        · rw [if_neg h64] at hf; cases hf
      · cases hf
  · rename_i kvs
    obtain ⟨x, rfl, h⟩ := pair1 hp
    obtain ⟨a, ws, rfl, ha, t⟩ := h.dK
    have hkeys := relK_keys t
    by_cases h64 : kvs.length < 64
    · rw [if_pos h64] at hf
      split at hf
      · rename_i ns e
        cases hf
        have e2 := keysI_map e
        exact .inr (.inr ⟨a, ws, ns, rfl, .of ha, by rw [hkeys, e2], by rw [← List.length_map (f := (Sum.inl : Int → Key)), ← e2, List.length_map]; exact h64, fun ns' l h1 h2 hl => by rw [srtI_eq h1 h2]; exact newI l hl rfl⟩)
      · split at hf
        · rename_i ss e
          cases hf
          have e2 := keysS_map e
          exact .inr (.inl ⟨a, ws, ss, rfl, .of ha, by rw [hkeys, e2], by rw [← List.length_map (f := (Sum.inr : Str → Key)), ← e2, List.length_map]; exact h64, fun ns' l h1 h2 hl => by rw [srtS_eq h1 h2]; exact newS l hl rfl⟩)
        · cases hf
    · rw [if_neg h64] at hf; cases hf
  · cases hf
end
end Mi
end
section
set_option maxRecDepth 100000
set_option maxHeartbeats 2000000
namespace Mi
open PySem PySem.Spec L2
open PyProof.Rows hiding St

/-! ### several names at once -/
def kp (b : Bool) (ev : EV) (r : List SV) : Option (EV × List SV) := match ev with
  | .own d => if b = true then some (.own d, r) else some (.val d, r)
  | ev => match toV ev r with
    | some (d, r1) => some (.val d, r1)
    | none => none
def frzs : List Bool → List EV → List SV → Option (List EV × List SV)
  | [], [], r => some ([], r)
  | b :: bs, ev :: es, r => match kp b ev r with
    | some (e', r1) => match frzs bs es r1 with
      | some (es', r2) => some (e' :: es', r2)
      | none => none
    | none => none
  | _, _, _ => none
def stor : List Nat → List EV → List SV → Option (List SV)
  | [], [], r => some r
  | i :: is, .val d :: es, r => stor is es (r.set i (.val d))
  | i :: is, .own d :: es, r => stor is es (r.set i (.box d))
  | _, _, _ => none
def parF (is : List Nat) (bs : List Bool) (evs : List EV) : M Fl := fun r => match frzs bs evs r with
  | some (es, r1) => match stor is es r1 with
    | some r2 => .ok .nx r2
    | none => .no
  | none => .no
/-- a, b = x, y -/
def mPar (is : List Nat) (bs : List Bool) (ms : M (List EV)) : M Fl := bnd ms (parF is bs)
def sets (σ : St) : List Nat → List V → St
  | i :: is, v :: vs => sets (σ.set i (some v)) is vs
  | _, _ => σ
section
variable {C : Ct} {v0 : List V} {W : WX} {A A0 A' : Addr → Prop} {r r0 r' : List SV} {σ σ0 : St} {H H0 : Hp}
theorem kp_ok {b : Bool} {ev e' : EV} {v : V} (p : Rp C v0 A r σ H) (s : Stp A0 r0 σ H0 A r σ H) (h : RelE C A H0 r σ H ev v) (e : kp b ev r = some (e', r')) :
    ∃ A', Rp C v0 A' r' σ H ∧ Stp A0 r0 σ H0 A' r' σ H ∧ RelE C A' H0 r' σ H e' v ∧ Carry A A' H H ∧ (∀ b, Bx r' σ b → Bx r σ b) ∧ (∀ b, A' b → A b ∨ (v = .ref b ∧ ((∃ d', ev = .own d') ∨ Bx r σ b))) ∧ (∀ i, e' ≠ .bx i) ∧ (∀ d, e' = .own d → ev = .own d ∧ A' = A) := by
  have viaV : ∀ {ev : EV} {d : D}, RelE C A H0 r σ H ev v → toV ev r = some (d, r') → ∃ A', Rp C v0 A' r' σ H ∧ Stp A0 r0 σ H0 A' r' σ H ∧ RelE C A' H0 r' σ H (.val d) v ∧ Carry A A' H H ∧ (∀ b, Bx r' σ b → Bx r σ b) ∧ (∀ b, A' b → A b ∨ (v = .ref b ∧ ((∃ d', ev = .own d') ∨ Bx r σ b))) ∧ (∀ i, EV.val d ≠ .bx i) ∧ (∀ d2, EV.val d = .own d2 → ev = .own d2 ∧ A' = A) := fun {ev d} h e => by
    obtain ⟨A1, p1, s1, t1, c1, b1, n1⟩ := toV_ok6 p s h.q e
    exact ⟨A1, p1, s1, t1, c1, b1, n1, fun _ z => (nomatch z), fun _ z => nomatch z⟩
  cases ev with
  | val d => cases e; exact viaV h rfl
  | bx i =>
    unfold kp at e
    dsimp only at e
    cases et : toV (.bx i) r with
    | none => rw [et] at e; cases e
    | some z => obtain ⟨d, r1⟩ := z; rw [et] at e; cases e; exact viaV h et
  | own d =>
    unfold kp at e
    dsimp only at e
    cases b with
    | true =>
      rw [if_pos rfl] at e
      cases e
      exact ⟨A, p, s, h, ⟨fun _ h => h, fun _ _ _ h _ => h, fun _ _ h => h, fun _ _ _ h => h⟩, fun _ h => h, fun _ h => .inl h, fun _ z => (nomatch z), fun _ z => ⟨z, rfl⟩⟩
    | false =>
      rw [if_neg Bool.false_ne_true] at e
      cases e
      exact viaV h rfl
theorem frzs_ok : ∀ {bs : List Bool} {evs es : List EV} {vs : List V} {A : Addr → Prop} {r r' : List SV} (p : Rp C v0 A r σ H) (s : Stp A0 r0 σ H0 A r σ H) (h : Paired (RelE C A H0 r σ H) evs vs) (hd : Dst evs vs) (e : frzs bs evs r = some (es, r')),
    ∃ A', Rp C v0 A' r' σ H ∧ Stp A0 r0 σ H0 A' r' σ H ∧ Paired (RelE C A' H0 r' σ H) es vs ∧ Dst es vs ∧ Carry A A' H H ∧ (∀ b, Bx r' σ b → Bx r σ b) ∧ (∀ b, A' b → A b ∨ Bx r σ b ∨ ∃ (j : Nat) (d : D), evs[j]? = some (.own d) ∧ vs[j]? = some (.ref b)) ∧ (∀ ev ∈ es, ∀ i, ev ≠ .bx i) ∧ (∀ (j : Nat) (d : D), es[j]? = some (.own d) → evs[j]? = some (.own d))
  | [], evs, es, vs, A, r, r', p, s, h, hd, e => by
    cases evs with
    | cons _ _ => cases e
    | nil =>
      cases e
      cases h
      exact ⟨A, p, s, .nil, .nil, ⟨fun _ h => h, fun _ _ _ h _ => h, fun _ _ h => h, fun _ _ _ h => h⟩, fun _ h => h, fun _ h => .inl h, fun _ h => (nomatch h), fun j d h => h⟩
  | b :: bs, evs, es, vs, A, r, r', p, s, h, hd, e => by
    cases h with
    | nil => cases e
    | @cons ev v evs vs h1 h2 =>
      unfold frzs at e
      split at e
      · rename_i e1 r1 q
        split at e
        · rename_i es2 r2 q2
          cases e
          obtain ⟨A1, p1, s1, t1, c1, b1, n1, x1, o1⟩ := kp_ok p s h1 q
          have hd2 : Dst evs vs := fun i j d d' ne a b => by
            have := hd (i + 1) (j + 1) d d' (by omega) (by simpa using a) (by simpa using b)
            simpa using this
          have dis : ∀ {d : D}, ev = .own d → ∀ (j : Nat) (d' : D), evs[j]? = some (.own d') → vs[j]? ≠ some v := fun {d} e j d' hj z => by
            subst e
            exact hd 0 (j + 1) d d' (by omega) (by simp) (by simpa using hj) (by simpa using z.symm)
          have h2' : Paired (RelE C A1 H0 r1 σ H) evs vs := by
            have key : ∀ (j : Nat) ev' v', evs[j]? = some ev' → vs[j]? = some v' → RelE C A H0 r σ H ev' v' → RelE C A1 H0 r1 σ H ev' v' := fun j ev' v' hj hv z => by
              cases ev' with
              | val d => exact Rel.carry c1 d z
              | bx i => exact z
              | own d =>
                obtain ⟨a, rfl, x2, x3, x4, x5⟩ := z
                refine ⟨a, rfl, x2, fun w => ?_, fun w => x4 (b1 _ w), x5.carry c1 fun _ q _ => q⟩
                rcases n1 a w with w | ⟨w1, ⟨d0, w2⟩ | w2⟩
                · exact x3 w
                · exact dis w2 j d hj (by rw [hv, w1])
                · exact x4 w2
            exact paired_ix h2 key
          obtain ⟨A2, p2, s2, t2, d2, c2, b2, n2, x2, o2⟩ := frzs_ok p1 s1 h2' hd2 q2
          refine ⟨A2, p2, s2, .cons ?_ t2, ?_, ⟨fun b h => c2.up b (c1.up b h), fun _ _ _ h _ => h, fun _ _ h => h, fun _ _ _ h => h⟩, fun b h => b1 b (b2 b h), fun b h => ?_, fun ev' he i => ?_, fun j d hj => ?_⟩
          · cases e1 with
            | val d => exact Rel.carry c2 d t1
            | bx i => exact absurd rfl (x1 i)
            | own d =>
              obtain ⟨rfl, rfl⟩ := o1 d rfl
              obtain ⟨a, rfl, y2, y3, y4, y5⟩ := t1
              refine ⟨a, rfl, y2, fun w => ?_, fun w => y4 (b2 _ w), y5.carry c2 fun _ q _ => q⟩
              rcases n2 a w with w | w | ⟨j, d', w1, w2⟩
              · exact y3 w
              · exact y4 w
              · exact dis rfl j d' w1 w2
          · refine d2.cons fun d hd' j d' hj => ?_
            obtain ⟨rfl, _⟩ := o1 d hd'
            exact dis rfl j d' (o2 j d' hj)
          · rcases n2 b h with h | h | ⟨j, d', w1, w2⟩
            · rcases n1 b h with h | ⟨w1, ⟨d0, w2⟩ | w2⟩
              · exact .inl h
              · exact .inr (.inr ⟨0, d0, by rw [w2]; rfl, by rw [w1]; rfl⟩)
              · exact .inr (.inl w2)
            · exact .inr (.inl (b1 b h))
            · exact .inr (.inr ⟨j + 1, d', by simpa using w1, by simpa using w2⟩)
          · rcases List.mem_cons.mp he with he | he
            · rw [he]; exact x1 i
            · exact x2 ev' he i
          · cases j with
            | zero =>
              have : e1 = .own d := by simpa using hj
              rw [(o1 d this).1] <;> rfl
            | succ j => simpa using o2 j d (by simpa using hj)
        · cases e
      · cases e
where
  paired_ix {α β : Type} {F G : α → β → Prop} : ∀ {xs : List α} {ys : List β}, Paired F xs ys → (∀ (j : Nat) a b, xs[j]? = some a → ys[j]? = some b → F a b → G a b) → Paired G xs ys
    | _, _, .nil, _ => .nil
    | _, _, .cons h t, k => .cons (k 0 _ _ rfl rfl h) (paired_ix t fun j a b x y => k (j + 1) a b (by simpa using x) (by simpa using y))
theorem stor_ok : ∀ {is : List Nat} {es : List EV} {vs : List V} {r r' : List SV} {σ : St} (p : Rp C v0 A r σ H) (s : Stp A0 r0 σ0 H0 A r σ H) (h : Paired (RelE C A H0 r σ H) es vs) (hd : Dst es vs) (hx : ∀ ev ∈ es, ∀ i, ev ≠ .bx i) (e : stor is es r = some r'),
    Rp C v0 A r' (sets σ is vs) H ∧ Stp A0 r0 σ0 H0 A r' (sets σ is vs) H
  | [], es, vs, r, r', σ, p, s, h, hd, hx, e => by
    cases h with
    | cons _ _ => simp [stor] at e
    | nil => cases e; exact ⟨p, s⟩
  | i :: is, es, vs, r, r', σ, p, s, h, hd, hx, e => by
    cases h with
    | nil => simp [stor] at e
    | @cons ev v es vs h1 h2 =>
      have hd2 : Dst es vs := fun i j d d' ne a b => by
        have := hd (i + 1) (j + 1) d d' (by omega) (by simpa using a) (by simpa using b)
        simpa using this
      have hx2 : ∀ ev ∈ es, ∀ i, ev ≠ .bx i := fun ev h => hx ev (List.mem_cons_of_mem _ h)
      cases ev with
      | bx j => exact absurd rfl (hx _ (List.mem_cons_self ..) j)
      | val d =>
        obtain ⟨p1, s1⟩ := set_val (i := i) p s h1
        refine stor_ok (is := is) p1 s1 ?_ hd2 hx2 e
        refine paired_mem h2 fun ev' v' he z => ?_
        cases ev' with
        | bx j => exact absurd rfl (hx2 _ he j)
        | val d' => exact z
        | own d' =>
          obtain ⟨a, rfl, x2, x3, x4, x5⟩ := z
          exact ⟨a, rfl, x2, x3, fun w => x4 (set_val_bx p w), x5⟩
      | own d =>
        obtain ⟨a, rfl, y2, y3, y4, y5⟩ := h1
        obtain ⟨p1, s1⟩ := set_box (i := i) p s y2 y3 y4 y5
        refine stor_ok (is := is) p1 s1 ?_ hd2 hx2 e
        refine frzs_ok.paired_ix h2 fun j ev' v' hj hv z => ?_
        cases ev' with
        | bx k => exact absurd rfl (hx2 _ (List.mem_of_getElem? hj) k)
        | val d' => exact z
        | own d' =>
          obtain ⟨a', rfl, x2, x3, x4, x5⟩ := z
          refine ⟨a', rfl, x2, x3, fun w => ?_, x5⟩
          rcases set_box_bx p w with w | w
          · exact x4 w
          · subst w
            exact hd 0 (j + 1) d d' (by omega) (by simp) (by simpa using hj) (by simp [hv])
where
  paired_mem {α β : Type} {F G : α → β → Prop} : ∀ {xs : List α} {ys : List β}, Paired F xs ys → (∀ a b, a ∈ xs → F a b → G a b) → Paired G xs ys
    | _, _, .nil, _ => .nil
    | _, _, .cons h t, k => .cons (k _ _ (List.mem_cons_self ..) h) (paired_mem t fun a b x => k a b (List.mem_cons_of_mem _ x))
  set_val_bx {d : D} {i : Nat} {v : V} {r : List SV} {σ : St} {b : Addr} (p : Rp C v0 A r σ H) (w : Bx (r.set i (.val d)) (σ.set i (some v)) b) : Bx r σ b := by
    obtain ⟨j, e, h1, h2⟩ := w
    have go : ∀ {x : SV}, (r.set i (.val d))[j]? = some x → (∀ d, x ≠ .val d) → r[j]? = some x ∧ σ[j]? = some (some (.ref b)) := fun {x} h n => by
      rcases getElem?_set_cases h with ⟨_, z, _⟩ | ⟨ne, z⟩
      · exact absurd z (n d)
      · rw [List.getElem?_set_ne ne] at h2; exact ⟨z, h2⟩
    rcases h1 with h1 | h1
    · obtain ⟨x, y⟩ := go h1 (fun _ z => nomatch z); exact ⟨j, e, .inl x, y⟩
    · obtain ⟨x, y⟩ := go h1 (fun _ z => nomatch z); exact ⟨j, e, .inr x, y⟩
  set_box_bx {d : D} {i : Nat} {a : Addr} {r : List SV} {σ : St} {b : Addr} (p : Rp C v0 A r σ H) (w : Bx (r.set i (.box d)) (σ.set i (some (.ref a))) b) : Bx r σ b ∨ b = a := by
    obtain ⟨j, e, h1, h2⟩ := w
    by_cases hj : i = j
    · subst hj
      by_cases hl : i < σ.length
      · rw [List.getElem?_set_self hl] at h2
        cases h2; exact .inr rfl
      · rw [List.getElem?_eq_none (by rw [List.length_set]; omega)] at h2; cases h2
    · rw [List.getElem?_set_ne hj] at h2
      rw [List.getElem?_set_ne hj] at h1
      exact .inl ⟨j, e, h1, h2⟩
theorem parF_ok {is : List Nat} {bs : List Bool} {evs : List EV} {vs : List V} {N : Ends} (p : Rp C v0 A r σ H) (s : Stp A0 r0 σ H0 A r σ H) (h : RelEs C A H0 r σ H evs vs) (q : PoS C v0 W A0 r0 σ H0 N (parF is bs evs r)) : N.nx (sets σ is vs) H := by
  unfold parF at q
  cases e : frzs bs evs r with
  | none => rw [e] at q; exact q.elim
  | some z =>
    obtain ⟨es, r1⟩ := z
    rw [e] at q
    dsimp only at q
    obtain ⟨A1, p1, s1, t1, d1, _, _, _, x1, _⟩ := frzs_ok p s h.1 h.2 e
    cases e2 : stor is es r1 with
    | none => rw [e2] at q; exact q.elim
    | some r2 =>
      rw [e2] at q
      obtain ⟨p2, s2⟩ := stor_ok (is := is) p1 s1 t1 d1 x1 e2
      exact q A1 _ H p2 s2
end
section
variable {X : Cx} {C : Ct} {v0 : List V} {W : WX} {ms : M (List EV)} {i j l : Nat} {x y z : Str} {a b c : Expr} {px py pz pt pos : Pos} {kt k2 pt2}
theorem pms_par (bs : List Bool) (hc : X.calm = true) (hN : X.N.Nodup) (hi : X.N[i]? = some x) (hj : X.N[j]? = some y) (hij : i ≠ j)
    (hx : X.env.scope.names.lookup x = some .local) (hy : X.env.scope.names.lookup y = some .local) (ha : PA X [a, b] (tEs C v0 W ms)) (hl : LenM ms 2)
    (hw : swappedStores [.Tuple [.Name x px, .Name y py] kt pt] (.Tuple [a, b] k2 pt2) X.env = pure (some [x, y]))
    (hs : swapsWithSole [.Tuple [.Name x px, .Name y py] kt pt] (.Tuple [a, b] k2 pt2) pos.line X.env = pure false := by rfl) :
    PS X (.Assign [.Tuple [.Name x px, .Name y py] kt pt] (.Tuple [a, b] k2 pt2) pos) (tS C v0 W (mPar [i, j] bs ms)) := by
  refine PS.imp (ps_par hc hN hi hj hij hx hy ha hw hs) fun N σ H ⟨A, r, p, q⟩ => ⟨A, r, p, ?_⟩
  unfold mPar bnd at q
  cases em : ms r with
  | no => rw [em] at q; exact q
  | exc c fs r' => rw [em] at q; exact fun A' H' cl d p s x => q A' σ H' cl d p s x
  | ok evs r1 =>
    rw [em] at q
    intro A1 H1 vs p1 s1 e1
    have h2 : vs.length = 2 := by rw [← paired_len e1.1]; exact hl r evs r1 em
    obtain ⟨v, w, rfl⟩ : ∃ v w, vs = [v, w] := by
      match vs, h2 with
      | [v, w], _ => exact ⟨v, w, rfl⟩
    exact ⟨v, w, rfl, parF_ok p1 s1 e1 q⟩
theorem pms_par3 (bs : List Bool) (hc : X.calm = true) (hN : X.N.Nodup) (hi : X.N[i]? = some x) (hj : X.N[j]? = some y) (hk : X.N[l]? = some z) (hij : i ≠ j) (hil : i ≠ l) (hjl : j ≠ l)
    (hx : X.env.scope.names.lookup x = some .local) (hy : X.env.scope.names.lookup y = some .local) (hz : X.env.scope.names.lookup z = some .local) (ha : PA X [a, b, c] (tEs C v0 W ms)) (hl : LenM ms 3)
    (hw : swappedStores [.Tuple [.Name x px, .Name y py, .Name z pz] kt pt] (.Tuple [a, b, c] k2 pt2) X.env = pure (some [x, y, z]))
    (hs : swapsWithSole [.Tuple [.Name x px, .Name y py, .Name z pz] kt pt] (.Tuple [a, b, c] k2 pt2) pos.line X.env = pure false := by rfl) :
    PS X (.Assign [.Tuple [.Name x px, .Name y py, .Name z pz] kt pt] (.Tuple [a, b, c] k2 pt2) pos) (tS C v0 W (mPar [i, j, l] bs ms)) := by
  refine PS.imp (ps_par3 hc hN hi hj hk hij hil hjl hx hy hz ha hw hs) fun N σ H ⟨A, r, p, q⟩ => ⟨A, r, p, ?_⟩
  unfold mPar bnd at q
  cases em : ms r with
  | no => rw [em] at q; exact q
  | exc c fs r' => rw [em] at q; exact fun A' H' cl d p s x => q A' σ H' cl d p s x
  | ok evs r1 =>
    rw [em] at q
    intro A1 H1 vs p1 s1 e1
    have h2 : vs.length = 3 := by rw [← paired_len e1.1]; exact hl r evs r1 em
    obtain ⟨u, v, w, rfl⟩ : ∃ u v w, vs = [u, v, w] := by
      match vs, h2 with
      | [u, v, w], _ => exact ⟨u, v, w, rfl⟩
    exact ⟨u, v, w, rfl, parF_ok p1 s1 e1 q⟩
end
end Mi
end
section
set_option maxRecDepth 100000
set_option maxHeartbeats 2000000
namespace Mi
open PySem PySem.Spec L2
open PyProof.Rows hiding St

/-! ### one's own list or dict is changed -/
section
variable {C : Ct} {v0 : List V} {W : WX} {A A0 A' : Addr → Prop} {r r0 r' : List SV} {σ σ0 : St} {H H0 : Hp}
theorem tabs_upd {T : List (Addr × Str)} {b : Addr} {o : HO} (t : LamX.Tabs T H) (n1 : ∀ ps, H b ≠ some (.tbl ps)) (n2 : ∀ f, H b ≠ some (.ext f)) : LamX.Tabs T (upd H b o) := fun q hq => by
  obtain ⟨ps, h1, h2, h3⟩ := t q hq
  have ne : ∀ {c : Addr} {u : HO}, H c = some u → (∀ ps, u ≠ .tbl ps) ∨ (∀ f, u ≠ .ext f) → c ≠ b ∨ True := fun _ _ => .inr trivial
  have hb : q.1 ≠ b := fun z => n1 ps (by rw [← z]; exact h1)
  refine ⟨ps, by rw [upd_ne hb]; exact h1, h2, fun pos cv hc => ?_⟩
  obtain ⟨c, e1, e2⟩ := h3 pos cv hc
  have hb2 : c ≠ b := fun z => n2 _ (by rw [← z]; exact e2)
  exact ⟨c, e1, by rw [upd_ne hb2]; exact e2⟩
theorem Own.noext {d : D} {a : Addr} (h : Own C A H d a) : ∀ f, H a ≠ some (.ext f) := fun f z => by
  cases d with
  | lst xs => obtain ⟨vs, e, _⟩ := h; rw [z] at e; cases e
  | dK xs => obtain ⟨vs, e, _⟩ := h; rw [z] at e; cases e
  | dT xs => obtain ⟨vs, e, _⟩ := h; rw [z] at e; cases e
  | ins c fs => obtain ⟨cl, dx, ws, _, e, _⟩ := h; rw [z] at e; cases e
  | _ => exact h.elim
/-- a slot's thing, of either kind -/
def bxD : SV → Option D
  | .box d => some d
  | .pbx d => some d
  | _ => none
def SV.put : SV → D → SV
  | .box _, d => .box d
  | .pbx _, d => .pbx d
  | x, _ => x
theorem box_upd (p : Rp C v0 A r σ H) {i : Nat} {x : SV} {d : D} (hi : r[i]? = some x) (hx : bxD x = some d) : ∃ b, σ[i]? = some (some (.ref b)) ∧ Own C A H d b ∧ ∀ (o : HO) (d' : D), Carry A A H (upd H b o) ∧
    (Own C A (upd H b o) d' b → Rp C v0 A (r.set i (x.put d')) σ (upd H b o) ∧ Stp A r σ H A (r.set i (x.put d')) σ (upd H b o)) := by
  have hh : ∃ b, σ[i]? = some (some (.ref b)) ∧ ¬ A b ∧ Own C A H d b := by
    cases x with
    | box d0 => cases hx; exact p.box i d hi
    | pbx d0 =>
      cases hx
      obtain ⟨b, e, _, n, o⟩ := p.pbx i d hi
      exact ⟨b, e, n, o⟩
    | un => cases hx
    | val _ => cases hx
  obtain ⟨b, e, n, ow⟩ := hh
  have hik : ∀ d', (r[i]? = some (.box d) ∧ x.put d' = .box d') ∨ (r[i]? = some (.pbx d) ∧ x.put d' = .pbx d') := fun d' => by
    cases x with
    | box d0 => cases hx; exact .inl ⟨hi, rfl⟩
    | pbx d0 => cases hx; exact .inr ⟨hi, rfl⟩
    | un => cases hx
    | val _ => cases hx
  obtain ⟨u, hu, nt, ntp, nf⟩ := ow.obj
  refine ⟨b, e, ow, fun o d' => ⟨⟨fun _ h => h, fun c w ha hc _ => ?_, fun c xs hc => ?_, fun c o' w hc => ?_⟩, fun k => ?_⟩⟩
  · rw [upd_ne (fun z => n (by rw [← z]; exact ha))]; exact hc
  · rw [upd_ne (fun z => ntp xs (by rw [z, hu] at hc; cases hc; rfl))]; exact hc
  · rw [upd_ne (fun z => nf o' w (by rw [z, hu] at hc; cases hc; rfl))]; exact hc
  · have hdom : ∀ c w, H c = some w → ∃ o', upd H b o c = some o' := fun c w hc => by
      by_cases z : c = b
      · exact ⟨o, by rw [z, upd_same]⟩
      · exact ⟨w, by rw [upd_ne z]; exact hc⟩
    have hdd : ∀ c, A c → ∃ w, upd H b o c = some w ∧ ∀ ps, w ≠ .tbl ps := fun c hc => by
      obtain ⟨w, h1, h2⟩ := p.dom c hc
      exact ⟨w, by rw [upd_ne (fun z => n (by rw [← z]; exact hc))]; exact h1, h2⟩
    obtain ⟨p2, s2, _⟩ := ref_back p (hik d') e (fun c w hc ne _ => by rw [upd_ne ne]; exact hc) hdom (fun _ h => h) (fun _ h => .inl h) hdd (tabs_upd p.tabs (fun ps z => nt ps (by rw [hu] at z; cases z; rfl)) ow.noext) n k
    exact ⟨p2, s2⟩
end
/-! ### xs.append(x), .. -/
def appD : D → D → Option D
  | .lst xs, d => if xs.length < sizeLine then some (.lst (xs ++ [d])) else none
  | _, _ => none
def mutF (g : D → D → Option D) (i : Nat) (evs : List EV) : M EV := fun r => match evs with
  | [ev] => match toV ev r with
    | some (d, r1) => match r1[i]? with
      | some x => match bxD x with
        | some c => match g c d with
          | some c' => .ok (.val .none) (r1.set i (x.put c'))
          | none => .no
        | none => .no
      | none => .no
    | none => .no
  | _ => .no
def isL : D → Bool
  | .lst _ => true
  | _ => false
/-- the slot i holds a list of one's own -/
def ifL (i : Nat) (m : M EV) : M EV := fun r => match r[i]? with
  | some x => match bxD x with
    | some c => if isL c = true then m r else .no
    | none => .no
  | none => .no
def mApp (i : Nat) (ms : M (List EV)) : M EV := ifL i (bnd ms (mutF appD i))
section
variable {X : Cx} {C : Ct} {v0 : List V} {W : WX} {e : Expr} {x : Str} {p1 apos cpos : Pos} {ms : M (List EV)} {i : Nat}
theorem ifL_ok {A : Addr → Prop} {r : List SV} {σ : St} {H : Hp} {m : M EV} {P : R EV → Prop} (hno : ¬ P .no) (p : Rp C v0 A r σ H) (q : P (ifL i m r)) : P (m r) ∧ ∃ b vs, σ[i]? = some (some (.ref b)) ∧ H b = some (.lst vs) := by
  unfold ifL at q
  cases hi : r[i]? with
  | none => rw [hi] at q; exact (hno q).elim
  | some x =>
    rw [hi] at q
    dsimp only at q
    cases hx : bxD x with
    | none => rw [hx] at q; exact (hno q).elim
    | some c =>
      rw [hx] at q
      dsimp only at q
      cases hl : isL c with
      | false => rw [hl] at q; exact (hno q).elim
      | true =>
        rw [hl, if_pos rfl] at q
        obtain ⟨b, e1, ow, _⟩ := box_upd p hi hx
        cases c with
        | lst xs => obtain ⟨vs, e2, _⟩ := ow; exact ⟨q, b, vs, e1, e2⟩
        | _ => cases hl
theorem pm_append (hN : X.N[i]? = some x) (hv : Vis X.env.scope x) (ha : PA X [e] (tEs C v0 W ms))
    (hbase : attributeBase (.Name x p1) "append" X.env (eval (.Name x p1) X.env) = eval (.Name x p1) X.env := by rfl)
    (hfew : ((backTo cpos (starEach [e] X.env)).all (fun x => !x.1) && (backToKw cpos (keywordEach [] X.env)).all (fun x => x.1.isSome)
      && decide ([e].length + ([] : List Keyword).length + (if ([] : List Keyword).isEmpty then 0 else 1) < 30)) = true := by rfl)
    (hline : (apos.endLine == cpos.line) = true := by rfl) (hs : starEach [e] X.env = (false, eval e X.env) :: starEach [] X.env := by rfl) (hplain : (backTo cpos (starEach [] X.env)).any (·.1) = false := by rfl)
    (hd : (x == ("__debug__" : Str)) = false := by decide) (hcd : (x == ("__classdict__" : Str)) = false := by decide) :
    PE X (.Call (.Attribute (.Name x p1) "append" apos) [e] [] cpos) (tE C v0 W (mApp i ms)) := by
  refine PE.imp (pe_bm F.plainAttrs_list F.slot_list_append F.type_list_append mt_append (pe_var hN hv hd hcd) ha hbase hfew hline hs hplain) fun σ H Q ⟨A, r, p, q⟩ => ?_
  obtain ⟨q, b, vs, e1, e2⟩ := ifL_ok (P := fun z => Po C v0 W (RelE C) A r σ H Q z) (fun z => z) p q
  refine ⟨.ref b, e1, .inl ⟨rfl, vs, .of e2⟩, A, r, p, ?_⟩
  refine tE_bnd p .refl q fun A1 r1 H1 evs xs p1 s1 e1' q1 => ?_
  unfold mutF at q1
  split at q1
  · rename_i ev
    obtain ⟨v, rfl, hv'⟩ : ∃ v, xs = [v] ∧ RelE C A1 H r1 σ H1 ev v := by
      cases e1'.1 with
      | cons a b => cases b; exact ⟨_, rfl, a⟩
    cases et : toV ev r1 with
    | none => rw [et] at q1; exact q1.elim
    | some z =>
      obtain ⟨d, r2⟩ := z
      rw [et] at q1
      dsimp only at q1
      obtain ⟨A2, p2, s2, t2, _⟩ := toV_ok p1 s1 hv'.q et
      cases hi : r2[i]? with
      | none => rw [hi] at q1; exact q1.elim
      | some y =>
        rw [hi] at q1
        dsimp only at q1
        cases hx : bxD y with
        | none => rw [hx] at q1; exact q1.elim
        | some c =>
          rw [hx] at q1
          dsimp only at q1
          obtain ⟨b', e3, ow, k⟩ := box_upd p2 hi hx
          rw [e1] at e3; cases e3
          cases c with
          | lst ys =>
            unfold appD at q1
            by_cases hz : ys.length < sizeLine
            · simp only [if_pos hz] at q1
              obtain ⟨ws, e4, t4⟩ := ow
              refine ⟨b, ws, v, rfl, rfl, e4, by rw [t4.length]; exact hz, ?_⟩
              obtain ⟨cc, kk⟩ := k (.lst (ws ++ [v])) (.lst (ys ++ [d]))
              obtain ⟨p5, s5⟩ := kk ⟨_, upd_same, (t4.snoc t2).carry cc⟩
              exact q1 A2 _ _ p5 (s2.trans s5) rfl
            · simp only [if_neg hz] at q1; exact q1.elim
          | _ => exact q1.elim
  · exact q1.elim
/-! ### d[k] = x, xs[i] = x -/
def putD : D → D → D → Option D
  | .dK kvs, k, d => match keyD k with
    | some k' => if kvs.length < sizeLine then some (.dK (pK kvs k' d)) else none
    | none => none
  | .lst xs, .int i, d => match ixN xs.length i with
    | some j => some (.lst (xs.set j d))
    | none => none
  | _, _, _ => none
def putF (i : Nat) (ev ek : EV) : M Fl := fun r => match look r ek with
  | some k => match toV ev r with
    | some (d, r1) => match r1[i]? with
      | some x => match bxD x with
        | some c => match putD c k d with
          | some c' => .ok .nx (r1.set i (x.put c'))
          | none => .no
        | none => .no
      | none => .no
    | none => .no
  | none => .no
/-- the slot i holds something of one's own -/
def ifB (i : Nat) (m : M Fl) : M Fl := fun r => match r[i]? with
  | some x => match bxD x with
    | some c => m r
    | none => .no
  | none => .no
def mPut (i : Nat) (mk m : M EV) : M Fl := bnd m fun ev => ifB i (bnd mk fun ek => putF i ev ek)
def rSetA : TSet := fun o i v H Q => rSetL o i v H Q ∨ rSetD o i v H Q
theorem set_any (hu : X.A.units + 1 < cLine) : PSet X rSetA := by
  intro pins s σ H o i v ov iv u Q I ro ri rv h
  rcases h with h | h
  · exact set_list pins s σ H o i v ov iv u Q I ro ri rv h
  · exact set_dict hu pins s σ H o i v ov iv u Q I ro ri rv h
theorem pms_put {k : Expr} {mk m : M EV} {tpos pos : Pos} (hu : X.A.units + 1 < cLine) (hN : X.N[i]? = some x) (hv : Vis X.env.scope x) (hk : PE X k (tE C v0 W mk)) (hm : PE X e (tE C v0 W m))
    (hs : swapsWithSole [.Subscript (.Name x p1) k tpos] e pos.line X.env = pure false := by rfl) (hw : swappedStores [.Subscript (.Name x p1) k tpos] e X.env = pure none := by rfl)
    (h1 : (assignEach [.Subscript (.Name x p1) k tpos] X.env).map (·.2) = [assign (.Subscript (.Name x p1) k tpos) X.env] := by rfl)
    (ha : ∀ v, assign (.Subscript (.Name x p1) k tpos) X.env v = (do
      let ov ← holding [v] (eval (.Name x p1) X.env)
      let iv ← holding [v, ov] (eval k X.env)
      standAt tpos
      holding [v, ov, iv] (setItem ov iv v)
      release [v, ov, iv] []) := by intro _; rfl)
    (hd : (x == ("__debug__" : Str)) = false := by decide) (hcd : (x == ("__classdict__" : Str)) = false := by decide) :
    PS X (.Assign [.Subscript (.Name x p1) k tpos] e pos) (tS C v0 W (mPut i mk m)) := by
  refine PS.imp (ps_asg hm (pg_sub (pe_var hN hv hd hcd) hk (set_any hu) ha) hs hw h1) fun N σ H ⟨A, r, p, q⟩ => ⟨A, r, p, ?_⟩
  refine tS_bnd p .refl q fun A1 r1 H1 ev v p1 s1 e1 q1 => ?_
  unfold ifB at q1
  cases hi : r1[i]? with
  | none => rw [hi] at q1; exact q1.elim
  | some y =>
    rw [hi] at q1
    dsimp only at q1
    cases hx : bxD y with
    | none => rw [hx] at q1; exact q1.elim
    | some c =>
      rw [hx] at q1
      dsimp only at q1
      obtain ⟨b, e3, _, _⟩ := box_upd p1 hi hx
      refine ⟨.ref b, e3, A1, r1, p1, ?_⟩
      refine tS_bnd p1 s1 q1 fun A2 r2 H2 ek kv p2 s2 e2 q2 => ?_
      have e1' := e1.carry p1 s2
      have s12 := s1.trans s2
      unfold putF at q2
      cases lk : look r2 ek with
      | none => rw [lk] at q2; exact q2.elim
      | some kd =>
        rw [lk] at q2
        dsimp only at q2
        have wk := e2.look p2 lk
        cases et : toV ev r2 with
        | none => rw [et] at q2; exact q2.elim
        | some z =>
          obtain ⟨d, r3⟩ := z
          rw [et] at q2
          dsimp only at q2
          obtain ⟨A3, p3, s3, t3, c3, _⟩ := toV_ok p2 s12 e1'.q et
          cases hi3 : r3[i]? with
          | none => rw [hi3] at q2; exact q2.elim
          | some y3 =>
            rw [hi3] at q2
            dsimp only at q2
            cases hx3 : bxD y3 with
            | none => rw [hx3] at q2; exact q2.elim
            | some c3' =>
              rw [hx3] at q2
              dsimp only at q2
              obtain ⟨b', e4, ow, kk⟩ := box_upd p3 hi3 hx3
              rw [e3] at e4; cases e4
              cases hp : putD c3' kd d with
              | none => rw [hp] at q2; exact q2.elim
              | some c' =>
                rw [hp] at q2
                cases c3' with
                | dK kvs =>
                  unfold putD at hp
                  dsimp only at hp
                  cases hkd : keyD kd with
                  | none => rw [hkd] at hp; cases hp
                  | some k' =>
                    rw [hkd] at hp
                    dsimp only at hp
                    by_cases hz : kvs.length < sizeLine
                    · rw [if_pos hz] at hp
                      cases hp
                      obtain ⟨ws, e5, t5⟩ := ow
                      have hkv := keyD_rel (keyW wk (.inl (by rw [hkd]; rfl))) hkd
                      subst hkv
                      obtain ⟨cc, fin⟩ := kk (.dK (putK ws k' v)) (.dK (pK kvs k' d))
                      obtain ⟨p6, s6⟩ := fin ⟨_, upd_same, RelK.carry cc _ (relK_g.mpr (RelG.put (relK_g.mp t5) t3))⟩
                      exact .inr ⟨b, _, rfl, DPut.k e5 (by rw [relK_len t5]; exact hz), q2 A3 σ _ p6 (s3.trans s6)⟩
                    · rw [if_neg hz] at hp; cases hp
                | lst xs =>
                  cases kd with
                  | int j =>
                    unfold putD at hp
                    dsimp only at hp
                    cases hn : ixN xs.length j with
                    | none => rw [hn] at hp; cases hp
                    | some n =>
                    rw [hn] at hp
                    cases hp
                    obtain ⟨ws, e5, t5⟩ := ow
                    have hkv := wk.int
                    subst hkv
                    obtain ⟨cc, fin⟩ := kk (.lst (ws.set n v)) (.lst (xs.set n d))
                    obtain ⟨p6, s6⟩ := fin ⟨_, upd_same, (t5.set t3).carry cc⟩
                    exact .inl ⟨b, ws, j, n, rfl, rfl, e5, by rw [t5.length]; exact hn, q2 A3 σ _ p6 (s3.trans s6)⟩
                  | _ => cases hp
                | _ => cases hp
end
end Mi
end
section
set_option maxRecDepth 100000
set_option maxHeartbeats 2000000
namespace Mi
open PySem PySem.Spec L2
open PyProof.Rows hiding St

/-! ### isinstance -/
inductive Tn where
  | int | bool | str | tup | lst | dict
inductive Ty where
  | none | bl | int | str | tup | lst | dict
  deriving DecidableEq
def Tn.name : Tn → String
  | .int => "int" | .bool => "bool" | .str => "str" | .tup => "tuple" | .lst => "list" | .dict => "dict"
def Ty.name : Ty → String
  | .none => "NoneType" | .bl => "bool" | .int => "int" | .str => "str" | .tup => "tuple" | .lst => "list" | .dict => "dict"
def isTn : Ty → Tn → Bool
  | .bl, .bool | .bl, .int | .int, .int | .str, .str | .tup, .tup | .lst, .lst | .dict, .dict => true
  | _, _ => false
theorem kit_tn (a : Ty) (t : Tn) : kitB a.name t.name = some (isTn a t) := by
  cases a <;> cases t <;> decide +kernel
def tyD : D → Option Ty
  | .none => some .none
  | .bl _ => some .bl
  | .int _ => some .int
  | .str _ => some .str
  | .tup _ => some .tup
  | .lst _ => some .lst
  | .dK _ => some .dict
  | .dT _ => some .dict
  | .scr _ => some .lst
  | _ => none
def isTD (t : Tn) (d : D) : Option EV := (tyD d).map fun a => .val (.bl (isTn a t))
section
variable {X : Cx} {C : Ct} {v0 : List V} {W : WX} {A : Addr → Prop} {H : Hp}
theorem tyD_ok {K : PySem.W.Frag} (hK : C.K = K) {d : D} {x : V} {a : Ty} (h : RelW C A H d x) (e : tyD d = some a) : TyX K H x (.type a.name) := by
  unfold tyD at e
  split at e
  · cases e; rw [h.non]; exact .base .non
  · cases e; rw [h.bl]; exact .base (.bl _)
  · cases e; rw [h.int]; exact .base (.int _)
  · cases e; rw [h.str]; exact .base (.str _)
  · cases e
    obtain ⟨a, vs, rfl, ha, t⟩ := h.tup
    rw [hK] at ha
    rcases ha with (ha | ⟨o, ha⟩) | ⟨o, its, n, h1, h2, _⟩
    · exact .base (.tup ha)
    · exact .fTuple ha
    · exact .kTuple h1 h2
  · cases e
    obtain ⟨a, vs, rfl, ha, t⟩ := h.lst
    exact .base (.lst ha)
  · cases e
    obtain ⟨a, vs, rfl, ha, t⟩ := h.dK
    exact .base (.dK ha)
  · cases e
    obtain ⟨a, vs, rfl, ha, t⟩ := h.dT
    exact .base (.dT ha)
  · cases e
    obtain ⟨a, rfl, ha⟩ := h.scr
    rcases ha with ⟨o, ha⟩ | ⟨o, its, n, h1, h2, _⟩
    · exact .base (.frz ha)
    · rw [hK] at h1; exact .kList h1 h2
  · cases e
theorem val_isi (hK : C.K = X.K) (t : Tn) : Val1 C (isTD t) (fun x H Q => rIsi X.K [x, .ty t.name] H Q) := by
  intro v0 A0 A r0 r σ H0 H d x ev Q p s hx hf k
  unfold isTD at hf
  obtain ⟨a, ha, rfl⟩ := Option.map_eq_some_iff.mp hf
  exact ⟨x, .ty t.name, _, _, _, rfl, .ty _, tyD_ok hK hx ha, kit_ty (kit_tn a t), k A H _ p s rfl⟩
theorem pm_isi {e : Expr} {m : M EV} {T : Str} {p p2 pos : Pos} (t : Tn) (hK : C.K = X.K) (hg : Gl X "isinstance") (hm : X.mg "isinstance" = none) (hvi : bootBuiltins "isinstance" = some (.builtin "isinstance")) (hg2 : Gl X T) (hm2 : X.mg T = none) (hv : bootBuiltins T = some (.type t.name)) (he : PE X e (tE C v0 W m))
    (hn : T ≠ "__name__" := by decide) (hdb : (T == ("__debug__" : Str)) = false := by decide)
    (hs : starEach [e, .Name T p2] X.env = (false, eval e X.env) :: starEach [.Name T p2] X.env := by rfl) (hs2 : starEach [.Name T p2] X.env = (false, eval (.Name T p2) X.env) :: starEach [] X.env := by rfl)
    (hpl : (backTo pos (starEach [.Name T p2] X.env)).any (·.1) = false := by rfl) : PE X (.Call (.Name "isinstance" p) [e, .Name T p2] [] pos) (tE C v0 W (op1 (isTD t) m)) := by
  refine PE.imp (pe_callB call_isi hg hm hvi (pa_cons he (pa_cons (pe_bltn (v := .ty t.name) hg2 hm2 hv rfl hn hdb) pa_nil hs2) hs) (by decide) (by decide) hs hpl) fun σ H Q h => ?_
  have := tUn_of (val_isi (X := X) hK t) h
  exact this
end
end Mi
end
section
set_option maxRecDepth 100000
set_option maxHeartbeats 2000000
namespace Mi
open PySem PySem.Spec L2
open PyProof.Rows hiding St

/-! ### repr -/
def okRep (y : PyData) : Bool := y.showable && decide (y.depth ≤ 60) && decide (y.shown.length ≤ sizeLine)
def toPyR : D → Option PyData
  | .dK [] => some (.dict [])
  | d => toPy d
def fRepr : List D → Option EV
  | [d] => match toPyR d with
    | some y => if okRep y = true then some (.val (.str y.shown)) else none
    | none => none
  | _ => none
def rRepr (K : PySem.W.Frag) : List V → Hp → VK → Prop := fun xs H Q => ∃ x y, xs = [x] ∧ (Dp K H x y ∨ (∃ a, x = .ref a ∧ H a = some (.dK []) ∧ y = .dict [])) ∧ okRep y = true ∧ Q (.str y.shown) H
mutual
theorem dp_noDict {K : PySem.W.Frag} {H : Hp} : ∀ {y : PyData} {v : V}, Dp K H v y → y.hasDict = false
  | .none, _, _ => rfl
  | .bool _, _, _ => rfl
  | .int _, _, _ => rfl
  | .str _, _, _ => rfl
  | .list xs, _, h => by
    cases h with
    | lst _ t => unfold PyData.hasDict; exact dpAll_noDict t
  | .tuple xs, _, h => by
    cases h with
    | tup _ t => unfold PyData.hasDict; exact dpAll_noDict t
  | .dict _, _, h => by cases h
theorem dpAll_noDict {K : PySem.W.Frag} {H : Hp} : ∀ {ys : List PyData} {vs : List V}, DpAll K H vs ys → PyData.hasDictAll ys = false
  | [], _, _ => rfl
  | y :: ys, _, h => by
    cases h with
    | cons a t => unfold PyData.hasDictAll; rw [dp_noDict a, dpAll_noDict t] <;> rfl
end
section
variable {X : Cx} {C : Ct} {v0 : List V} {W : WX} {A : Addr → Prop} {H : Hp}
theorem cr_repr (hgd : X.A.guards = some []) (hu : X.A.units + 64 < cLine) : CallR X (.builtin "repr") (rRepr X.K) := by
  intro pins s σ H xs us Q I r h
  obtain ⟨x, y, rfl, hd, ok, q⟩ := h
  obtain ⟨u, rfl, rx⟩ := vals1 r
  unfold okRep at ok
  rw [Bool.and_eq_true, Bool.and_eq_true] at ok
  obtain ⟨⟨o1, o2⟩, o3⟩ := ok
  have o2 := of_decide_eq_true o2
  have o3 := of_decide_eq_true o3
  have fin : ∀ h' t tk, (∀ b o, s.heap.get? b = some o → h'.get? b = some o) → EP X pins σ Q (.str y.shown t) { s with heap := h', toks := tk } := fun h' t tk hk => ⟨.str y.shown, H, I.kept hk, ⟨t, rfl⟩, q⟩
  have viaRef : ∀ {a : Addr} {as : List Addr}, u = .ref a → Reads s.heap u y as → (y.hasDict = true → sysModules ∉ as) → wpAny (model X.prog X.w) X.A (call (.builtin "repr") [u]) (EP X pins σ Q) X.xe s := fun {a as} e rd hs => by
    subst e
    exact PySem.repr_of_reads' rd o1 hs hgd (by omega) (fun _ _ e => e) (fun h' t tk hk => fin h' t tk hk) o3
  rcases hd with hd | ⟨a, rfl, ha, rfl⟩
  · obtain ⟨as, rd⟩ := Dp.reads I y x u hd rx
    have nd := dp_noDict hd
    cases hd with
    | non => cases rx; exact PySem.P.repr_of_none ⟨.str _, H, I.tok _, ⟨_, rfl⟩, q⟩
    | bl b => cases rx; exact PySem.P.repr_of_bool ⟨.str _, H, I.tok _, ⟨_, rfl⟩, q⟩
    | int i => obtain ⟨t, rfl⟩ := rx; exact PySem.P.repr_of_int (by unfold PyData.showable at o1; exact of_decide_eq_true o1) ⟨.str _, H, I.tok _, ⟨_, rfl⟩, q⟩
    | str z => obtain ⟨t, rfl⟩ := rx; exact PySem.P.repr_of_str ⟨.str _, H, I.tok _, ⟨_, rfl⟩, q⟩ o3
    | lst hs t => cases rx; exact viaRef rfl rd (fun z => by rw [nd] at z; cases z)
    | tup hs t => cases rx; exact viaRef rfl rd (fun z => by rw [nd] at z; cases z)
  · cases rx
    obtain ⟨_, hb, vs, kv, o, es, ep, h1, h2, h3, _, h5, _⟩ := dk_of I.hok ha
    cases kv
    have he : es.toList = [] := by
      cases hes : es.toList with
      | nil => rfl
      | cons b l => rw [hes] at h5; cases h5
    refine viaRef rfl (Reads.dict (as := []) (bs := []) h1 h2.1 h3 (by rw [he]; exact ReadsAll.nil) (by rw [he]; exact ReadsAll.nil)) fun _ hm => ?_
    have hne : a ≠ sysModules := beq_eq_false_iff_ne.mp hb
    simp at hm
    exact hne hm.symm
theorem toPyR_rel {d : D} {x : V} {y : PyData} (h : RelW C A H d x) (e : toPyR d = some y) : Dp C.K H x y ∨ (∃ a, x = .ref a ∧ H a = some (.dK []) ∧ y = .dict []) := by
  unfold toPyR at e
  split at e
  · cases e
    obtain ⟨a, ws, rfl, ha, t⟩ := h.dK
    cases t
    exact .inr ⟨a, rfl, ha, rfl⟩
  · exact .inl (h.dp e)
theorem valN_repr (hK : C.K = X.K) : ValN C fRepr (rRepr X.K) := by
  intro v0 A0 A r0 r σ H0 H ds xs ev Q p s hp hf k
  unfold fRepr at hf
  split at hf
  · rename_i d
    obtain ⟨x, rfl, h⟩ := pair1 hp
    cases ey : toPyR d with
    | none => rw [ey] at hf; cases hf
    | some y =>
      rw [ey] at hf
      dsimp only at hf
      by_cases ho : okRep y = true
      · rw [if_pos ho] at hf
        cases hf
        exact ⟨x, y, rfl, by rw [← hK]; exact toPyR_rel h ey, ho, k A H _ p s rfl⟩
      · rw [if_neg ho] at hf; cases hf
  · cases hf
end
end Mi
end
section
set_option maxRecDepth 100000
set_option maxHeartbeats 2000000
namespace Mi
open PySem PySem.Spec L2
open PyProof.Rows hiding St

/-! ### methods that change nothing -/
def mtF (f : D → List D → Option EV) (eo : EV) (evs : List EV) : M EV := fun r => match look r eo, looks r evs with
  | some d, some ds => match f d ds with
    | some ev => .ok ev r
    | none => .no
  | _, _ => .no
/-- what eo is: of the type t -/
def ifT (t : Ty) (eo : EV) (m : M EV) : M EV := fun r => match look r eo with
  | some d => if tyD d = some t then m r else .no
  | none => .no
/-- o.m(..), o of the type t -/
def mMt (t : Ty) (f : D → List D → Option EV) (mo : M EV) (ms : M (List EV)) : M EV := bnd mo fun eo => ifT t eo (bnd ms (mtF f eo))
def MtV (C : Ct) (f : D → List D → Option EV) (rr : V → List V → Hp → VK → Prop) : Prop :=
  ∀ {v0 : List V} {A0 A : Addr → Prop} {r0 r : List SV} {σ : St} {H0 H : Hp} {d : D} {ds : List D} {x : V} {xs : List V} {ev : EV} {Q : VK}, Rp C v0 A r σ H → Stp A0 r0 σ H0 A r σ H → RelW C A H d x → Paired (RelW C A H) ds xs → f d ds = some ev →
    (∀ A' H' v, Rp C v0 A' r σ H' → Stp A0 r0 σ H0 A' r σ H' → RelE C A' H0 r σ H' ev v → Q v H') → rr x xs H Q
section
variable {X : Cx} {C : Ct} {v0 : List V} {W : WX} {o e : Expr} {es : List Expr} {mo : M EV} {ms : M (List EV)} {apos cpos : Pos} {id T : String} {name : Str} {f : D → List D → Option EV} {rr : V → List V → Hp → VK → Prop} {t : Ty}
theorem ifT_ok {A : Addr → Prop} {r : List SV} {eo : EV} {m : M EV} {P : R EV → Prop} (hno : ¬ P .no) (q : P (ifT t eo m r)) : P (m r) ∧ ∃ d, look r eo = some d ∧ tyD d = some t := by
  unfold ifT at q
  cases l : look r eo with
  | none => rw [l] at q; exact (hno q).elim
  | some d =>
    rw [l] at q
    dsimp only at q
    by_cases h : tyD d = some t
    · rw [if_pos h] at q; exact ⟨q, d, rfl, h⟩
    · rw [if_neg h] at q; exact (hno q).elim
theorem pm_mt (pa : PlainAttrs T) (slot : Slot T name id) (hty : typeOf (.builtin id) = pure (.type "method_descriptor")) (hm : MtR X id rr) (k : MtV C f rr) (tv : ∀ {A : Addr → Prop} {H : Hp} {d : D} {x : V}, RelW C A H d x → tyD d = some t → tyV X.K T x H) (ho : PE X o (tE C v0 W mo)) (ha : PA X (e :: es) (tEs C v0 W ms))
    (hbase : attributeBase o name X.env (eval o X.env) = eval o X.env := by rfl)
    (hfew : ((backTo cpos (starEach (e :: es) X.env)).all (fun x => !x.1) && (backToKw cpos (keywordEach [] X.env)).all (fun x => x.1.isSome)
      && decide ((e :: es).length + ([] : List Keyword).length + (if ([] : List Keyword).isEmpty then 0 else 1) < 30)) = true := by rfl)
    (hline : (apos.endLine == cpos.line) = true := by rfl) (hs : starEach (e :: es) X.env = (false, eval e X.env) :: starEach es X.env := by rfl) (hplain : (backTo cpos (starEach es X.env)).any (·.1) = false := by rfl) :
    PE X (.Call (.Attribute o name apos) (e :: es) [] cpos) (tE C v0 W (mMt t f mo ms)) := by
  refine PE.imp (pe_bm pa slot hty hm ho ha hbase hfew hline hs hplain) fun σ H Q ⟨A, r, p, q⟩ => ⟨A, r, p, ?_⟩
  refine tE_bnd p .refl q fun A1 r1 H1 eo x p1 s1 e1 q1 => ?_
  obtain ⟨q1, d, l, td⟩ := ifT_ok (A := A1) (P := fun z => Po C v0 W (RelE C) A r σ H Q z) (fun z => z) q1
  refine ⟨tv (e1.look p1 l) td, A1, r1, p1, ?_⟩
  refine tE_bnd p1 s1 q1 fun A2 r2 H2 evs xs p2 s2 e2 q2 => ?_
  unfold mtF at q2
  cases l1 : look r2 eo with
  | none => rw [l1] at q2; exact q2.elim
  | some d2 =>
    cases l2 : looks r2 evs with
    | none => rw [l1, l2] at q2; exact q2.elim
    | some ds =>
      rw [l1, l2] at q2
      dsimp only at q2
      cases l3 : f d2 ds with
      | none => rw [l3] at q2; exact q2.elim
      | some ev =>
        rw [l3] at q2
        exact k p2 (s1.trans s2) ((e1.carry p1 s2).look p2 l1) (looks_ok p2 e2.1 l2) l3 fun A' H' v a b c => q2 A' H' v a b c
theorem pm_mt0 (pa : PlainAttrs T) (slot : Slot T name id) (hty : typeOf (.builtin id) = pure (.type "method_descriptor")) (hm : MtR X id rr) (k : MtV C f rr) (tv : ∀ {A : Addr → Prop} {H : Hp} {d : D} {x : V}, RelW C A H d x → tyD d = some t → tyV X.K T x H) (ho : PE X o (tE C v0 W mo))
    (hbase : attributeBase o name X.env (eval o X.env) = eval o X.env := by rfl) (hline : (apos.endLine == cpos.line) = true := by rfl) : PE X (.Call (.Attribute o name apos) [] [] cpos) (tE C v0 W (mMt t f mo mNil)) := by
  refine PE.imp (pe_bm0 pa slot hty hm ho hbase hline) fun σ H Q ⟨A, r, p, q⟩ => ⟨A, r, p, ?_⟩
  refine tE_bnd p .refl q fun A1 r1 H1 eo x p1 s1 e1 q1 => ?_
  obtain ⟨q1, d, l, td⟩ := ifT_ok (A := A1) (P := fun z => Po C v0 W (RelE C) A r σ H Q z) (fun z => z) q1
  refine ⟨tv (e1.look p1 l) td, ?_⟩
  unfold mNil rt bnd mtF at q1
  dsimp only at q1
  rw [l] at q1
  dsimp only [looks] at q1
  cases l3 : f d [] with
  | none => rw [l3] at q1; exact q1.elim
  | some ev =>
    rw [l3] at q1
    exact k p1 s1 (e1.look p1 l) .nil l3 fun A' H' v a b c => q1 A' H' v a b c
theorem tv_str {A : Addr → Prop} {H : Hp} {d : D} {x : V} (h : RelW C A H d x) (e : tyD d = some .str) : tyV X.K "str" x H := by
  cases d <;> first | (cases e; done) | skip
  rw [h.str]; rfl
theorem tv_list (hK : C.K = X.K) {A : Addr → Prop} {H : Hp} {d : D} {x : V} (h : RelW C A H d x) (e : tyD d = some .lst) : tyV X.K "list" x H := by
  cases d <;> first | (cases e; done) | skip
  · obtain ⟨a, vs, rfl, ha, _⟩ := h.lst
    exact .inl ⟨rfl, vs, .of ha⟩
  · obtain ⟨a, rfl, ha⟩ := h.scr
    exact .inl ⟨rfl, _, by rw [← hK]; exact ha.seq⟩
end
def fJoin : D → List D → Option EV
  | .str a, [.lst xs] => match strsOf xs with
    | some ys => if (ys.map (·.length)).sum + ys.length * a.length ≤ 16777216 then some (.val (.str (Txt.join a ys))) else none
    | none => none
  | _, _ => none
def fSplit : D → List D → Option EV
  | .str a, [.str b] => if (b.length == 0) = false ∧ a.length + 2 ≤ sizeLine then some (.own (.lst ((Txt.split a b).map .str))) else none
  | _, _ => none
def fStarts : D → List D → Option EV
  | .str a, [.str b] => some (.val (.bl (Txt.startswith a b)))
  | _, _ => none
def fEnds : D → List D → Option EV
  | .str a, [.str b] => some (.val (.bl (Txt.endswith a b)))
  | _, _ => none
def ixD (d : PyData) : List PyData → Option Nat
  | [] => none
  | z :: r => if PyData.eqv z d = true then some 0 else (ixD d r).map (· + 1)
def fIndex : D → List D → Option EV
  | .lst xs, [d] => match toPyL xs, toPy d with
    | some ys, some y => if SeqAt.shaped (.list ys) = true ∧ SeqAt.shaped y = true then match ixD y ys with
        | some j => some (.val (.int (j : Nat)))
        | none => none
      else none
    | _, _ => none
  | _, _ => none
section
variable {X : Cx} {C : Ct}
theorem mtV_join : MtV C fJoin (fun x xs H Q => ∃ a p, ∃ ys : List Str, x = .str a ∧ xs = [.ref p] ∧ (SqL X.K H p (ys.map V.str) ∨ SqT X.K H p (ys.map V.str)) ∧ (ys.map (·.length)).sum + ys.length * a.length ≤ 16777216 ∧ Q (.str (Txt.join a ys)) H) := by
  intro v0 A0 A r0 r σ H0 H d ds x xs ev Q p s hx hp hf k
  unfold fJoin at hf
  split at hf
  · split at hf
    · rename_i a zs _ ys e
      by_cases hz : (ys.map (·.length)).sum + ys.length * a.length ≤ 16777216
      · rw [if_pos hz] at hf
        cases hf
        have := strsOf_map e
        subst this
        obtain ⟨y, rfl, h⟩ := pair1 hp
        obtain ⟨b, vs, rfl, hb, t⟩ := h.lst
        rw [relL_strs' t] at hb
        exact ⟨a, b, ys, hx.str, rfl, .inl (.of hb), hz, k A H _ p s rfl⟩
      · rw [if_neg hz] at hf; cases hf
    · cases hf
  · cases hf
theorem mtV_split : MtV C fSplit (fun x xs H Q => ∃ a b, x = .str a ∧ xs = [.str b] ∧ (b.length == 0) = false ∧ a.length + 2 ≤ sizeLine ∧ rNewStrs (Txt.split a b) H Q) := by
  intro v0 A0 A r0 r σ H0 H d ds x xs ev Q p s hx hp hf k
  unfold fSplit at hf
  split at hf
  · rename_i a b
    by_cases hz : (b.length == 0) = false ∧ a.length + 2 ≤ sizeLine
    · rw [if_pos hz] at hf
      cases hf
      obtain ⟨y, rfl, h⟩ := pair1 hp
      refine ⟨a, b, hx.str, by rw [h.str], hz.1, hz.2, fun l hl => ?_⟩
      obtain ⟨p3, s3, e3⟩ := lay_own (d := .lst ((Txt.split a b).map .str)) (o := .lst ((Txt.split a b).map V.str)) p s hl ⟨_, upd_same, relL_strs⟩
      exact k A _ _ p3 s3 e3
    · rw [if_neg hz] at hf; cases hf
  · cases hf
theorem mtV_starts : MtV C fStarts (fun x xs H Q => ∃ a b, x = .str a ∧ xs = [.str b] ∧ Q (.bl (Txt.startswith a b)) H) := by
  intro v0 A0 A r0 r σ H0 H d ds x xs ev Q p s hx hp hf k
  unfold fStarts at hf
  split at hf
  · cases hf
    obtain ⟨y, rfl, h⟩ := pair1 hp
    exact ⟨_, _, hx.str, by rw [h.str], k A H _ p s rfl⟩
  · cases hf
theorem mtV_ends : MtV C fEnds (fun x xs H Q => ∃ a b, x = .str a ∧ xs = [.str b] ∧ Q (.bl (Txt.endswith a b)) H) := by
  intro v0 A0 A r0 r σ H0 H d ds x xs ev Q p s hx hp hf k
  unfold fEnds at hf
  split at hf
  · cases hf
    obtain ⟨y, rfl, h⟩ := pair1 hp
    exact ⟨_, _, hx.str, by rw [h.str], k A H _ p s rfl⟩
  · cases hf
theorem ixD_ok {d : PyData} : ∀ {ds : List PyData} {j : Nat}, ixD d ds = some j → ∃ z, ds[j]? = some z ∧ PyData.eqv z d = true ∧ ∀ (m : Nat) (z' : PyData), m < j → ds[m]? = some z' → PyData.eqv z' d = false
  | [], j, h => by cases h
  | z :: r, j, h => by
    unfold ixD at h
    by_cases hz : PyData.eqv z d = true
    · rw [if_pos hz] at h; cases h
      exact ⟨z, rfl, hz, fun m z' hm => by omega⟩
    · rw [if_neg hz] at h
      obtain ⟨j', h', rfl⟩ := Option.map_eq_some_iff.mp h
      obtain ⟨z1, a, b, c⟩ := ixD_ok h'
      refine ⟨z1, by simpa using a, b, fun m z' hm e => ?_⟩
      cases m with
      | zero => simp at e; subst e; simpa using hz
      | succ m => exact c m z' (by omega) (by simpa using e)
theorem mtV_index (hK : C.K = X.K) : MtV C fIndex (rIndexD X.K) := by
  intro v0 A0 A r0 r σ H0 H d ds x xs ev Q p s hx hp hf k
  unfold fIndex at hf
  split at hf
  · split at hf
    · rename_i zs d' _ _ ys y e1 e2
      by_cases hz : SeqAt.shaped (.list ys) = true ∧ SeqAt.shaped y = true
      · rw [if_pos hz] at hf
        split at hf
        · rename_i j ej
          cases hf
          obtain ⟨w, rfl, h⟩ := pair1 hp
          obtain ⟨a, vs, rfl, ha, t⟩ := hx.lst
          obtain ⟨z, b1, b2, b3⟩ := ixD_ok ej
          exact ⟨a, w, y, ys, j, z, rfl, rfl, by rw [← hK]; exact .lst (.of ha) (RelL.dp _ t e1), by rw [← hK]; exact h.dp e2, hz.1, hz.2, b1, b2, b3, k A H _ p s rfl⟩
        · cases hf
      · rw [if_neg hz] at hf; cases hf
    · cases hf
  · cases hf
end
/-! ### dicts: {}, {k: v, ..}, dict(pairs), d.get(k, x) -/
def mDk : M EV := rt (.own (.dK []))
def mDt : M EV := rt (.own (.dT []))
/-- the pairs of a display, frozen one by one -/
def mPrs : List (M EV × M EV) → M (List (Key × D))
  | [] => rt []
  | (mk, mv) :: t => bnd mk fun ek => bnd mv fun ev => fun r => match look r ek with
    | some k => match keyD k with
      | some k' => match toV ev r with
        | some (d, r1) => bnd (mPrs t) (fun kvs => rt ((k', d) :: kvs)) r1
        | none => .no
      | none => .no
    | none => .no
section
variable {X : Cx} {C : Ct} {v0 : List V} {W : WX} {o e f : Expr} {mo mk mx : M EV} {pos apos cpos : Pos}
theorem pm_dk : PE X (.Dict [] [] pos) (tE C v0 W mDk) := PE.imp pe_dnewK fun σ H Q ⟨A, r, p, q⟩ b hb => by
  obtain ⟨p3, s3, e3⟩ := lay_own (d := .dK []) (o := .dK []) p .refl hb ⟨[], upd_same, rfl⟩
  exact q A _ _ p3 s3 e3
theorem pm_dt : PE X (.Dict [] [] pos) (tE C v0 W mDt) := PE.imp pe_dnewT fun σ H Q ⟨A, r, p, q⟩ b hb => by
  obtain ⟨p3, s3, e3⟩ := lay_own (d := .dT []) (o := .dT []) p .refl hb ⟨[], upd_same, rfl⟩
  exact q A _ _ p3 s3 e3
end
end Mi
end
section
set_option maxRecDepth 100000
set_option maxHeartbeats 2000000
namespace Mi
open PySem PySem.Spec L2
open PyProof.Rows hiding St

/-! ### targets that store in the slots is alone -/
def Same (is : List Nat) (σ σ' : St) : Prop := σ'.length = σ.length ∧ ∀ j, j ∉ is → σ'[j]? = σ[j]?
def tGw (C : Ct) (v0 : List V) (is : List Nat) (T : Tgt) : TG := fun v σ H Q => ∃ A r d r', Rp C v0 A r σ H ∧ Rel C A H d v ∧ T d r = some r' ∧ ∀ σ', Rp C v0 A r' σ' H → Stp A r σ H A r' σ' H → Same is σ σ' → Q σ' H
def tGsw (C : Ct) (v0 : List V) (is : List Nat) (T : List D → List SV → Option (List SV)) : TGs := fun vs σ H Q => ∃ A r ds r', Rp C v0 A r σ H ∧ RelL C A H ds vs ∧ T ds r = some r' ∧ ∀ σ', Rp C v0 A r' σ' H → Stp A r σ H A r' σ' H → Same is σ σ' → Q σ' H
theorem tgL_len : ∀ {ts : List Tgt} {ds : List D} {r r' : List SV}, tgL ts ds r = some r' → ds.length = ts.length
  | [], [], _, _, _ => rfl
  | [], _ :: _, _, _, e => by cases e
  | t :: ts, [], _, _, e => by cases e
  | t :: ts, d :: ds, r, r', e => by
    unfold tgL at e
    cases et : t d r with
    | none => rw [et] at e; cases e
    | some r1 => rw [et] at e; rw [List.length_cons, List.length_cons, tgL_len e]
section
variable {X : Cx} {C : Ct} {v0 : List V} {W : WX} {e : Expr} {es : List Expr} {pos : Pos}
theorem pgw_name {i : Nat} {x : Str} (hN : X.N.Nodup) (hi : X.N[i]? = some x) (hx : Loc X.env.scope x) (hf : X.fn x = true ∨ X.env.scope.names.lookup x = some .local := by first | exact .inl rfl | exact .inr rfl | assumption) : PG X (.Name x pos) (tGw C v0 [i] (tgN i)) := by
  refine PG.imp (pg_name hN hi hx hf) fun v σ H Q ⟨A, r, d, r', p, h, e, k⟩ => ?_
  cases e
  obtain ⟨p2, s2⟩ := set_val (i := i) p .refl h
  exact k _ p2 s2 ⟨List.length_set .., fun j hj => List.getElem?_set_ne fun z => hj (by rw [z]; exact List.mem_singleton.mpr rfl)⟩
theorem pgw_nil : PGs X [] (tGsw C v0 [] (tgL [])) := PGs.imp pgs_nil fun vs σ H Q ⟨A, r, ds, r', p, h, e, k⟩ => by
  cases ds with
  | nil => cases e; exact ⟨h, k σ p .refl ⟨rfl, fun _ _ => rfl⟩⟩
  | cons d ds => cases e
theorem pgw_cons {t : Tgt} {ts : List Tgt} {is js : List Nat} (h1 : PG X e (tGw C v0 is t)) (h2 : PGs X es (tGsw C v0 js (tgL ts))) (hs : (assignEach (e :: es) X.env).map (·.2) = assign e X.env :: (assignEach es X.env).map (·.2) := by rfl) : PGs X (e :: es) (tGsw C v0 (is ++ js) (tgL (t :: ts))) := by
  refine PGs.imp (pgs_cons h1 h2 hs) fun vs σ H Q ⟨A, r, ds, r', p, h, e, k⟩ => ?_
  cases ds with
  | nil => cases e
  | cons d ds =>
    obtain ⟨v, vr, rfl, hd, ht⟩ := h
    unfold tgL at e
    cases et : t d r with
    | none => rw [et] at e; cases e
    | some r1 =>
      rw [et] at e
      exact ⟨v, vr, rfl, A, r, d, r1, p, hd, et, fun σ1 p1 s1 x1 => ⟨A, r1, ds, r', p1, ht, e, fun σ2 p2 s2 x2 => k σ2 p2 (s1.trans s2) ⟨x2.1.trans x1.1, fun j hj => (x2.2 j fun z => hj (List.mem_append_right _ z)).trans (x1.2 j fun z => hj (List.mem_append_left _ z))⟩⟩⟩
theorem pgw_tup {ts : List Tgt} {is : List Nat} {k : Nat} {n : Nat} (hK : C.K = X.K) (hc : X.calm = true) (h : PGs X es (tGsw C v0 is (tgL ts))) (hn : (assignEach es X.env).length = n := by rfl) (hl : ts.length = n := by rfl) (hst : (assignEach es X.env).findIdx? (·.1) = none := by rfl) :
    PG X (.Tuple es k pos) (tGw C v0 is (tgT ts)) := by
  refine PG.imp (pg_tup hc h hn hst) fun v σ H Q ⟨A, r, d, r', p, h, e, kk⟩ => ?_
  unfold tgT at e
  cases d with
  | tup ds =>
    obtain ⟨a, vs, rfl, hq, t⟩ := h
    exact ⟨a, vs, rfl, by rw [← hK]; exact hq, by rw [t.length, tgL_len e, hl], A, r, ds, r', p, t, e, kk⟩
  | _ => cases e
end
/-! ### the slots of a block -/
def wipeR (r : List SV) : List Nat → List SV
  | [] => r
  | v :: vs => (wipeR r vs).set v .un
def kv1 : Option SV → SV
  | some (.val d) => .val d
  | _ => .un
def restR (r0 r : List SV) : List Nat → List SV
  | [] => r
  | v :: vs => (restR r0 r vs).set v (kv1 r0[v]?)
section
variable {C : Ct} {v0 : List V} {W : WX} {A A0 A' : Addr → Prop} {r r0 r' : List SV} {σ σ0 : St} {H H0 : Hp} {vs : List Nat}
theorem wipeR_len : ∀ {vs : List Nat}, (wipeR r vs).length = r.length
  | [] => rfl
  | v :: vs => by unfold wipeR; rw [List.length_set, wipeR_len]
theorem restR_len : ∀ {vs : List Nat}, (restR r0 r vs).length = r.length
  | [] => rfl
  | v :: vs => by unfold restR; rw [List.length_set, restR_len]
theorem wipeR_get {j : Nat} {x : SV} : ∀ {vs : List Nat}, (wipeR r vs)[j]? = some x → x ≠ .un → r[j]? = some x ∧ j ∉ vs
  | [], h, _ => ⟨h, by simp⟩
  | v :: vs, h, n => by
    unfold wipeR at h
    rcases getElem?_set_cases h with ⟨_, e, _⟩ | ⟨ne, e⟩
    · exact absurd e n
    · obtain ⟨a, b⟩ := wipeR_get e n
      exact ⟨a, fun m => (List.mem_cons.mp m).elim (fun z => ne z.symm) b⟩
theorem restR_get {j : Nat} {x : SV} : ∀ {vs : List Nat}, (restR r0 r vs)[j]? = some x → x ≠ .un → (r[j]? = some x ∧ j ∉ vs) ∨ (∃ d, x = .val d ∧ r0[j]? = some (.val d))
  | [], h, _ => .inl ⟨h, by simp⟩
  | v :: vs, h, n => by
    unfold restR at h
    rcases getElem?_set_cases h with ⟨rfl, e, _⟩ | ⟨ne, e⟩
    · unfold kv1 at e
      split at e
      · rename_i d hd
        exact .inr ⟨d, e, hd⟩
      · exact absurd e n
    · rcases restR_get e n with ⟨a, b⟩ | h
      · exact .inl ⟨a, fun m => (List.mem_cons.mp m).elim (fun z => ne z.symm) b⟩
      · exact .inr h
theorem wipe_in {σ : St} {i : Nat} : ∀ {vs : List Nat}, i ∈ vs → i < σ.length → (wipe σ vs)[i]? = some none
  | v :: vs, h, hl => by
    unfold wipe
    by_cases e : v = i
    · subst e; rw [List.getElem?_set_self (by rw [wipe_length]; exact hl)]
    · rw [List.getElem?_set_ne e]
      exact wipe_in ((List.mem_cons.mp h).resolve_left fun z => e z.symm) hl
theorem wipe_same {σ σ2 : St} {is : List Nat} (h : Same is (wipe σ vs) σ2) (hs : ∀ i ∈ is, i ∈ vs) : wipe σ2 vs = wipe σ vs := by
  have hl : σ2.length = σ.length := h.1.trans (wipe_length _ _)
  apply List.ext_getElem?
  intro j
  by_cases hj : j ∈ vs
  · by_cases hlt : j < σ.length
    · rw [wipe_in hj hlt, wipe_in hj (by rw [hl]; exact hlt)]
    · rw [List.getElem?_eq_none (by rw [wipe_length]; omega), List.getElem?_eq_none (by rw [wipe_length]; omega)]
  · rw [wipe_out hj, h.2 j fun z => hj (hs j z)]
theorem wipe_bx {b : Addr} (h : Bx (wipeR r vs) (wipe σ vs) b) : Bx r σ b := by
  obtain ⟨j, d, h1, h2⟩ := h
  have h2 := (wipe_some h2).1
  rcases h1 with h1 | h1
  · exact ⟨j, d, .inl (wipeR_get h1 (fun z => nomatch z)).1, h2⟩
  · exact ⟨j, d, .inr (wipeR_get h1 (fun z => nomatch z)).1, h2⟩
theorem wipe_lx {b : Addr} (h : Lx (wipeR r vs) (wipe σ vs) b) : Lx r σ b := by
  obtain ⟨j, d, h1, h2⟩ := h
  exact ⟨j, d, (wipeR_get h1 (fun z => nomatch z)).1, (wipe_some h2).1⟩
theorem wipe_rp (p : Rp C v0 A r σ H) : Rp C v0 A (wipeR r vs) (wipe σ vs) H := by
  refine ⟨by rw [wipeR_len, wipe_length]; exact p.len, fun i d h => ?_, fun i d h => ?_, fun i d h => ?_, fun i j d e b h1 h2 h3 h4 => ?_, p.dom, p.tabs⟩
  · obtain ⟨a, n⟩ := wipeR_get h (fun z => nomatch z)
    rw [wipe_out n]; exact p.val i d a
  · obtain ⟨a, n⟩ := wipeR_get h (fun z => nomatch z)
    rw [wipe_out n]; exact p.box i d a
  · obtain ⟨a, n⟩ := wipeR_get h (fun z => nomatch z)
    rw [wipe_out n]; exact p.pbx i d a
  · have t : ∀ {i : Nat} {d : D}, ((wipeR r vs)[i]? = some (.box d) ∨ (wipeR r vs)[i]? = some (.pbx d)) → r[i]? = some (.box d) ∨ r[i]? = some (.pbx d) := fun {i d} h => by
      rcases h with h | h
      · exact .inl (wipeR_get h (fun z => nomatch z)).1
      · exact .inr (wipeR_get h (fun z => nomatch z)).1
    exact p.inj i j d e b (t h1) (t h2) (wipe_some h3).1 (wipe_some h4).1
theorem wipe_stp (s : Stp A0 r0 σ0 H0 A r σ H) : Stp A0 r0 σ0 H0 A (wipeR r vs) (wipe σ vs) H := ⟨s.keep, s.dom, s.up, s.an, fun b h => s.bn b (wipe_bx h), fun b h => s.ln b (wipe_lx h)⟩
theorem rest_ok (p0 : Rp C v0 A0 r0 σ H0) (p : Rp C v0 A (wipeR r vs) (wipe σ vs) H) (s : Stp A0 (wipeR r0 vs) (wipe σ vs) H0 A (wipeR r vs) (wipe σ vs) H) : Rp C v0 A (restR r0 r vs) σ H ∧ Stp A0 r0 σ H0 A (restR r0 r vs) σ H ∧ ∀ b, Bx (restR r0 r vs) σ b → Bx (wipeR r vs) (wipe σ vs) b := by
  have pw : Rp C v0 A0 (wipeR r0 vs) (wipe σ vs) H0 := wipe_rp p0
  have cc := pw.carry s
  have w : ∀ {j : Nat} {x : SV}, r[j]? = some x → j ∉ vs → (wipeR r vs)[j]? = some x := fun {j x} h n => by
    have : ∀ {vs : List Nat}, j ∉ vs → (wipeR r vs)[j]? = r[j]? := fun {vs} n => by
      induction vs with
      | nil => rfl
      | cons v vs ih =>
        unfold wipeR
        rw [List.getElem?_set_ne (fun z => n (by rw [z]; exact List.mem_cons_self)), ih fun m => n (List.mem_cons_of_mem _ m)]
    rw [this n]; exact h
  have bxs : ∀ b, Bx (restR r0 r vs) σ b → Bx (wipeR r vs) (wipe σ vs) b := fun b ⟨j, d, h1, h2⟩ => by
    rcases h1 with h1 | h1
    · rcases restR_get h1 (fun z => nomatch z) with ⟨a, n⟩ | ⟨d', e, _⟩
      · exact ⟨j, d, .inl (w a n), by rw [wipe_out n]; exact h2⟩
      · cases e
    · rcases restR_get h1 (fun z => nomatch z) with ⟨a, n⟩ | ⟨d', e, _⟩
      · exact ⟨j, d, .inr (w a n), by rw [wipe_out n]; exact h2⟩
      · cases e
  have lxs : ∀ b, Lx (restR r0 r vs) σ b → Lx (wipeR r vs) (wipe σ vs) b := fun b ⟨j, d, h1, h2⟩ => by
    rcases restR_get h1 (fun z => nomatch z) with ⟨a, n⟩ | ⟨d', e, _⟩
    · exact ⟨j, d, w a n, by rw [wipe_out n]; exact h2⟩
    · cases e
  refine ⟨⟨?_, fun i d h => ?_, fun i d h => ?_, fun i d h => ?_, fun i j d e b h1 h2 h3 h4 => ?_, p.dom, p.tabs⟩, ⟨fun b o h n t => s.keep b o h (fun z => n (wipe_bx z)) t, s.dom, s.up, fun b h => (s.an b h).imp_right fun z => z.imp_right wipe_lx, fun b h => ?_, fun b h => ?_⟩, bxs⟩
  · have := p.len
    rw [wipeR_len, wipe_length] at this
    rw [restR_len]; exact this
  · rcases restR_get h (fun z => nomatch z) with ⟨a, n⟩ | ⟨d', e, a⟩
    · rw [← wipe_out n]; exact p.val i d (w a n)
    · cases e
      obtain ⟨v, e1, e2⟩ := p0.val i d a
      exact ⟨v, e1, e2.carry cc⟩
  · rcases restR_get h (fun z => nomatch z) with ⟨a, n⟩ | ⟨d', e, _⟩
    · rw [← wipe_out n]; exact p.box i d (w a n)
    · cases e
  · rcases restR_get h (fun z => nomatch z) with ⟨a, n⟩ | ⟨d', e, _⟩
    · rw [← wipe_out n]; exact p.pbx i d (w a n)
    · cases e
  · have t : ∀ {i : Nat} {d : D}, ((restR r0 r vs)[i]? = some (.box d) ∨ (restR r0 r vs)[i]? = some (.pbx d)) → ((wipeR r vs)[i]? = some (.box d) ∨ (wipeR r vs)[i]? = some (.pbx d)) ∧ i ∉ vs := fun {i d} h => by
      rcases h with h | h
      · rcases restR_get h (fun z => nomatch z) with ⟨a, n⟩ | ⟨d', e, _⟩
        · exact ⟨.inl (w a n), n⟩
        · cases e
      · rcases restR_get h (fun z => nomatch z) with ⟨a, n⟩ | ⟨d', e, _⟩
        · exact ⟨.inr (w a n), n⟩
        · cases e
    obtain ⟨t1, n1⟩ := t h1
    obtain ⟨t2, n2⟩ := t h2
    exact p.inj i j d e b t1 t2 (by rw [wipe_out n1]; exact h3) (by rw [wipe_out n2]; exact h4)
  · exact (s.bn b (bxs b h)).imp_left wipe_bx
  · exact (s.ln b (lxs b h)).imp_left wipe_lx
/-- a thing that nobody's slots tell is changed -/
theorem upd_free {D0 : Addr} {o0 o : HO} (p : Rp C v0 A r σ H) (h : H D0 = some o0) (n1 : ∀ ps, o0 ≠ .tbl ps) (n2 : ∀ f, o0 ≠ .ext f) (n3 : ∀ xs, o0 ≠ .tup xs) (n4 : ∀ ob u, o0 ≠ .frz ob u) (nA : ¬ A D0) (nb : ¬ Bx r σ D0) :
    Rp C v0 A r σ (upd H D0 o) ∧ Carry A A H (upd H D0 o) := by
  have c : Carry A A H (upd H D0 o) := ⟨fun _ h => h, fun b w ha hb _ => by rw [upd_ne (fun z => nA (by rw [← z]; exact ha))]; exact hb,
    fun b xs hb => by rw [upd_ne (fun z => n3 xs (by rw [z, h] at hb; cases hb; rfl))]; exact hb, fun b ob u hb => by rw [upd_ne (fun z => n4 ob u (by rw [z, h] at hb; cases hb; rfl))]; exact hb⟩
  refine ⟨⟨p.len, fun i d e => ?_, fun i d e => ?_, fun i d e => ?_, p.inj, fun b hb => ?_, tabs_upd p.tabs (fun ps z => n1 ps (by rw [h] at z; cases z; rfl)) (fun f z => n2 f (by rw [h] at z; cases z; rfl))⟩, c⟩
  · obtain ⟨v, a, b⟩ := p.val i d e
    exact ⟨v, a, b.carry c⟩
  · obtain ⟨b, a, n, w⟩ := p.box i d e
    exact ⟨b, a, n, w.carry c fun u q _ => by rw [upd_ne (fun z => nb ⟨i, d, .inl e, by rw [← z]; exact a⟩)]; exact q⟩
  · obtain ⟨b, a, a2, n, w⟩ := p.pbx i d e
    exact ⟨b, a, a2, n, w.carry c fun u q _ => by rw [upd_ne (fun z => nb ⟨i, d, .inr e, by rw [← z]; exact a⟩)]; exact q⟩
  · obtain ⟨w, e1, e2⟩ := p.dom b hb
    exact ⟨w, by rw [upd_ne (fun z => nA (by rw [← z]; exact hb))]; exact e1, e2⟩
end
end Mi
end
section
set_option maxRecDepth 100000
set_option maxHeartbeats 2000000
namespace Mi
open PySem PySem.Spec L2
open PyProof.Rows hiding St

/-! ### [elt for target in .. if ..] -/
def elF (elt : M EV) : M D := fun r => match elt r with
  | .ok ev r1 => match toV ev r1 with
    | some (d, r2) => .ok d r2
    | none => .no
  | _ => .no
def cmpF (vs : List Nat) (T : Tgt) (c : M Bool) (elt : M EV) : List D → List D → M (List D)
  | [], acc => rt acc
  | d :: ds, acc => fun r => match T d (wipeR r vs) with
    | none => .no
    | some r1 => match c r1 with
      | .ok true r2 => match elF elt r2 with
        | .ok y r3 => cmpF vs T c elt ds (acc ++ [y]) r3
        | _ => .no
      | .ok false r2 => cmpF vs T c elt ds acc r2
      | _ => .no
def cmpE (vs : List Nat) (T : Tgt) (c : M Bool) (elt : M EV) (ds : List D) : M EV := fun r => if ds.length < sizeLine then match cmpF vs T c elt ds [] r with
  | .ok acc r' => .ok (.own (.lst acc)) (restR r r' vs)
  | _ => .no
  else .no
def mComp (vs : List Nat) (mi : M (List D)) (T : Tgt) (c : M Bool) (elt : M EV) : M EV := bnd mi (cmpE vs T c elt)
def fNo : WX := fun _ _ _ _ => False
section
variable {C : Ct} {v0 : List V} {W : WX} {vs is : List Nat} {T : Tgt} {mi : M (List D)} {c : M Bool} {elt : M EV}
theorem elF_ok {A A0 : Addr → Prop} {r r0 r2 : List SV} {σ σ0 : St} {H H0 : Hp} {K : VK} {y : D} (p : Rp C v0 A r σ H) (s : Stp A0 r0 σ0 H0 A r σ H) (hx : elF elt r = .ok y r2)
    (hno : ∀ A2 H2 v, Rp C v0 A2 r2 σ H2 → Stp A0 r0 σ0 H0 A2 r2 σ H2 → Rel C A2 H2 y v → K v H2) : Po C v0 fNo (RelE C) A r σ H K (elt r) := by
  unfold elF at hx
  cases ee : elt r with
  | no => rw [ee] at hx; cases hx
  | exc c fs r1 => rw [ee] at hx; cases hx
  | ok ev r1 =>
    rw [ee] at hx
    dsimp only at hx
    cases et : toV ev r1 with
    | none => rw [et] at hx; cases hx
    | some z =>
      obtain ⟨d, r3⟩ := z
      rw [et] at hx
      cases hx
      intro A1 H1 v p1 s1 e1
      obtain ⟨A2, p2, s2, t2, _⟩ := toV_ok p1 s1 e1.q et
      exact hno A2 H1 v p2 (s.trans s2) t2
theorem tLc_of (hs : ∀ i ∈ is, i ∈ vs) {σ : St} {H : Hp} {Q : VK} (h : tE C v0 W (mComp vs mi T c elt) σ H Q) : tLc (tI C v0 W mi) (tGw C v0 is T) (tT C v0 fNo c) (tE C v0 fNo elt) vs σ H Q := by
  obtain ⟨A, r, p, q⟩ := h
  refine ⟨A, r, p, tE_bnd p .refl q fun A1 r1 H1 ds J p1 s1 w1 q1 => ?_⟩
  unfold cmpE at q1
  rcases Nat.lt_or_ge ds.length sizeLine with hlen | hlen
  case inr => rw [if_neg (by omega)] at q1; exact q1.elim
  rw [if_pos hlen] at q1
  have w1 : Wlk C A1 H1 J ds := w1
  have pw1 : Rp C v0 A1 (wipeR r1 vs) (wipe σ vs) H1 := wipe_rp p1
  intro L hD
  let Fin : R (List D) → Prop := fun x => Po C v0 W (RelE C) A r σ H Q (match x with
    | .ok acc r' => .ok (.own (.lst acc)) (restR r1 r' vs)
    | _ => .no)
  have fin0 : Fin (cmpF vs T c elt ds [] r1) := q1
  have finNo : ¬ Fin .no := fun z => z
  have finExc : ∀ c fs r, ¬ Fin (.exc c fs r) := fun _ _ _ z => z
  let Inv1 : Nat → Hp → Prop := fun i H' => i ≤ ds.length ∧ ∃ (A' : Addr → Prop) (r' : List SV) (acc : List D) (ws : List V), Rp C v0 A' (wipeR r' vs) (wipe σ vs) H' ∧ Stp A1 (wipeR r1 vs) (wipe σ vs) H1 A' (wipeR r' vs) (wipe σ vs) H' ∧ H' L = some (.lst ws) ∧ ¬ A' L ∧ ¬ Bx (wipeR r' vs) (wipe σ vs) L ∧ RelL C A' H' acc ws ∧ acc.length ≤ i ∧ Fin (cmpF vs T c elt (ds.drop i) acc r')
  have nA0 : ¬ A1 L := fun z => by
    obtain ⟨u, e, _⟩ := p1.dom L z
    rw [hD] at e; cases e
  have nB0 : ¬ Bx (wipeR r1 vs) (wipe σ vs) L := fun z => by
    obtain ⟨u, e, _⟩ := pw1.bxd z
    rw [hD] at e; cases e
  have start : Inv1 0 (upd H1 L (.lst [])) := ⟨Nat.zero_le _, A1, r1, [], [], pw1.ext (ext_lay hD), stp_ext (ext_lay hD), upd_same, nA0, nB0, rfl, Nat.le_refl _, fin0⟩
  refine ⟨fun i m H' => m = ds.length - i ∧ Inv1 i H', ⟨ds.length, by simp, start⟩, ?_⟩
  rintro i m H' ⟨rfl, hi, A', r', acc, ws, p', s', hd', nA, nB, rel, hacc, fin⟩
  obtain ⟨go, stop, yld⟩ := w1 A' H' (pw1.carry s')
  rcases Nat.lt_or_ge i ds.length with hlt | hge
  case inr =>
    refine .inl ⟨stop i (by omega), ?_⟩
    rw [List.drop_eq_nil_of_le (by omega)] at fin
    have fin : Po C v0 W (RelE C) A r σ H Q (.ok (.own (.lst acc)) (restR r1 r' vs)) := fin
    obtain ⟨p2, s2, b2⟩ := rest_ok p1 p' s'
    exact fin A' H' (.ref L) p2 (s1.trans s2) ⟨L, rfl, s1.dom_none hD, nA, fun z => nB (b2 L z), ws, hd', rel⟩
  refine .inr ⟨go i hlt, Inv1 (i + 1), fun H2 h => ⟨ds.length - (i + 1), by omega, rfl, h⟩, fun x H2 y => ?_⟩
  obtain ⟨ext, rd⟩ := yld i x H2 _ (List.getElem?_eq_getElem hlt) y
  have p2 := p'.ext ext
  have s2 : Stp A' (wipeR r' vs) (wipe σ vs) H' A' (wipeR r' vs) (wipe σ vs) H2 := stp_ext ext
  rw [List.drop_eq_getElem_cons hlt] at fin
  unfold cmpF at fin
  cases et : T ds[i] (wipeR r' vs) with
  | none => rw [et] at fin; exact (finNo fin).elim
  | some r3 =>
    rw [et] at fin
    dsimp only at fin
    refine ⟨A', wipeR r' vs, ds[i], r3, p2, rd, et, fun σ3 p3 s3 sm => ?_⟩
    have hw : wipe σ3 vs = wipe σ vs := wipe_same sm hs
    refine ⟨hw, A', r3, p3, ?_⟩
    have s23 := s2.trans s3
    -- what holds of the new list at a later state
    have free : ∀ {A4 : Addr → Prop} {r4 : List SV} {H4 : Hp}, Stp A' (wipeR r' vs) (wipe σ vs) H' A4 r4 σ3 H4 → H4 L = some (.lst ws) ∧ ¬ A4 L ∧ ¬ Bx r4 σ3 L := fun {A4 r4 H4} s4 => by
      refine ⟨s4.keep L _ hd' nB (fun _ z => nomatch z), fun z => ?_, fun z => ?_⟩
      · rcases s4.an L z with z | z | z
        · exact nA z
        · rw [hd'] at z; cases z
        · exact nB z.bx
      · rcases s4.bn L z with z | z
        · exact nB z
        · rw [hd'] at z; cases z
    have nx : ∀ {A4 : Addr → Prop} {r4 : List SV} {H4 : Hp} {acc2 : List D}, Rp C v0 A4 r4 σ3 H4 → Stp A' (wipeR r' vs) (wipe σ vs) H' A4 r4 σ3 H4 → acc2 = acc → Fin (cmpF vs T c elt (ds.drop (i + 1)) acc2 r4) → Inv1 (i + 1) H4 := fun {A4 r4 H4 acc2} p4 s4 e f => by
      subst e
      obtain ⟨f1, f2, f3⟩ := free s4
      have pw := wipe_rp (vs := vs) p4
      have sw := wipe_stp (vs := vs) s4
      rw [hw] at pw sw
      refine ⟨hlt, A4, r4, acc2, ws, pw, s'.trans sw, f1, f2, fun z => f3 (wipe_bx (by rw [hw]; exact z)), rel.carry (p'.carry sw), by omega, f⟩
    cases ec : c r3 with
    | no => rw [ec] at fin; exact (finNo fin).elim
    | exc cl fs r4 => rw [ec] at fin; exact (finNo fin).elim
    | ok b r4 =>
      rw [ec] at fin
      intro A4 H4 b' p4 s4 eb
      have eb : b' = b := eb
      subst eb
      have s24 := s23.trans s4
      cases b' with
      | false => exact nx p4 s24 rfl fin
      | true =>
        rw [if_pos rfl]
        dsimp only at fin
        cases ee : elF elt r4 with
        | no => rw [ee] at fin; exact (finNo fin).elim
        | exc cl fs r5 => rw [ee] at fin; exact (finNo fin).elim
        | ok yd r5 =>
          rw [ee] at fin
          refine ⟨A4, r4, p4, elF_ok p4 s24 ee fun A5 H5 v p5 s5 t5 => ?_⟩
          obtain ⟨f1, f2, f3⟩ := free s5
          obtain ⟨p6, c6⟩ := upd_free (o := .lst (ws ++ [v])) p5 f1 (fun _ z => nomatch z) (fun _ z => nomatch z) (fun _ z => nomatch z) (fun _ _ z => nomatch z) f2 f3
          have pw := wipe_rp (vs := vs) p6
          have sw := wipe_stp (vs := vs) s5
          rw [hw] at pw sw
          have s7 := s'.trans sw
          refine ⟨ws, f1, by rw [rel.length]; omega, hlt, A5, r5, acc ++ [yd], ws ++ [v], pw, ⟨fun b o h n t => ?_, fun b o h => ?_, s7.up, s7.an, s7.bn, s7.ln⟩, upd_same, f2, fun z => f3 (wipe_bx (by rw [hw]; exact z)), ?_, by rw [List.length_append, List.length_singleton]; omega, fin⟩
          · rw [upd_ne (fun z => by rw [z, hD] at h; cases h)]
            exact s7.keep b o h n t
          · obtain ⟨o', ho⟩ := s7.dom b o h
            exact ⟨o', by rw [upd_ne (fun z => by rw [z, hD] at h; cases h)]; exact ho⟩
          · exact ((rel.carry (p'.carry sw)).snoc t5).carry c6
end
/-! ### the rules -/
def mYes : M Bool := rt true
section
variable {X : Cx} {C : Ct} {v0 : List V} {W : WX} {elt tg iter : Expr} {ifs : List Expr} {scope : Scope} {own : List (Str × Nat)} {is : List Nat} {pos : Pos} {mi : M (List D)} {T : Tgt} {mc : M Bool} {me : M EV}
theorem pts_yes {X : Cx} : PTs X [] (tT C v0 W mYes) := PTs.imp pts_nil fun σ H Q ⟨A, r, p, q⟩ => q A H true p .refl rfl
theorem pts_1 {X : Cx} {e : Expr} (h : PT X e (tT C v0 W mc)) : PTs X [e] (tT C v0 W mc) := pts_one h
/-- [elt for tg in iter if ..] -/
theorem pm_comp (hc : X.calm = true) (hN : X.N.Nodup) (hi : PI X tg iter (tI C v0 W mi)) (ok : BlkOk X.N X.env.scope scope own) (hs : ∀ i ∈ is, i ∈ own.map (·.2))
    (hg : ∀ (s : Shared) (H : Hp) (B : Addr) (cl : List (Str × Addr)) (fp : List Addr), PG (X.blk s H scope (compEnvC scope cl B X.env) fp) tg (tGw C v0 is T)) (ht : ∀ (s : Shared) (H : Hp) (B : Addr) (cl : List (Str × Addr)) (fp : List Addr), PTs (X.blk s H scope (compEnvC scope cl B X.env) fp) ifs (tT C v0 fNo mc))
    (he : ∀ (s : Shared) (H : Hp) (B : Addr) (cl : List (Str × Addr)) (fp : List Addr), PE (X.blk s H scope (compEnvC scope cl B X.env) fp) elt (tE C v0 fNo me)) (hf : ∀ x, foldedSetIterable iter X.env x = pure x := by intro _; rfl) :
    PE X (.ListComp elt [⟨tg, iter, ifs, 0⟩] scope pos) (tE C v0 W (mComp (own.map (·.2)) mi T mc me)) :=
  PE.imp (pe_lc hc hN hi ok hg ht he hf) fun σ H Q h => tLc_of hs h
theorem pms_setComp {i : Nat} {y : Str} {py spos : Pos} (bx : Bool) (hc : X.calm = true) (hN : X.N.Nodup) (hy : X.N[i]? = some y) (hyl : X.env.scope.names.lookup y = some .local)
    (hsw : swapsWith (.ListComp elt [⟨tg, iter, ifs, 0⟩] scope pos) (some (.Name y py)) spos.line X.env = pure true) (hi : PI X tg iter (tI C v0 W mi)) (ok : BlkOk X.N X.env.scope scope own) (hs : ∀ i ∈ is, i ∈ own.map (·.2))
    (hg : ∀ (s : Shared) (H : Hp) (B : Addr) (cl : List (Str × Addr)) (fp : List Addr), PG (X.blk s H scope (compEnvC scope cl B X.env) fp) tg (tGw C v0 is T)) (ht : ∀ (s : Shared) (H : Hp) (B : Addr) (cl : List (Str × Addr)) (fp : List Addr), PTs (X.blk s H scope (compEnvC scope cl B X.env) fp) ifs (tT C v0 fNo mc))
    (he : ∀ (s : Shared) (H : Hp) (B : Addr) (cl : List (Str × Addr)) (fp : List Addr), PE (X.blk s H scope (compEnvC scope cl B X.env) fp) elt (tE C v0 fNo me)) (hf : ∀ x, foldedSetIterable iter X.env x = pure x := by intro _; rfl) :
    PS X (.Assign [.Name y py] (.ListComp elt [⟨tg, iter, ifs, 0⟩] scope pos) spos) (tS C v0 W (mAsg i bx (mComp (own.map (·.2)) mi T mc me))) :=
  PS.imp (ps_setLc hc hN hy hyl hsw hi ok hg ht he hf) fun N σ H ⟨A, r, p, q⟩ => tLc_of hs (tAsg_of p q)
end
end Mi
end
section
set_option maxRecDepth 100000
set_option maxHeartbeats 2000000
namespace Mi
open PySem PySem.Spec L2
open PyProof.Rows hiding St

/-! ### errors are raised -/
/-- the error of the class c, of these values for its fields -/
def excF {α : Type} (c : Str) (fs : List Str) (evs : List EV) : M α := fun r => match toVs evs r with
  | some (ds, r1) => .exc c (fs.zip ds).reverse r1
  | none => .no
def mRaise (c : Str) (fs : List Str) (ms : M (List EV)) : M Fl := bnd ms (excF c fs)
/-- what an own class's __init__ does: the fields, one after another -/
def IsI (K : PySem.W.Frag) (Cl : Addr) (fs : List Str) (sp : Sp) : Prop := ∀ (a : Addr) (vs : List V) (H1 : Hp) (Q : Addr → Hp → Prop), vs.length = fs.length → H1 a = none → (∀ d, H1 d = none → Q d (upd H1 d (.xd (fs.zip vs).reverse))) →
  sp (.ref a :: (vs ++ [])) (upd H1 a (exo a Cl none)) (fun v H2 => v = .non ∧ ∃ (d : Addr) (ws : List (Str × V)), H2 a = some (exo a Cl (some d)) ∧ H2 d = some (exd d ws) ∧ H1 d = none ∧ Q d (upd (del H2 a) d (.xd ws))) (fun _ _ _ => False)
def spT (n : Nat) (t : TS) : Sp := fun vs H Q _ => vs.length = n ∧ t { nx := fun _ H' => Q .non H', rt := Q } (vs.map some) H
/-- an own class with fields: what is known of it -/
structure OwnE (P : Program) (w : World) (K : PySem.W.Frag) (mg : Str → Option Value) (base : Heap) (c : Str) (fs : List Str) (Cl : Addr) : Prop where
  ex : OexC K Cl
  gC : mg c = some (.ref Cl)
  init : ∃ (fI : Addr) (fd : FuncData) (ps : List Str) (sp : Sp), PySem.W.findIn K (.ref Cl) "__init__" = some (some (.ref fI)) ∧ PySem.W.typeIn K (.ref fI) = some (.type "function") ∧ FnOk P w K mg base CX0 1 fI fd ps sp ∧ Binds K fd ps [] ∧ IsI K Cl fs sp
section
variable {K : PySem.W.Frag} {Cl : Addr} {f g : Str}
theorem del_upd {H : Hp} {a d : Addr} {o o1 o2 o3 : HO} (ha : H a = none) (hd : d ≠ a) : upd (del (upd (upd (upd H a o) d o1) a o2) a) d o3 = upd H d o3 := by
  funext b
  by_cases hb : b = d
  · subst hb; rw [upd_same, upd_same]
  · rw [upd_ne hb, upd_ne hb]
    by_cases hb2 : b = a
    · subst hb2; rw [del_same, ha]
    · rw [del_ne hb2, upd_ne hb2, upd_ne hb, upd_ne hb2]
theorem isI1 (T : OexC K Cl) (n1 : PySem.W.findIn K (.ref Cl) f = some none) : IsI K Cl [f] (spT 2 (tOst K f (tVar 0) (tVar 1))) := by
  intro a vs H1 Q hl ha q
  obtain ⟨v, rfl⟩ : ∃ v, vs = [v] := by
    match vs, hl with
    | [v], _ => exact ⟨v, rfl⟩
  refine ⟨rfl, v, rfl, .ref a, rfl, a, Cl, rfl, T, n1, .inl ⟨upd_same, fun dx hdx ne => ⟨rfl, dx, [(f, v)], upd_same, by rw [upd_ne ne, upd_same], ?_, ?_⟩⟩⟩
  · rw [upd_ne ne] at hdx; exact hdx
  · rw [del_upd ha ne]
    exact q dx (by rw [upd_ne ne] at hdx; exact hdx)
theorem isI2 (T : OexC K Cl) (n1 : PySem.W.findIn K (.ref Cl) f = some none) (n2 : PySem.W.findIn K (.ref Cl) g = some none) : IsI K Cl [f, g] (spT 3 (tSeq (tOst K f (tVar 0) (tVar 1)) (tOst K g (tVar 0) (tVar 2)))) := by
  intro a vs H1 Q hl ha q
  obtain ⟨v, w, rfl⟩ : ∃ v w, vs = [v, w] := by
    match vs, hl with
    | [v, w], _ => exact ⟨v, w, rfl⟩
  refine ⟨rfl, v, rfl, .ref a, rfl, a, Cl, rfl, T, n1, .inl ⟨upd_same, fun dx hdx ne => ?_⟩⟩
  have hd1 : H1 dx = none := by rw [upd_ne ne] at hdx; exact hdx
  refine ⟨w, rfl, .ref a, rfl, a, Cl, rfl, T, n2, .inr ⟨dx, [(f, v)], upd_same, by rw [upd_ne ne, upd_same], by simp, ?_⟩⟩
  refine ⟨rfl, dx, [(g, w), (f, v)], by rw [upd_ne (Ne.symm ne), upd_same], upd_same, hd1, ?_⟩
  have : upd (del (upd (upd (upd (upd H1 a (exo a Cl none)) dx (exd dx [(f, v)])) a (exo a Cl (some dx))) dx (exd dx [(g, w), (f, v)])) a) dx (.xd [(g, w), (f, v)]) = upd H1 dx (.xd [(g, w), (f, v)]) := by
    funext b
    by_cases hb : b = dx
    · subst hb; rw [upd_same, upd_same]
    · rw [upd_ne hb, upd_ne hb]
      by_cases hb2 : b = a
      · subst hb2; rw [del_same, ha]
      · rw [del_ne hb2, upd_ne hb, upd_ne hb2, upd_ne hb, upd_ne hb2]
  rw [this]
  exact q dx hd1
end
theorem relF_zip {C : Ct} {A : Addr → Prop} {H : Hp} : ∀ {fs : List Str} {ds : List D} {vs : List V}, RelL C A H ds vs → RelF C A H (fs.zip ds) (fs.zip vs)
  | [], _, _, _ => rfl
  | f :: fs, [], vs, h => by cases h; rfl
  | f :: fs, d :: ds, _, ⟨v, r, e, h, t⟩ => by subst e; exact ⟨v, _, rfl, h, relF_zip t⟩
theorem relF_app {C : Ct} {A : Addr → Prop} {H : Hp} : ∀ {xs ys : List (Str × D)} {vs ws : List (Str × V)}, RelF C A H xs vs → RelF C A H ys ws → RelF C A H (xs ++ ys) (vs ++ ws)
  | [], _, _, _, h, k => by cases h; exact k
  | (f, d) :: xs, ys, _, ws, ⟨v, r, e, h, t⟩, k => by subst e; exact ⟨v, _, rfl, h, relF_app t k⟩
theorem relF_rev {C : Ct} {A : Addr → Prop} {H : Hp} : ∀ {xs : List (Str × D)} {vs : List (Str × V)}, RelF C A H xs vs → RelF C A H xs.reverse vs.reverse
  | [], _, h => by cases h; rfl
  | (f, d) :: xs, _, ⟨v, r, e, h, t⟩ => by
    subst e
    rw [List.reverse_cons, List.reverse_cons]
    exact relF_app (relF_rev t) ⟨v, [], rfl, h, rfl⟩
section
variable {X : Cx} {C : Ct} {v0 : List V} {W : WX} {c : Str} {fs : List Str} {Cl : Addr} {p pos pos2 : Pos} {e : Expr} {es : List Expr} {ms : M (List EV)}
/-- raise c(e, ..) -/
theorem pms_raise (hC : C.mg = X.mg) (hc : X.calm = true) (tk : Takes X W) (O : OwnE X.prog X.w X.K X.mg X.base c fs Cl) (hr : Room 2 X.A) (hg : Gl X c) (ha : PA X (e :: es) (tEs C v0 W ms)) (hl : LenM ms fs.length) (hf : fs.length ≤ 1000 := by decide)
    (hdb : (c == ("__debug__" : Str)) = false := by decide) (he : starEach (e :: es) X.env = (false, eval e X.env) :: starEach es X.env := by rfl) (hpl : (backTo pos (starEach es X.env)).any (·.1) = false := by rfl) :
    PS X (.Raise (some (.Call (.Name c p) (e :: es) [] pos)) none pos2) (tS C v0 W (mRaise c fs ms)) := by
  obtain ⟨fI, fd, ps, sp, i1, i2, F1, hb, hI⟩ := O.init
  refine PS.imp (ps_raise hc tk (pmk_oex (dvs := []) (ds := []) O.ex i1 i2 F1 hr hb .nil pass0 hg O.gC ha hdb he hpl)) fun N σ H ⟨A, r, p, q⟩ => ⟨A, r, p, ?_⟩
  unfold mRaise bnd at q
  cases em : ms r with
  | no => rw [em] at q; exact q
  | exc c fs r' => rw [em] at q; exact fun A' H' cl d p s x => q A' σ H' cl d p s x
  | ok evs r1 =>
    rw [em] at q
    intro A1 H1 vs p1 s1 e1
    have hlen : vs.length = fs.length := by rw [← paired_len e1.1]; exact hl r evs r1 em
    dsimp only at q
    unfold excF at q
    cases et : toVs evs r1 with
    | none => rw [et] at q; exact q.elim
    | some z =>
      obtain ⟨ds, r2⟩ := z
      rw [et] at q
      obtain ⟨A2, p2, s2, t2, _⟩ := toVs_ok p1 s1 (Paired.mapP e1.1 fun _ _ z => z.q) et
      refine ⟨by omega, fun a ha => hI a vs H1 (fun d H' => W (.ref Cl) (some d) σ H') hlen ha fun d hd => ?_⟩
      exact q A2 σ _ Cl (some d) (p2.ext (ext_lay hd)) (s2.trans (stp_ext (ext_lay hd))) ⟨by rw [hC]; exact O.gC, .inr ⟨d, _, rfl, upd_same, RelF.carry (carry_lay hd) _ (relF_rev (relF_zip t2))⟩⟩
end
end Mi
end
section
set_option maxRecDepth 100000
set_option maxHeartbeats 2000000
namespace Mi
open PySem PySem.Spec L2
open PyProof.Rows hiding St

/-! ### try: .. except k as n: .. except ..: several clauses, with names and without -/
structure Cl1 where
  c : Value
  n : Option Nat
  ts : Addr → Value → Option Addr → TS
/-- behind a suite with a name -/
def gone (n : Option Nat) (D : Ends) : Ends := match n with
  | none => D
  | some i => { nx := fun σ' H' => D.nx (σ'.set i none) H', rt := D.rt, bk := fun σ' H' => D.bk (σ'.set i none) H', ct := fun σ' H' => D.ct (σ'.set i none) H' }
def held (n : Option Nat) (σ : St) (a : Addr) : St := match n with
  | none => σ
  | some i => σ.set i (some (.ref a))
def wMix (K : PySem.W.Frag) (Wout : WX) (D : Ends) : List Cl1 → WX
  | [] => Wout
  | k :: r => fun cls d σ H => ∃ b, PySem.W.exmOne K cls k.c = some b ∧ (b = true → ∀ a, H a = none → k.ts a cls d (gone k.n D) (held k.n σ a) H) ∧ (b = false → wMix K Wout D r cls d σ H)
inductive HdMix (X : Cx) : List ExceptHandler → List Cl1 → Prop
  | nil : HdMix X [] []
  | bare {x : Str} {c : Value} {ts : Addr → Value → Option Addr → TS} {b₀ : Stmt} {suite : List Stmt} {np pos' : Pos} {hds : List ExceptHandler} {l : List Cl1} (hc : Names X x c)
      (hsu : ∀ (a : Addr) (oe : Obj) (cls : Value) (d : Option Addr) (pn : List (Addr × Obj)), Zc cls d oe → (∃ vs, oe.data = .fields vs) → PSs (X.suite a ((a, oe) :: pn)) (b₀ :: suite) (ts a cls d)) (r : HdMix X hds l) :
      HdMix X (.ExceptHandler (some (.Name x np)) none (b₀ :: suite) pos' :: hds) (⟨c, none, ts⟩ :: l)
  | named {x n : Str} {i : Nat} {c : Value} {ts : Addr → Value → Option Addr → TS} {b₀ : Stmt} {suite : List Stmt} {np pos' : Pos} {hds : List ExceptHandler} {l : List Cl1} (hc : Names X x c) (hi : X.N[i]? = some n) (hln : X.env.kindOf n = some .local)
      (hsu : ∀ (a : Addr) (oe : Obj) (cls : Value) (d : Option Addr) (pn : List (Addr × Obj)), Zc cls d oe → (∃ vs, oe.data = .fields vs) → PSs (X.suite a ((a, oe) :: pn)) (b₀ :: suite) (ts a cls d)) (r : HdMix X hds l) :
      HdMix X (.ExceptHandler (some (.Name x np)) (some n) (b₀ :: suite) pos' :: hds) (⟨c, some i, ts⟩ :: l)
section
variable {X : Cx} {body : List Stmt} {h₀ : ExceptHandler} {hds : List ExceptHandler} {l : List Cl1} {pos : Pos} {tb : WX → TS} {Wout : WX}
theorem ps_try_mix (hs : X.stack = X.env :: X.outer) (hf : X.env.frame = some X.env.locals) (hN : X.N.Nodup) (tk : Takes X Wout)
    (hb : ∀ (W : WX) (pn : List (Addr × Obj)) (xe : Value → Shared → Prop), Takes (X.tr pn xe) W → PassesOwn (model X.prog X.w) X.A X.env xe → PSs (X.tr pn xe) body (tb W)) (hh : HdMix X (h₀ :: hds) l) :
    PS X (.Try body (h₀ :: hds) [] [] pos) (fun D σ H => tb (wMix X.K Wout D l) D σ H) := by
  refine ⟨fun pins t0 σ H D I want => ?_⟩
  have good := I.ok
  have hframes : X.A.frames = some (X.env :: X.outer) := by rw [good.frames, hs]
  refine wpAny_Try_except ?_
  refine wpAny_mono ((hb (wMix X.K Wout D l) (X.pn ++ pins) (fun e t₁ => wpAny (model X.prog X.w) X.A (noteFrame e X.env) (fun _ t₂ => wpAny (model X.prog X.w) X.A (setFlight e none) (fun _ t₃ =>
    wpAny (model X.prog X.w) X.A (handleBy e X.env (h₀ :: hds)) (SP X pins D) X.xe t₃) X.xe t₂) X.xe t₁) (fun u t' xx => ?_) PassesOwn.looking).run [] t0 σ H D (I.toTry _) want) (fun f t1 hsp => ?_) (fun e t1 he => he)
  · obtain ⟨a, B, tI, pins', τ, G, cls, d, rfl, Jt, nb, up, sky, na, os, ag, w⟩ := xx
    have J : Inv X pins τ G tI := Jt.ofTry good
    have skyE : Sky B (X.env :: X.outer) a (Zc cls d) X.env.locals t'.heap := by rw [← hs]; exact sky
    show wpAny (model X.prog X.w) X.A (noteFrame (.ref a) X.env) _ _ _
    refine Sky.land Zc.steady hframes hf skyE fun h3 fl3 up3 => ?_
    have J3 : Inv X pins τ G { t' with heap := h3 } := J.landed nb fl3.1 (up.trans up3) os ag
    obtain ⟨oe3, vs3, he3, hz3, hd3⟩ := fl3.there
    have noFrm : ∀ {h : Heap} {o : Obj} {vs : Array Value}, h.FunFrames B (X.env :: X.outer) → h.get? a = some o → o.data = .fields vs → a ∉ frs (X.env :: X.outer) := fun {h o vs} ff e dd hm => by
      obtain ⟨_, o2, e2, hnf⟩ := ff.mem hm
      rw [e] at e2; cases e2; exact hnf _ dd
    have nfr := noFrm fl3.2.2.1 he3 hd3
    have notL : a ≠ X.env.locals := fun z => nfr (List.mem_filterMap.mpr ⟨X.env, List.mem_cons_self, by rw [hf, z]⟩)
    have notF : a ∉ X.fs := fun hm => by
      obtain ⟨e, he, q⟩ := List.mem_filterMap.mp hm
      exact nfr (List.mem_filterMap.mpr ⟨e, List.mem_cons_of_mem _ he, q⟩)
    have S3 := J3.suite he3 hd3 na notL notF
    have LT : PySem.W.Looks (model X.prog X.w) h3 (typeOf (.ref a)) cls := fun A Q E s k q => wpAny_typeOf_ref (k _ _ he3) (by rw [hz3.1]; exact q)
    have test : ∀ {x : Str} {c : Value} {np : Pos} {Q : Value → Shared → Prop} {E : Value → Shared → Prop}, Names X x c → Q c { t' with heap := h3 } → wpAny (model X.prog X.w) (X.A.mark (some (.ref a))) (eval (.Name x np) X.env) Q E { t' with heap := h3 } := fun {x c np Q E} hc q => by
      obtain ⟨hg, hdbg, hm | ⟨hm, hv, hnn⟩⟩ := hc
      · exact ld_glob (X := X.suite a ((a, oe3) :: (X.pn ++ pins))) S3 hg hm q hdbg
      · exact ld_blt (X := X.suite a ((a, oe3) :: (X.pn ++ pins))) S3 hg hm hv q hnn hdbg
    have go : ∀ {hs2 : List ExceptHandler} {l2 : List Cl1}, HdMix X hs2 l2 → wMix X.K Wout D l2 cls d τ G → wpAny (model X.prog X.w) X.A (handleBy (.ref a) X.env hs2) (SP X pins D) X.xe { t' with heap := h3 } := by
      intro hs2 l2 hk
      induction hk with
      | nil =>
        intro w
        refine wpAny_handleBy_nil ?_
        obtain ⟨k1, k2, k3, oe, vs, T, oT, ts', he, hz, hd, h1, hr⟩ := id fl3
        unfold PySem.passOn
        refine wpAny_bind (wpAny_field he hd h1 ?_)
        rw [if_neg (show ¬ ((Value.ref T == Value.none) = true) from by simp)]
        have out : wpAny (model X.prog X.w) X.A (setFlight (.ref a) X.env.frame) (fun _ t4 => wpAny (model X.prog X.w) X.A (throw (.ref a) : Sem Flow) (SP X pins D) X.xe t4) X.xe { t' with heap := h3 } := by
          rw [hf]
          refine HandSPX.setFlight_upZ fl3 fun h4 hh4 up4 => wpAny_throw (tk _ _ ?_)
          exact ⟨a, B, tI, pins, τ, G, cls, d, rfl, J, nb, (up.trans up3).trans up4, .inr (.inr (by rw [hs]; exact hh4)), na, os, ag, w⟩
        first
          | exact wpAny_bind (wpAny_pure (wpAny_bind out))
          | exact wpAny_bind out
      | @bare x c ts b₀ suite np pos' hs3 l3 hc hsu r ih =>
        intro w
        obtain ⟨b, hb1, hyes, hno⟩ := w
        refine wpAny_handleBy_cons (codeAny_handlers_test ?_) (by intro q; cases q)
        refine test hc ((PySem.W.exm_one (M := model X.prog X.w) (J3.kIn) LT hb1).here ?_)
        cases b with
        | false =>
          show wpAny _ X.A (handleBy (.ref a) X.env hs3) _ _ _
          exact ih (hno rfl)
        | true =>
          refine codeAny_handlers_suite (HandSPX.lands_againZ fl3 fun h4 fl4 up4 => ?_)
          have J4 : Inv X pins τ G { t' with heap := h4 } := J.landed nb fl4.1 ((up.trans up3).trans up4) os ag
          obtain ⟨oe4, vs4, he4, hz4, hd4⟩ := fl4.there
          have S4 := J4.suite he4 hd4 na notL notF
          refine wpAny_mono ((hsu a oe4 cls d (X.pn ++ pins) hz4 ⟨_, hd4⟩).run [] _ _ G _ S4 (hyes rfl a na)) (fun f t6 hsp => ?_) (fun _ _ z => False.elim z)
          cases f with
          | next => exact let ⟨_, _, S6, q6⟩ := hsp; ⟨_, _, S6.unsuite good, q6⟩
          | brk => exact let ⟨_, _, S6, q6⟩ := hsp; ⟨_, _, S6.unsuite good, q6⟩
          | cont => exact let ⟨_, _, S6, q6⟩ := hsp; ⟨_, _, S6.unsuite good, q6⟩
          | ret u => exact let ⟨_, _, _, S6, r6, q6⟩ := hsp; ⟨_, _, _, S6.unsuite good, r6, q6⟩
      | @named x n i c ts b₀ suite np pos' hs3 l3 hc hi hln hsu r ih =>
        intro w
        obtain ⟨b, hb1, hyes, hno⟩ := w
        refine wpAny_handleBy_cons (codeAny_handlers_test ?_) (by intro q; cases q)
        refine test hc ((PySem.W.exm_one (M := model X.prog X.w) (J3.kIn) LT hb1).here ?_)
        cases b with
        | false =>
          show wpAny _ X.A (handleBy (.ref a) X.env hs3) _ _ _
          exact ih (hno rfl)
        | true =>
          refine codeAny_handlers_suite_as (HandSPX.lands_againZ fl3 fun h4 fl4 up4 => ?_)
          have J4 : Inv X pins τ G { t' with heap := h4 } := J.landed nb fl4.1 ((up.trans up3).trans up4) os ag
          obtain ⟨oe4, vs4, he4, hz4, hd4⟩ := fl4.there
          have S4 := J4.suite he4 hd4 na notL notF
          refine store_ok (X := X.suite a ((a, oe4) :: (X.pn ++ pins))) (v := .ref a) S4 hN hi (.inl hln) rfl (fun t5 S5 => ?_) (.inr hln)
          refine wpAny_mono ((hsu a oe4 cls d (X.pn ++ pins) hz4 ⟨_, hd4⟩).run [] t5 _ G _ S5 (hyes rfl a na)) (fun f t6 hsp => ?_) (fun _ _ z => False.elim z)
          have end_ : ∀ {σ6 : St} {H6 : Hp} {Q : Shared → Prop}, Inv (X.suite a ((a, oe4) :: (X.pn ++ pins))) [] σ6 H6 t6 → (∀ t7, Inv X pins (σ6.set i none) H6 t7 → Q t7) →
              wpAny (model X.prog X.w) X.A (do bindName X.env n .none; unbindBehindTheSuite X.env n pos') (fun _ t7 => Q t7) X.xe t6 := fun {σ6 H6 Q} S6 hq => gone_ok (S6.unsuite good) hN hi hln hq
          cases f with
          | next => exact let ⟨_, _, S6, q6⟩ := hsp; end_ S6 fun t7 J7 => ⟨_, _, J7, q6⟩
          | brk => exact let ⟨_, _, S6, q6⟩ := hsp; end_ S6 fun t7 J7 => ⟨_, _, J7, q6⟩
          | cont => exact let ⟨_, _, S6, q6⟩ := hsp; end_ S6 fun t7 J7 => ⟨_, _, J7, q6⟩
          | ret u => exact let ⟨_, _, _, S6, r6, q6⟩ := hsp; end_ S6 fun t7 J7 => ⟨_, _, _, J7, r6, q6⟩
    exact go hh w
  · cases f with
    | next => exact let ⟨σ2, H2, J2, q⟩ := hsp; wpAny_execs_nil ⟨σ2, H2, J2.ofTry good, q⟩
    | brk => exact let ⟨σ2, H2, J2, q⟩ := hsp; ⟨σ2, H2, J2.ofTry good, q⟩
    | cont => exact let ⟨σ2, H2, J2, q⟩ := hsp; ⟨σ2, H2, J2.ofTry good, q⟩
    | ret u => exact let ⟨v, σ2, H2, J2, r, q⟩ := hsp; ⟨v, σ2, H2, J2.ofTry good, r, q⟩
end
end Mi
end
section
set_option maxRecDepth 100000
set_option maxHeartbeats 2000000
namespace Mi
open PySem PySem.Spec L2
open PyProof.Rows hiding St

/-! ### a clause: the class, the slot of its name, its suite -/
structure Hd where
  k : Str
  n : Option Nat
  su : Str → List (Str × D) → M Fl
def clr (n : Option Nat) (r : List SV) : List SV := match n with
  | none => r
  | some i => r.set i .un
def okN (n : Option Nat) (r : List SV) : Bool := match n with
  | none => true
  | some i => decide (i < r.length)
def suiteF (h : Hd) (c : Str) (fs : List (Str × D)) : M Fl := fun r => if okN h.n r = true then match h.su c fs (clr h.n r) with
    | .ok .nx r' => .ok .nx (clr h.n r')
    | .ok .bk r' => .ok .bk (clr h.n r')
    | .ok .ct r' => .ok .ct (clr h.n r')
    | .ok (.rt ev) r' => .ok (.rt ev) r'
    | _ => .no
  else .no
def handle (sub : Str → Str → Bool) (kn : List Str) (c : Str) (fs : List (Str × D)) : List Hd → M Fl
  | [] => fun r => .exc c fs r
  | h :: t => fun r => if c ∈ kn then if sub c h.k = true then suiteF h c fs r else handle sub kn c fs t r else .no
def mTry (sub : Str → Str → Bool) (kn : List Str) (body : M Fl) (hs : List Hd) : M Fl := fun r => match body r with
  | .exc c fs r1 => handle sub kn c fs hs r1
  | x => x
def tSu (C : Ct) (v0 : List V) (n : Option Nat) (su : Str → List (Str × D) → M Fl) (a : Addr) (cls : Value) (d : Option Addr) : TS := fun N σ H =>
  ∃ A r c fs cl, cls = .ref cl ∧ ExcR C A H c fs cl d ∧ Rp C v0 A r σ H ∧ (∀ i, n = some i → σ[i]? = some (some (.ref a))) ∧ PoS C v0 fNo A r σ H N (su c fs r)
inductive HdsR (C : Ct) (K : PySem.W.Frag) (v0 : List V) (sub : Str → Str → Bool) (kn : List Str) : List Hd → List Cl1 → Prop
  | nil : HdsR C K v0 sub kn [] []
  | cons {h : Hd} {hs : List Hd} {ls : List Cl1} {cv : Value} (hE : ∀ c cl, c ∈ kn → C.mg c = some (.ref cl) → PySem.W.exmOne K (.ref cl) cv = some (sub c h.k)) (t : HdsR C K v0 sub kn hs ls) : HdsR C K v0 sub kn (h :: hs) (⟨cv, h.n, tSu C v0 h.n h.su⟩ :: ls)
section
variable {C : Ct} {v0 : List V} {W Wout : WX} {A A0 : Addr → Prop} {r r0 : List SV} {σ σ0 : St} {H H0 : Hp}
theorem set_un {i : Nat} {x : Option V} (p : Rp C v0 A r σ H) : Rp C v0 A (r.set i .un) (σ.set i x) H ∧ Stp A r σ H A (r.set i .un) (σ.set i x) H := by
  have old : ∀ {j : Nat} {y : SV}, (r.set i .un)[j]? = some y → y ≠ .un → r[j]? = some y ∧ (σ.set i x)[j]? = σ[j]? := fun {j y} e n => by
    rcases getElem?_set_cases e with ⟨_, z, _⟩ | ⟨ne, z⟩
    · exact absurd z n
    · exact ⟨z, List.getElem?_set_ne ne⟩
  have bxs : ∀ b, Bx (r.set i .un) (σ.set i x) b → Bx r σ b := fun b ⟨j, e, h1, h2⟩ => by
    rcases h1 with h1 | h1
    · obtain ⟨a, b⟩ := old h1 (fun z => nomatch z)
      exact ⟨j, e, .inl a, by rw [← b]; exact h2⟩
    · obtain ⟨a, b⟩ := old h1 (fun z => nomatch z)
      exact ⟨j, e, .inr a, by rw [← b]; exact h2⟩
  have lxs : ∀ b, Lx (r.set i .un) (σ.set i x) b → Lx r σ b := fun b ⟨j, e, h1, h2⟩ => by
    obtain ⟨a, b⟩ := old h1 (fun z => nomatch z)
    exact ⟨j, e, a, by rw [← b]; exact h2⟩
  refine ⟨⟨by rw [List.length_set, List.length_set]; exact p.len, fun j e h1 => ?_, fun j e h1 => ?_, fun j e h1 => ?_, fun j k e f b h1 h2 h3 h4 => ?_, p.dom, p.tabs⟩, ⟨fun _ _ h _ _ => h, fun _ o h => ⟨o, h⟩, fun _ h => h, fun _ h => .inl h, fun b h => .inl (bxs b h), fun b h => .inl (lxs b h)⟩⟩
  · obtain ⟨a, b⟩ := old h1 (fun z => nomatch z)
    rw [b]; exact p.val j e a
  · obtain ⟨a, b⟩ := old h1 (fun z => nomatch z)
    rw [b]; exact p.box j e a
  · obtain ⟨a, b⟩ := old h1 (fun z => nomatch z)
    rw [b]; exact p.pbx j e a
  · have t : ∀ {j : Nat} {e : D}, ((r.set i .un)[j]? = some (.box e) ∨ (r.set i .un)[j]? = some (.pbx e)) → (r[j]? = some (.box e) ∨ r[j]? = some (.pbx e)) ∧ (σ.set i x)[j]? = σ[j]? := fun {j e} h => by
      rcases h with h | h
      · obtain ⟨a, b⟩ := old h (fun z => nomatch z)
        exact ⟨.inl a, b⟩
      · obtain ⟨a, b⟩ := old h (fun z => nomatch z)
        exact ⟨.inr a, b⟩
    obtain ⟨a1, a2⟩ := t h1
    obtain ⟨b1, b2⟩ := t h2
    exact p.inj j k e f b a1 b1 (by rw [← a2]; exact h3) (by rw [← b2]; exact h4)
theorem clr_ok {n : Option Nat} {a : Addr} (p : Rp C v0 A r σ H) : Rp C v0 A (clr n r) (held n σ a) H ∧ Stp A r σ H A (clr n r) (held n σ a) H := by
  cases n with
  | none => exact ⟨p, .refl⟩
  | some i => exact set_un p
theorem wMix_of {K : PySem.W.Frag} {sub : Str → Str → Bool} {kn : List Str} {N : Ends} {c : Str} {fs : List (Str × D)} {cl : Addr} {d : Option Addr} (p : Rp C v0 A r σ H) (s : Stp A0 r0 σ0 H0 A r σ H) (x : ExcR C A H c fs cl d) :
    ∀ {hs : List Hd} {ls : List Cl1}, HdsR C K v0 sub kn hs ls → PoS C v0 Wout A0 r0 σ0 H0 N (handle sub kn c fs hs r) → wMix K Wout N ls (.ref cl) d σ H
  | [], _, .nil, q => q A σ H cl d p s x
  | h :: hs, _, .cons (cv := cv) hE t, q => by
    unfold handle at q
    by_cases hk : c ∈ kn
    · rw [if_pos hk] at q
      refine ⟨sub c h.k, hE c cl hk x.1, fun e a ha => ?_, fun e => ?_⟩
      · rw [if_pos e] at q
        unfold suiteF at q
        by_cases ho : okN h.n r = true
        · rw [if_pos ho] at q
          obtain ⟨p1, s1⟩ := clr_ok (n := h.n) (a := a) p
          refine ⟨A, clr h.n r, c, fs, cl, rfl, x, p1, fun i hi => ?_, ?_⟩
          · rw [hi] at ho
            show (held h.n σ a)[i]? = _
            rw [hi]
            exact List.getElem?_set_self (by rw [← p.len]; exact of_decide_eq_true ho)
          · have s01 := s.trans s1
            have back : ∀ {A' : Addr → Prop} {r' : List SV} {σ' : St} {H' : Hp}, Rp C v0 A' r' σ' H' → Stp A (clr h.n r) (held h.n σ a) H A' r' σ' H' → ∃ σ2, (match h.n with
                | none => σ'
                | some i => σ'.set i none) = σ2 ∧ Rp C v0 A' (clr h.n r') σ2 H' ∧ Stp A0 r0 σ0 H0 A' (clr h.n r') σ2 H' := fun {A' r' σ' H'} p' s' => by
              cases h.n with
              | none => exact ⟨σ', rfl, p', s01.trans s'⟩
              | some i =>
                obtain ⟨p2, s2⟩ := set_un (i := i) (x := none) p'
                exact ⟨_, rfl, p2, (s01.trans s').trans s2⟩
            cases es : h.su c fs (clr h.n r) with
            | no => rw [es] at q; exact q
            | exc c2 fs2 r2 => rw [es] at q; exact q.elim
            | ok fl r2 =>
              rw [es] at q
              cases fl with
              | nx =>
                intro A' σ' H' p' s'
                obtain ⟨σ2, e2, p2, s2⟩ := back p' s'
                have := q A' σ2 H' p2 s2
                rw [← e2] at this
                unfold gone
                cases hn : h.n with
                | none => rw [hn] at this; exact this
                | some i => rw [hn] at this; exact this
              | bk =>
                intro A' σ' H' p' s'
                obtain ⟨σ2, e2, p2, s2⟩ := back p' s'
                have := q A' σ2 H' p2 s2
                rw [← e2] at this
                unfold gone
                cases hn : h.n with
                | none => rw [hn] at this; exact this
                | some i => rw [hn] at this; exact this
              | ct =>
                intro A' σ' H' p' s'
                obtain ⟨σ2, e2, p2, s2⟩ := back p' s'
                have := q A' σ2 H' p2 s2
                rw [← e2] at this
                unfold gone
                cases hn : h.n with
                | none => rw [hn] at this; exact this
                | some i => rw [hn] at this; exact this
              | rt ev =>
                intro A' σ' H' v p' s' x'
                have hN : (gone h.n N).rt = N.rt := by unfold gone; cases h.n <;> rfl
                rw [hN]
                refine q A' σ' H' v p' (s01.trans s') ?_
                cases ev with
                | val _ => exact x'
                | bx _ => exact x'
                | own _ => obtain ⟨b, y1, y2, y3⟩ := x'; exact ⟨b, y1, s01.dom_none y2, y3⟩
        · rw [if_neg ho] at q; exact q.elim
      · rw [if_neg (by rw [e]; exact Bool.false_ne_true)] at q
        exact wMix_of p s x t q
    · rw [if_neg hk] at q; exact q.elim
end
section
variable {X : Cx} {C : Ct} {v0 : List V} {W : WX} {body : List Stmt} {h₀ : ExceptHandler} {hds : List ExceptHandler} {ls : List Cl1} {hs : List Hd} {pos : Pos} {mb : M Fl} {sub : Str → Str → Bool} {kn : List Str}
theorem pms_try (hst : X.stack = X.env :: X.outer) (hf : X.env.frame = some X.env.locals) (hN : X.N.Nodup) (tk : Takes X W)
    (hb : ∀ (W : WX) (pn : List (Addr × Obj)) (xe : Value → Shared → Prop), Takes (X.tr pn xe) W → PassesOwn (model X.prog X.w) X.A X.env xe → PSs (X.tr pn xe) body (tS C v0 W mb)) (hh : HdMix X (h₀ :: hds) ls) (hR : HdsR C X.K v0 sub kn hs ls) :
    PS X (.Try body (h₀ :: hds) [] [] pos) (tS C v0 W (mTry sub kn mb hs)) := by
  refine PS.imp (ps_try_mix hst hf hN tk hb hh) fun N σ H ⟨A, r, p, q⟩ => ⟨A, r, p, ?_⟩
  unfold mTry at q
  cases e : mb r with
  | no => rw [e] at q; exact q
  | ok fl r1 => rw [e] at q; cases fl <;> exact q
  | exc c fs r1 =>
    rw [e] at q
    exact fun A' σ' H' cl d p' s' x => wMix_of p' s' x hR q
/-! ### suites -/
/-- one that does not look at the error -/
theorem su_plain {suite : List Stmt} {m : M Fl} {n : Option Nat} {a : Addr} {cls : Value} {d : Option Addr} (h : PSs X suite (tS C v0 fNo m)) : PSs X suite (tSu C v0 n (fun _ _ => m) a cls d) :=
  PSs.imp h fun N σ H ⟨A, r, c, fs, cl, _, _, p, _, q⟩ => ⟨A, r, p, q⟩
/-- what an expression of a suite gives: it lays new things only -/
def tX (C : Ct) (v0 : List V) (i : Nat) (a dd : Addr) (fs : List (Str × D)) (o : Option EV) : TE := fun σ H Q => ∃ A r ev, Rp C v0 A r σ H ∧ σ[i]? = some (some (.ref a)) ∧ (∃ ws, H dd = some (.xd ws) ∧ RelF C A H fs ws) ∧ o = some ev ∧
  ∀ H' v, (∀ b u, H b = some u → H' b = some u) → RelE C A H r σ H' ev v → Q v H'
def tXs (C : Ct) (v0 : List V) (i : Nat) (a dd : Addr) (fs : List (Str × D)) (o : Option (List D)) : TA := fun σ H Q => ∃ A r ds, Rp C v0 A r σ H ∧ σ[i]? = some (some (.ref a)) ∧ (∃ ws, H dd = some (.xd ws) ∧ RelF C A H fs ws) ∧ o = some ds ∧
  ∀ H' vs, (∀ b u, H b = some u → H' b = some u) → RelL C A H' ds vs → Q vs H'
def vals (o : Option EV) : Option D := match o with
  | some (.val d) => some d
  | _ => none
def consO (o : Option EV) (os : Option (List D)) : Option (List D) := match vals o, os with
  | some d, some ds => some (d :: ds)
  | _, _ => none
theorem carry_ext {A : Addr → Prop} {H H' : Hp} (x : ∀ b u, H b = some u → H' b = some u) : Carry A A H H' := ⟨fun _ h => h, fun b u _ e _ => x b u e, fun b u e => x b _ e, fun b u w e => x b _ e⟩
variable {i : Nat} {a dd : Addr} {fs : List (Str × D)} {e : Expr} {es : List Expr} {o : Option EV} {os : Option (List D)}
theorem px_str {s : Str} {j} : PE X (.Constant (.str s) j pos) (tX C v0 i a dd fs (some (.val (.str s)))) := PE.imp pe_str fun σ H Q ⟨A, r, ev, p, h1, h2, he, q⟩ => by cases he; exact q H _ (fun _ _ h => h) rfl
theorem px_non {j} : PE X (.Constant .none j pos) (tX C v0 i a dd fs (some (.val .none))) := PE.imp pe_non fun σ H Q ⟨A, r, ev, p, h1, h2, he, q⟩ => by cases he; exact q H _ (fun _ _ h => h) rfl
theorem px_nil : PA X [] (tXs C v0 i a dd fs (some [])) := PA.imp pa_nil fun σ H Q ⟨A, r, ds, p, h1, h2, he, q⟩ => by cases he; exact q H [] (fun _ _ h => h) rfl
theorem px_cons (ha : PE X e (tX C v0 i a dd fs o)) (hr : PA X es (tXs C v0 i a dd fs os)) (hs : starEach (e :: es) X.env = (false, eval e X.env) :: starEach es X.env := by rfl) : PA X (e :: es) (tXs C v0 i a dd fs (consO o os)) := by
  refine PA.imp (pa_cons ha hr hs) fun σ H Q ⟨A, r, ds, p, h1, ⟨ws, h2, h3⟩, he, q⟩ => ?_
  cases o with
  | none => cases he
  | some ev =>
    cases ev with
    | own _ => cases he
    | bx _ => cases he
    | val d =>
      cases os with
      | none => cases he
      | some ds' =>
        cases he
        refine ⟨A, r, .val d, p, h1, ⟨ws, h2, h3⟩, rfl, fun H1 v x1 e1 => ⟨A, r, ds', p.ext x1, h1, ⟨ws, x1 _ _ h2, RelF.carry (carry_ext x1) _ h3⟩, rfl, fun H2 vs x2 t2 => ?_⟩⟩
        exact q H2 (v :: vs) (fun b u h => x2 b u (x1 b u h)) ⟨v, vs, rfl, Rel.carry (carry_ext x2) d e1, t2⟩
theorem px_tup {k n : Nat} (ha : PA X es (tXs C v0 i a dd fs os)) (hl : ∀ ds, os = some ds → ds.length = n) (hn : n ≤ 1000 := by decide) : PE X (.Tuple es k pos) (tX C v0 i a dd fs (os.map fun ds => .val (.tup ds))) := by
  refine PE.imp (pe_tup ha) fun σ H Q ⟨A, r, ev, p, h1, h2, he, q⟩ => ?_
  obtain ⟨ds, e1, rfl⟩ := Option.map_eq_some_iff.mp he
  refine ⟨A, r, ds, p, h1, h2, e1, fun H1 vs x1 t1 => ⟨by rw [t1.length, hl ds e1, sizeLine_eq]; omega, fun b hb => ?_⟩⟩
  obtain ⟨p3, s3, e3⟩ := lay_tup (p.ext x1) hb t1
  exact q _ _ (fun c u h => ext_lay hb c u (x1 c u h)) e3
theorem px_lst {n : Nat} (ha : PA X es (tXs C v0 i a dd fs os)) (hl : ∀ ds, os = some ds → ds.length = n) (hn : n ≤ 1000 := by decide) : PE X (.List es pos) (tX C v0 i a dd fs (os.map fun ds => .own (.lst ds))) := by
  refine PE.imp (pe_lst ha) fun σ H Q ⟨A, r, ev, p, h1, h2, he, q⟩ => ?_
  obtain ⟨ds, e1, rfl⟩ := Option.map_eq_some_iff.mp he
  refine ⟨A, r, ds, p, h1, h2, e1, fun H1 vs x1 t1 => ⟨by rw [t1.length, hl ds e1, sizeLine_eq]; omega, fun b hb => ?_⟩⟩
  obtain ⟨p3, s3, e3⟩ := lay_own (d := .lst ds) (o := .lst vs) (p.ext x1) (stp_ext x1) hb ⟨_, upd_same, t1.carry (carry_lay hb)⟩
  exact q _ _ (fun c u h => ext_lay hb c u (x1 c u h)) e3
theorem px_repr {p0 : Pos} (hK : C.K = X.K) (hgd : X.A.guards = some []) (hu : X.A.units + 64 < cLine) (hg : Gl X "repr") (hm : X.mg "repr" = none) (ha : PE X e (tX C v0 i a dd fs o))
    (he : starEach (e :: []) X.env = (false, eval e X.env) :: starEach [] X.env := by rfl) (hpl : (backTo pos (starEach [] X.env)).any (·.1) = false := by rfl) :
    PE X (.Call (.Name "repr" p0) [e] [] pos) (tX C v0 i a dd fs ((vals o).bind fun d => fRepr [d])) := by
  refine PE.imp (pe_callB (cr_repr hgd hu) hg hm Boot.«repr» (pa_cons ha pa_nil he) (by decide) (by decide) he hpl) fun σ H Q ⟨A, r, ev, p, h1, h2, he, q⟩ => ?_
  cases o with
  | none => cases he
  | some ev0 =>
    cases ev0 with
    | own _ => cases he
    | bx _ => cases he
    | val d =>
      refine ⟨A, r, .val d, p, h1, h2, rfl, fun H1 v x1 e1 => ?_⟩
      change fRepr [d] = some ev at he
      unfold fRepr at he
      dsimp only at he
      cases ey : toPyR d with
      | none => rw [ey] at he; cases he
      | some y =>
        rw [ey] at he
        dsimp only at he
        by_cases ho : okRep y = true
        · rw [if_pos ho] at he
          cases he
          exact ⟨v, y, rfl, by rw [← hK]; exact toPyR_rel (.inl e1) ey, ho, q H1 _ x1 rfl⟩
        · rw [if_neg ho] at he; cases he
/-- e.f, e the error that is held -/
def fldO (fs : List (Str × D)) (f : Str) : Option EV := (fs.lookup f).map .val
theorem relF_lookup {A : Addr → Prop} {H : Hp} {f : Str} {d : D} : ∀ {fs : List (Str × D)} {ws : List (Str × V)}, RelF C A H fs ws → fs.lookup f = some d → ∃ v, ws.lookup f = some v ∧ Rel C A H d v
  | [], _, _, h => by cases h
  | (g, d') :: r, _, ⟨v, w, e, h, t⟩, k => by
    subst e
    rw [List.lookup_cons] at k ⊢
    cases hb : f == g with
    | true => rw [hb] at k; cases k; exact ⟨v, rfl, h⟩
    | false => rw [hb] at k; exact relF_lookup t k
theorem px_fld {Cl : Addr} {oe : Obj} {cls : Value} {d : Option Addr} {pn : List (Addr × Obj)} {n f : Str} {p1 : Pos} (T : XfC X.K Cl) (hno : PySem.W.findIn X.K (.ref Cl) f = some none) (hz : Zc cls d oe) (hf : ∃ vs, oe.data = .fields vs) (hc : cls = .ref Cl) (hd : d = some dd)
    (hi : X.N[i]? = some n) (hv : Vis X.env.scope n) (hb : attributeBase (.Name n p1) f X.env (eval (.Name n p1) X.env) = eval (.Name n p1) X.env := by rfl) (hd1 : (n == ("__debug__" : Str)) = false := by decide) (hcd : (n == ("__classdict__" : Str)) = false := by decide) :
    PE (X.suite a ((a, oe) :: pn)) (.Attribute (.Name n p1) f pos) (tX C v0 i a dd fs (fldO fs f)) := by
  refine PE.imp (pe_xf T hno hz hf (pe_var (X := X.suite a ((a, oe) :: pn)) (i := i) hi hv hd1 hcd) hb) fun σ H Q ⟨A, r, ev, p, h1, ⟨ws, h2, h3⟩, he, q⟩ => ?_
  obtain ⟨d0, l, rfl⟩ := Option.map_eq_some_iff.mp he
  obtain ⟨v, l2, rv⟩ := relF_lookup h3 l
  exact ⟨.ref a, h1, rfl, hc, dd, ws, v, hd, h2, l2, q H v (fun _ _ h => h) rv⟩
/-- 'text' + e -/
def catO (s : Str) (o : Option D) : Option EV := match o with
  | some (.str t) => if s.length + t.length ≤ sizeLine then some (.val (.str (s ++ t))) else none
  | _ => none
theorem px_cat {s : Str} {j} {p1 : Pos} (hb : PE X e (tX C v0 i a dd fs o)) : PE X (.BinOp (.Constant (.str s) j p1) .Add e pos) (tX C v0 i a dd fs (catO s (vals o))) := by
  refine PE.imp (pe_op op_add_str (px_str (C := C) (v0 := v0) (i := i) (a := a) (dd := dd) (fs := fs)) hb) fun σ H Q ⟨A, r, ev, p, h1, ⟨ws, h2, h3⟩, he, q⟩ => ?_
  unfold catO at he
  split at he
  · rename_i t ht
    cases o with
    | none => cases ht
    | some ev0 =>
      cases ev0 with
      | own _ => cases ht
      | bx _ => cases ht
      | val d =>
        cases ht
        by_cases hz : s.length + t.length ≤ sizeLine
        · rw [if_pos hz] at he
          cases he
          refine ⟨A, r, _, p, h1, ⟨ws, h2, h3⟩, rfl, fun H1 v x1 e1 => ⟨A, r, _, p.ext x1, h1, ⟨ws, x1 _ _ h2, RelF.carry (carry_ext x1) _ h3⟩, rfl, fun H2 w x2 e2 => ?_⟩⟩
          cases e1
          cases e2
          exact ⟨s, t, rfl, rfl, hz, q H2 _ (fun b u h => x2 b u (x1 b u h)) rfl⟩
        · rw [if_neg hz] at he; cases he
  · cases he
theorem PSs.ex {X : Cx} {sts : List Stmt} {ι : Sort _} {t : ι → TS} (h : ∀ x, PSs X sts (t x)) : PSs X sts (fun N σ H => ∃ x, t x N σ H) := ⟨fun p s σ H N I ⟨x, q⟩ => (h x).run p s σ H N I q⟩
/-- the fields' suite: return e; name = e -/
def suRet (k : Str) (o : List (Str × D) → Option EV) : Str → List (Str × D) → M Fl := fun c fs r => if c = k ∧ fs.isEmpty = false then match o fs with
    | some ev => .ok (.rt ev) r
    | none => .no
  else .no
def suSet (k : Str) (j : Nat) (bx : Bool) (o : List (Str × D) → Option EV) : Str → List (Str × D) → M Fl := fun c fs r => if c = k ∧ fs.isEmpty = false then match o fs with
    | some ev => asg j bx ev r
    | none => .no
  else .no
end
section
variable {X : Cx} {C : Ct} {v0 : List V} {k n : Str} {i : Nat} {o : List (Str × D) → Option EV} {e : Expr} {pos : Pos} {Cl a : Addr} {oe : Obj} {cls : Value} {d : Option Addr} {pn : List (Addr × Obj)}
theorem PS.ex {X : Cx} {st : Stmt} {ι : Sort _} {t : ι → TS} (h : ∀ x, PS X st (t x)) : PS X st (fun N σ H => ∃ x, t x N σ H) := ⟨fun p s σ H N I ⟨x, q⟩ => (h x).run p s σ H N I q⟩
theorem PS.given {X : Cx} {st : Stmt} {P : Prop} {t : TS} (h : P → PS X st t) : PS X st (fun N σ H => P ∧ t N σ H) := ⟨fun p s σ H N I q => (h q.1).run p s σ H N I q.2⟩
theorem su_ret (gC : C.mg k = some (.ref Cl)) (he : ∀ dd fs, cls = .ref Cl → d = some dd → PE (X.suite a ((a, oe) :: pn)) e (tX C v0 i a dd fs (o fs))) : PSs (X.suite a ((a, oe) :: pn)) [.Return (some e) pos] (tSu C v0 (some i) (suRet k o) a cls d) := by
  have h1 : ∀ (dd : Addr) (fs : List (Str × D)), PS (X.suite a ((a, oe) :: pn)) (.Return (some e) pos) (fun N σ H => (cls = .ref Cl ∧ d = some dd) ∧ tX C v0 i a dd fs (o fs) σ H N.rt) := fun dd fs =>
    PS.given fun h => PS.imp (ps_ret (he dd fs h.1 h.2)) fun N σ H q => q
  refine PSs.imp (pss_one (PS.ex fun dd => PS.ex fun fs => h1 dd fs)) fun N σ H ⟨A, r, c, fs, cl, e1, x, p, hn, q⟩ => ?_
  unfold suRet at q
  by_cases hc : c = k ∧ fs.isEmpty = false
  · rw [if_pos hc] at q
    obtain ⟨rfl, hfs⟩ := hc
    obtain ⟨x1, x2⟩ := x
    rw [gC] at x1; cases x1
    cases eo : o fs with
    | none => rw [eo] at q; exact q.elim
    | some ev =>
      rw [eo] at q
      rcases x2 with ⟨rfl, rfl⟩ | ⟨dd, ws, rfl, x3, x4⟩
      · cases hfs
      · exact ⟨dd, fs, ⟨e1, rfl⟩, A, r, ev, p, hn i rfl, ⟨ws, x3, x4⟩, eo, fun H' v x' e' => q A σ H' v (p.ext x') (stp_ext x') e'⟩
  · rw [if_neg hc] at q; exact q.elim
theorem su_set {j : Nat} {y : Str} {p2 : Pos} (bx : Bool) (hN : X.N.Nodup) (hj : X.N[j]? = some y) (hx : Loc X.env.scope y) (gC : C.mg k = some (.ref Cl)) (he : ∀ dd fs, cls = .ref Cl → d = some dd → PE (X.suite a ((a, oe) :: pn)) e (tX C v0 i a dd fs (o fs)))
    (hs : swapsWith e (some (.Name y p2)) pos.line X.env = pure false := by rfl) (hf : X.fn y = true ∨ X.env.scope.names.lookup y = some .local := by first | exact .inl rfl | exact .inr rfl | assumption) :
    PSs (X.suite a ((a, oe) :: pn)) [.Assign [.Name y p2] e pos] (tSu C v0 (some i) (suSet k j bx o) a cls d) := by
  have h1 : ∀ (dd : Addr) (fs : List (Str × D)), PS (X.suite a ((a, oe) :: pn)) (.Assign [.Name y p2] e pos) (fun N σ H => (cls = .ref Cl ∧ d = some dd) ∧ tAsg (tX C v0 i a dd fs (o fs)) (gName j) N σ H) := fun dd fs =>
    PS.given fun h => ps_set (X := X.suite a ((a, oe) :: pn)) hN hj hx (he dd fs h.1 h.2) hs hf
  refine PSs.imp (pss_one (PS.ex fun dd => PS.ex fun fs => h1 dd fs)) fun N σ H ⟨A, r, c, fs, cl, e1, x, p, hn, q⟩ => ?_
  unfold suSet at q
  by_cases hc : c = k ∧ fs.isEmpty = false
  · rw [if_pos hc] at q
    obtain ⟨rfl, hfs⟩ := hc
    obtain ⟨x1, x2⟩ := x
    rw [gC] at x1; cases x1
    cases eo : o fs with
    | none => rw [eo] at q; exact q.elim
    | some ev =>
      rw [eo] at q
      rcases x2 with ⟨rfl, rfl⟩ | ⟨dd, ws, rfl, x3, x4⟩
      · cases hfs
      · exact ⟨dd, fs, ⟨e1, rfl⟩, A, r, ev, p, hn i rfl, ⟨ws, x3, x4⟩, eo, fun H' v x' e' => asg_ok (p.ext x') (stp_ext x') e' q⟩
  · rw [if_neg hc] at q; exact q.elim
end
end Mi
end
section
set_option maxRecDepth 100000
set_option maxHeartbeats 2000000
namespace Mi
open PySem PySem.Spec L2 LamX
open PyProof.Rows hiding St

section
variable {X : Cx} {pins : List (Addr × Obj)} {σ : L2.St} {H HZ : Hp} {s s1 : Shared}
/-- the lambda is made: its code object is new, or found in the table -/
theorem lam_make3 {T : List (Addr × Str)} {c P : Addr} {params : Arguments} {body : Expr} {scope : Scope} {pos : Pos} {E : Value → Shared → Prop} {Q : Value → Shared → Prop} (I : Inv X pins σ H s) (TB : TabB X.base X.mg c P) (hcode : X.env.code = .ref c)
    (hm : (P, X.env.qual ++ "<lambda>") ∈ T) (hu : ∀ p ∈ T, p.1 = P → p.2 = X.env.qual ++ "<lambda>") (hT : Tabs T H) (hdef : defaultsOf params X.env = ([], [])) (hfree : ∀ y ∈ scope.names, y.2 = .free → ∃ c, X.env.cells.lookup y.1 = some c)
    (h : ∀ (f c' : Addr) (pm tvC : Value) (HA : Hp) (sZ : Shared), Inv X pins σ HA sZ → ExtN H HA → (∀ b o, H b = some o → ∃ u, HA b = some u) → Tabs T HA →
      sZ.heap.get? f = some (PySem.W.kla_obj "<lambda>" (X.env.qual ++ "<lambda>") params body scope (cloFrom X.env.cells scope.names []) pm c' tvC) → HA f = none → f ∉ frs X.stack → HA c' = some (CodeO c' (X.env.qual ++ "<lambda>")) → Q (.ref f) sZ) :
    wpAny (model X.prog X.w) X.A (eval (.Lambda params body scope pos) X.env) Q E s := by
  obtain ⟨ps, hP, ht, ha⟩ := hT _ hm
  refine PySem.W.kla_eval hdef ?_
  have bAt : s.heap.BuiltinsAt X.mg P := TB.bm.keeps I.bk
  have hP' : s.heap.get? P = some { cls := .none, data := .fields ps } := I.hok P _ hP
  have freeFr : ∀ f, s.heap.objs.size ≤ f → f ∉ frs X.stack := fun f hf z => by
    rcases List.mem_cons.mp (I.stkSub _ z) with e | e
    · have h1 := I.lt
      rw [← e] at h1
      exact Nat.lt_irrefl _ (Nat.lt_of_lt_of_le h1 hf)
    · exact I.nofs hf e
  cases hc : codeAmong pos ps.toList with
  | none =>
    refine PySem.W.kla_makeFunction (mg := X.mg) (c := c) (P := P) (ps := ps) (closure_ok hfree) I.ok.glob (I.mod.glob.keeps I.bk) hcode (TB.code.keeps I.bk) hP' ht hc TB.gP bAt fun c' tvC hZ tkk hxx hGe hLt hRec hTb => ?_
    obtain ⟨c2, oc, vs, t, e2, hoc, hd, hv⟩ := hRec
    cases e2
    have hSz : s.heap.objs.size ≤ hZ.objs.size := Nat.le_trans hGe (Nat.le_of_lt hLt)
    have nNew : H c' = none := I.hok.fresh hGe
    have IA := inv_table (t' := tkk) (more := #[rawInt pos.line, rawInt pos.col, .ref c']) (h' := hZ.push (PySem.W.kla_obj "<lambda>" (X.env.qual ++ "<lambda>") params body scope (cloFrom X.env.cells scope.names []) ((X.mg "__name__").getD .none) c' tvC)) I hP
      (fun b o hbb e => Heap.get?_push_of_some _ (hxx b o hbb e)) (Heap.get?_push_of_some _ hTb) hGe ⟨oc, vs, t, Heap.get?_push_of_some _ hoc, hd, hv⟩
    have hEx : ExtN H (upd (upd H P (.tbl (ps ++ #[rawInt pos.line, rawInt pos.col, .ref c']))) c' (CodeO c' (X.env.qual ++ "<lambda>"))) := fun b o e n => by
      rw [upd_ne (ne_of_none e nNew), upd_ne (fun z => n ps (Option.some.inj (e.symm.trans (by rw [z]; exact hP))))]
      exact e
    have hDom : ∀ b o, H b = some o → ∃ u, upd (upd H P (.tbl (ps ++ #[rawInt pos.line, rawInt pos.col, .ref c']))) c' (CodeO c' (X.env.qual ++ "<lambda>")) b = some u := fun b o e => by
      rw [upd_ne (ne_of_none e nNew)]
      by_cases z : b = P
      · rw [z, upd_same]; exact ⟨_, rfl⟩
      · rw [upd_ne z]; exact ⟨o, e⟩
    have eLs : (ps ++ #[rawInt pos.line, rawInt pos.col, .ref c']).toList = ps.toList ++ [rawInt pos.line, rawInt pos.col, .ref c'] := by simp
    refine h hZ.objs.size c' ((X.mg "__name__").getD .none) tvC _ _ IA hEx hDom (fun p hp => ?_) (Heap.get?_push_size _ rfl) ?_ (freeFr _ hSz) upd_same
    · by_cases hbb : p.1 = P
      · rw [hu p hp hbb, hbb]
        refine ⟨_, by rw [upd_ne (ne_of_none hP nNew), upd_same], by rw [eLs]; exact PySem.TriplesOk_snoc _ _ _ _ ht, fun p' cv hcv => ?_⟩
        rw [eLs] at hcv
        rcases among_app _ ht hcv with z | z
        · obtain ⟨c0, e1, e2⟩ := ha p' cv z
          exact ⟨c0, e1, hEx _ _ e2 codeO_ne⟩
        · exact ⟨c', z, upd_same⟩
      · obtain ⟨ps', a1, a2, a3⟩ := hT p hp
        refine ⟨ps', by rw [upd_ne (ne_of_none a1 nNew), upd_ne hbb]; exact a1, a2, fun p' cv hcv => ?_⟩
        obtain ⟨c0, e1, e2⟩ := a3 p' cv hcv
        exact ⟨c0, e1, hEx _ _ e2 codeO_ne⟩
    · have m1 : hZ.objs.size ≠ c' := Nat.ne_of_gt hLt
      have m2 : hZ.objs.size ≠ P := Nat.ne_of_gt (Nat.lt_of_lt_of_le (Heap.lt_size hP') hSz)
      rw [upd_ne m1, upd_ne m2]
      exact I.hok.fresh hSz
  | some cv =>
    obtain ⟨c', e, hCo⟩ := ha pos cv hc
    subst e
    refine PySem.W.kla_makeFunctionHit (mg := X.mg) (c := c) (P := P) (ps := ps) (closure_ok hfree) I.ok.glob (I.mod.glob.keeps I.bk) hcode (TB.code.keeps I.bk) hP' ht hc bAt fun tvC hZ tkk hxx hSz => ?_
    have IA : Inv X pins σ H { s with heap := hZ.push (PySem.W.kla_obj "<lambda>" (X.env.qual ++ "<lambda>") params body scope (cloFrom X.env.cells scope.names []) ((X.mg "__name__").getD .none) c' tvC), toks := tkk } := I.kept fun b o e => Heap.get?_push_of_some _ (hxx b o e)
    exact h hZ.objs.size c' ((X.mg "__name__").getD .none) tvC H _ IA (ExtN.refl H) (fun _ o e => ⟨o, e⟩) hT (Heap.get?_push_size _ rfl) (I.hok.fresh hSz) (freeFr _ hSz) hCo
/-- x(), in the def that got the lambda: Z is that def's context, entered at s -/
theorem pe_act3 {CXg : CXT} {Eg : XK} {Ng : List Str} {qg : Str} {sg : Scope} {g f c' : Addr} {cdg pm tvC : Value} {params : Arguments} {body : Expr} {scope : Scope} {k i : Nat} {a : Str} {pn : List (Addr × Obj)} {xe : Value → Shared → Prop} {W : WX} {tb : XK → TE} {p1 p2 : Pos}
    (I : Inv X pins σ H s) (L : LamS X.env.scope scope) (hf : s.heap.get? f = some (PySem.W.kla_obj "<lambda>" (X.env.qual ++ "<lambda>") params body scope (cloFrom X.env.cells scope.names []) pm c' tvC)) (hfn : H f = none) (hfr : f ∉ frs X.stack)
    (hbind : bindArgs (PySem.W.kla_fn "<lambda>" (X.env.qual ++ "<lambda>") params body scope (cloFrom X.env.cells scope.names []) pm (.ref c') tvC) ⟨[], []⟩ = pure [])
    (tk : Takes ((cxOf CXg X.prog X.w X.K X.mg X.base Ng qg sg g cdg X.A X.stack s H Eg).tr pn xe) W) (hr : Room (k + 1) (X.A.deeper (envOfC qg sg s.heap.objs.size g cdg)))
    (hbody : ∀ (E : XK) (A : Around) (outer : List Env) (s : Shared) (H : Hp), Room k (A.deeper (lamEnv X scope s.heap.objs.size f c')) → A.guards = X.A.guards → PE (lamCx X A outer s H E scope f c') body (tb E))
    (hN : Ng[i]? = some a) (hv : Vis sg a) (hd : (a == ("__debug__" : Str)) = false := by decide) (hcd : (a == ("__classdict__" : Str)) = false := by decide) :
    PE ((cxOf CXg X.prog X.w X.K X.mg X.base Ng qg sg g cdg X.A X.stack s H Eg).tr pn xe) (.Call (.Name a p1) [] [] p2)
      (fun σZ HZ Q => σZ[i]? = some (some (.ref f)) ∧ HZ c' = some (CodeO c' (X.env.qual ++ "<lambda>")) ∧ tb (WE W σZ) σ HZ Q) := by
  refine ⟨fun pinsZ sZ σZ HZ Q IZ h => ?_⟩
  obtain ⟨hs, hc, ht⟩ := h
  refine wpAny_Call_Name_kw (thn ((pe_var (pos := p1) (i := i) hN hv hd hcd).run pinsZ sZ σZ HZ (fun v HA => v = .ref f ∧ HA = HZ) IZ ⟨.ref f, hs, rfl, rfl⟩) fun u s1 ⟨v, HA, IA, r1, qA⟩ => ?_)
  obtain ⟨ev, eH⟩ := qA
  subst ev
  rw [eH] at IA
  obtain rfl : u = Value.ref f := r1
  have atF : s1.heap.get? f = some (PySem.W.kla_obj "<lambda>" (X.env.qual ++ "<lambda>") params body scope (cloFrom X.env.cells scope.names []) pm c' tvC) := IA.base.keep f _ hf hfn hfr (fun z => nomatch (show f ∈ ([] : List Addr) from z))
  refine PySem.W.callWith_F0 ⟨_, _, _, _, atF⟩ ?_
  have unc : Un (frs X.stack) [] H HZ s.heap s1.heap := IA.base
  obtain ⟨⟨oc, vs, t, hoc, hdc, hvc⟩, _, _⟩ := IA.hok c' _ hc
  have run : codeAny (model X.prog X.w) (X.A.deeper (envOfC qg sg s.heap.objs.size g cdg)) (.call (.ref f) ⟨[], []⟩) (CR (L2.CX X.prog X.w) (envOfC qg sg s.heap.objs.size g cdg :: X.stack) X.prog X.w HZ s1 Q (WE W σZ)) s1 := by
    refine PySem.W.kla_callFunE hr.depth atF rfl L.co L.gen rfl ⟨c', oc, vs, t, rfl, hoc, hdc, hvc⟩ ?_
    rw [hbind]
    refine wpAny_pure (wpAny_newFunctionEnv (fun y hy => (L.own y hy).2) (fun y hy => absurd hy (by simp)) (fun h₁ hns hsb => ⟨IA.nolimit.fresh _ hsb, ?_⟩) L.kind)
    show codeAny _ _ (.expr body (lamEnv X scope s1.heap.objs.size f c')) _ _
    have kept : ∀ b o, s1.heap.get? b = some o → h₁.get? b = some o := fun b o e => hsb.extBut b o (Nat.ne_of_lt (Heap.lt_size e)) (Heap.get?_push_of_some _ e)
    have Jn : Inv (lamCx X (X.A.deeper (envOfC qg sg s.heap.objs.size g cdg)) (envOfC qg sg s.heap.objs.size g cdg :: X.stack) s1 HZ (WE W σZ) scope f c') [] σ HZ { s1 with heap := h₁, toks := s1.toks + ([] : List (Str × Value)).length } :=
      lam_start2 I L IA.env0 hr.hd unc hns kept
    refine PySem.W.kla_codeExpr (wpAny_mono ((hbody (WE W σZ) _ _ s1 HZ (hr.deeper _) rfl).run [] _ _ HZ Q Jn ht) (fun v sZ hqq => ?_) fun e sZ hqq => hqq)
    obtain ⟨w', H', J', rv, q⟩ := hqq
    exact ⟨w', H', J'.os, J'.bare, J'.base, J'.hok, rv, q⟩
  have hxx := passAt (X := (cxOf CXg X.prog X.w X.K X.mg X.base Ng qg sg g cdg X.A X.stack s H Eg).tr pn xe) tk σZ
  refine wpAny_call (codeAny_mono run fun r sZ hqq => ?_)
  cases r with
  | error e => exact hxx pinsZ HZ s1 e sZ IA hqq
  | ok fl =>
    cases fl with
    | ret u => exact IA.after hqq
    | next => exact False.elim hqq
    | brk => exact False.elim hqq
    | cont => exact False.elim hqq
end
/-- the def that calls what it got, errors told of its own slots -/
def Gives3 (X : Cx) (Ng : List Str) (x : Str) (sg : Scope) (g : Addr) (cdg : Value) (bg : List Stmt) (a : Str) (q : Str) (TT : (XK → Hp → VK → Prop) → Hp → VK → Prop) : Prop :=
  ∀ (f c' : Addr) (s : Shared) (H : Hp) (Q : VK) (tl : XK → Hp → VK → Prop),
    (∀ (W : WX) (pn : List (Addr × Obj)) (xe : Value → Shared → Prop) (p1 p2 : Pos), Takes ((cxOf C8.CX0 X.prog X.w X.K X.mg X.base Ng x sg g cdg X.A X.stack s H C8.E0).tr pn xe) W →
      PE ((cxOf C8.CX0 X.prog X.w X.K X.mg X.base Ng x sg g cdg X.A X.stack s H C8.E0).tr pn xe) (.Call (.Name a p1) [] [] p2) (fun σZ HZ Q => σZ[0]? = some (some (.ref f)) ∧ HZ c' = some (CodeO c' q) ∧ tl (WE W σZ) HZ Q)) →
    Room 1 ((cxOf C8.CX0 X.prog X.w X.K X.mg X.base Ng x sg g cdg X.A X.stack s H C8.E0).A) → X.A.guards = some [] → H c' = some (CodeO c' q) → TT tl H Q →
    ∃ t, PSs (cxOf C8.CX0 X.prog X.w X.K X.mg X.base Ng x sg g cdg X.A X.stack s H C8.E0).nox bg t ∧ t { nx := fun _ H' => Q .non H', rt := Q } (L2.start Ng [.ref f]) H
/-- as tLam, nothing is lost either -/
def tLam3 (T : List (Addr × Str)) (TT : (XK → Hp → VK → Prop) → Hp → VK → Prop) (t : XK → TE) : TE := fun σ H Q => Tabs T H ∧ ∀ G, ExtN H G → (∀ b o, H b = some o → ∃ u, G b = some u) → Tabs T G → TT (fun E H' Q' => t E σ H' Q') G Q
section
variable {X : Cx}
/-- x(lambda: body) -/
theorem pe_lamcall3 {T : List (Addr × Str)} {TT : (XK → Hp → VK → Prop) → Hp → VK → Prop} {x a : Str} {g c P : Addr} {k : Nat} {pg : Arguments} {bg : List Stmt} {sg : Scope} {dV kV doc pm cdv ct oc : Value} {an od : Option Addr} {osl : Array (Option Value)} {Ng : List Str}
    {params : Arguments} {body : Expr} {scope : Scope} {t : XK → TE} {p lpos pos : Pos} (hg : Gl X x) (hm : X.mg x = some (.ref g)) (hk : PySem.W.keepIn X.K (.ref g) = true)
    (lkk : X.K.lookup g = some ⟨oc, od, .func (PySem.W.fnOf x x pg bg sg dV kV doc pm an cdv ct), osl⟩) (hCg : PySem.W.codeIn X.K cdv x = true) (hbb : L2.Binds X.K (PySem.W.fnOf x x pg bg sg dV kV doc pm an cdv ct) [a] []) (Sgg : FnScope Ng [a] sg) (hNg : Ng[0]? = some a) (hva : Vis sg a)
    (hGiv : Gives3 X Ng x sg g cdv bg a (X.env.qual ++ "<lambda>") TT)
    (TB : TabB X.base X.mg c P) (hcode : X.env.code = .ref c) (hmT : (P, X.env.qual ++ "<lambda>") ∈ T) (hu : ∀ p ∈ T, p.1 = P → p.2 = X.env.qual ++ "<lambda>") (hr : Room (k + 2) X.A) (hgd : X.A.guards = some []) (L : LamS X.env.scope scope) (hdef : defaultsOf params X.env = ([], []))
    (hbind : ∀ (q : Str) (cl : List (Str × Addr)) (pm cv tvC : Value), bindArgs (PySem.W.kla_fn "<lambda>" q params body scope cl pm cv tvC) ⟨[], []⟩ = pure [])
    (hbody : ∀ (A : Around) (outer : List Env) (s : Shared) (H : Hp) (E : XK) (f c' : Addr), Room k (A.deeper (lamEnv X scope s.heap.objs.size f c')) → A.guards = some [] → PE (lamCx X A outer s H E scope f c') body (t E))
    (hdb : (x == ("__debug__" : Str)) = false := by decide) (hd : (a == ("__debug__" : Str)) = false := by decide) (hcd : (a == ("__classdict__" : Str)) = false := by decide) :
    PE X (.Call (.Name x p) [.Lambda params body scope lpos] [] pos) (tLam3 T TT t) := by
  refine ⟨fun pins s σ H Q I h => ?_⟩
  obtain ⟨hT, h⟩ := h
  refine wpAny_Call_Name_kw (ld_glob I hg hm ?_ hdb)
  refine PySem.W.callWith_K (h₀ := X.base) I.ok.mod.kin hk ?_ (by rfl) (by rfl)
  show wpAny _ _ (spliced ((false, eval (.Lambda params body scope lpos) X.env) :: backTo pos (starEach [] X.env))) _ _ s
  refine Calls.spliced_cons (lam_make3 I TB hcode hmT hu hT hdef (L.has I.ok) fun f c' pmZ tvC HA sZ IA eN dN T1 hf hfn hfr hCo => ?_)
  refine Calls.spliced_nil ⟨IA.kIn, ?_⟩
  have run : codeAny (model X.prog X.w) X.A (.call (.ref g) ⟨[.ref f], []⟩) (CR C8.CX0 X.stack X.prog X.w HA sZ Q C8.E0) sZ := by
    refine run_ofS (N := Ng) (ps := [a]) (us := [.ref f]) (vs := [.ref f]) lkk hCg Sgg hr IA.env0 (hbb sZ [.ref f] IA.kIn rfl) (.cons rfl .nil) rfl fun hrZ => ?_
    obtain ⟨tZ, htZ, hqZ⟩ := hGiv f c' sZ HA Q (fun E H' Q' => t E σ H' Q') (fun W pn xe p1 p2 tkk => pe_act3 (i := 0) IA L hf hfn hfr (hbind _ _ _ _ _) tkk hrZ (fun E A outer s H hr2 hg2 => hbody A outer s H E f c' hr2 (hg2.trans hgd)) hNg hva hd hcd) (hrZ.mono (by omega)) hgd hCo (h HA eN dN T1)
    exact ⟨tZ, htZ.nox, hqZ⟩
  refine wpAny_call (codeAny_mono run fun r s2 hqq => ?_)
  cases r with
  | error e => exact (show False from hqq).elim
  | ok fl =>
    cases fl with
    | ret u => exact IA.after hqq
    | next => exact False.elim hqq
    | brk => exact False.elim hqq
    | cont => exact False.elim hqq
end
end Mi
end
section
set_option maxRecDepth 100000
set_option maxHeartbeats 2000000
namespace Mi
open PySem PySem.Spec L2 LamX
open PyProof.Rows hiding St

/-! ### g(lambda: e), g a def that asks what it got first of all, in a try -/
inductive Out where
  | ok (d : D) | exc (c : Str) (fs : List (Str × D))
/-- what the try's body does with it: nothing; return it -/
def tbN (ret : Bool) : Out → M Fl
  | .ok d => fun r => .ok (if ret = true then .rt (.val d) else .nx) r
  | .exc c fs => fun r => .exc c fs r
def gF (ret : Bool) (sub : Str → Str → Bool) (kn : List Str) (hs : List Hd) (rest : M Fl) (n : Nat) (o : Out) : R Fl := mSeq (mTry sub kn (tbN ret o) hs) rest (List.replicate n .un)
def fin2 : R Fl → List SV → R EV
  | .ok .nx _, r => .ok (.val .none) r
  | .ok (.rt (.val d)) _, r => .ok (.val d) r
  | .ok (.rt (.own d)) _, r => .ok (.own d) r
  | .ok (.rt (.bx i)) r', r => match r'[i]? with
    | some (.box d) => .ok (.own d) r
    | some (.val d) => .ok (.val d) r
    | _ => .no
  | _, _ => .no
def mLam (lam : M EV) (G : Out → R Fl) : M EV := fun r => match lam r with
  | .ok ev r1 => match toV ev r1 with
    | some (d, r2) => fin2 (G (.ok d)) r2
    | none => .no
  | .exc c fs r1 => fin2 (G (.exc c fs)) r1
  | .no => .no
/-- the ends of the def -/
def nrE (rest : M Fl) (C : Ct) (Q : VK) : Ends := { nx := fun σ' H' => tS C [] fNo rest { nx := fun _ H'' => Q .non H'', rt := Q } σ' H', rt := Q }
def endN (ret : Bool) (v : V) (N : Ends) (σ : St) (H : Hp) : Prop := if ret = true then N.rt v H else N.nx σ H
def TT3 (C : Ct) (K : PySem.W.Frag) (ret : Bool) (ls : List Cl1) (Ng : List Str) (rest : M Fl) : (XK → Hp → VK → Prop) → Hp → VK → Prop := fun tl H Q =>
  ∀ f : Addr, tl (WE (wMix K fNo (nrE rest C Q) ls) (L2.start Ng [.ref f])) H (fun v H' => endN ret v (nrE rest C Q) (L2.start Ng [.ref f]) H')
section
variable {C : Ct} {v0 : List V} {W : WX} {A A0 : Addr → Prop} {r r0 : List SV} {σ σ0 : St} {H H0 : Hp} {Ng : List Str} {n : Nat}
theorem start_un {f : Addr} (hn : Ng.length = n) (h0 : 0 < n) (dom : ∀ b, A b → ∃ o, H b = some o ∧ ∀ ps, o ≠ .tbl ps) (tb : Tabs C.T H) : Rp C [] A (List.replicate n .un) (L2.start Ng [.ref f]) H := by
  have g : ∀ {i : Nat} {x : SV}, (List.replicate n SV.un)[i]? = some x → x = .un := fun {i x} h => by
    rw [List.getElem?_replicate] at h
    split at h
    · cases h; rfl
    · cases h
  refine ⟨?_, fun i d h => (nomatch g h), fun i d h => (nomatch g h), fun i d h => (nomatch g h), fun i j d e b h => ?_, dom, tb⟩
  · unfold L2.start
    simp
    omega
  · rcases h with h | h
    · cases g h
    · cases g h
theorem noBx_un {n : Nat} {σ : St} {b : Addr} : ¬ Bx (List.replicate n .un) σ b := fun ⟨i, d, h, _⟩ => by
  rw [List.getElem?_replicate] at h
  rcases h with h | h <;> (split at h <;> cases h)
/-- from what the def gave to what its caller wants -/
theorem fin_pos {Q : VK} {x : R Fl} {n : Nat} {σZ : St} (p : Rp C v0 A r σ H) (s : Stp A0 r0 σ H0 A r σ H) (q : Po C v0 W (RelE C) A0 r0 σ H0 Q (fin2 x r)) :
    PoS C [] fNo A (List.replicate n .un) σZ H { nx := fun _ H'' => Q .non H'', rt := Q } x := by
  have bk : ∀ {A' : Addr → Prop} {r' : List SV} {σ' : St} {H' : Hp}, Rp C [] A' r' σ' H' → Stp A (List.replicate n .un) σZ H A' r' σ' H' → Rp C v0 A' r σ H' ∧ Stp A0 r0 σ H0 A' r σ H' := fun {A' r' σ' H'} p' s' => by
    obtain ⟨p2, s2⟩ := call_back p (fun b o h t => s'.keep b o h noBx_un t) s'.dom s'.up (fun b h => (s'.an b h).imp_right fun z => z.elim id fun z => (noBx_un z.bx).elim) p'.dom p'.tabs
    exact ⟨p2, s.trans s2⟩
  cases x with
  | no => exact q
  | exc c fs r' => exact q.elim
  | ok fl r' =>
    cases fl with
    | bk => exact q.elim
    | ct => exact q.elim
    | nx =>
      intro A' σ' H' p' s'
      obtain ⟨p2, s2⟩ := bk p' s'
      exact q A' H' .non p2 s2 rfl
    | rt ev =>
      intro A' σ' H' v p' s' x'
      obtain ⟨p2, s2⟩ := bk p' s'
      cases ev with
      | val d => exact q A' H' v p2 s2 x'
      | own d =>
        obtain ⟨a, e1, e2, e3, e4, e5⟩ := x'
        refine q A' H' v p2 s2 ⟨a, e1, s.dom_none e2, e3, fun z => ?_, e5⟩
        obtain ⟨o, eo, _⟩ := p.bxd z
        rw [e2] at eo; cases eo
      | bx i =>
        obtain ⟨hv, b, rfl⟩ := x'
        unfold fin2 at q
        dsimp only at q
        cases hi : r'[i]? with
        | none => rw [hi] at q; exact q.elim
        | some sv =>
          rw [hi] at q
          cases sv with
          | un => exact q.elim
          | pbx _ => exact q.elim
          | val d =>
            obtain ⟨v', h1, h2⟩ := p'.val i d hi
            rw [hv] at h1; cases h1
            exact q A' H' _ p2 s2 h2
          | box d =>
            obtain ⟨b', h1, h2, h3⟩ := p'.box i d hi
            rw [hv] at h1; cases h1
            have nb : H b = none := by
              rcases s'.ln b ⟨i, d, hi, hv⟩ with z | z
              · exact (noBx_un z.bx).elim
              · exact z
            refine q A' H' _ p2 s2 ⟨b, rfl, s.dom_none nb, h2, fun z => ?_, h3⟩
            obtain ⟨o, eo, _⟩ := p.bxd z
            rw [nb] at eo; cases eo
theorem rp_ext3 (p : Rp C v0 A r σ H) (x : ExtN H H') (d : ∀ b o, H b = some o → ∃ u, H' b = some u) (tb : Tabs C.T H') : Rp C v0 A r σ H' ∧ Stp A r σ H A r σ H' :=
  call_back p (fun b o h t => x b o h t) d (fun _ h => h) (fun _ h => .inl h) (fun b hb => let ⟨o, h1, h2⟩ := p.dom b hb; ⟨o, x b o h1 h2, h2⟩) tb
end
section
variable {X : Cx} {C : Ct} {v0 : List V} {W : WX} {ret : Bool} {sub : Str → Str → Bool} {kn : List Str} {hs : List Hd} {ls : List Cl1} {rest lam : M EV} {mr : M Fl} {Ng : List Str}
theorem tLam_of {K : PySem.W.Frag} (hn : 0 < Ng.length) (hR : HdsR C K [] sub kn hs ls) {σ : St} {H : Hp} {Q : VK} (h : tE C v0 W (mLam lam (gF ret sub kn hs mr Ng.length)) σ H Q) :
    tLam3 C.T (TT3 C K ret ls Ng mr) (fun E => tE C v0 (fun cls d _ H => E cls d H) lam) σ H Q := by
  obtain ⟨A, r, p, q⟩ := h
  refine ⟨p.tabs, fun G eN dN tG f => ?_⟩
  obtain ⟨pG, sG⟩ := rp_ext3 p eN dN tG
  refine ⟨A, r, pG, ?_⟩
  unfold mLam at q
  -- the run behind the thunk
  have run : ∀ {A1 : Addr → Prop} {r1 : List SV} {H1 : Hp} {o : Out}, Rp C v0 A1 r1 σ H1 → Stp A r σ H A1 r1 σ H1 → Po C v0 W (RelE C) A r σ H Q (fin2 (gF ret sub kn hs mr Ng.length o) r1) →
      PoS C [] fNo A1 (List.replicate Ng.length .un) (L2.start Ng [.ref f]) H1 (nrE mr C Q) (mTry sub kn (tbN ret o) hs (List.replicate Ng.length .un)) := fun {A1 r1 H1 o} p1 s1 q1 => by
    have z := fin_pos (n := Ng.length) (σZ := L2.start Ng [.ref f]) p1 s1 q1
    unfold gF mSeq bnd at z
    cases e : mTry sub kn (tbN ret o) hs (List.replicate Ng.length .un) with
    | no => rw [e] at z; exact z
    | exc c fs r' => rw [e] at z; exact z
    | ok fl r' =>
      rw [e] at z
      cases fl with
      | nx => exact fun A' σ' H' p' s' => ⟨A', r', p', PoS.shift s' z⟩
      | bk => exact z
      | ct => exact z
      | rt ev => exact z
  cases el : lam r with
  | no => rw [el] at q; exact q
  | exc c fs r1 =>
    rw [el] at q
    intro A1 H1 cl d p1 s1 x
    have z := run (o := .exc c fs) p1 (sG.trans s1) q
    have pz := start_un (C := C) (Ng := Ng) (f := f) rfl hn p1.dom p1.tabs
    exact wMix_of pz .refl x hR z
  | ok ev r1 =>
    rw [el] at q
    dsimp only at q
    intro A1 H1 v p1 s1 e1
    cases et : toV ev r1 with
    | none => rw [et] at q; exact q.elim
    | some w =>
      obtain ⟨d, r2⟩ := w
      rw [et] at q
      obtain ⟨A2, p2, s2, t2, _⟩ := toV_ok p1 s1 e1.q et
      have z := run (o := .ok d) p2 (sG.trans s2) q
      have pz := start_un (C := C) (Ng := Ng) (f := f) rfl hn p2.dom p2.tabs
      unfold mTry tbN at z
      unfold endN
      cases ret with
      | true => exact z A2 _ H1 v pz .refl t2
      | false => exact z A2 _ H1 pz .refl
/-- try: a() / return a() .. rest -/
theorem gives3 {x a q : Str} {sg : Scope} {g : Addr} {cdg : Value} {h₀ : ExceptHandler} {hds : List ExceptHandler} {rs : List Stmt} {p1 p2 p3 p8 : Pos} (hNd : Ng.Nodup) (h0 : ∀ f : Addr, (L2.start Ng [V.ref f])[0]? = some (some (V.ref f)))
    (hh : ∀ (s : Shared) (H : Hp), Room 1 (X.A.deeper (envOfC x sg s.heap.objs.size g cdg)) → X.A.guards = some [] → HdMix (cxOf C8.CX0 X.prog X.w X.K X.mg X.base Ng x sg g cdg X.A X.stack s H C8.E0).nox (h₀ :: hds) ls)
    (hrest : ∀ (s : Shared) (H : Hp), Room 1 (X.A.deeper (envOfC x sg s.heap.objs.size g cdg)) → X.A.guards = some [] → PSs (cxOf C8.CX0 X.prog X.w X.K X.mg X.base Ng x sg g cdg X.A X.stack s H C8.E0).nox rs (tS C [] fNo mr)) :
    Gives3 X Ng x sg g cdg (.Try [if ret = true then .Return (some (.Call (.Name a p1) [] [] p2)) p3 else .Expr (.Call (.Name a p1) [] [] p2) p3] (h₀ :: hds) [] [] p8 :: rs) a q (TT3 C X.K ret ls Ng mr) := by
  intro f c' s H Q tl act hr hgd hc h
  refine ⟨_, pss_cons (ps_try_mix (X := (cxOf C8.CX0 X.prog X.w X.K X.mg X.base Ng x sg g cdg X.A X.stack s H C8.E0).nox)
      (tb := fun W D σ H => σ[0]? = some (some (.ref f)) ∧ H c' = some (CodeO c' q) ∧ tl (WE W σ) H (fun v H' => endN ret v D σ H')) rfl rfl hNd L2.takes0 (fun W pn xe tk _ => ?_) (hh s H hr hgd)) (hrest s H hr hgd), ?_⟩
  · cases ret with
    | true =>
      have hp := pss_one (ps_ret (pos := p3) (act W pn xe p1 p2 tk))
      refine ⟨fun pins s' σ H' D I ⟨h1, h2, h3⟩ => ?_⟩
      exact hp.run pins s' σ H' D I ⟨h1, h2, h3⟩
    | false =>
      have hp := pss_one (ps_expr (pos := p3) (act W pn xe p1 p2 tk))
      refine ⟨fun pins s' σ H' D I ⟨h1, h2, h3⟩ => ?_⟩
      exact hp.run pins s' σ H' D I ⟨h1, h2, h3⟩
  · exact ⟨h0 f, hc, h f⟩
end
end Mi
end
section
set_option maxRecDepth 100000
set_option maxHeartbeats 2000000
namespace Mi
open PySem PySem.Spec L2
open PyProof.Rows hiding St

/-! ### {k: v, ..} -/
def mrgD (kvs : List (Key × D)) : List (Key × D) := kvs.foldl (fun acc kv => pK acc kv.1 kv.2) []
def mDisp (prs : List (M EV × M EV)) : M EV := bnd (mPrs prs) fun kvs => rt (.own (.dK (mrgD kvs)))
inductive PrsM (X : Cx) (C : Ct) (v0 : List V) (W : WX) (pos : Pos) : List (Option Expr) → List Expr → List (M EV × M EV) → Prop
  | nil : PrsM X C v0 W pos [] [] []
  | cons {k v : Expr} {ks : List (Option Expr)} {vs : List Expr} {mk mv : M EV} {t : List (M EV × M EV)} (hk : PE X k (tE C v0 W mk)) (hv : PE X v (tE C v0 W mv)) (hr : PrsM X C v0 W pos ks vs t) : PrsM X C v0 W pos (some k :: ks) (v :: vs) ((mk, mv) :: t)
section
variable {X : Cx} {C : Ct} {v0 : List V} {W : WX} {pos : Pos}
theorem PrsM.pps {keys : List (Option Expr)} {values : List Expr} {prs : List (M EV × M EV)} (h : PrsM X C v0 W pos keys values prs) : PPs X pos keys values (prs.map fun p => (tE C v0 W p.1, tE C v0 W p.2)) := by
  induction h with
  | nil => exact pps_nil
  | cons hk hv _ ih => exact pps_cons hk hv ih
theorem PrsM.len {keys : List (Option Expr)} {values : List Expr} {prs : List (M EV × M EV)} (h : PrsM X C v0 W pos keys values prs) : keys.all (·.isSome) = true ∧ keys.length = values.length ∧ prs.length = keys.length := by
  induction h with
  | nil => exact ⟨rfl, rfl, rfl⟩
  | cons _ _ _ ih => exact ⟨by simpa using ih.1, by simp [ih.2.1], by simp [ih.2.2]⟩
theorem free_step {A A' : Addr → Prop} {r r' : List SV} {σ : St} {H H' : Hp} {L : Addr} {o : HO} (h : H L = some o) (nt : ∀ ps, o ≠ .tbl ps) (nA : ¬ A L) (nB : ¬ Bx r σ L) (s : Stp A r σ H A' r' σ H') : H' L = some o ∧ ¬ A' L ∧ ¬ Bx r' σ L := by
  refine ⟨s.keep L _ h nB nt, fun z => ?_, fun z => ?_⟩
  · rcases s.an L z with z | z | z
    · exact nA z
    · rw [h] at z; cases z
    · exact nB z.bx
  · rcases s.bn L z with z | z
    · exact nB z
    · rw [h] at z; cases z
theorem relK_app {A : Addr → Prop} {H : Hp} {k : Key} {d : D} {v : V} {kvs : List (Key × D)} {ws : List (Key × V)} (h : Rel C A H d v) (t : RelK C A H kvs ws) : RelK C A H ((k, d) :: kvs) ((k, v) :: ws) := ⟨v, ws, rfl, h, t⟩
theorem prs_ok {γ δ : Type} {Rm : RelT3 γ δ} {A0 : Addr → Prop} {r0 : List SV} {σ : St} {H0 : Hp} {Q : δ → Hp → Prop} {L : Addr} : ∀ {prs : List (M EV × M EV)} {A : Addr → Prop} {r : List SV} {H : Hp} {f : List (Key × D) → M γ} {R : List (V × V) → Hp → Prop} (p : Rp C v0 A r σ H) (s : Stp A0 r0 σ H0 A r σ H)
    (hL : H L = some (.dK [])) (nA : ¬ A L) (nB : ¬ Bx r σ L) (q : Po C v0 W Rm A0 r0 σ H0 Q (bnd (mPrs prs) f r)),
    (∀ A2 r2 H2 kvs (ws : List (Key × V)), Rp C v0 A2 r2 σ H2 → Stp A r σ H A2 r2 σ H2 → Stp A0 r0 σ H0 A2 r2 σ H2 → RelK C A2 H2 kvs ws → ws.length = prs.length → H2 L = some (.dK []) → ¬ A2 L → ¬ Bx r2 σ L → Po C v0 W Rm A0 r0 σ H0 Q (f kvs r2) → R (ws.map fun kv => (kV kv.1, kv.2)) H2) →
    tPairs (prs.map fun p => (tE C v0 W p.1, tE C v0 W p.2)) σ H R
  | [], A, r, H, f, R, p, s, hL, nA, nB, q, k => k A r H [] [] p .refl s rfl rfl hL nA nB q
  | (mk, mv) :: t, A, r, H, f, R, p, s, hL, nA, nB, q, k => by
    unfold mPrs at q
    rw [bnd_assoc] at q
    refine ⟨A, r, p, tE_bnd p s q fun A1 r1 H1 ek x p1 s1 e1 q1 => ⟨A1, r1, p1, ?_⟩⟩
    rw [bnd_assoc] at q1
    refine tE_bnd p1 (s.trans s1) q1 fun A2 r2 H2 ev y p2 s2 e2 q2 => ?_
    have e1' := e1.carry p1 s2
    have s12 := (s.trans s1).trans s2
    unfold bnd at q2
    cases lk : look r2 ek with
    | none => simp only [lk] at q2; exact q2.elim
    | some kd =>
      simp only [lk] at q2
      cases hk : keyD kd with
      | none => simp only [hk] at q2; exact q2.elim
      | some k' =>
        simp only [hk] at q2
        have hkv := keyD_rel (keyW (e1'.look p2 lk) (.inl (by rw [hk]; rfl))) hk
        cases et : toV ev r2 with
        | none => simp only [et] at q2; exact q2.elim
        | some z =>
          obtain ⟨d, r3⟩ := z
          simp only [et] at q2
          obtain ⟨A3, p3, s3, t3, c3, b3⟩ := toV_ok p2 s2 e2.q et
          have sA : Stp A r σ H A3 r3 σ H2 := s1.trans s3
          obtain ⟨hL3, nA3, nB3⟩ := free_step hL (fun _ z => nomatch z) nA nB sA
          have q3 : Po C v0 W Rm A0 r0 σ H0 Q (bnd (mPrs t) (fun kvs => f ((k', d) :: kvs)) r3) := by
            unfold bnd
            cases e4 : mPrs t r3 with
            | no => simp only [e4] at q2; exact q2
            | exc c fs r4 => simp only [e4] at q2; exact q2
            | ok kvs r4 => simp only [e4] at q2; exact q2
          have s03 := s.trans sA
          refine prs_ok (prs := t) p3 s03 hL3 nA3 nB3 q3 fun A4 r4 H4 kvs ws p4 s4 s04 t4 hl4 hL4 nA4 nB4 q4 => ?_
          have := k A4 r4 H4 ((k', d) :: kvs) ((k', y) :: ws) p4 (sA.trans s4) s04 (relK_app (t3.carry (p3.carry s4)) t4) (by simp [hl4]) hL4 nA4 nB4 q4
          rw [hkv]
          exact this
theorem relK_mrg {A : Addr → Prop} {H : Hp} : ∀ {kvs acc : List (Key × D)} {ws wacc : List (Key × V)}, RelK C A H kvs ws → RelK C A H acc wacc → RelK C A H (kvs.foldl (fun acc kv => pK acc kv.1 kv.2) acc) (ws.foldl (fun acc kv => putK acc kv.1 kv.2) wacc)
  | [], _, _, _, h, k => by cases h; exact k
  | (x, d) :: r, acc, _, wacc, ⟨v, s, e, h, t⟩, k => by
    subst e
    rw [List.foldl_cons, List.foldl_cons]
    exact relK_mrg (kvs := r) t (relK_g.mpr (RelG.put (relK_g.mp k) h))
theorem pm_disp {keys : List (Option Expr)} {values : List Expr} {prs : List (M EV × M EV)} (h : PrsM X C v0 W pos keys values prs) (h0 : keys ≠ []) (h15 : keys.length ≤ 15) : PE X (.Dict keys values pos) (tE C v0 W (mDisp prs)) := by
  obtain ⟨l1, l2, l3⟩ := h.len
  refine PE.imp (pe_disp h.pps l1 l2 h0 h15) fun σ H Q ⟨A, r, p, q⟩ L hL => ?_
  have nA : ¬ A L := fun z => by
    obtain ⟨u, e, _⟩ := p.dom L z
    rw [hL] at e; cases e
  have nB : ¬ Bx r σ L := fun z => by
    obtain ⟨u, e, _⟩ := p.bxd z
    rw [hL] at e; cases e
  refine prs_ok (p.ext (ext_lay hL)) (stp_ext (ext_lay hL)) upd_same nA nB q fun A2 r2 H2 kvs ws p2 _ s2 t2 hl hL2 nA2 nB2 q2 => ⟨hL2, ws, rfl, by omega, ?_⟩
  obtain ⟨p3, c3⟩ := upd_free (o := .dK (mergeK [] ws)) p2 hL2 (fun _ z => nomatch z) (fun _ z => nomatch z) (fun _ z => nomatch z) (fun _ _ z => nomatch z) nA2 nB2
  refine q2 A2 _ (.ref L) p3 ⟨fun b o hb n t => ?_, fun b o hb => ?_, s2.up, s2.an, s2.bn, s2.ln⟩ ⟨L, rfl, hL, nA2, nB2, _, upd_same, RelK.carry c3 _ (relK_mrg t2 rfl)⟩
  · rw [upd_ne (fun z => by rw [z, hL] at hb; cases hb)]
    exact s2.keep b o hb n t
  · obtain ⟨u, hu⟩ := s2.dom b o hb
    exact ⟨u, by rw [upd_ne (fun z => by rw [z, hL] at hb; cases hb)]; exact hu⟩
end
/-! ### zip, enumerate, reversed -/
def pr2 (d e : D) : D := .tup [d, e]
def zipD : List D → Option (List D)
  | [.lst xs, .lst ys] => some (List.zipWith pr2 xs ys)
  | [.tup xs, .tup ys] => some (List.zipWith pr2 xs ys)
  | _ => none
def enD : Nat → List D → List D
  | _, [] => []
  | n, d :: ds => .tup [.int (n : Nat), d] :: enD (n + 1) ds
def enumD : List D → Option (List D)
  | [.lst xs] => some (enD 0 xs)
  | _ => none
def itF (f : List D → Option (List D)) (evs : List EV) : M (List D) := fun r => match toVs evs r with
  | some (ds, r1) => match f ds with
    | some l => .ok l r1
    | none => .no
  | none => .no
def mItF (f : List D → Option (List D)) (ms : M (List EV)) : M (List D) := bnd ms (itF f)
section
variable {C : Ct} {A : Addr → Prop} {H : Hp}
theorem enD_get : ∀ {ds : List D} {n i : Nat} {d : D}, ds[i]? = some d → (enD n ds)[i]? = some (.tup [.int ((n + i : Nat) : Int), d])
  | [], n, i, d, h => by simp at h
  | x :: r, n, 0, d, h => by
    simp at h; subst h; rfl
  | x :: r, n, i + 1, d, h => by
    have := enD_get (n := n + 1) (i := i) (ds := r) (d := d) (by simpa using h)
    unfold enD
    rw [List.getElem?_cons_succ, this]
    congr 4
    omega
theorem enD_len : ∀ {ds : List D} {n : Nat}, (enD n ds).length = ds.length
  | [], _ => rfl
  | _ :: r, n => by unfold enD; rw [List.length_cons, List.length_cons, enD_len]
theorem wlk_zipL {K : PySem.W.Frag} {a b : Addr} {xs ys : List D} {vs ws : List V} (ha : A a ∧ H a = some (.lst vs)) (hb : A b ∧ H b = some (.lst ws)) (t : RelL C A H xs vs) (u : RelL C A H ys ws) : Wlk C A H (Itz K a b) (List.zipWith pr2 xs ys) := fun A2 H2 c => by
  have ha2 := SqL.of (K := K) (c.at_ _ _ ha.1 ha.2 (fun _ z => nomatch z))
  have hb2 := SqL.of (K := K) (c.at_ _ _ hb.1 hb.2 (fun _ z => nomatch z))
  refine ⟨fun i hi => ?_, fun i hi => ⟨vs, ws, ha2, hb2, ?_⟩, fun i x H' d e y => ?_⟩
  · rw [List.length_zipWith] at hi
    obtain ⟨v, hv, _⟩ := t.get (List.getElem?_eq_getElem (l := xs) (i := i) (by omega))
    obtain ⟨w, hw, _⟩ := u.get (List.getElem?_eq_getElem (l := ys) (i := i) (by omega))
    exact ⟨vs, ws, v, w, ha2, hb2, hv, hw⟩
  · rw [List.length_zipWith] at hi
    rw [t.length, u.length]
    omega
  · obtain ⟨T, v, w, rfl, hT, rfl, hv, hw⟩ := y
    rw [List.getElem?_zipWith] at e
    split at e
    · rename_i d1 d2 e1 e2
      cases e
      obtain ⟨v', h1, r1⟩ := t.get e1
      obtain ⟨w', h2, r2⟩ := u.get e2
      rw [hv _ ha2] at h1; cases h1
      rw [hw _ hb2] at h2; cases h2
      have c2 := c.trans (carry_lay (A := A2) (o := .tup [v, w]) hT)
      exact ⟨ext_lay hT, T, [v, w], rfl, .of upd_same, v, [w], rfl, r1.carry c2, w, [], rfl, r2.carry c2, rfl⟩
    · cases e
theorem wlk_zipT {K : PySem.W.Frag} (hK : C.K = K) {a b : Addr} {xs ys : List D} {vs ws : List V} (ha : SqT C.K H a vs) (hb : SqT C.K H b ws) (t : RelL C A H xs vs) (u : RelL C A H ys ws) : Wlk C A H (RZ.ItzT K a b) (List.zipWith pr2 xs ys) := fun A2 H2 c => by
  have ha2 := c.rd_tup ha
  have hb2 := c.rd_tup hb
  rw [hK] at ha2 hb2
  refine ⟨fun i hi => ?_, fun i hi => ⟨vs, ws, ha2, hb2, ?_⟩, fun i x H' d e y => ?_⟩
  · rw [List.length_zipWith] at hi
    obtain ⟨v, hv, _⟩ := t.get (List.getElem?_eq_getElem (l := xs) (i := i) (by omega))
    obtain ⟨w, hw, _⟩ := u.get (List.getElem?_eq_getElem (l := ys) (i := i) (by omega))
    exact ⟨vs, ws, v, w, ha2, hb2, hv, hw⟩
  · rw [List.length_zipWith] at hi
    rw [t.length, u.length]
    omega
  · obtain ⟨T, v, w, rfl, hT, rfl, hv, hw⟩ := y
    rw [List.getElem?_zipWith] at e
    split at e
    · rename_i d1 d2 e1 e2
      cases e
      obtain ⟨v', h1, r1⟩ := t.get e1
      obtain ⟨w', h2, r2⟩ := u.get e2
      rw [hv _ ha2] at h1; cases h1
      rw [hw _ hb2] at h2; cases h2
      have c2 := c.trans (carry_lay (A := A2) (o := .tup [v, w]) hT)
      exact ⟨ext_lay hT, T, [v, w], rfl, .of upd_same, v, [w], rfl, r1.carry c2, w, [], rfl, r2.carry c2, rfl⟩
    · cases e
theorem wlk_enum {K : PySem.W.Frag} {a : Addr} {xs : List D} {vs : List V} (ha : A a ∧ H a = some (.lst vs)) (t : RelL C A H xs vs) : Wlk C A H (Ite K a) (enD 0 xs) := fun A2 H2 c => by
  have ha2 := SqL.of (K := K) (c.at_ _ _ ha.1 ha.2 (fun _ z => nomatch z))
  refine ⟨fun i hi => ?_, fun i hi => ⟨vs, ha2, by rw [t.length]; rw [enD_len] at hi; exact hi⟩, fun i x H' d e y => ?_⟩
  · rw [enD_len] at hi
    obtain ⟨v, hv, _⟩ := t.get (List.getElem?_eq_getElem (l := xs) (i := i) hi)
    exact ⟨vs, v, ha2, hv⟩
  · obtain ⟨T, v, rfl, hT, rfl, hv⟩ := y
    have hi : i < xs.length := by
      have := (List.getElem?_eq_some_iff.mp e).1
      rwa [enD_len] at this
    have e1 := List.getElem?_eq_getElem (l := xs) (i := i) hi
    rw [enD_get e1] at e
    cases e
    obtain ⟨v', h1, r1⟩ := t.get e1
    rw [hv _ ha2] at h1; cases h1
    have c2 := c.trans (carry_lay (A := A2) (o := .tup [.int (i : Nat), v]) hT)
    refine ⟨ext_lay hT, T, [.int (i : Nat), v], rfl, .of upd_same, .int (i : Nat), [v], rfl, ?_, v, [], rfl, r1.carry c2, rfl⟩
    show V.int (i : Nat) = V.int ((0 + i : Nat) : Int)
    rw [Nat.zero_add]
end
section
variable {X : Cx} {C : Ct} {v0 : List V} {W : WX} {e e2 : Expr} {elts : List Expr} {ms : M (List EV)} {p pos tpos : Pos} {kk : Nat}
theorem pmi_zip (hK : C.K = X.K) (hg : Gl X "zip") (hm : X.mg "zip" = none) (ha : PA X [e, e2] (tEs C v0 W ms)) (hs : starEach [e, e2] X.env = (false, eval e X.env) :: starEach [e2] X.env := by rfl) (hpl : (backTo pos (starEach [e2] X.env)).any (·.1) = false := by rfl) :
    PI X (.Tuple elts kk tpos) (.Call (.Name "zip" p) [e, e2] [] pos) (tI C v0 W (mItF zipD ms)) := by
  refine PI.imp (RZ.pi_zipA hg hm ha hs hpl) fun σ H R ⟨A, r, p, q⟩ => ⟨A, r, p, ?_⟩
  refine tE_bnd p .refl q fun A1 r1 H1 evs vs p1 s1 e1 q1 => ?_
  unfold itF at q1
  cases et : toVs evs r1 with
  | none => rw [et] at q1; exact q1.elim
  | some z =>
    obtain ⟨ds, r2⟩ := z
    rw [et] at q1
    dsimp only at q1
    obtain ⟨A2, p2, s2, t2, _⟩ := toVs_ok p1 s1 (Paired.mapP e1.1 fun _ _ z => z.q) et
    cases ef : zipD ds with
    | none => rw [ef] at q1; exact q1.elim
    | some l =>
      rw [ef] at q1
      have go : ∀ J, Wlk C A2 H1 J l → R J H1 := fun J w => q1 A2 H1 J p2 s2 w
      unfold zipD at ef
      split at ef
      · cases ef
        obtain ⟨v, w, rfl, h1, v2, w2, rfl, h2, rfl⟩ := t2
        obtain ⟨a, xs, rfl, ha, tx⟩ := h1
        obtain ⟨b, ys, rfl, hb, ty⟩ := h2
        exact ⟨a, b, xs, ys, rfl, .inl ⟨.of ha.2, .of hb.2, go _ (wlk_zipL ha hb tx ty)⟩⟩
      · cases ef
        obtain ⟨v, w, rfl, h1, v2, w2, rfl, h2, rfl⟩ := t2
        obtain ⟨a, xs, rfl, ha, tx⟩ := h1
        obtain ⟨b, ys, rfl, hb, ty⟩ := h2
        exact ⟨a, b, xs, ys, rfl, .inr ⟨by rw [← hK]; exact ha, by rw [← hK]; exact hb, go _ (wlk_zipT hK ha hb tx ty)⟩⟩
      · cases ef
theorem pmi_enum (hK : C.K = X.K) (hg : Gl X "enumerate") (hm : X.mg "enumerate" = none) (ha : PA X [e] (tEs C v0 W ms)) (hs : starEach [e] X.env = [(false, eval e X.env)] := by rfl) :
    PI X (.Tuple elts kk tpos) (.Call (.Name "enumerate" p) [e] [] pos) (tI C v0 W (mItF enumD ms)) := by
  refine PI.imp (pi_enum hg hm ha hs) fun σ H R ⟨A, r, p, q⟩ => ⟨A, r, p, ?_⟩
  refine tE_bnd p .refl q fun A1 r1 H1 evs vs p1 s1 e1 q1 => ?_
  unfold itF at q1
  cases et : toVs evs r1 with
  | none => rw [et] at q1; exact q1.elim
  | some z =>
    obtain ⟨ds, r2⟩ := z
    rw [et] at q1
    dsimp only at q1
    obtain ⟨A2, p2, s2, t2, _⟩ := toVs_ok p1 s1 (Paired.mapP e1.1 fun _ _ z => z.q) et
    cases ef : enumD ds with
    | none => rw [ef] at q1; exact q1.elim
    | some l =>
      rw [ef] at q1
      have go : ∀ J, Wlk C A2 H1 J l → R J H1 := fun J w => q1 A2 H1 J p2 s2 w
      unfold enumD at ef
      split at ef
      · cases ef
        obtain ⟨v, w, rfl, h1, rfl⟩ := t2
        obtain ⟨a, xs, rfl, ha, tx⟩ := h1
        exact ⟨a, xs, rfl, .of ha.2, go _ (wlk_enum ha tx)⟩
      · cases ef
end
end Mi
end
section
set_option maxRecDepth 100000
set_option maxHeartbeats 2000000
namespace Mi
open PySem PySem.Spec L2 LamX
open PyProof.Rows hiding St

theorem no_exc {P : Program} {w : World} {outer : List Env} {H : Hp} {s : Shared} {e : Value} {s' : Shared} (h : L2.CX P w outer H s (fun _ _ _ => False) e s') : False := by
  obtain ⟨_, _, _, _, _, _, _, _, _, _, _, _, z⟩ := h
  exact z
theorem law_callG {P : Program} {w : World} {K : PySem.W.Frag} {mg mb : Str → Option Value} {k : Nat} {fa a : Addr} {cs : List (Addr × Addr)} {fd : FuncData} {x : Str} {sp : Sp} {s₁ : Shared} {vs : List Value} {ns : List Int}
    (KX : K.In s₁.heap) (hns : s₁.heap.Ns mainGlobals mg) (hb : s₁.heap.Ns builtinsNs mb) (hbb : ∀ x : Str, x ≠ "__name__" → mb x = bootBuiltins x) (hlim : s₁.heap.NoLimit) (hg : s₁.gens = #[])
    (hT : ∀ p ∈ cs, s₁.heap.get? p.2 = some { cls := .none, data := .fields #[] }) (nT : ∀ p ∈ cs, K.lookup p.2 = none) (C : ∀ p ∈ cs, PySem.W.CodeHd s₁.heap p.1 p.2)
    (hbm : ∃ (bm : Addr) (ob : Obj), mg "__builtins__" = some (.ref bm) ∧ bm ≠ builtinsNs ∧ s₁.heap.get? bm = some ob ∧ ob.cls = .type "module" ∧ ob.dict = some builtinsNs ∧ ob.data = .plain)
    (ha : s₁.heap.get? a = some { cls := .type "list", data := .seq vs.toArray }) (hi : IntsAre vs ns) (hl : ns.length ≤ sizeLine) (hr : Room k callerA)
    (F : ∀ base : Heap, K.In base → base.Ns mainGlobals mg → (∀ p ∈ cs, TabB base mg p.1 p.2) → FnG P w K mg base k fa fd [x] sp) (hbind : ∀ (s : Shared) (u : Value), BindsTo s fd ⟨[u], []⟩ [(x, u)])
    (hsp : ∀ H : Hp, (∀ p ∈ cs, H p.2 = some (.tbl #[])) → Scr K H a (ns.map V.int) → sp [.ref a] H (fun v _ => v = .bl true) fun _ _ _ => False) :
    codeAny (model P w) callerA (.call (.ref fa) ⟨[.ref a], []⟩) (fun r sE => r = .ok (.ret (.bool true)) ∧ OldK s₁.heap sE.heap ∧ sE.os = s₁.os ∧ AllBare sE.gens) s₁ := by
  have rvs := vals_ints hi
  have lenVs := hi.length
  have atT : ∀ b : Addr, b ∈ cs.map (·.2) → s₁.heap.get? b = some { cls := .none, data := .fields #[] } := fun b hb => by
    obtain ⟨p, hpm, e⟩ := List.mem_map.mp hb
    rw [← e]
    exact hT p hpm
  have nTa : a ∉ cs.map (·.2) := fun z => by
    have q := atT a z
    rw [ha] at q
    have zq : Data.seq vs.toArray _ = Data.fields #[] := congrArg Obj.data (Option.some.inj q)
    cases zq
  have inT : ∀ p ∈ cs, p.2 ∈ cs.map (·.2) := fun p hpm => List.mem_map.mpr ⟨p, hpm, rfl⟩
  -- from an abstract heap in which nothing but the script and the tables may be tracked
  have main : ∀ H : Hp, (∀ p ∈ cs, H p.2 = some (.tbl #[])) → (∀ b, H b = none ∨ b ∈ cs.map (·.2) ∨ ∃ o xs, H b = some (.frz o (.lst xs))) → Scr K H a (ns.map V.int) → HOk P w H s₁.heap → (∀ b, H b ≠ none → b = a ∨ b ∈ cs.map (·.2)) → (H a ≠ none → K.lookup a = none) →
      codeAny (model P w) callerA (.call (.ref fa) ⟨[.ref a], []⟩) (fun r sE => r = .ok (.ret (.bool true)) ∧ OldK s₁.heap sE.heap ∧ sE.os = s₁.os ∧ AllBare sE.gens) s₁ := by
    intro H hH hOnly hScr hok hAt hKl
    have base_of : ∀ {b : Addr} {o : Obj}, s₁.heap.get? b = some o → H b = none → (hidT s₁.heap H).get? b = some o := fun e n => hidT_get e n
    have notD : ∀ {b : Addr} {o : Obj}, s₁.heap.get? b = some o → (∀ vs n, o.data ≠ .seq vs n) → o.data ≠ .fields #[] → H b = none := fun {b o} e h1 h2 => by
      cases q : H b with
      | none => rfl
      | some u =>
        rcases hAt b (by rw [q]; simp) with eq | eq
        · rw [eq, ha] at e
          cases e
          exact (h1 _ _ rfl).elim
        · rw [atT b eq] at e
          cases e
          exact (h2 rfl).elim
    have notDict : ∀ {b : Addr} {o : Obj} {es : Array DictEntry} {epq : Nat}, s₁.heap.get? b = some o → o.data = .dict es epq → H b = none := fun {b o es epq} e d => by
      refine notD e (fun vs n z => ?_) fun z => ?_
      · rw [d] at z
        cases z
      · rw [d] at z
        cases z
    have nsKept : ∀ {b : Addr} {m : Str → Option Value}, s₁.heap.Ns b m → (hidT s₁.heap H).Ns b m := fun {b m} ⟨o, es, epq, e, d, r⟩ => ⟨o, es, epq, base_of e (notDict e d), d, r⟩
    have hKbase : K.In (hidT s₁.heap H) := fun b o e => base_of (KX b o e) (by
      cases q : H b with
      | none => rfl
      | some u =>
        rcases hAt b (by rw [q]; simp) with eq | eq
        · rw [eq] at e q
          rw [hKl (by rw [q]; simp)] at e
          cases e
        · obtain ⟨p, hpm, epq⟩ := List.mem_map.mp eq
          rw [← epq, nT p hpm] at e
          cases e)
    have hMod : L2.Mod K mg (hidT s₁.heap H) := ⟨hKbase, nsKept hns, ⟨mb, nsKept hb, hbb⟩, let ⟨mc, h1, h2⟩ := hlim; ⟨mc, nsKept h1, h2⟩⟩
    have TBs : ∀ p ∈ cs, TabB (hidT s₁.heap H) mg p.1 p.2 := fun p hpm => by
      have hTq := hT p hpm
      refine ⟨?_, ?_, fun z => ?_⟩
      · obtain ⟨o, us, file, tf, flags, tg, inF, text, tt, e1, r1, r2, r3, r4, r5, r6, r7, r8, hne⟩ := C p hpm
        refine ⟨o, us, file, tf, flags, tg, inF, text, tt, base_of e1 (notD e1 (fun vs n z => ?_) fun z => ?_), r1, r2, r3, r4, r5, r6, r7, r8, hne⟩
        · rw [r2] at z
          cases z
        · rw [r2] at z
          cases z
          simp at r3
      · obtain ⟨bm, ob, b1, b2, b3, b4, b5, b6⟩ := hbm
        have nG : bm ≠ mainGlobals := fun q => by
          obtain ⟨o, es, epq, e, hd, _⟩ := hns
          rw [q, e] at b3
          cases b3
          rw [hd] at b6
          cases b6
        have nP : bm ≠ p.2 := fun q => by
          rw [q, hTq] at b3
          cases b3
          cases b6
        refine ⟨bm, ob, b1, b2, nG, nP, base_of b3 (notD b3 (fun vs n z => ?_) fun z => ?_), b4, b5, b6⟩
        · rw [b6] at z
          cases z
        · rw [b6] at z
          cases z
      · obtain ⟨o, es, epq, e, hd, _⟩ := hns
        rw [z, hTq] at e
        cases e
        cases hd
    have env00 : Env0 P w K mg (hidT s₁.heap H) callerA [] s₁ H := ⟨rfl, hMod, fun b o e => of_hidT e, Nat.le_of_eq (hidT_size _ _), trivial, fun b hb => absurd (show b ∈ ([] : List Addr) from hb) (by simp), hok, .of_eq hg⟩
    refine codeAny_mono ((F _ hKbase (nsKept hns) TBs).run callerA [] s₁ H ⟨[.ref a], []⟩ [.ref a] [.ref a] _ _ hr rfl env00 (hbind s₁ (.ref a)) (.cons rfl .nil) (hsp H hH hScr)) fun r sE h => ?_
    cases r with
    | error e => exact (no_exc h).elim
    | ok fl =>
      cases fl with
      | next => exact False.elim h
      | brk => exact False.elim h
      | cont => exact False.elim h
      | ret u =>
        obtain ⟨v, H', os, bareS, unS, hok', r', q⟩ := h
        have q' : v = .bl true := q
        subst q'
        obtain rfl : u = Value.bool true := r'
        have keyAll : ∀ b o, b ∉ cs.map (·.2) → s₁.heap.get? b = some o → sE.heap.get? b = some o := fun b o nb e => by
          cases q : H b with
          | none => exact unS.keep b o e q (by intro z; exact absurd (show b ∈ ([] : List Addr) from z) (by simp)) (by simp)
          | some u =>
            rcases hOnly b with z | z | ⟨ob, xs, z⟩
            · rw [q] at z; cases z
            · exact absurd z nb
            · have zB := unS.frzs b ob _ z
              obtain ⟨e1, _⟩ := hok b _ z
              obtain ⟨e2, _⟩ := hok' b _ zB
              rw [e] at e1; cases e1
              exact e2
        have grew : ∀ p ∈ cs, ∃ more : Array Value, sE.heap.get? p.2 = some { cls := .none, data := .fields more } := fun p hpm => by
          obtain ⟨more, z⟩ := unS.tbls p.2 #[] (hH p hpm)
          exact ⟨_, hok' p.2 _ z⟩
        refine ⟨rfl, ⟨fun b o e => ?_, fun b o e => ?_⟩, os, bareS⟩
        · by_cases hb : b ∈ cs.map (·.2)
          · obtain ⟨p, hpm, epq⟩ := List.mem_map.mp hb
            obtain ⟨more, hmr⟩ := grew p hpm
            rw [← epq] at e ⊢
            rw [hT p hpm] at e
            cases e
            exact .inr (.inl ⟨((C p hpm).tab (hT p hpm)).isCodeTable, rfl, #[], more, rfl, by rw [Array.empty_append]; exact hmr⟩)
          · exact .inl (keyAll b o hb e)
        · by_cases hb : b ∈ cs.map (·.2)
          · obtain ⟨p, hpm, epq⟩ := List.mem_map.mp hb
            obtain ⟨more, hmr⟩ := grew p hpm
            rw [← epq]
            exact ⟨_, hmr⟩
          · exact ⟨o, keyAll b o hb e⟩
  cases hkl : K.lookup a with
  | some o =>
    have e := KX a o hkl
    rw [ha] at e
    cases e
    refine main (fun b => if b ∈ cs.map (·.2) then some (.tbl #[]) else none) (fun p hpm => if_pos (inT p hpm)) (fun b => ?_) (.inr ⟨_, vs.toArray, _, hkl, rfl, rfl, rfl, by rw [List.size_toArray, lenVs]; exact hl, by simpa using rvs⟩) (fun b u z => ?_) (fun b z => ?_) fun z => absurd (show (if a ∈ cs.map (·.2) then some (HO.tbl #[]) else none) = none from if_neg nTa) z
    · by_cases hb : b ∈ cs.map (·.2)
      · exact .inr (.inl hb)
      · exact .inl (if_neg hb)
    · by_cases hb : b ∈ cs.map (·.2)
      · have zq := (if_pos hb).symm.trans z
        cases zq
        exact atT b hb
      · have zq := (if_neg hb).symm.trans z
        cases zq
    · by_cases hb : b ∈ cs.map (·.2)
      · exact .inr hb
      · exact absurd (if_neg hb) z
  | none =>
    refine main (fun b => if b = a then some (.frz { cls := .type "list", data := .seq vs.toArray } (.lst (ns.map V.int))) else if b ∈ cs.map (·.2) then some (.tbl #[]) else none) (fun p hpm => (if_neg (show ¬ p.2 = a from fun z => nTa (by rw [← z]; exact inT p hpm))).trans (if_pos (inT p hpm))) (fun b => ?_)
      (.inl ⟨{ cls := .type "list", data := .seq vs.toArray }, if_pos rfl⟩) (fun b u z => ?_) (fun b z => ?_) fun _ => hkl
    · by_cases hb : b = a
      · exact .inr (.inr ⟨_, _, if_pos hb⟩)
      · by_cases hbT : b ∈ cs.map (·.2)
        · exact .inr (.inl hbT)
        · exact .inl ((if_neg hb).trans (if_neg hbT))
    · by_cases hb : b = a
      · have zq := (if_pos hb).symm.trans z
        cases zq
        rw [hb]
        exact ⟨ha, by rw [List.length_map]; exact hl, vs, _, rvs, ha⟩
      · have zA := (if_neg hb).symm.trans z
        by_cases hbT : b ∈ cs.map (·.2)
        · have zq := (if_pos hbT).symm.trans zA
          cases zq
          exact atT b hbT
        · have zq := (if_neg hbT).symm.trans zA
          cases zq
    · by_cases hb : b = a
      · exact .inl hb
      · by_cases hbT : b ∈ cs.map (·.2)
        · exact .inr hbT
        · exact absurd ((if_neg hb).trans (if_neg hbT)) z
/-- what is to be known at the head's heap -/
def LawG (l : PySem.W.OpenLaw) (w : World) (K : PySem.W.Frag) (k : Nat) (x : Str) (mg : Str → Option Value) (fa : Addr) (h : Heap) (F : Fun1) : Prop :=
  ∃ (fd : FuncData) (cs : List (Addr × Addr)) (nm : Addr → Str), (∀ p ∈ cs, h.get? p.2 = some { cls := .none, data := .fields #[] }) ∧ (∀ p ∈ cs, K.lookup p.2 = none) ∧ (∀ p ∈ cs, PySem.W.CodeHd h p.1 p.2) ∧ (∀ (s : Shared) (u : Value), BindsTo s fd ⟨[u], []⟩ [(x, u)]) ∧
    ∀ base : Heap, K.In base → base.Ns mainGlobals mg → (∀ p ∈ cs, TabB base mg p.1 p.2) → FnG l.prog w K mg base k fa fd [x] (spF ⟨K, mg, cs.map fun p => (p.2, nm p.2)⟩ 1 F)
/-- the end: the walk of the law, from the function F of plain data that it computes -/
theorem walk_ofG {l : PySem.W.OpenLaw} {n k : Nat} {q : Program} {loose : List Str} {XP : (Str → Option Value) → Heap → Prop} {YP : World → Heap → Prop} {d : DefRec} {K : Params → PySem.W.Frag} {x : Str} (F : Fun1)
    (hn : l.most = some n) (hn2 : n ≤ sizeLine) (hdf : d.params.defaults = []) (hr : Room k callerA) (hY : ∀ (w : World) (h : Heap), YP w h → (K w.params).In h)
    (hF : ∀ (w : World) (mg : Str → Option Value) (fa : Addr) (h : Heap), YP w h → (K w.params).In h → h.Ns mainGlobals mg → mg d.name = some (.ref fa) → LawG l w (K w.params) k x mg fa h F)
    (law : ∀ ns : List Int, ns.length ≤ n → (∀ z ∈ ns, Builtin.Int.intBits z ≤ 1048576) → ∃ r, F [.val (.scr ns)] = .ok (.val (.bl true)) r) :
    PySem.W.WalkO q loose XP YP l.row.toRowW d [] (fun f vs => PySem.call f vs) := by
  refine Att.attach_callB hn hdf fun w s₀ s₁ mg mb fa o pm cd doc a vs ns G Y ho hd hcd hmg hobj hints hlen hbits hg => ?_
  have KX := hY w _ Y
  obtain ⟨fd, cs, nm, hT, nT, hC, hb, hFn⟩ := hF w mg fa _ Y KX G.T.g hmg
  refine law_callG KX G.T.g G.T.b G.T.builtins G.T.nolimit hg hT nT hC G.T.bmain hobj hints (Nat.le_trans hlen hn2) hr hFn hb fun H hH hS => ?_
  obtain ⟨r, hr⟩ := law ns hlen hbits
  refine ⟨rfl, fun _ => False, [.val (.scr ns)], rfl, ⟨rfl, fun i d h => ?_, fun i d h => ?_, fun i d h => ?_, fun i j d e b h => ?_, fun _ h => h.elim, fun p hp => ?_⟩, ?_⟩
  · cases i with
    | zero => cases h; exact ⟨.ref a, rfl, a, rfl, hS⟩
    | succ i => simp at h
  · cases i with
    | zero => cases h
    | succ i => simp at h
  · cases i with
    | zero => cases h
    | succ i => simp at h
  · cases i with
    | zero => rcases h with h | h <;> cases h
    | succ i => rcases h with h | h <;> simp at h
  · obtain ⟨p', hp', e⟩ := List.mem_map.mp hp
    subst e
    exact TabS.nil (hH p' hp')
  · rw [hr]
    intro A' H' v _ _ e
    exact e
end Mi
end
section
set_option maxRecDepth 100000
set_option maxHeartbeats 2000000
namespace Mi
open PySem PySem.Spec L2 LamX
open PyProof.Rows hiding St

/-! ### in short -/
section
variable {X : Cx} {C : Ct} {v0 : List V} {W : WX} {x : Str} {pos : Pos}
theorem vr (i : Nat) (hN : X.N[i]? = some x := by rfl) (hv : Vis X.env.scope x := by first | exact Or.inl rfl | exact Or.inr (Or.inl rfl) | exact Or.inr (Or.inr rfl)) (hd : (x == ("__debug__" : Str)) = false := by decide) (hcd : (x == ("__classdict__" : Str)) = false := by decide) :
    PE X (.Name x pos) (tE C v0 W (mVar i)) := pm_var hN hv hd hcd
theorem visL {sc : Scope} (h : sc.names.lookup x = some .local) : Vis sc x := .inl h
/-- a constant of the module -/
def GlobE (C : Ct) (x : Str) (d : D) : Prop := ∃ (u : Value) (v : V), C.mg x = some u ∧ RelV v u ∧ ∀ A H, Rel C A H d v
theorem pm_globE {d : D} (hg : Gl X x) (h : GlobE C x d) (hC : C.mg = X.mg := by rfl) (hd : (x == ("__debug__" : Str)) = false := by decide) : PE X (.Name x pos) (tE C v0 W (mC d)) := by
  obtain ⟨u, v, h1, h2, h3⟩ := h
  exact pm_glob hg (by rw [← hC]; exact h1) h2 h3 hd
/-- a def that is called -/
structure Cal (P : Program) (w : World) (K : PySem.W.Frag) (mg : Str → Option Value) (base : Heap) (C : Ct) (x : Str) (k n : Nat) (F : Fun1) : Prop where
  ex : ∃ (f : Addr) (fd : FuncData) (ps : List Str), FnG P w K mg base k f fd ps (spF C n F) ∧ mg x = some (.ref f) ∧ PySem.W.keepIn K (.ref f) = true ∧ Binds K fd ps []
variable {k n j m : Nat} {F : Fun1} {p : Pos} {e : Expr} {es : List Expr} {ms : M (List EV)}
theorem pm_callC (c : Cal X.prog X.w X.K X.mg X.base C x k n F) (hr : Room m X.A) (hk : k ≤ m) (hgd : X.A.guards = some []) (hg : Gl X x) (tk : Takes X W) (ha : PA X (e :: es) (tEs C v0 W ms)) (hl : LenM ms n)
    (hdb : (x == ("__debug__" : Str)) = false := by decide) (he : starEach (e :: es) X.env = (false, eval e X.env) :: starEach es X.env := by rfl) (hpl : (backTo pos (starEach es X.env)).any (·.1) = false := by rfl) :
    PE X (.Call (.Name x p) (e :: es) [] pos) (tE C v0 W (mCall F ms)) := by
  obtain ⟨f, fd, ps, h1, h2, h3, h4⟩ := c.ex
  exact pm_call h1 (hr.mono hk) hgd hg h2 h3 h4 tk ha hl hdb he hpl
theorem pm_callRC (j : Nat) (c : Cal X.prog X.w X.K X.mg X.base C x k n F) (hr : Room m X.A) (hk : k ≤ m) (hgd : X.A.guards = some []) (hg : Gl X x) (tk : Takes X W) (ha : PA X (e :: es) (tEs C v0 W ms)) (hl : LenM ms n)
    (hdb : (x == ("__debug__" : Str)) = false := by decide) (he : starEach (e :: es) X.env = (false, eval e X.env) :: starEach es X.env := by rfl) (hpl : (backTo pos (starEach es X.env)).any (·.1) = false := by rfl) :
    PE X (.Call (.Name x p) (e :: es) [] pos) (tE C v0 W (mCallR F j ms)) := by
  obtain ⟨f, fd, ps, h1, h2, h3, h4⟩ := c.ex
  exact pm_callR h1 (hr.mono hk) hgd hg h2 h3 h4 tk ha hl hdb he hpl
/-- an own error class -/
def OwnC (P : Program) (w : World) (K : PySem.W.Frag) (mg : Str → Option Value) (base : Heap) (c : Str) (fs : List Str) : Prop := ∃ Cl, OwnE P w K mg base c fs Cl
theorem pms_raiseC {c : Str} {fs : List Str} {pos2 : Pos} (O : OwnC X.prog X.w X.K X.mg X.base c fs) (hr : Room m X.A) (hm : 2 ≤ m) (hc : X.calm = true) (hg : Gl X c) (tk : Takes X W) (ha : PA X (e :: es) (tEs C v0 W ms)) (hl : LenM ms fs.length) (hC : C.mg = X.mg := by rfl) (hf : fs.length ≤ 1000 := by decide)
    (hdb : (c == ("__debug__" : Str)) = false := by decide) (he : starEach (e :: es) X.env = (false, eval e X.env) :: starEach es X.env := by rfl) (hpl : (backTo pos (starEach es X.env)).any (·.1) = false := by rfl) :
    PS X (.Raise (some (.Call (.Name c p) (e :: es) [] pos)) none pos2) (tS C v0 W (mRaise c fs ms)) := by
  obtain ⟨Cl, O⟩ := O
  exact pms_raise hC hc tk O (hr.mono hm) hg ha hl hf hdb he hpl
theorem u65 {A : Around} (hr : Room m A) : A.units + 65 < cLine := by have := hr.un; omega
theorem u1 {A : Around} (hr : Room m A) : A.units + 1 < cLine := by have := hr.un; omega
/-- a def of the text: from its body's derivation -/
theorem Cal.of {P : Program} {w : World} {K : PySem.W.Frag} {mg : Str → Option Value} {base : Heap} {x : Str} {st : Stmt} {f : Addr} {fd : FuncData} {N ps : List Str} {k n np : Nat} {T : List (Addr × Str)} {mb : M Fl} (F : L2.Fun K x x st f fd) (S : FnScope N ps (defScope st))
    (hn : N.length = ps.length + n) (hnp : ps.length = np) (hm : mg x = some (.ref f)) (hb : Binds K fd ps [])
    (hbody : ∀ (cdv : Value) (A : Around) (outer : List Env) (s : Shared) (H : Hp) (vs : List V) (E : XK), Room k (A.deeper (envOfC x (defScope st) s.heap.objs.size f cdv)) → A.guards = some [] →
      PSs (cxOf (L2.CX P w) P w K mg base N x (defScope st) f cdv A outer s H E) (defBody st) (tS ⟨K, mg, T⟩ vs (fun cls d _ H => E cls d H) mb)) :
    Cal P w K mg base ⟨K, mg, T⟩ x (k + 1) np (defF n mb) := by
  subst hnp
  exact ⟨f, fd, ps, FnG.of F S hn fun cdv A outer s H vs E hr hg hcd _ => hbody cdv A outer s H vs E hr hg, hm, F.kp, hb⟩
/-- a def of the text: from its body's derivation -/
theorem Cal.of2 {P : Program} {w : World} {K : PySem.W.Frag} {mg : Str → Option Value} {base : Heap} {x : Str} {st : Stmt} {f : Addr} {fd : FuncData} {N ps : List Str} {k n np : Nat} {T : List (Addr × Str)} {mb : M Fl} (F : L2.Fun K x x st f fd) (S : FnScope N ps (defScope st))
    (hn : N.length = ps.length + n) (hnp : ps.length = np) (hm : mg x = some (.ref f)) (hb : Binds K fd ps [])
    (hbody : ∀ (cdv : Value) (A : Around) (outer : List Env) (s : Shared) (H : Hp) (vs : List V) (E : XK), Room k (A.deeper (envOfC x (defScope st) s.heap.objs.size f cdv)) → A.guards = some [] →
      (∃ oc od kV doc pm an ct osl, K.lookup f = some ⟨oc, od, .func (PySem.W.fnOf x x (defArgs st) (defBody st) (defScope st) .none kV doc pm an cdv ct), osl⟩) → PSs (cxOf (L2.CX P w) P w K mg base N x (defScope st) f cdv A outer s H E) (defBody st) (tS ⟨K, mg, T⟩ vs (fun cls d _ H => E cls d H) mb)) :
    Cal P w K mg base ⟨K, mg, T⟩ x (k + 1) np (defF n mb) := by
  subst hnp
  exact ⟨f, fd, ps, FnG.of F S hn fun cdv A outer s H vs E hr hg hcd lk => hbody cdv A outer s H vs E hr hg lk, hm, F.kp, hb⟩
end
/-! ### dict(pairs) -/
def prsOf : List D → Option (List (Key × D))
  | [] => some []
  | .tup [k, d] :: r => match keyD k, prsOf r with
    | some k', some l => some ((k', d) :: l)
    | _, _ => none
  | _ :: _ => none
def fDict : List D → Option EV
  | [.lst xs] => (prsOf xs).map fun l => .own (.dK (mrgD l))
  | _ => none
section
variable {X : Cx} {C : Ct} {A : Addr → Prop} {H : Hp}
theorem prsOf_ok : ∀ {xs : List D} {vs : List V} {l : List (Key × D)}, RelL C A H xs vs → prsOf xs = some l → ∃ (ps : List Addr) (ws : List (Key × V)), vs = ps.map V.ref ∧ Paired (fun p kv => SqT C.K H p [kV kv.1, kv.2]) ps ws ∧ RelK C A H l ws
  | [], _, l, h, e => by cases h; cases e; exact ⟨[], [], rfl, .nil, rfl⟩
  | d :: xs, _, l, ⟨v, r, e1, hd, t⟩, e => by
    subst e1
    unfold prsOf at e
    split at e
    · rename_i h; cases h
    · rename_i k d' r' h
      cases h
      split at e
      · rename_i k' l' ek el
        cases e
        obtain ⟨a, us, rfl, ha, v1, w1, rfl, hk, v2, w2, rfl, hd2, rfl⟩ := hd
        have := keyD_rel hk ek
        subst this
        obtain ⟨ps, ws, rfl, p1, p2⟩ := prsOf_ok t el
        exact ⟨a :: ps, (k', v2) :: ws, rfl, .cons ha p1, v2, ws, rfl, hd2, p2⟩
      · cases e
    · cases e
theorem valN_dict (hK : C.K = X.K) : ValN C fDict (fun xs H Q => ∃ (a : Addr) (ps : List Addr) (kvs : List (Key × V)), xs = [.ref a] ∧ SqL X.K H a (ps.map V.ref) ∧ Paired (fun p kv => SqT X.K H p [kV kv.1, kv.2]) ps kvs ∧ ∀ p, H p = none → Q (.ref p) (upd H p (.dK (mergeK [] kvs)))) := by
  intro v0 A0 A r0 r σ H0 H ds xs ev Q p s hp hf k
  unfold fDict at hf
  split at hf
  · obtain ⟨l, el, rfl⟩ := Option.map_eq_some_iff.mp hf
    obtain ⟨x, rfl, h⟩ := pair1 hp
    obtain ⟨a, vs, rfl, ha, t⟩ := h.lst
    obtain ⟨ps, ws, rfl, p1, p2⟩ := prsOf_ok t el
    refine ⟨a, ps, ws, rfl, .of ha, Paired.mapP p1 fun _ _ z => by rw [← hK]; exact z, fun q hq => ?_⟩
    obtain ⟨p3, s3, e3⟩ := lay_own (d := .dK (mrgD l)) (o := .dK (mergeK [] ws)) p s hq ⟨_, upd_same, RelK.carry (carry_lay hq) _ (relK_mrg p2 rfl)⟩
    exact k A _ _ p3 s3 e3
  · cases hf
/-! ### xs[::-1] -/
def revD : D → Option EV
  | .lst xs => some (.own (.lst xs.reverse))
  | _ => none
def mRev (m : M EV) : M EV := op1 revD m
theorem val1_rev (hK : C.K = X.K) : Val1 C revD (fun x H Q => ∃ a xs, x = .ref a ∧ SqL X.K H a xs ∧ ∀ p, H p = none → Q (.ref p) (upd H p (.lst xs.reverse))) := by
  intro v0 A0 A r0 r σ H0 H d x ev Q p s hx hf k
  unfold revD at hf
  split at hf
  · cases hf
    obtain ⟨a, vs, rfl, ha, t⟩ := hx.lst
    refine ⟨a, vs, rfl, .of ha, fun q hq => ?_⟩
    obtain ⟨p3, s3, e3⟩ := lay_own (d := .lst _) (o := .lst vs.reverse) p s hq ⟨_, upd_same, (RelL.rev t).carry (carry_lay hq)⟩
    exact k A _ _ p3 s3 e3
  · cases hf
theorem pm_rev {v0 : List V} {W : WX} {e : Expr} {m : M EV} {k : Nat} {p1 p2 p3 pos : Pos} (hK : C.K = X.K) (he : PE X e (tE C v0 W m)) : PE X (.Subscript e (.Slice none none (some (.UnaryOp .USub (.Constant (.int 1) k p1) p2)) p3) pos) (tE C v0 W (mRev m)) :=
  PE.imp (pe_revL he) fun σ H Q h => tUn_of (val1_rev (X := X) hK) h
end
end Mi
end
section
set_option maxRecDepth 100000
set_option maxHeartbeats 2000000
namespace Mi
open PySem PySem.Spec L2 LamX
open PyProof.Rows hiding St

/-! ### a, b, .. = x, y, .. with any names -/
inductive NamesOk (X : Cx) : List Expr → List Nat → Prop
  | nil : NamesOk X [] []
  | cons {x : Str} {p : Pos} {es : List Expr} {is : List Nat} (i : Nat) (hi : X.N[i]? = some x := by rfl) (hx : Loc X.env.scope x := by first | exact Or.inl rfl | exact Or.inr rfl) (hf : X.fn x = true ∨ X.env.scope.names.lookup x = some .local := by first | exact .inl rfl | exact .inr rfl)
      (hs : (assignEach (.Name x p :: es) X.env).map (·.2) = assign (.Name x p) X.env :: (assignEach es X.env).map (·.2) := by rfl) (t : NamesOk X es is) : NamesOk X (.Name x p :: es) (i :: is)
section
variable {X : Cx} {C : Ct} {v0 : List V} {W : WX} {es tg : List Expr} {is : List Nat} {ms : M (List EV)} {n k k2 : Nat} {pt pt2 pos : Pos}
theorem pgs_names (hN : X.N.Nodup) {es : List Expr} {is : List Nat} (h : NamesOk X es is) : PGs X es (fun vs σ H Q => vs.length = is.length ∧ Q (sets σ is vs) H) := by
  induction h with
  | nil =>
    refine PGs.imp pgs_nil fun vs σ H Q ⟨h1, h2⟩ => ?_
    have : vs = [] := List.eq_nil_of_length_eq_zero h1
    subst this
    exact ⟨rfl, h2⟩
  | cons i hi hx hf hs t ih =>
    refine PGs.imp (pgs_cons (pg_name hN hi hx hf) ih hs) fun vs σ H Q ⟨h1, h2⟩ => ?_
    cases vs with
    | nil => cases h1
    | cons v vs => exact ⟨v, vs, rfl, by simpa using h1, h2⟩
theorem pms_tupN (bs : List Bool) (hK : C.K = X.K) (hc : X.calm = true) (hN : X.N.Nodup) (ha : PA X es (tEs C v0 W ms)) (hl : LenM ms n) (hg : NamesOk X tg is) (hln : is.length = n) (hn1 : n ≤ 1000 := by decide) (hn : (assignEach tg X.env).length = n := by rfl) (hst : (assignEach tg X.env).findIdx? (·.1) = none := by rfl)
    (hs : swapsWithSole [.Tuple tg k pt] (.Tuple es k2 pt2) pos.line X.env = pure false := by rfl) (hw : swappedStores [.Tuple tg k pt] (.Tuple es k2 pt2) X.env = pure none := by rfl) (h1 : (assignEach [.Tuple tg k pt] X.env).map (·.2) = [assign (.Tuple tg k pt) X.env] := by rfl) :
    PS X (.Assign [.Tuple tg k pt] (.Tuple es k2 pt2) pos) (tS C v0 W (mPar is bs ms)) := by
  refine PS.imp (ps_asg (pe_tup ha) (pg_tup hc (pgs_names hN hg) hn hst) hs hw h1) fun N σ H ⟨A, r, p, q⟩ => ⟨A, r, p, ?_⟩
  unfold mPar bnd at q
  cases em : ms r with
  | no => rw [em] at q; exact q
  | exc c fs r' => rw [em] at q; exact fun A' H' cl d p s x => q A' σ H' cl d p s x
  | ok evs r1 =>
    rw [em] at q
    intro A1 H1 vs p1 s1 e1
    have hlen : vs.length = n := by rw [← paired_len e1.1]; exact hl r evs r1 em
    refine ⟨by rw [hlen, sizeLine_eq]; omega, fun b hb => ⟨b, vs, rfl, .of upd_same, hlen, by rw [hlen, hln], ?_⟩⟩
    have x1 := ext_lay (o := .tup vs) hb
    have s2 : Stp A1 r1 σ H1 A1 r1 σ (upd H1 b (.tup vs)) := stp_ext x1
    exact parF_ok (p1.ext x1) (s1.trans s2) ⟨Paired.mapP e1.1 fun _ _ z => z.carry p1 s2, e1.2⟩ q
end
/-! ### what a suite tells, in short -/
def strO (s : Str) : Option EV := some (.val (.str s))
def nonO : Option EV := some (.val .none)
def nilO : Option (List D) := some []
def tupO (os : Option (List D)) : Option EV := os.map fun ds => .val (.tup ds)
def lstO (os : Option (List D)) : Option EV := os.map fun ds => .own (.lst ds)
def repO (o : Option EV) : Option EV := (vals o).bind fun d => fRepr [d]
def catO2 (s : Str) (o : Option EV) : Option EV := catO s (vals o)
/-- a list of n -/
def LenO (os : Option (List D)) (n : Nat) : Prop := ∀ ds, os = some ds → ds.length = n
theorem lenO0 : LenO nilO 0 := fun ds h => by cases h; rfl
theorem lenOS {o : Option EV} {os : Option (List D)} {n : Nat} (h : LenO os n) : LenO (consO o os) (n + 1) := fun ds e => by
  unfold consO at e
  split at e
  · rename_i d ds' _
    cases e
    rw [List.length_cons, h ds' rfl]
  · cases e
/-- what is known of error classes: which clause takes which; how fields are read -/
structure ErrK (K : PySem.W.Frag) (mg : Str → Option Value) (sub : Str → Str → Bool) (kn : List Str) (fl : Str → List Str) : Prop where
  ex : ∀ c ∈ kn, ∃ cl, mg c = some (.ref cl)
  is : ∀ c ∈ kn, ∀ k ∈ kn, ∀ cl ck, mg c = some (.ref cl) → mg k = some (.ref ck) → PySem.W.exmOne K (.ref cl) (.ref ck) = some (sub c k)
  xf : ∀ c ∈ kn, ∀ cl, mg c = some (.ref cl) → XfC K cl ∧ ∀ f ∈ fl c, PySem.W.findIn K (.ref cl) f = some none
section
variable {X : Cx} {C : Ct} {v0 : List V} {i : Nat} {a dd : Addr} {fs : List (Str × D)} {e : Expr} {es : List Expr} {o : Option EV} {os : Option (List D)} {pos : Pos} {k n : Nat}
theorem qx_str {s : Str} {j} : PE X (.Constant (.str s) j pos) (tX C v0 i a dd fs (strO s)) := px_str
theorem qx_non {j} : PE X (.Constant .none j pos) (tX C v0 i a dd fs nonO) := px_non
theorem qx_nil : PA X [] (tXs C v0 i a dd fs nilO) := px_nil
theorem qx_cons (ha : PE X e (tX C v0 i a dd fs o)) (hr : PA X es (tXs C v0 i a dd fs os)) (hs : starEach (e :: es) X.env = (false, eval e X.env) :: starEach es X.env := by rfl) : PA X (e :: es) (tXs C v0 i a dd fs (consO o os)) := px_cons ha hr hs
theorem qx_tup (ha : PA X es (tXs C v0 i a dd fs os)) (hl : LenO os n) (hn : n ≤ 1000 := by decide) : PE X (.Tuple es k pos) (tX C v0 i a dd fs (tupO os)) := px_tup ha hl hn
theorem qx_lst (ha : PA X es (tXs C v0 i a dd fs os)) (hl : LenO os n) (hn : n ≤ 1000 := by decide) : PE X (.List es pos) (tX C v0 i a dd fs (lstO os)) := px_lst ha hl hn
theorem qx_repr {p0 : Pos} (hK : C.K = X.K) (hgd : X.A.guards = some []) (hu : X.A.units + 64 < cLine) (hg : Gl X "repr") (hm : X.mg "repr" = none) (ha : PE X e (tX C v0 i a dd fs o))
    (he : starEach (e :: []) X.env = (false, eval e X.env) :: starEach [] X.env := by rfl) (hpl : (backTo pos (starEach [] X.env)).any (·.1) = false := by rfl) :
    PE X (.Call (.Name "repr" p0) [e] [] pos) (tX C v0 i a dd fs (repO o)) := px_repr hK hgd hu hg hm ha he hpl
theorem qx_cat {s : Str} {j} {p1 : Pos} (hb : PE X e (tX C v0 i a dd fs o)) : PE X (.BinOp (.Constant (.str s) j p1) .Add e pos) (tX C v0 i a dd fs (catO2 s o)) := px_cat hb
end
section
variable {X : Cx} {C : Ct} {K : PySem.W.Frag} {mg : Str → Option Value} {sub : Str → Str → Bool} {kn : List Str} {fl : Str → List Str}
/-- a class, chosen -/
noncomputable def ErrK.at (E : ErrK K mg sub kn fl) (c : Str) (hc : c ∈ kn) : Addr := Classical.choose (E.ex c hc)
theorem ErrK.mgC (E : ErrK K mg sub kn fl) (c : Str) (hc : c ∈ kn) : mg c = some (.ref (E.at c hc)) := Classical.choose_spec (E.ex c hc)
/-- the clauses' classes -/
theorem HdsR.one (E : ErrK K mg sub kn fl) {T : List (Addr × Str)} {v0 : List V} {h : Hd} (hk : h.k ∈ kn) {hs : List Hd} {ls : List Cl1} (t : HdsR ⟨K, mg, T⟩ K v0 sub kn hs ls) :
    HdsR ⟨K, mg, T⟩ K v0 sub kn (h :: hs) (⟨.ref (E.at h.k hk), h.n, tSu ⟨K, mg, T⟩ v0 h.n h.su⟩ :: ls) :=
  .cons (fun c cl hc hm => E.is c hc h.k hk cl _ hm (E.mgC h.k hk)) t
end
end Mi
end
section
set_option maxRecDepth 100000
set_option maxHeartbeats 2000000
namespace Mi
open PySem PySem.Spec L2 LamX He
open PyProof.Rows hiding St

/-! ### what the top has written: from the head's facts -/
theorem fun_of {K : PySem.W.Frag} {x qual : Str} {st : Stmt} {f : Addr} {fd : FuncData} (F : FunD K x qual (defArgs st) (defBody st) (defScope st) [] [] f fd) : L2.Fun K x qual st f fd := by
  obtain ⟨oc, od, dV, kV, doc, pm, an, cdv, ct, osl, e, lk, hcd, hD, _⟩ := F.ex
  rcases hD with ⟨_, rfl⟩ | ⟨n, _⟩
  · exact ⟨⟨oc, od, kV, doc, pm, an, cdv, ct, osl, e, lk, hcd⟩, F.kp⟩
  · exact absurd rfl n
/-- the class's object as an error class's -/
def oexB (K : PySem.W.Frag) (C : Addr) : Bool := match K.lookup C with
  | some ⟨.type "type", _, .cls cd, sl⟩ => (match cd.mro, sl.toList with
    | .ref C' :: bm, [_, _, _, _, some (.builtin n), _] => C' == C && n == "ValueError.__new__" && !cd.hasDel && cd.hasDict && PySem.HandSPX.refsVE bm
    | _, _ => false)
  | _ => false
theorem oexB_ok {K : PySem.W.Frag} {C : Addr} (q : oexB K C = true) : ∃ nm q N bs bm sn sub ab col dd k0 k1 k2 k3 k5, K.lookup C = some (excClassObj nm q C N bs bm true sn sub ab col dd k0 k1 k2 k3 k5 "ValueError.__new__") ∧ PySem.HandSPX.refsVE bm = true := by
  unfold oexB at q
  split at q
  · rename_i dd cd sl ho
    split at q
    · rename_i C' bm k0 k1 k2 k3 n k5 hm hs
      simp only [Bool.and_eq_true, beq_iff_eq, Bool.not_eq_true'] at q
      obtain ⟨⟨⟨⟨rfl, rfl⟩, hdel⟩, hdi⟩, hbm⟩ := q
      obtain ⟨nm, bs, mro, ns, qn, hd, sn, sub, ab, col, del⟩ := cd
      dsimp only at hm hdel hdi
      subst hm hdel hdi
      have hsl : sl = #[k0, k1, k2, k3, some (.builtin "ValueError.__new__"), k5] := by
        obtain ⟨l⟩ := sl
        simp only at hs
        rw [hs]
      subst hsl
      exact ⟨nm, qn, ns, bs, bm, sn, sub, ab, col, dd, k0, k1, k2, k3, k5, ho, hbm⟩
    · cases q
  · cases q
/-- an error class: all that is asked of it -/
def clsB (K : PySem.W.Frag) (c : Str) (fs : List Str) : Bool := oexB K (ga K c) && (eqO (PySem.W.findIn K (.ref (ga K c)) "__setattr__") (some (some (.builtin "object.__setattr__"))) && (decide (PySem.W.subIn K (.ref (ga K c)) (.type "BaseException") = some true) &&
  (decide (PySem.W.typeIn K (.ref (ga K c)) = some (.type "type")) && (PySem.W.keepIn K (.ref (ga K c)) && (xfB K (ga K c) && (fs.all fun f => eqO (PySem.W.findIn K (.ref (ga K c)) f) (some none)))))))
/-- .. that has an __init__ of its own -/
def iniB (K : PySem.W.Frag) (c : Str) : Bool := eqO (PySem.W.findIn K (.ref (ga K c)) "__init__") (some (some (.ref (fAd K (c, some "__init__"))))) && decide (PySem.W.typeIn K (.ref (fAd K (c, some "__init__"))) = some (.type "function"))
def exmB (K : PySem.W.Frag) (sub : Str → Str → Bool) (kn : List Str) : Bool := kn.all fun c => kn.all fun k => decide (PySem.W.exmOne K (.ref (ga K c)) (.ref (ga K k)) = some (sub c k))
theorem clsB_ok {K : PySem.W.Frag} {c : Str} {fs : List Str} (h : clsB K c fs = true) : OexC K (ga K c) ∧ XfC K (ga K c) ∧ ∀ f ∈ fs, PySem.W.findIn K (.ref (ga K c)) f = some none := by
  obtain ⟨h1, h⟩ := ba h
  obtain ⟨h2, h⟩ := ba h
  obtain ⟨h3, h⟩ := ba h
  obtain ⟨h4, h⟩ := ba h
  obtain ⟨h5, h⟩ := ba h
  obtain ⟨h6, h7⟩ := ba h
  exact ⟨⟨oexB_ok h1, eqO_ok h2, of_decide_eq_true h3, of_decide_eq_true h4, h5⟩, xfB_ok h6, fun f hf => eqO_ok (List.all_eq_true.mp h7 f hf)⟩
theorem errK_of {K : PySem.W.Frag} {mg : Str → Option Value} {sub : Str → Str → Bool} {kn : List Str} {fl : Str → List Str} (hg : ∀ c ∈ kn, mg c = some (.ref (ga K c))) (h1 : (kn.all fun c => clsB K c (fl c)) = true) (h2 : exmB K sub kn = true) : ErrK K mg sub kn fl where
  ex := fun c hc => ⟨_, hg c hc⟩
  is := fun c hc k hk cl ck e1 e2 => by
    rw [hg c hc] at e1; cases e1
    rw [hg k hk] at e2; cases e2
    exact of_decide_eq_true (List.all_eq_true.mp (List.all_eq_true.mp h2 c hc) k hk)
  xf := fun c hc cl e => by
    rw [hg c hc] at e; cases e
    exact (clsB_ok (List.all_eq_true.mp h1 c hc)).2
theorem start_full {N : List Str} {vs : List V} (h : vs.length = N.length) : L2.start N vs = vs.map some := by
  unfold L2.start
  rw [h, Nat.sub_self, List.replicate_zero, List.append_nil]
section
variable {P : Program} {w : World} {K : PySem.W.Frag} {mg : Str → Option Value} {base : Heap} {c q f g : Str} {st : Stmt} {fI : Addr} {fd : FuncData} {N : List Str}
theorem own1 (T : OexC K (ga K c)) (gC : mg c = some (.ref (ga K c))) (hi : iniB K c = true) (hn : PySem.W.findIn K (.ref (ga K c)) f = some none) (F : L2.Fun K "__init__" q st (fAd K (c, some "__init__")) fd) (S : FnScope N N (defScope st)) (hN : N.length = 2) (bn : Binds K fd N [])
    (hb : ∀ (cdv : Value) (A : Around) (outer : List Env) (s : Shared) (H : Hp) (E : XK), PSs (cxOf CX0 P w K mg base N q (defScope st) (fAd K (c, some "__init__")) cdv A outer s H E).nox (defBody st) (tOst K f (tVar 0) (tVar 1))) : OwnC P w K mg base c [f] := by
  obtain ⟨h1, h2⟩ := ba hi
  refine ⟨ga K c, T, gC, _, fd, N, spT 2 (tOst K f (tVar 0) (tVar 1)), eqO_ok h1, of_decide_eq_true h2, F.ok S (fun vs H Q E h => h.1.trans hN.symm) (fun cdv A outer s H vs Q E hr h => ⟨_, hb cdv A outer s H E, ?_⟩), bn, isI1 T hn⟩
  rw [start_full (h.1.trans hN.symm)]
  exact h.2
theorem own2 (T : OexC K (ga K c)) (gC : mg c = some (.ref (ga K c))) (hi : iniB K c = true) (hn : PySem.W.findIn K (.ref (ga K c)) f = some none) (hn2 : PySem.W.findIn K (.ref (ga K c)) g = some none) (F : L2.Fun K "__init__" q st (fAd K (c, some "__init__")) fd) (S : FnScope N N (defScope st)) (hN : N.length = 3) (bn : Binds K fd N [])
    (hb : ∀ (cdv : Value) (A : Around) (outer : List Env) (s : Shared) (H : Hp) (E : XK), PSs (cxOf CX0 P w K mg base N q (defScope st) (fAd K (c, some "__init__")) cdv A outer s H E).nox (defBody st) (tSeq (tOst K f (tVar 0) (tVar 1)) (tOst K g (tVar 0) (tVar 2)))) : OwnC P w K mg base c [f, g] := by
  obtain ⟨h1, h2⟩ := ba hi
  refine ⟨ga K c, T, gC, _, fd, N, spT 3 (tSeq (tOst K f (tVar 0) (tVar 1)) (tOst K g (tVar 0) (tVar 2))), eqO_ok h1, of_decide_eq_true h2, F.ok S (fun vs H Q E h => h.1.trans hN.symm) (fun cdv A outer s H vs Q E hr h => ⟨_, hb cdv A outer s H E, ?_⟩), bn, isI2 T hn hn2⟩
  rw [start_full (h.1.trans hN.symm)]
  exact h.2
end
/-- a built-in function that the module holds -/
def bfnB (K : PySem.W.Frag) (x : Str) (id : String) : Bool := eqO (PySem.W.nsIn K mainGlobals x) (some (some (.builtin id)))
theorem bfn_ok {K : PySem.W.Frag} {h : Heap} {mg : Str → Option Value} (X : K.In h) (G : h.Ns mainGlobals mg) {x : Str} {id : String} (c : bfnB K x id = true) : mg x = some (.builtin id) := PySem.W.mg_of X G (eqO_ok c)
/-- a tuple of texts that the module holds -/
def tupB (K : PySem.W.Frag) (x : Str) (vs : List Str) : Bool := match PySem.W.nsIn K mainGlobals x with
  | some (some (.ref a)) => (match K.lookup a with
    | some ⟨.type "tuple", _, .seq its _, _⟩ => decide (its.size ≤ 1000) && relAll (vs.map V.str) its.toList
    | _ => false)
  | _ => false
theorem globStr {C : Ct} {x z : Str} (h : ∃ t, C.mg x = some (.str z t)) : GlobE C x (.str z) := by
  obtain ⟨t, h⟩ := h
  exact ⟨_, .str z, h, ⟨t, rfl⟩, fun _ _ => rfl⟩
theorem tup_ok {K : PySem.W.Frag} {h : Heap} {mg : Str → Option Value} {T : List (Addr × Str)} (X : K.In h) (G : h.Ns mainGlobals mg) {x : Str} {vs : List Str} (c : tupB K x vs = true) : GlobE ⟨K, mg, T⟩ x (.tup (vs.map .str)) := by
  unfold tupB at c
  split at c
  · rename_i a ha
    split at c
    · rename_i dd its n sl ho
      obtain ⟨h1, h2⟩ := ba c
      have h1 := of_decide_eq_true h1
      have hm := PySem.W.mg_of X G ha
      refine ⟨.ref a, .ref a, hm, rfl, fun A H => ⟨a, vs.map V.str, rfl, .inr ⟨_, its, n, ho, rfl, rfl, ?_, relAll_ok h2⟩, relL_strs⟩⟩
      rw [sizeLine_eq]; omega
    · cases c
  · cases c
end Mi
end
section
set_option maxRecDepth 100000
set_option maxHeartbeats 2000000
namespace Mi
open PySem PySem.Spec L2 LamX He
open PyProof.Rows hiding St

theorem cd_of {K : PySem.W.Frag} {x : Str} {st : Stmt} {fd : FuncData} (F : L2.Fun K x x st (fAd K (x, none)) fd) : ∀ cdv, (∃ oc od kV doc pm an ct osl, K.lookup (fAd K (x, none)) = some ⟨oc, od, .func (PySem.W.fnOf x x (defArgs st) (defBody st) (defScope st) .none kV doc pm an cdv ct), osl⟩) → cdv = .ref (codeOf K (x, none)) := by
  rintro cdv ⟨oc, od, kV, doc, pm, an, ct, osl, lk⟩
  obtain ⟨oc', od', kV', doc', pm', an', cdv', ct', osl', rfl, lk', hcd⟩ := F.ex
  obtain ⟨c, rfl⟩ := codeIn_ref hcd
  have e1 := codeOf_eq (p := (x, none)) lk' rfl
  rw [lk'] at lk
  injection lk with lk
  injection lk with _ _ lk _
  injection lk with lk
  have : cdv = .ref c := (congrArg FuncData.code lk).symm
  rw [this, e1]
/-- the law's own def -/
theorem FnG.of2 {P : Program} {w : World} {K : PySem.W.Frag} {mg : Str → Option Value} {base : Heap} {x : Str} {st : Stmt} {f : Addr} {fd : FuncData} {N ps : List Str} {k n np : Nat} {T : List (Addr × Str)} {mb : M Fl} (F : L2.Fun K x x st f fd) (S : FnScope N ps (defScope st))
    (hn : N.length = ps.length + n) (hnp : ps.length = np)
    (hbody : ∀ (cdv : Value) (A : Around) (outer : List Env) (s : Shared) (H : Hp) (vs : List V) (E : XK), Room k (A.deeper (envOfC x (defScope st) s.heap.objs.size f cdv)) → A.guards = some [] →
      (∃ oc od kV doc pm an ct osl, K.lookup f = some ⟨oc, od, .func (PySem.W.fnOf x x (defArgs st) (defBody st) (defScope st) .none kV doc pm an cdv ct), osl⟩) → PSs (cxOf (L2.CX P w) P w K mg base N x (defScope st) f cdv A outer s H E) (defBody st) (tS ⟨K, mg, T⟩ vs (fun cls d _ H => E cls d H) mb)) :
    FnG P w K mg base (k + 1) f fd ps (spF ⟨K, mg, T⟩ np (defF n mb)) := by
  subst hnp
  exact FnG.of F S hn fun cdv A outer s H vs E hr hg hcd lk => hbody cdv A outer s H vs E hr hg lk
/-- the end, the written part told by the head's facts -/
theorem walk_ofGE {l : PySem.W.OpenLaw} {n k : Nat} {q : Program} {loose : List Str} {XP : (Str → Option Value) → Heap → Prop} {YP : World → Heap → Prop} {d : DefRec} {x : Str} (F : Fun1)
    (hn : l.most = some n) (hn2 : n ≤ sizeLine) (hdf : d.params.defaults = []) (hr : Room k callerA)
    (hF : ∀ (w : World) (mg : Str → Option Value) (fa : Addr) (h : Heap), YP w h → h.Ns mainGlobals mg → mg d.name = some (.ref fa) → ∃ K : PySem.W.Frag, K.In h ∧ LawG l w K k x mg fa h F)
    (law : ∀ ns : List Int, ns.length ≤ n → (∀ z ∈ ns, Builtin.Int.intBits z ≤ 1048576) → ∃ r, F [.val (.scr ns)] = .ok (.val (.bl true)) r) :
    PySem.W.WalkO q loose XP YP l.row.toRowW d [] (fun f vs => PySem.call f vs) := by
  refine Att.attach_callB hn hdf fun w s₀ s₁ mg mb fa o pm cd doc a vs ns G Y ho hd hcd hmg hobj hints hlen hbits hg => ?_
  obtain ⟨K, KX, fd, cs, nm, hT, nT, hC, hb, hFn⟩ := hF w mg fa _ Y G.T.g hmg
  refine law_callG KX G.T.g G.T.b G.T.builtins G.T.nolimit hg hT nT hC G.T.bmain hobj hints (Nat.le_trans hlen hn2) hr hFn hb fun H hH hS => ?_
  obtain ⟨r, hr⟩ := law ns hlen hbits
  refine ⟨rfl, fun _ => False, [.val (.scr ns)], rfl, ⟨rfl, fun i d h => ?_, fun i d h => ?_, fun i d h => ?_, fun i j d e b h => ?_, fun _ h => h.elim, fun p hp => ?_⟩, ?_⟩
  · cases i with
    | zero => cases h; exact ⟨.ref a, rfl, a, rfl, hS⟩
    | succ i => simp at h
  · cases i with
    | zero => cases h
    | succ i => simp at h
  · cases i with
    | zero => cases h
    | succ i => simp at h
  · cases i with
    | zero => rcases h with h | h <;> cases h
    | succ i => rcases h with h | h <;> simp at h
  · obtain ⟨p', hp', e⟩ := List.mem_map.mp hp
    subst e
    exact TabS.nil (hH p' hp')
  · rw [hr]
    intro A' H' v _ _ e
    exact e
end Mi
end
section
set_option maxRecDepth 100000
set_option maxHeartbeats 2000000
namespace HT
open PySem PySem.Calls PyProof.Rows PySem.Spec
section
variable {prog : Program} {w : World} {A : Around} {E : Value → Shared → Prop} {s : Shared}
theorem rev_adjust (n : Nat) : Builtin.Slice.sliceAdjust none none (-1) (n : Int) = ((n : Int) - 1, -1) := by
  unfold Builtin.Slice.sliceAdjust
  simp
theorem rev_places (n : Nat) : Builtin.Slice.slicePlaces ((n : Int) - 1) (-1) (-1) = n := by
  unfold Builtin.Slice.slicePlaces
  simp
  omega
theorem rev_applied {sl : Addr} {vs : Value} {n : Nat} {Q : Int × Int × Nat → Shared → Prop} (hs : s.heap.IsSliceOf sl .none .none vs) (ps : IsPart vs (some (-1))) (h : Q ((n : Int) - 1, -1, n) s) :
    wpAny (model prog w) A (Builtin.Slice.sliceApplied (.ref sl) (pure (n : Int))) Q E s := by
  obtain ⟨os, hos, hcs, hds⟩ := id hs
  unfold Builtin.Slice.sliceApplied Builtin.Slice.sliceFields
  refine wpAny_bind (wpAny_bind (wpAny_field hos hds (x := .none) rfl (wpAny_bind (wpAny_field hos hds (x := .none) rfl (wpAny_bind (wpAny_field hos hds (x := vs) rfl (wpAny_pure ?_)))))))
  refine wpAny_bind (slicePart_ ps ?_)
  show wpAny _ _ (if ((-1 : Int) == 0) = true then _ else _) _ _ s
  rw [if_neg (by decide)]
  refine wpAny_bind (slicePart_none (wpAny_bind (slicePart_none (wpAny_bind (wpAny_pure ?_)))))
  show wpAny _ _ (match Builtin.Slice.sliceAdjust none none (-1) (n : Int) with | (lo, hi) => pure (lo, (-1 : Int), Builtin.Slice.slicePlaces lo hi (-1))) _ _ s
  rw [rev_adjust n]
  show wpAny _ _ (pure ((n : Int) - 1, (-1 : Int), Builtin.Slice.slicePlaces ((n : Int) - 1) (-1) (-1))) _ _ s
  rw [rev_places]
  exact wpAny_pure h
theorem rev_pick (xs : Array Value) : ((List.range xs.size).filterMap fun (m : Nat) => xs[(((xs.size : Int) - 1) + (m : Int) * (-1)).toNat]?).toArray = xs.toList.reverse.toArray := by
  congr 1
  apply List.ext_getElem?
  intro i
  have key : ∀ n, n ≤ xs.size → ((List.range n).filterMap fun (m : Nat) => xs[(((xs.size : Int) - 1) + (m : Int) * (-1)).toNat]?) = (xs.toList.reverse).take n := by
    intro n
    induction n with
    | zero => intro _; simp
    | succ n ih =>
      intro hn
      rw [List.range_succ, List.filterMap_append, ih (by omega)]
      have e : (((xs.size : Int) - 1) + (n : Int) * (-1)).toNat = xs.size - 1 - n := by omega
      have hlt : xs.size - 1 - n < xs.size := by omega
      have hlen : n < xs.toList.reverse.length := by simp; omega
      rw [List.take_add_one]
      congr 1
      simp only [List.filterMap_cons, List.filterMap_nil, e]
      rw [List.getElem?_reverse (by simpa using hlen)]
      simp [Array.getElem?_eq_getElem hlt]
  rw [key xs.size (Nat.le_refl _), List.take_of_length_le (by simp)]
theorem getItem_tuple_rev {t sl : Addr} {items : Array Value} {vs : Value} {Q : Value → Shared → Prop} (ht : IsTup s.heap t items) (hs : s.heap.IsSliceOf sl .none .none vs) (ps : IsPart vs (some (-1)))
    (h : Q (.ref s.heap.objs.size) { s with heap := s.heap.push { cls := .type "tuple", data := .seq items.toList.reverse.toArray } }) (hsz : items.size ≤ sizeLine) : wpAny (model prog w) A (getItem (.ref t) (.ref sl)) Q E s := by
  have htake : sizeOk (.seq items.toList.reverse.toArray) := by
    show items.toList.reverse.toArray.size ≤ sizeLine
    simpa using hsz
  obtain ⟨os, hos, hcs, hds⟩ := id hs
  have hTs : s.TypeIs (.ref sl) "slice" := ⟨os, hos, hcs⟩
  unfold getItem
  try with_reducible refine wpAny_holding ?_
  first | refine wpAny_bind (wpAny_pure ?_) | skip
  refine wpAny_bind (wpAny_sequenceKey ht.typeIs (by decide) ?_)
  refine wpAny_bind (wpAny_callSpecial?_slot (name := Str.ofString "__getitem__") ht.typeIs PyProof.Rows.slot_tuple_getitem
    (wpAny_call_entry PyProof.Rows.slot_tuple_getitem ht.typeIs entry_tuple_getitem ?_ (args_tuple_getitem _ _)))
  show wpAny _ _ (Builtin.Tuple.tupleItemsOf (.ref t) >>= _) _ _ s
  refine wpAny_bind (tupleItemsOf_ ht ?_)
  refine wpAny_bind (wpAny_typeOf hTs ?_)
  rw [if_pos (by decide)]
  refine wpAny_bind (rev_applied hs ps ?_)
  show wpAny _ _ (if (((items.size : Int) - 1) == 0 && (-1 : Int) == 1 && items.size == items.size) = true then _ else _) _ _ s
  rw [if_neg (by simp), rev_pick]
  first
    | exact wpAny_bind (m := Builtin.Tuple.tupleExact _) (wpAny_newObj_type (wpAny_pure ⟨_, rfl, wpAny_pure h⟩) htake)
    | exact wpAny_bind (m := Builtin.Tuple.tupleExact _) (wpAny_newObj_type (wpAny_bind (wpAny_pure (wpAny_pure ⟨_, rfl, wpAny_pure h⟩))) htake)
    | exact wpAny_bind (wpAny_bind (m := Builtin.Tuple.tupleExact _) (wpAny_newObj_type (wpAny_pure (wpAny_pure ⟨_, rfl, wpAny_pure h⟩)) htake))
    | exact wpAny_bind (wpAny_bind (m := Builtin.Tuple.tupleExact _) (wpAny_newObj_type (wpAny_pure ⟨_, rfl, wpAny_pure h⟩) htake))
end
end HT
namespace Mi
open PySem PySem.Spec L2
open PyProof.Rows hiding St
section
variable {X : Cx} {C : Ct} {e : Expr} {te : TE} {k : Nat} {p1 p2 p3 pos : Pos}
def tRev2 (K : PySem.W.Frag) (te : TE) : TE := fun σ H Q => te σ H fun x H1 => ∃ a xs, x = .ref a ∧ ((SqL K H1 a xs ∧ ∀ p, H1 p = none → Q (.ref p) (upd H1 p (.lst xs.reverse))) ∨ (SqT K H1 a xs ∧ ∀ p, H1 p = none → Q (.ref p) (upd H1 p (.tup xs.reverse))))
/-- x[::-1], x a list or a tuple -/
theorem pe_rev2 (he : PE X e te) : PE X (.Subscript e (.Slice none none (some (.UnaryOp .USub (.Constant (.int 1) k p1) p2)) p3) pos) (tRev2 X.K te) := by
  refine ⟨fun pins t0 σ H Q I want => ?_⟩
  refine Subscript_ (thn (he.run pins t0 σ H _ I want) fun v t1 ⟨x, G, J, rx, a, xs, ex, q⟩ => ?_)
  subst ex
  cases rx
  have hst : PO X (some (.UnaryOp .USub (.Constant (.int 1) k p1) p2)) (tPart (tUn (rU fun i => .int (-i)) (tC (.int 1)))) := po_some (pe_un un_neg pe_int)
  refine wpAny_Slice (thn (po_none.run pins t1 σ G (fun o G2 => o = none ∧ G2 = G) J ⟨rfl, rfl⟩) fun vl t2 ⟨l, G2, J2, pl, el, e2⟩ => ?_)
  subst el e2
  refine thn (po_none.run pins t2 σ G2 (fun o G3 => o = none ∧ G3 = G2) J2 ⟨rfl, rfl⟩) fun vu t3 ⟨u, G3, J3, pu, eu, e3⟩ => ?_
  subst eu e3
  refine thn (hst.run pins t3 σ G3 (fun o G4 => o = some (-1) ∧ G4 = G3) J3 ⟨1, rfl, -1, rfl, rfl, rfl⟩) fun vs t4 ⟨o, G4, J4, ps, eo, e4⟩ => ?_
  subst eo e4
  have J5 : Inv X pins σ G4 { t4 with heap := t4.heap.push { cls := .type "slice", data := .fields #[vl, vu, vs] } } := J4.kept (t' := t4.toks) fun b ob q => Heap.get?_push_of_some _ q
  show wpAny (model X.prog X.w) X.A (subscriptTail e (.Slice none none (some (.UnaryOp .USub (.Constant (.int 1) k p1) p2)) p3) (.ref a) (.ref t4.heap.objs.size)) (EP X pins σ Q) X.xe _
  rcases q with ⟨hx, q⟩ | ⟨hx, q⟩
  · obtain ⟨its, r, ht, hz⟩ := J5.list hx
    have hlen := r.length
    refine tail_any (ops := [.ref a, .ref t4.heap.objs.size]) ht.isList.typeIs (PySem.slot_list_getitem.lookup) ?_ (by with_unfolding_all rfl)
    refine wpAny_getItem_list_slice ht.isList (Heap.IsSliceOf.new _ vl vu vs) pl pu ps (by decide) ?_ (by rw [List.size_toArray]; omega)
    rw [PySem.W.krv_pick]
    refine ⟨.ref _, _, J5.laid (t' := t4.toks) (o := .lst xs.reverse) (fun b ob q => Heap.get?_push_of_some _ q) (Nat.le_refl _) ?_, rfl, q _ (J5.hok.fresh (Nat.le_refl _))⟩
    exact ⟨by rw [List.length_reverse]; exact hz, _, 0, r.reverse, Heap.get?_push_size _ rfl⟩
  · obtain ⟨its, r, ht, hz⟩ := J5.tuple hx
    have hlen := r.length
    cases pl
    cases pu
    refine tail_any (ops := [.ref a, .ref t4.heap.objs.size]) ht.typeIs (PyProof.Rows.slot_tuple_getitem.lookup) ?_ (by with_unfolding_all rfl)
    refine HT.getItem_tuple_rev ht (Heap.IsSliceOf.new _ .none .none vs) ps ?_ (by rw [List.size_toArray]; omega)
    refine ⟨.ref _, _, J5.laid (t' := t4.toks) (o := .tup xs.reverse) (fun b ob q => Heap.get?_push_of_some _ q) (Nat.le_refl _) ?_, rfl, q _ (J5.hok.fresh (Nat.le_refl _))⟩
    exact ⟨by rw [List.length_reverse]; exact hz, _, by simpa using r.reverse, IsTup.new _ _⟩
def rev2D : D → Option EV
  | .lst xs => some (.own (.lst xs.reverse))
  | .tup xs => some (.val (.tup xs.reverse))
  | _ => none
def mRev2 (m : M EV) : M EV := op1 rev2D m
theorem val1_rev2 (hK : C.K = X.K) : Val1 C rev2D (fun x H Q => ∃ a xs, x = .ref a ∧ ((SqL X.K H a xs ∧ ∀ p, H p = none → Q (.ref p) (upd H p (.lst xs.reverse))) ∨ (SqT X.K H a xs ∧ ∀ p, H p = none → Q (.ref p) (upd H p (.tup xs.reverse))))) := by
  intro v0 A0 A r0 r σ H0 H d x ev Q p s hx hf k
  unfold rev2D at hf
  split at hf
  · cases hf
    obtain ⟨a, vs, rfl, ha, t⟩ := hx.lst
    refine ⟨a, vs, rfl, .inl ⟨.of ha, fun q hq => ?_⟩⟩
    obtain ⟨p3, s3, e3⟩ := lay_own (d := .lst _) (o := .lst vs.reverse) p s hq ⟨_, upd_same, (RelL.rev t).carry (carry_lay hq)⟩
    exact k A _ _ p3 s3 e3
  · cases hf
    obtain ⟨a, vs, rfl, ha, t⟩ := hx.tup
    refine ⟨a, vs, rfl, .inr ⟨by rw [← hK]; exact ha, fun q hq => ?_⟩⟩
    obtain ⟨p3, s3, e3⟩ := lay_tup p hq (RelL.rev t)
    exact k A _ _ p3 (s.trans s3) e3
  · cases hf
theorem pm_rev2 {v0 : List V} {W : WX} {m : M EV} (hK : C.K = X.K) (he : PE X e (tE C v0 W m)) : PE X (.Subscript e (.Slice none none (some (.UnaryOp .USub (.Constant (.int 1) k p1) p2)) p3) pos) (tE C v0 W (mRev2 m)) :=
  PE.imp (pe_rev2 he) fun σ H Q h => tUn_of (val1_rev2 (X := X) hK) h
end
end Mi
end
section
set_option maxRecDepth 100000
set_option maxHeartbeats 2000000
namespace Mi
open PySem PySem.Spec L2
open PyProof.Rows hiding St

/-! ### the plain side: what an expression, a statement comes to -/
section
variable {r r' r2 : List SV} {i : Nat} {d e : D} {ev ea eb : EV} {ma mb m : M EV} {f : D → D → Option EV}
theorem ev_val (h : r[i]? = some (.val d)) : mVar i r = .ok (.val d) r := by unfold mVar; rw [h]
theorem ev_box (h : r[i]? = some (.box d)) : mVar i r = .ok (.bx i) r := by unfold mVar; rw [h]
theorem ev_pbx (h : r[i]? = some (.pbx d)) : mVar i r = .ok (.bx i) r := by unfold mVar; rw [h]
theorem ev_c : mC d r = .ok (.val d) r := rfl
theorem ev_op2 (ha : ma r = .ok ea r') (hb : mb r' = .ok eb r2) (la : look r2 ea = some d) (lb : look r2 eb = some e) (hf : f d e = some ev) : op2 f ma mb r = .ok ev r2 := by
  unfold op2 bnd
  rw [ha]; dsimp only; rw [hb]; dsimp only; rw [la, lb]; dsimp only; rw [hf]
theorem ev_op1 {f : D → Option EV} (ha : ma r = .ok ea r') (la : look r' ea = some d) (hf : f d = some ev) : op1 f ma r = .ok ev r' := by
  unfold op1 bnd
  rw [ha]; dsimp only; rw [la]; dsimp only; rw [hf]
theorem ev_nil : mNil r = .ok [] r := rfl
theorem ev_cons {ms : M (List EV)} {evs : List EV} (ha : m r = .ok ev r') (hb : ms r' = .ok evs r2) : mCons m ms r = .ok (ev :: evs) r2 := by
  unfold mCons bnd
  rw [ha]; dsimp only; rw [hb] <;> rfl
theorem ev_B {fn : List D → Option EV} {ms : M (List EV)} {evs : List EV} {ds : List D} (ha : ms r = .ok evs r') (hl : looks r' evs = some ds) (hf : fn ds = some ev) : mB fn ms r = .ok ev r' := by
  unfold mB bnd bF
  rw [ha]; dsimp only; rw [hl]; dsimp only; rw [hf]
theorem ev_tst {b : Bool} (ha : m r = .ok ev r') (hl : look r' ev = some (.bl b)) : mTst m r = .ok b r' := by
  unfold mTst bnd asB
  rw [ha]; dsimp only; rw [hl]
theorem ev_tru {b : Bool} (ha : m r = .ok ev r') (hl : look r' ev = some d) (ht : truD d = some b) : mTru m r = .ok b r' := by
  unfold mTru bnd
  rw [ha]; dsimp only; rw [hl]; dsimp only; rw [ht]
theorem ev_seq {a b : M Fl} {x : R Fl} (ha : a r = .ok .nx r') (hb : b r' = x) : mSeq a b r = x := by
  unfold mSeq bnd
  rw [ha]; exact hb
theorem ev_seq_rt {a b : M Fl} (ha : a r = .ok (.rt ev) r') : mSeq a b r = .ok (.rt ev) r' := by
  unfold mSeq bnd
  rw [ha] <;> rfl
theorem ev_if {c : M Bool} {a b : M Fl} {x : Bool} {y : R Fl} (hc : c r = .ok x r') (h : (if x = true then a r' else b r') = y) : mIf c a b r = y := by
  unfold mIf bnd
  rw [hc]; dsimp only
  cases x with
  | true => rw [if_pos rfl] at h ⊢; exact h
  | false => rw [if_neg Bool.false_ne_true] at h ⊢; exact h
theorem ev_pass : mPass r = .ok .nx r := rfl
theorem ev_ret (h : m r = .ok ev r') : mRet m r = .ok (.rt ev) r' := by
  unfold mRet bnd
  rw [h] <;> rfl
theorem ev_and {a b : M Bool} {x y : Bool} (ha : a r = .ok x r') (hb : x = true → b r' = .ok y r2) (hx : x = false → y = false ∧ r2 = r') : mAnd a b r = .ok y r2 := by
  unfold mAnd bnd
  rw [ha]; dsimp only
  cases x with
  | true => rw [if_pos rfl]; exact hb rfl
  | false => obtain ⟨rfl, rfl⟩ := hx rfl; rfl
theorem ev_asg {b : Bool} (h : m r = .ok (.val d) r') : mAsg i b m r = .ok .nx (r'.set i (.val d)) := by
  unfold mAsg bnd
  rw [h]
  cases b <;> rfl
theorem ev_put {mk : M EV} {ek : EV} {x : SV} {c c' k : D} (h1 : m r = .ok ev r') (h2 : r'[i]? = some x) (h3 : bxD x = some c) (h4 : mk r' = .ok ek r2) (h5 : look r2 ek = some k) {r3 : List SV} (h6 : toV ev r2 = some (d, r3)) {x3 : SV} {c3 : D} (h7 : r3[i]? = some x3) (h8 : bxD x3 = some c3) (h9 : putD c3 k d = some c') :
    mPut i mk m r = .ok .nx (r3.set i (x3.put c')) := by
  unfold mPut bnd
  rw [h1]; dsimp only
  unfold ifB
  rw [h2]; dsimp only; rw [h3]; dsimp only
  rw [h4]; dsimp only
  unfold putF
  rw [h5]; dsimp only; rw [h6]; dsimp only; rw [h7]; dsimp only; rw [h8]; dsimp only; rw [h9]
end
/-! ### a law's pen -/
def penL (cs : List Int) (a g c f : Int) : List (Key × D) := [(.inr "cells", .lst (cs.map .int)), (.inr "at", .int a), (.inr "digits", .int g), (.inr "count", .int c), (.inr "fold", .int f)]
def penD (cs : List Int) (a g c f : Int) : D := .dK (penL cs a g c f)
section
variable {cs : List Int} {a g c f : Int}
theorem pen_cells : gK (penL cs a g c f) (.inr "cells") = some (.lst (cs.map .int)) := by rfl
theorem pen_at : gK (penL cs a g c f) (.inr "at") = some (.int a) := by rfl
theorem pen_digits : gK (penL cs a g c f) (.inr "digits") = some (.int g) := by rfl
theorem pen_count : gK (penL cs a g c f) (.inr "count") = some (.int c) := by rfl
theorem pen_fold : gK (penL cs a g c f) (.inr "fold") = some (.int f) := by rfl
theorem put_at (x : Int) : pK (penL cs a g c f) (.inr "at") (.int x) = penL cs x g c f := by rfl
theorem put_digits (x : Int) : pK (penL cs a g c f) (.inr "digits") (.int x) = penL cs a x c f := by rfl
theorem put_count (x : Int) : pK (penL cs a g c f) (.inr "count") (.int x) = penL cs a g x f := by rfl
theorem put_fold (x : Int) : pK (penL cs a g c f) (.inr "fold") (.int x) = penL cs a g c x := by rfl
end
/-! ### operations on numbers -/
theorem bEq_int (i j : Int) : bEq (.int i) (.int j) = some (.val (.bl (i == j))) := by rfl
theorem bNe_int (i j : Int) : bNe (.int i) (.int j) = some (.val (.bl (!(i == j)))) := by rfl
theorem bMul_int {i j : Int} (h : okMul i j = true) : bMul (.int i) (.int j) = some (.val (.int (i * j))) := by unfold bMul; dsimp only; rw [if_pos h]
theorem bDiv_int {i j : Int} (h : okDiv j = true) : bDiv (.int i) (.int j) = some (.val (.int (i.fdiv j))) := by unfold bDiv; dsimp only; rw [if_pos h]
theorem bMod_int {i j : Int} (h : j ≠ 0) : bMod (.int i) (.int j) = some (.val (.int (i.fmod j))) := by unfold bMod; dsimp only; rw [if_pos h]
theorem bPow_int {i j : Int} (h : okPow i j = true) : bPow (.int i) (.int j) = some (.val (.int (i ^ j.toNat))) := by unfold bPow; dsimp only; rw [if_pos h]
theorem log2_lt {n : Nat} {k : Nat} (h : n < 2 ^ k) (hk : 0 < k) : n.log2 < k := by
  by_cases h0 : n = 0
  · subst h0; simpa using hk
  · exact (Nat.log2_lt h0).mpr h
theorem okMul_small {i j : Int} (hi : i.natAbs < 2 ^ 64) (hj : j.natAbs < 2 ^ 64) : okMul i j = true := by
  unfold okMul
  have h1 := log2_lt hi (by decide)
  have h2 := log2_lt hj (by decide)
  exact decide_eq_true (by omega)
theorem at1_map {α : Type} {f : Int → α} {cs : List Int} {a : Int} (h0 : 0 ≤ a) (h : a < cs.length) : at1 (cs.map f) a = some (f (cs[a.toNat]'(by omega))) := by
  unfold at1 ixN
  rw [if_pos h0, if_pos (by rw [List.length_map]; exact h)]
  show (cs.map f)[a.toNat]? = _
  rw [List.getElem?_map, List.getElem?_eq_getElem (by omega)] <;> rfl
/-- the text of _law_draw, its numbers open -/
def genDraw (K1 M1 K2 c0 pw M2 dv : Int) : M Fl := (mSeq (mPut 0 (mC (.str "count")) (op2 bAdd (op2 bIx (mVar 0) (mC (.str "count"))) (mC (.int 1))))
  (mSeq (mIf (mAnd (mTst (op2 bEq (op2 bIx (mVar 0) (mC (.str "digits"))) (mC (.int 0)))) (mTst (op2 bLt (op2 bIx (mVar 0) (mC (.str "at"))) (mB fLen (mCons (op2 bIx (mVar 0) (mC (.str "cells"))) mNil))))) (mSeq (mAsg 3 false (op2 bIx (op2 bIx (mVar 0) (mC (.str "cells"))) (op2 bIx (mVar 0) (mC (.str "at")))))
  (mSeq (mPut 0 (mC (.str "at")) (op2 bAdd (op2 bIx (mVar 0) (mC (.str "at"))) (mC (.int 1))))
  (mIf (mTst (op2 bGe (mVar 3) (op2 bPow (mC (.int 10)) (mC (.int 18))))) (mPut 0 (mC (.str "digits")) (op2 bSub (mVar 3) (op2 bPow (mC (.int 10)) (mC (.int 18))))) (mPut 0 (mC (.str "fold")) (op2 bMod (mB fInt (mCons (op2 bAdd (op2 bMul (op2 bIx (mVar 0) (mC (.str "fold"))) (mC (.int K1))) (mVar 3)) mNil)) (mC (.int M1))))))) mPass)
  (mSeq (mIf (mTst (op2 bGt (op2 bIx (mVar 0) (mC (.str "digits"))) (mC (.int 0)))) (mSeq (mAsg 4 false (op2 bMod (mB fInt (mCons (op2 bIx (mVar 0) (mC (.str "digits"))) mNil)) (mVar 1)))
  (mSeq (mPut 0 (mC (.str "digits")) (op2 bDiv (op2 bIx (mVar 0) (mC (.str "digits"))) (mVar 1)))
  (mRet (mVar 4)))) mPass)
  (mSeq (mAsg 2 false (op2 bAdd (op2 bAdd (op2 bIx (mVar 0) (mC (.str "fold"))) (op2 bMul (op2 bIx (mVar 0) (mC (.str "count"))) (mC (.int K2)))) (mC (.int c0))))
  (mRet (op2 bMod (op2 bDiv (mB fInt (mCons (op2 bMod (op2 bPow (mVar 2) (mC (.int pw))) (mC (.int M2))) mNil)) (mC (.int dv))) (mVar 1)))))))
section
variable {cs : List Int} {a g c f many : Int} {x2 x3 x4 y : SV}
theorem rd_pen {s : Str} {d : D} (h : gK (penL cs a g c f) (.inr s) = some d) {l : List SV} : op2 bIx (mVar 0) (mC (.str s)) (.pbx (penD cs a g c f) :: l) = .ok (.val d) (.pbx (penD cs a g c f) :: l) := by
  refine ev_op2 (ev_pbx rfl) ev_c rfl rfl ?_
  show (match dGet (.dK (penL cs a g c f)) (.str s) with
    | some (some d) => some (EV.val d)
    | _ => none) = _
  unfold dGet keyD
  dsimp only
  rw [h]
theorem wr_pen {s : Str} {x : Int} {m : M EV} {l l' : List SV} {a2 g2 c2 f2 : Int} (hm : m (.pbx (penD cs a g c f) :: l) = .ok (.val (.int x)) (.pbx (penD cs a g c f) :: l')) (hp : pK (penL cs a g c f) (.inr s) (.int x) = penL cs a2 g2 c2 f2) : mPut 0 (mC (.str s)) m (.pbx (penD cs a g c f) :: l) = .ok .nx (.pbx (penD cs a2 g2 c2 f2) :: l') := by
  refine ev_put (x := .pbx (penD cs a g c f)) (c := penD cs a g c f) hm rfl rfl ev_c rfl rfl (x3 := .pbx (penD cs a g c f)) (c3 := penD cs a g c f) rfl rfl (c' := penD cs a2 g2 c2 f2) ?_
  show (if (penL cs a g c f).length < sizeLine then some (D.dK (pK (penL cs a g c f) (.inr s) (.int x))) else none) = some (penD cs a2 g2 c2 f2)
  rw [if_pos (by rw [sizeLine_eq]; exact (by decide : 5 < 16777216)), hp]
  rfl
theorem draw_ok {K1 M1 K2 c0 pw M2 dv : Int} (hM1 : 0 < M1 ∧ M1 ≤ 2 ^ 31) (hK1 : 0 ≤ K1 ∧ K1 < 2 ^ 31) (hK2 : 0 ≤ K2 ∧ K2 < 2 ^ 20) (hc0 : 0 ≤ c0 ∧ c0 < 2 ^ 20) (hpw : 0 ≤ pw ∧ pw ≤ 1000) (hM2 : M2 ≠ 0) (hdv : okDiv dv = true) (hmany : 0 < many) (hm2 : okDiv many = true)
    (ha : 0 ≤ a) (hc : 0 ≤ c ∧ c < 2 ^ 40) (hf : 0 ≤ f ∧ f < 2 ^ 31) :
    ∃ k a' g' f', defF 3 (genDraw K1 M1 K2 c0 pw M2 dv) [.pbx (penD cs a g c f), .val (.int many)] = .ok (.val (.int k)) [.pbx (penD cs a' g' (c + 1) f'), .val (.int many)] ∧ 0 ≤ k ∧ k < many ∧ 0 ≤ a' ∧ 0 ≤ f' ∧ f' < 2 ^ 31 := by
  have s1 : mPut 0 (mC (.str "count")) (op2 bAdd (op2 bIx (mVar 0) (mC (.str "count"))) (mC (.int 1))) [.pbx (penD cs a g c f), .val (.int many), .un, .un, .un] = .ok .nx [.pbx (penD cs a g (c + 1) f), .val (.int many), .un, .un, .un] :=
    wr_pen (ev_op2 (rd_pen pen_count) ev_c rfl rfl rfl) (put_count _)
  -- the part that reads a cell
  have s2 : ∃ a' g' f' x3, (mIf (mAnd (mTst (op2 bEq (op2 bIx (mVar 0) (mC (.str "digits"))) (mC (.int 0)))) (mTst (op2 bLt (op2 bIx (mVar 0) (mC (.str "at"))) (mB fLen (mCons (op2 bIx (mVar 0) (mC (.str "cells"))) mNil))))) (mSeq (mAsg 3 false (op2 bIx (op2 bIx (mVar 0) (mC (.str "cells"))) (op2 bIx (mVar 0) (mC (.str "at")))))
      (mSeq (mPut 0 (mC (.str "at")) (op2 bAdd (op2 bIx (mVar 0) (mC (.str "at"))) (mC (.int 1))))
      (mIf (mTst (op2 bGe (mVar 3) (op2 bPow (mC (.int 10)) (mC (.int 18))))) (mPut 0 (mC (.str "digits")) (op2 bSub (mVar 3) (op2 bPow (mC (.int 10)) (mC (.int 18))))) (mPut 0 (mC (.str "fold")) (op2 bMod (mB fInt (mCons (op2 bAdd (op2 bMul (op2 bIx (mVar 0) (mC (.str "fold"))) (mC (.int K1))) (mVar 3)) mNil)) (mC (.int M1))))))) mPass) [.pbx (penD cs a g (c + 1) f), .val (.int many), .un, .un, .un] =
      .ok .nx [.pbx (penD cs a' g' (c + 1) f'), .val (.int many), .un, x3, .un] ∧ 0 ≤ a' ∧ 0 ≤ f' ∧ f' < 2 ^ 31 := by
    have t1 : mTst (op2 bEq (op2 bIx (mVar 0) (mC (.str "digits"))) (mC (.int 0))) [.pbx (penD cs a g (c + 1) f), .val (.int many), .un, .un, .un] = .ok (g == 0) [.pbx (penD cs a g (c + 1) f), .val (.int many), .un, .un, .un] :=
      ev_tst (ev_op2 (rd_pen pen_digits) ev_c rfl rfl (bEq_int _ _)) rfl
    have t2 : mTst (op2 bLt (op2 bIx (mVar 0) (mC (.str "at"))) (mB fLen (mCons (op2 bIx (mVar 0) (mC (.str "cells"))) mNil))) [.pbx (penD cs a g (c + 1) f), .val (.int many), .un, .un, .un] = .ok (decide (a < ((cs.map D.int).length : Int))) [.pbx (penD cs a g (c + 1) f), .val (.int many), .un, .un, .un] :=
      ev_tst (ev_op2 (rd_pen pen_at) (ev_B (ev_cons (rd_pen pen_cells) ev_nil) rfl rfl) rfl rfl rfl) rfl
    by_cases h1 : g = 0
    · by_cases h2 : a < cs.length
      · have t3 : mAsg 3 false (op2 bIx (op2 bIx (mVar 0) (mC (.str "cells"))) (op2 bIx (mVar 0) (mC (.str "at")))) [.pbx (penD cs a g (c + 1) f), .val (.int many), .un, .un, .un] = .ok .nx [.pbx (penD cs a g (c + 1) f), .val (.int many), .un, .val (.int (cs[a.toNat]'(by omega))), .un] :=
          ev_asg (ev_op2 (rd_pen pen_cells) (rd_pen pen_at) rfl rfl (by unfold bIx; dsimp only; rw [at1_map ha h2]; rfl))
        generalize hcell : cs[a.toNat]'(by omega) = cell at t3
        have t4 : mPut 0 (mC (.str "at")) (op2 bAdd (op2 bIx (mVar 0) (mC (.str "at"))) (mC (.int 1))) [.pbx (penD cs a g (c + 1) f), .val (.int many), .un, .val (.int cell), .un] = .ok .nx [.pbx (penD cs (a + 1) g (c + 1) f), .val (.int many), .un, .val (.int cell), .un] :=
          wr_pen (ev_op2 (rd_pen pen_at) ev_c rfl rfl rfl) (put_at _)
        have t5 : mTst (op2 bGe (mVar 3) (op2 bPow (mC (.int 10)) (mC (.int 18)))) [.pbx (penD cs (a + 1) g (c + 1) f), .val (.int many), .un, .val (.int cell), .un] = .ok (decide ((10 : Int) ^ 18 ≤ cell)) [.pbx (penD cs (a + 1) g (c + 1) f), .val (.int many), .un, .val (.int cell), .un] :=
          ev_tst (ev_op2 (ev_val rfl) (ev_op2 ev_c ev_c rfl rfl (bPow_int (by decide))) rfl rfl rfl) rfl
        by_cases h3 : (10 : Int) ^ 18 ≤ cell
        · refine ⟨a + 1, cell - 10 ^ 18, f, .val (.int cell), ev_if (x := true) (ev_and t1 (fun _ => (t2.trans (by rw [List.length_map, decide_eq_true h2]))) (fun e => by rw [h1] at e; cases e)) ?_, by omega, hf.1, hf.2⟩
          rw [if_pos rfl]
          refine ev_seq t3 (ev_seq t4 (ev_if t5 ?_))
          rw [decide_eq_true h3, if_pos rfl]
          exact wr_pen (ev_op2 (ev_val rfl) (ev_op2 ev_c ev_c rfl rfl (bPow_int (by decide))) rfl rfl rfl) (put_digits _)
        · refine ⟨a + 1, g, (f * K1 + cell).fmod M1, .val (.int cell), ev_if (x := true) (ev_and t1 (fun _ => (t2.trans (by rw [List.length_map, decide_eq_true h2]))) (fun e => by rw [h1] at e; cases e)) ?_, by omega, Int.fmod_nonneg_of_pos _ hM1.1, ?_⟩
          · rw [if_pos rfl]
            refine ev_seq t3 (ev_seq t4 (ev_if t5 ?_))
            rw [decide_eq_false h3, if_neg Bool.false_ne_true]
            refine wr_pen (ev_op2 (ev_B (ev_cons (ev_op2 (ev_op2 (rd_pen pen_fold) ev_c rfl rfl (bMul_int (okMul_small ?_ ?_))) (ev_val rfl) rfl rfl rfl) ev_nil) rfl rfl) ev_c rfl rfl (bMod_int (by omega))) (put_fold _)
            · omega
            · omega
          · have := Int.fmod_lt_of_pos (f * K1 + cell) hM1.1
            omega
      · refine ⟨a, g, f, .un, ev_if (x := false) (ev_and t1 (fun _ => (t2.trans (by rw [List.length_map, decide_eq_false h2]))) (fun e => ⟨rfl, rfl⟩)) ?_, ha, hf.1, hf.2⟩
        rw [if_neg Bool.false_ne_true]; rfl
    · refine ⟨a, g, f, .un, ev_if (x := false) (ev_and (y := false) (r2 := [.pbx (penD cs a g (c + 1) f), .val (.int many), .un, .un, .un]) t1 (fun e => absurd (by simpa using e) h1) (fun e => ⟨rfl, rfl⟩)) ?_, ha, hf.1, hf.2⟩
      rw [if_neg Bool.false_ne_true]; rfl
  obtain ⟨a', g', f', x3, s2, ha', hf1, hf2⟩ := s2
  have t6 : mTst (op2 bGt (op2 bIx (mVar 0) (mC (.str "digits"))) (mC (.int 0))) [.pbx (penD cs a' g' (c + 1) f'), .val (.int many), .un, x3, .un] = .ok (decide (0 < g')) [.pbx (penD cs a' g' (c + 1) f'), .val (.int many), .un, x3, .un] :=
    ev_tst (ev_op2 (rd_pen pen_digits) ev_c rfl rfl rfl) rfl
  by_cases h4 : 0 < g'
  · refine ⟨g'.fmod many, a', g'.fdiv many, f', ?_, Int.fmod_nonneg_of_pos _ hmany, Int.fmod_lt_of_pos _ hmany, ha', hf1, hf2⟩
    have t7 : genDraw K1 M1 K2 c0 pw M2 dv [.pbx (penD cs a g c f), .val (.int many), .un, .un, .un] = .ok (.rt (.val (.int (g'.fmod many)))) [.pbx (penD cs a' (g'.fdiv many) (c + 1) f'), .val (.int many), .un, x3, .val (.int (g'.fmod many))] := by
      refine ev_seq s1 (ev_seq s2 (ev_seq_rt (ev_if t6 ?_)))
      rw [decide_eq_true h4, if_pos rfl]
      refine ev_seq (ev_asg (ev_op2 (ev_B (ev_cons (rd_pen pen_digits) ev_nil) rfl rfl) (ev_val rfl) rfl rfl (bMod_int (by omega)))) (ev_seq (wr_pen (ev_op2 (rd_pen pen_digits) (ev_val rfl) rfl rfl (bDiv_int hm2)) (put_digits _)) (ev_ret (ev_val rfl)))
    unfold defF
    show fin _ (genDraw K1 M1 K2 c0 pw M2 dv [.pbx (penD cs a g c f), .val (.int many), .un, .un, .un]) = _
    rw [t7]
    rfl
  · generalize hb : f' + (c + 1) * K2 + c0 = bl
    have hbl : 0 ≤ bl ∧ bl < 2 ^ 63 := by
      have h5 : 0 ≤ (c + 1) * K2 := Int.mul_nonneg (by omega) hK2.1
      have h6 : (c + 1) * K2 ≤ 2 ^ 40 * 2 ^ 20 := Int.mul_le_mul (by omega) (by omega) hK2.1 (by omega)
      omega
    refine ⟨(((bl ^ pw.toNat).fmod M2).fdiv dv).fmod many, a', g', f', ?_, Int.fmod_nonneg_of_pos _ hmany, Int.fmod_lt_of_pos _ hmany, ha', hf1, hf2⟩
    have t7 : genDraw K1 M1 K2 c0 pw M2 dv [.pbx (penD cs a g c f), .val (.int many), .un, .un, .un] = .ok (.rt (.val (.int ((((bl ^ pw.toNat).fmod M2).fdiv dv).fmod many)))) [.pbx (penD cs a' g' (c + 1) f'), .val (.int many), .val (.int bl), x3, .un] := by
      refine ev_seq s1 (ev_seq s2 (ev_seq (r' := [.pbx (penD cs a' g' (c + 1) f'), .val (.int many), .un, x3, .un]) (ev_if t6 ?_) ?_))
      · rw [decide_eq_false h4, if_neg Bool.false_ne_true]; rfl
      · refine ev_seq (ev_asg (d := .int bl) (ev_op2 (ev_op2 (rd_pen pen_fold) (ev_op2 (rd_pen pen_count) ev_c rfl rfl (bMul_int (okMul_small ?_ ?_))) rfl rfl rfl) ev_c rfl rfl (by rw [← hb]; rfl))) (ev_ret ?_)
        · omega
        · omega
        · refine ev_op2 (ev_op2 (ev_B (ev_cons (ev_op2 (ev_op2 (ev_val rfl) ev_c rfl rfl (bPow_int ?_)) ev_c rfl rfl (bMod_int hM2)) ev_nil) rfl rfl) ev_c rfl rfl (bDiv_int hdv)) (ev_val rfl) rfl rfl (bMod_int (by omega))
          unfold okPow
          exact decide_eq_true (by omega)
    unfold defF
    show fin _ (genDraw K1 M1 K2 c0 pw M2 dv [.pbx (penD cs a g c f), .val (.int many), .un, .un, .un]) = _
    rw [t7]
    rfl
end
end Mi
end
section
set_option maxRecDepth 100000
set_option maxHeartbeats 2000000
namespace Mi
open PySem PySem.Spec L2
open PyProof.Rows hiding St

/-! ### what holds behind a text: the rule of each way of building one -/
def wp {α : Type} (m : M α) (P : α → List SV → Prop) (r : List SV) : Prop := match m r with
  | .ok a r' => P a r'
  | _ => False
def sm {α : Type} : Option α → (α → Prop) → Prop
  | some a, p => p a
  | none, _ => False
theorem sm_some {α : Type} {a : α} {p : α → Prop} : sm (some a) p = p a := rfl
theorem sm_none {α : Type} {p : α → Prop} : sm (none : Option α) p = False := rfl
theorem sm_ite {α : Type} {c : Prop} [Decidable c] {a : α} {p : α → Prop} : sm (if c then some a else none) p = (c ∧ p a) := by
  by_cases h : c
  · rw [if_pos h]; exact propext ⟨fun x => ⟨h, x⟩, fun x => x.2⟩
  · rw [if_neg h]; exact propext ⟨fun x => x.elim, fun x => h x.1⟩
theorem sm_map {α β : Type} {o : Option α} {f : α → β} {p : β → Prop} : sm (o.map f) p = sm o fun a => p (f a) := by cases o <;> rfl
theorem wp_ok {α : Type} {m : M α} {P : α → List SV → Prop} {r : List SV} (h : wp m P r) : ∃ a r', m r = .ok a r' ∧ P a r' := by
  unfold wp at h
  cases e : m r with
  | ok a r' => rw [e] at h; exact ⟨a, r', rfl, h⟩
  | exc c fs r' => rw [e] at h; exact h.elim
  | no => rw [e] at h; exact h.elim
theorem wp_of {α : Type} {m : M α} {P : α → List SV → Prop} {r r' : List SV} {a : α} (e : m r = .ok a r') (h : P a r') : wp m P r := by unfold wp; rw [e]; exact h
theorem wp_mono {α : Type} {m : M α} {P Q : α → List SV → Prop} {r : List SV} (h : wp m P r) (k : ∀ a r', P a r' → Q a r') : wp m Q r := by
  obtain ⟨a, r', e, p⟩ := wp_ok h
  exact wp_of e (k _ _ p)
section
variable {α β : Type} {r : List SV} {ma mb m : M EV} {ms : M (List EV)} {i : Nat}
theorem wp_bnd {x : M α} {f : α → M β} {P : β → List SV → Prop} : wp (bnd x f) P r = wp x (fun a r' => wp (f a) P r') r := by
  unfold wp bnd
  cases x r <;> rfl
theorem wp_rt {a : α} {P : α → List SV → Prop} : wp (rt a) P r = P a r := rfl
theorem wp_mC {d : D} {P : EV → List SV → Prop} : wp (mC d) P r = P (.val d) r := rfl
theorem wp_mVar {P : EV → List SV → Prop} : wp (mVar i) P r = sm r[i]? fun x => match x with
    | .val d => P (.val d) r
    | .box _ => P (.bx i) r
    | .pbx _ => P (.bx i) r
    | .un => False := by
  unfold wp mVar
  match r[i]? with
  | none => rfl
  | some .un => rfl
  | some (.val d) => rfl
  | some (.box d) => rfl
  | some (.pbx d) => rfl
theorem wp_mNil {P : List EV → List SV → Prop} : wp mNil P r = P [] r := rfl
theorem wp_mCons {P : List EV → List SV → Prop} : wp (mCons m ms) P r = wp m (fun ev r1 => wp ms (fun evs r2 => P (ev :: evs) r2) r1) r := by
  unfold mCons; rw [wp_bnd]; simp only [wp_bnd, wp_rt]
theorem wp_op1 {f : D → Option EV} {P : EV → List SV → Prop} : wp (op1 f m) P r = wp m (fun ev r1 => sm (look r1 ev) fun d => sm (f d) fun y => P y r1) r := by
  unfold op1; rw [wp_bnd]; congr; funext ev r1
  unfold wp
  try dsimp only
  cases look r1 ev with
  | none => rfl
  | some d =>
    dsimp only [sm]
    cases f d <;> rfl
theorem wp_op2 {f : D → D → Option EV} {P : EV → List SV → Prop} : wp (op2 f ma mb) P r = wp ma (fun ea r1 => wp mb (fun eb r2 => sm (look r2 ea) fun d => sm (look r2 eb) fun e => sm (f d e) fun y => P y r2) r1) r := by
  unfold op2; rw [wp_bnd]; congr; funext ea r1; rw [wp_bnd]; congr; funext eb r2
  unfold wp
  try dsimp only
  cases look r2 ea with
  | none => rfl
  | some d =>
    cases look r2 eb with
    | none => rfl
    | some e =>
      dsimp only [sm]
      cases f d e <;> rfl
theorem wp_mTst {P : Bool → List SV → Prop} : wp (mTst m) P r = wp m (fun ev r1 => sm (look r1 ev) fun d => match d with
    | .bl b => P b r1
    | _ => False) r := by
  unfold mTst; rw [wp_bnd]; congr; funext ev r1
  unfold wp asB
  cases look r1 ev with
  | none => rfl
  | some d => cases d <;> rfl
theorem wp_mTru {P : Bool → List SV → Prop} : wp (mTru m) P r = wp m (fun ev r1 => sm (look r1 ev) fun d => sm (truD d) fun b => P b r1) r := by
  unfold mTru; rw [wp_bnd]; congr; funext ev r1
  unfold wp
  try dsimp only
  cases look r1 ev with
  | none => rfl
  | some d =>
    dsimp only [sm]
    cases truD d <;> rfl
theorem wp_mAnd {a b : M Bool} {P : Bool → List SV → Prop} : wp (mAnd a b) P r = wp a (fun x r1 => if x = true then wp b P r1 else P false r1) r := by
  unfold mAnd; rw [wp_bnd]; congr; funext x r1; cases x <;> rfl
theorem wp_mOr {a b : M Bool} {P : Bool → List SV → Prop} : wp (mOr a b) P r = wp a (fun x r1 => if x = true then P true r1 else wp b P r1) r := by
  unfold mOr; rw [wp_bnd]; congr; funext x r1; cases x <;> rfl
theorem wp_mNot {a : M Bool} {P : Bool → List SV → Prop} : wp (mNot a) P r = wp a (fun x r1 => P (!x) r1) r := by
  unfold mNot; rw [wp_bnd]; rfl
theorem wp_mBl {a : M Bool} {P : EV → List SV → Prop} : wp (mBl a) P r = wp a (fun x r1 => P (.val (.bl x)) r1) r := by
  unfold mBl; rw [wp_bnd]; rfl
theorem wp_mAndV {P : EV → List SV → Prop} : wp (mAndV ma mb) P r = wp (mTst ma) (fun x r1 => if x = true then wp mb P r1 else P (.val (.bl false)) r1) r := by
  unfold mAndV; rw [wp_bnd]; congr; funext x r1; cases x <;> rfl
theorem wp_mOrV {P : EV → List SV → Prop} : wp (mOrV ma mb) P r = wp (mTst ma) (fun x r1 => if x = true then P (.val (.bl true)) r1 else wp mb P r1) r := by
  unfold mOrV; rw [wp_bnd]; congr; funext x r1; cases x <;> rfl
theorem wp_mNotV {P : EV → List SV → Prop} : wp (mNotV ma) P r = wp (mTst ma) (fun x r1 => P (.val (.bl (!x))) r1) r := by
  unfold mNotV; rw [wp_bnd]; rfl
theorem wp_mIte {c : M Bool} {P : EV → List SV → Prop} : wp (mIte c ma mb) P r = wp c (fun x r1 => if x = true then wp ma P r1 else wp mb P r1) r := by
  unfold mIte; rw [wp_bnd]; congr; funext x r1; cases x <;> rfl
theorem wp_lk2 {f : D → D → Option EV} {ea eb : EV} {P : EV → List SV → Prop} : wp (lk2 f ea eb) P r = sm (look r ea) fun d => sm (look r eb) fun e => sm (f d e) fun y => P y r := by
  unfold wp lk2
  cases look r ea with
  | none => rfl
  | some d =>
    cases look r eb with
    | none => rfl
    | some e =>
      dsimp only [sm]
      cases f d e <;> rfl
theorem wp_mChain {f g : D → D → Option EV} {mc : M EV} {P : EV → List SV → Prop} : wp (mChain f g ma mb mc) P r = wp ma (fun ea r1 => wp mb (fun eb r2 => wp (mTst (lk2 f ea eb)) (fun x r3 => if x = true then wp mc (fun ec r4 => wp (lk2 g eb ec) P r4) r3 else P (.val (.bl false)) r3) r2) r1) r := by
  unfold mChain; rw [wp_bnd]; congr; funext ea r1; rw [wp_bnd]; congr; funext eb r2; rw [wp_bnd]; congr; funext x r3
  cases x with
  | true => rw [if_pos rfl, if_pos rfl, wp_bnd]
  | false => rfl
theorem wp_toVs {P : EV → List SV → Prop} {g : List D → EV} : wp (bnd ms fun evs r => match toVs evs r with
    | some (ds, r1) => .ok (g ds) r1
    | none => .no) P r = wp ms (fun evs r1 => sm (toVs evs r1) fun x => P (g x.1) x.2) r := by
  rw [wp_bnd]; congr; funext evs r1
  unfold wp
  try dsimp only
  cases toVs evs r1 <;> rfl
theorem wp_mTup {P : EV → List SV → Prop} : wp (mTup ms) P r = wp ms (fun evs r1 => sm (toVs evs r1) fun x => P (.val (.tup x.1)) x.2) r := wp_toVs
theorem wp_mLst {P : EV → List SV → Prop} : wp (mLst ms) P r = wp ms (fun evs r1 => sm (toVs evs r1) fun x => P (.own (.lst x.1)) x.2) r := wp_toVs
theorem wp_mB {f : List D → Option EV} {P : EV → List SV → Prop} : wp (mB f ms) P r = wp ms (fun evs r1 => sm (looks r1 evs) fun ds => sm (f ds) fun y => P y r1) r := by
  unfold mB; rw [wp_bnd]; congr; funext evs r1
  unfold wp bF
  cases looks r1 evs with
  | none => rfl
  | some ds =>
    dsimp only [sm]
    cases f ds <;> rfl
theorem wp_mDk {P : EV → List SV → Prop} : wp mDk P r = P (.own (.dK [])) r := rfl
theorem wp_mYes {P : Bool → List SV → Prop} : wp mYes P r = P true r := rfl
/-! statements -/
theorem wp_mPass {P : Fl → List SV → Prop} : wp mPass P r = P .nx r := rfl
theorem wp_mBreak {P : Fl → List SV → Prop} : wp mBreak P r = P .bk r := rfl
theorem wp_mCont {P : Fl → List SV → Prop} : wp mCont P r = P .ct r := rfl
/-- what is left behind a first statement -/
def nxt (P : Fl → List SV → Prop) (b : M Fl) : Fl → List SV → Prop
  | .nx, r => wp b P r
  | x, r => P x r
theorem wp_mSeq {a b : M Fl} {P : Fl → List SV → Prop} : wp (mSeq a b) P r = wp a (nxt P b) r := by
  unfold mSeq; rw [wp_bnd]; congr; funext x r1; cases x <;> rfl
theorem wp_mIf {c : M Bool} {a b : M Fl} {P : Fl → List SV → Prop} : wp (mIf c a b) P r = wp c (fun x r1 => if x = true then wp a P r1 else wp b P r1) r := by
  unfold mIf; rw [wp_bnd]; congr; funext x r1; cases x <;> rfl
theorem wp_mRet {P : Fl → List SV → Prop} : wp (mRet m) P r = wp m (fun ev r1 => P (.rt ev) r1) r := by
  unfold mRet; rw [wp_bnd]; rfl
theorem wp_mExpr {P : Fl → List SV → Prop} : wp (mExpr m) P r = wp m (fun ev r1 => P .nx r1) r := by
  unfold mExpr; rw [wp_bnd]; rfl
theorem wp_mAsg {b : Bool} {P : Fl → List SV → Prop} : wp (mAsg i b m) P r = wp m (fun ev r1 => match ev with
    | .own d => P .nx (r1.set i (if b = true then .box d else .val d))
    | .val d => P .nx (r1.set i (.val d))
    | .bx j => sm (toV (.bx j) r1) fun x => P .nx (x.2.set i (.val x.1))) r := by
  unfold mAsg; rw [wp_bnd]; congr; funext ev r1
  cases ev with
  | val d => rfl
  | own d => cases b <;> rfl
  | bx j =>
    unfold wp asg
    dsimp only
    cases toV (.bx j) r1 <;> rfl
theorem wp_mAsgT {T : Tgt} {P : Fl → List SV → Prop} : wp (mAsgT T m) P r = wp m (fun ev r1 => sm (toV ev r1) fun x => sm (T x.1 x.2) fun r2 => P .nx r2) r := by
  unfold mAsgT; rw [wp_bnd]; congr; funext ev r1
  unfold wp asgT
  cases toV ev r1 with
  | none => rfl
  | some x =>
    obtain ⟨d, r2⟩ := x
    dsimp only [sm]
    cases T d r2 <;> rfl
theorem wp_mPar {is : List Nat} {bs : List Bool} {P : Fl → List SV → Prop} : wp (mPar is bs ms) P r = wp ms (fun evs r1 => sm (frzs bs evs r1) fun x => sm (stor is x.1 x.2) fun r2 => P .nx r2) r := by
  unfold mPar; rw [wp_bnd]; congr; funext evs r1
  unfold wp parF
  cases frzs bs evs r1 with
  | none => rfl
  | some x =>
    obtain ⟨d, r2⟩ := x
    dsimp only [sm]
    cases stor is d r2 <;> rfl
theorem wp_mPut {mk : M EV} {P : Fl → List SV → Prop} : wp (mPut i mk m) P r = wp m (fun ev r1 => sm r1[i]? fun x => sm (bxD x) fun _ => wp mk (fun ek r2 => sm (look r2 ek) fun k => sm (toV ev r2) fun y => sm y.2[i]? fun x => sm (bxD x) fun c => sm (putD c k y.1) fun c' => P .nx (y.2.set i (x.put c'))) r1) r := by
  unfold mPut; rw [wp_bnd]; congr; funext ev r1
  unfold wp ifB
  cases r1[i]? with
  | none => rfl
  | some x =>
    dsimp only [sm]
    cases bxD x with
    | none => rfl
    | some c0 =>
      dsimp only [sm]
      unfold bnd
      cases mk r1 with
      | exc c fs l => rfl
      | no => rfl
      | ok ek r2 =>
        dsimp only
        unfold putF
        cases look r2 ek with
        | none => rfl
        | some k =>
          dsimp only [sm]
          cases toV ev r2 with
          | none => rfl
          | some y =>
            obtain ⟨d, r3⟩ := y
            dsimp only [sm]
            cases r3[i]? with
            | none => rfl
            | some x =>
              dsimp only [sm]
              cases bxD x with
              | none => rfl
              | some c =>
                dsimp only [sm]
                cases putD c k d <;> rfl
theorem wp_mApp {P : EV → List SV → Prop} : wp (mApp i (mCons m mNil)) P r = sm r[i]? fun x => sm (bxD x) fun c => isL c = true ∧ wp m (fun ev r1 => sm (toV ev r1) fun y => sm y.2[i]? fun x => sm (bxD x) fun c => sm (appD c y.1) fun c' => P (.val .none) (y.2.set i (x.put c'))) r := by
  unfold mApp
  unfold wp ifL
  cases r[i]? with
  | none => rfl
  | some x =>
    dsimp only [sm]
    cases bxD x with
    | none => rfl
    | some c0 =>
      dsimp only [sm]
      by_cases hl : isL c0 = true
      · rw [if_pos hl]
        refine Eq.trans ?_ (propext ⟨fun x => ⟨hl, x⟩, fun x => x.2⟩)
        unfold mCons mNil bnd rt
        cases m r with
        | exc c fs l => rfl
        | no => rfl
        | ok ev r2 =>
          dsimp only
          unfold mutF
          dsimp only
          cases toV ev r2 with
          | none => rfl
          | some y =>
            obtain ⟨d, r3⟩ := y
            dsimp only [sm]
            cases r3[i]? with
            | none => rfl
            | some x =>
              dsimp only [sm]
              cases bxD x with
              | none => rfl
              | some c =>
                dsimp only [sm]
                cases appD c d <;> rfl
      · rw [if_neg hl]
        exact propext ⟨fun x => x.elim, fun x => hl x.1⟩
/-! slices, methods, displays -/
theorem wp_mSl {lo hi : Option (M EV)} {P : EV → List SV → Prop} : wp (mSl m lo hi) P r = wp m (fun ev r1 => wp (mPart lo) (fun l r2 => wp (mPart hi) (fun h r3 => sm (look r3 ev) fun d => sm (bSl d l h) fun y => P y r3) r2) r1) r := by
  unfold mSl; rw [wp_bnd]; congr; funext ev r1; rw [wp_bnd]; congr; funext l r2; rw [wp_bnd]; congr; funext h r3
  unfold wp slF
  cases look r3 ev with
  | none => rfl
  | some d =>
    dsimp only [sm]
    cases bSl d l h <;> rfl
theorem wp_mPartN {P : Option Int → List SV → Prop} : wp (mPart none) P r = P none r := rfl
theorem wp_mPartS {P : Option Int → List SV → Prop} : wp (mPart (some m)) P r = wp m (fun ev r1 => sm (look r1 ev) fun d => match d with
    | .int i => P (some i) r1
    | _ => False) r := by
  show wp (bnd m _) P r = _
  rw [wp_bnd]; congr; funext ev r1
  unfold wp
  try dsimp only
  cases look r1 ev with
  | none => rfl
  | some d => cases d <;> rfl
theorem wp_mRev2 {P : EV → List SV → Prop} : wp (mRev2 m) P r = wp m (fun ev r1 => sm (look r1 ev) fun d => sm (rev2D d) fun y => P y r1) r := wp_op1
theorem wp_mMt {t : Ty} {f : D → List D → Option EV} {P : EV → List SV → Prop} : wp (mMt t f m ms) P r = wp m (fun eo r1 => sm (look r1 eo) fun d => tyD d = some t ∧ wp ms (fun evs r2 => sm (look r2 eo) fun d => sm (looks r2 evs) fun ds => sm (f d ds) fun y => P y r2) r1) r := by
  unfold mMt; rw [wp_bnd]; congr; funext eo r1
  unfold wp ifT
  cases look r1 eo with
  | none => rfl
  | some d =>
    dsimp only [sm]
    by_cases ht : tyD d = some t
    · rw [if_pos ht]
      refine Eq.trans ?_ (propext ⟨fun x => ⟨ht, x⟩, fun x => x.2⟩)
      unfold bnd
      cases ms r1 with
      | exc c fs l => rfl
      | no => rfl
      | ok evs r2 =>
        dsimp only
        unfold mtF
        cases look r2 eo with
        | none => rfl
        | some d =>
          cases looks r2 evs with
          | none => rfl
          | some ds =>
            dsimp only [sm]
            cases f d ds <;> rfl
    · rw [if_neg ht]
      exact propext ⟨fun x => x.elim, fun x => ht x.1⟩
/-! calls -/
/-- what a call of values leaves -/
def wpC (o : R EV) (P : EV → Prop) : Prop := match o with
  | .ok (.val d) _ => P (.val d)
  | .ok (.own d) _ => P (.own d)
  | _ => False
theorem wp_mCall {F : Fun1} {P : EV → List SV → Prop} : wp (mCall F ms) P r = wp ms (fun evs r1 => sm (toVs evs r1) fun x => wpC (F (x.1.map .val)) fun y => P y x.2) r := by
  unfold mCall; rw [wp_bnd]; congr; funext evs r1
  unfold wp callV
  cases toVs evs r1 with
  | none => rfl
  | some x =>
    obtain ⟨ds, r2⟩ := x
    dsimp only [sm]
    unfold wpC
    cases F (ds.map .val) with
    | exc c fs l => rfl
    | no => rfl
    | ok y l => cases y <;> rfl
theorem wpC_val {d : D} {l : List SV} {P : EV → Prop} : wpC (.ok (.val d) l) P = P (.val d) := rfl
theorem wpC_own {d : D} {l : List SV} {P : EV → Prop} : wpC (.ok (.own d) l) P = P (.own d) := rfl
theorem wp_mCallR {F : Fun1} {j : Nat} {P : EV → List SV → Prop} : wp (mCallR F j ms) P r = wp ms (fun evs r1 => wp (callR F j evs) P r1) r := by
  unfold mCallR; rw [wp_bnd]
/-! loops -/
theorem wp_mItV {P : List D → List SV → Prop} : wp (mItV m) P r = wp m (fun ev r1 => sm (toV ev r1) fun x => sm (items x.1) fun l => P l x.2) r := by
  unfold mItV; rw [wp_bnd]; congr; funext ev r1
  unfold wp
  try dsimp only
  cases toV ev r1 with
  | none => rfl
  | some x =>
    obtain ⟨d, r2⟩ := x
    dsimp only [sm]
    cases items d <;> rfl
theorem wp_mItF {f : List D → Option (List D)} {P : List D → List SV → Prop} : wp (mItF f ms) P r = wp ms (fun evs r1 => sm (toVs evs r1) fun x => sm (f x.1) fun l => P l x.2) r := by
  unfold mItF; rw [wp_bnd]; congr; funext ev r1
  unfold wp itF
  cases toVs ev r1 with
  | none => rfl
  | some x =>
    obtain ⟨d, r2⟩ := x
    dsimp only [sm]
    cases f d <;> rfl
theorem wp_mRng1 {P : List D → List SV → Prop} : wp (mRng1 (mCons m mNil)) P r = wp m (fun ev r1 => sm (look r1 ev) fun d => match d with
    | .int j => lim j = true ∧ P (rng 0 j) r1
    | _ => False) r := by
  unfold mRng1; rw [wp_bnd, wp_mCons]; congr; funext ev r1; rw [wp_mNil]
  unfold wp rng1
  dsimp only
  cases look r1 ev with
  | none => rfl
  | some d =>
    cases d with
    | int j =>
      dsimp only [sm]
      by_cases h : lim j = true
      · rw [if_pos h]; exact propext ⟨fun x => ⟨h, x⟩, fun x => x.2⟩
      · rw [if_neg h]; exact propext ⟨fun x => x.elim, fun x => h x.1⟩
    | _ => rfl
theorem wp_mFor {mi : M (List D)} {T : Tgt} {b : M Fl} {P : Fl → List SV → Prop} : wp (mFor mi T b) P r = wp mi (fun ds r1 => wp (loopF T b ds) P r1) r := by
  unfold mFor; rw [wp_bnd]
/-- a loop, with what holds ahead of each lap -/
theorem wp_loop {T : Tgt} {b : M Fl} {P : Fl → List SV → Prop} (I : List D → List SV → Prop) {ds : List D} (h0 : I ds r)
    (hs : ∀ d ds r, I (d :: ds) r → sm (T d r) fun r1 => wp b (fun fl r2 => match fl with
      | .nx => I ds r2
      | .ct => I ds r2
      | .bk => P .nx r2
      | .rt ev => P (.rt ev) r2) r1) (he : ∀ r, I [] r → P .nx r) : wp (loopF T b ds) P r := by
  induction ds generalizing r with
  | nil => exact he _ h0
  | cons d ds ih =>
    show wp (bnd _ _) P r
    rw [wp_bnd]
    have h1 := hs d ds r h0
    unfold wp tgtM
    cases hT : T d r with
    | none => rw [hT] at h1; exact h1.elim
    | some r1 =>
      rw [hT] at h1
      dsimp only
      show wp (bnd _ _) P r1
      rw [wp_bnd]
      refine wp_mono h1 ?_
      intro fl r2 h2
      cases fl with
      | nx => exact ih h2
      | ct => exact ih h2
      | bk => exact h2
      | rt ev => exact h2
theorem wp_mComp {vs : List Nat} {mi : M (List D)} {T : Tgt} {c : M Bool} {P : EV → List SV → Prop} : wp (mComp vs mi T c m) P r = wp mi (fun ds r1 => wp (cmpE vs T c m ds) P r1) r := by
  unfold mComp; rw [wp_bnd]
/-- a comprehension whose elements change nothing outside -/
theorem wp_comp {γ : Type} {vs : List Nat} {T : Tgt} {P : EV → List SV → Prop} {ds : List D} (l : List γ) (f g : γ → D) (hd : ds = l.map f) (hn : l.length < sizeLine) {r1 : List SV} (hr : restR r r vs = r1)
    (hs : ∀ x, x ∈ l → sm (T (f x) (wipeR r vs)) fun r2 => wp m (fun ev r3 => sm (toV ev r3) fun y => y.1 = g x ∧ wipeR y.2 vs = wipeR r vs ∧ restR r y.2 vs = r1) r2) (hp : P (.own (.lst (l.map g))) r1) : wp (cmpE vs T mYes m ds) P r := by
  subst hd
  have key : ∀ (l : List γ) (acc : List D) (r' : List SV), wipeR r' vs = wipeR r vs → restR r r' vs = r1 → (∀ x, x ∈ l → sm (T (f x) (wipeR r vs)) fun r2 => wp m (fun ev r3 => sm (toV ev r3) fun y => y.1 = g x ∧ wipeR y.2 vs = wipeR r vs ∧ restR r y.2 vs = r1) r2) →
      ∃ r'', cmpF vs T mYes m (l.map f) acc r' = .ok (acc ++ l.map g) r'' ∧ restR r r'' vs = r1 := by
    intro l
    induction l with
    | nil => intro acc r' h1 h2 _; exact ⟨r', by rw [List.map_nil, List.map_nil, List.append_nil] <;> rfl, h2⟩
    | cons d ds ih =>
      intro acc r' h1 h2 h3
      have h4 := h3 d (List.mem_cons_self ..)
      rw [List.map_cons]
      unfold cmpF
      rw [h1]
      cases hT : T (f d) (wipeR r vs) with
      | none => rw [hT] at h4; exact h4.elim
      | some r2 =>
        rw [hT] at h4
        dsimp only
        obtain ⟨ev, r3, e1, h5⟩ := wp_ok (show wp m _ r2 from h4)
        cases hV : toV ev r3 with
        | none => rw [hV] at h5; exact h5.elim
        | some x =>
          rw [hV] at h5
          obtain ⟨y, r4⟩ := x
          obtain ⟨h6, h7, h8⟩ := h5
          dsimp only at h6 h7 h8
          have e2 : elF m r2 = .ok y r4 := by
            unfold elF
            rw [e1]; dsimp only; rw [hV]
          rw [show mYes r2 = .ok true r2 from rfl]
          dsimp only
          rw [e2]
          dsimp only
          obtain ⟨r'', e3, h9⟩ := ih (acc ++ [y]) r4 h7 h8 (fun d' m' => h3 d' (List.mem_cons_of_mem _ m'))
          exact ⟨r'', by rw [e3, h6, List.map_cons, List.append_assoc] <;> rfl, h9⟩
  obtain ⟨r'', e, h⟩ := key l [] r rfl hr hs
  refine wp_of (a := .own (.lst (l.map g))) (r' := r1) ?_ hp
  unfold cmpE
  rw [if_pos (by rw [List.length_map]; exact hn), e]
  dsimp only
  rw [h] <;> rfl
end
/-! functions -/
def wpF (o : R EV) (P : EV → List SV → Prop) : Prop := match o with
  | .ok a r' => P a r'
  | _ => False
theorem wp_defF {n : Nat} {m : M Fl} {args : List SV} {P : EV → List SV → Prop} (h : wp m (fun fl r => match fin args (.ok fl r) with
    | .ok a l => P a l
    | _ => False) (args ++ List.replicate n .un)) : ∃ a l, defF n m args = .ok a l ∧ P a l := by
  obtain ⟨fl, r', e, h⟩ := wp_ok h
  unfold defF
  rw [e]
  cases hf : fin args (.ok fl r') with
  | ok a l => rw [hf] at h; exact ⟨a, l, rfl, h⟩
  | exc c fs l => rw [hf] at h; exact h.elim
  | no => rw [hf] at h; exact h.elim
end Mi
end
section
set_option maxRecDepth 100000
set_option maxHeartbeats 2000000
namespace Mi.J
open PySem PySem.Spec L2
open PyProof.Rows hiding St
def c_SMALL : D := (.str "abcdefghijklmnopqrstuvwxyz")
def c_SIGNS : D := (.str "abcdefghijklmnopqrstuvwxyz0123456789")
def c_WORDS : D := (.tup [(.str ">="), (.str ">"), (.str "=")])
def m_is_whole : M Fl := (mRet (mAndV (op1 (isTD .int) (mVar 0)) (mNotV (op1 (isTD .bool) (mVar 0)))))
def F_is_whole : Fun1 := defF 0 m_is_whole
def m_is_name : M Fl := (mSeq (mIf (mOr (mNot (mTru (op1 (isTD .str) (mVar 0)))) (mOr (mNot (mTst (mChain bLe bLe (mC (.int 1)) (mB fLen (mCons (mVar 0) mNil)) (mC (.int 12))))) (mTst (op2 bNotIn (op2 bIx (mVar 0) (mC (.int 0))) (mC c_SMALL))))) (mRet (mC (.bl false))) mPass)
  (mRet (mB fAll (mCons (mComp [1] (mItV (mVar 0)) (tgN 1) mYes (op2 bIn (mVar 1) (mC c_SIGNS))) mNil))))
def F_is_name : Fun1 := defF 1 m_is_name
def m_is_fraction : M Fl := (mSeq (mIf (mOr (mNot (mTru (op1 (isTD .tup) (mVar 0)))) (mOr (mTst (op2 bNe (mB fLen (mCons (mVar 0) mNil)) (mC (.int 2)))) (mNot (mTru (mB fAll (mCons (mComp [1] (mItV (mVar 0)) (tgN 1) mYes (mCall F_is_whole (mCons (mVar 1) mNil))) mNil)))))) (mRet (mC (.bl false))) mPass)
  (mRet (mAndV (op2 bGe (op2 bIx (mVar 0) (mC (.int 1))) (mC (.int 1))) (op2 bEq (mB fGcd (mCons (op2 bIx (mVar 0) (mC (.int 0))) (mCons (op2 bIx (mVar 0) (mC (.int 1))) mNil))) (mC (.int 1))))))
def F_is_fraction : Fun1 := defF 1 m_is_fraction
def m_is_rising : M Fl := (mRet (mB fAll (mCons (mComp [1, 2] (mItF zipD (mCons (mVar 0) (mCons (mSl (mVar 0) (some (mC (.int 1))) none) mNil))) (tgT [(tgN 1), (tgN 2)]) mYes (op2 bLt (mVar 1) (mVar 2))) mNil)))
def F_is_rising : Fun1 := defF 2 m_is_rising
def m_are_named : M Fl := (mSeq (mIf (mOr (mNot (mTru (op1 (isTD .tup) (mVar 0)))) (mNot (mTru (mB fAll (mCons (mComp [1] (mItV (mVar 0)) (tgN 1) mYes (mAndV (op1 (isTD .tup) (mVar 1)) (op2 bEq (mB fLen (mCons (mVar 1) mNil)) (mC (.int 2))))) mNil))))) (mRet (mC (.bl false))) mPass)
  (mRet (mAndV (mB fAll (mCons (mComp [1] (mItV (mVar 0)) (tgN 1) mYes (mCall F_is_name (mCons (op2 bIx (mVar 1) (mC (.int 0))) mNil))) mNil)) (mCall F_is_rising (mCons (mComp [1] (mItV (mVar 0)) (tgN 1) mYes (op2 bIx (mVar 1) (mC (.int 0)))) mNil)))))
def F_are_named : Fun1 := defF 1 m_are_named
def m_is_form : M Fl := (mRet (mAndV (mCall F_are_named (mCons (mVar 0) mNil)) (mB fAll (mCons (mComp [1, 2] (mItV (mVar 0)) (tgT [(tgN 1), (tgN 2)]) mYes (mAndV (mCall F_is_whole (mCons (mVar 2) mNil)) (op2 bNe (mVar 2) (mC (.int 0))))) mNil))))
def F_is_form : Fun1 := defF 2 m_is_form
def m_is_form_of : M Fl := (mRet (mAndV (mCall F_is_form (mCons (mVar 1) mNil)) (mB fAll (mCons (mComp [2, 3] (mItV (mVar 1)) (tgT [(tgN 2), (tgN 3)]) mYes (op2 bIn (mVar 2) (mVar 0))) mNil))))
def F_is_form_of : Fun1 := defF 2 m_is_form_of
def m_is_row : M Fl := (mSeq (mIf (mOr (mNot (mTru (op1 (isTD .tup) (mVar 1)))) (mOr (mTst (op2 bNe (mB fLen (mCons (mVar 1) mNil)) (mC (.int 3)))) (mNot (mTru (mCall F_is_form_of (mCons (mVar 0) (mCons (op2 bIx (mVar 1) (mC (.int 0))) mNil))))))) (mRet (mC (.bl false))) mPass)
  (mSeq (mIf (mNot (mTru (op1 (isTD .str) (op2 bIx (mVar 1) (mC (.int 1)))))) (mRet (mC (.bl false))) mPass)
  (mSeq (mIf (mTst (op2 bEq (op2 bIx (mVar 1) (mC (.int 1))) (mC (.str "far")))) (mRet (mCall F_is_form_of (mCons (mVar 0) (mCons (op2 bIx (mVar 1) (mC (.int 2))) mNil)))) mPass)
  (mRet (mAndV (op2 bIn (op2 bIx (mVar 1) (mC (.int 1))) (mC c_WORDS)) (mCall F_is_whole (mCons (op2 bIx (mVar 1) (mC (.int 2))) mNil)))))))
def F_is_row : Fun1 := defF 0 m_is_row
def m_is_book : M Fl := (mSeq (mIf (mOr (mNot (mTru (op1 (isTD .tup) (mVar 0)))) (mTst (op2 bNe (mB fLen (mCons (mVar 0) mNil)) (mC (.int 2))))) (mRet (mC (.bl false))) mPass)
  (mSeq (mAsgT (tgT [(tgN 1), (tgN 2)]) (mVar 0))
  (mSeq (mIf (mOr (mNot (mTru (op1 (isTD .tup) (mVar 1)))) (mNot (mTru (op1 (isTD .tup) (mVar 2))))) (mRet (mC (.bl false))) mPass)
  (mSeq (mIf (mOr (mNot (mTru (mB fAll (mCons (mComp [4] (mItV (mVar 1)) (tgN 4) mYes (mCall F_is_name (mCons (mVar 4) mNil))) mNil)))) (mNot (mTru (mCall F_is_rising (mCons (mVar 1) mNil))))) (mRet (mC (.bl false))) mPass)
  (mRet (mB fAll (mCons (mComp [3] (mItV (mVar 2)) (tgN 3) mYes (mCall F_is_row (mCons (mVar 1) (mCons (mVar 3) mNil)))) mNil)))))))
def F_is_book : Fun1 := defF 4 m_is_book
def m_need_book : M Fl := (mIf (mNot (mTru (mCall F_is_book (mCons (mVar 0) mNil)))) (mRaise "BadBook" ["book"] (mCons (mVar 0) mNil)) mPass)
def F_need_book : Fun1 := defF 0 m_need_book
def m_is_point_of : M Fl := (mSeq (mIf (mOr (mNot (mTru (mCall F_are_named (mCons (mVar 1) mNil)))) (mNot (mTru (mB fAll (mCons (mComp [2, 3] (mItV (mVar 1)) (tgT [(tgN 2), (tgN 3)]) mYes (mCall F_is_fraction (mCons (mVar 3) mNil))) mNil))))) (mRet (mC (.bl false))) mPass)
  (mRet (op2 bEq (mB fTuple (mCons (mComp [2, 3] (mItV (mVar 1)) (tgT [(tgN 2), (tgN 3)]) mYes (mVar 2)) mNil)) (mVar 0))))
def F_is_point_of : Fun1 := defF 2 m_is_point_of
def m_is_point : M Fl := (mSeq (mExpr (mCall F_need_book (mCons (mVar 0) mNil)))
  (mRet (mCall F_is_point_of (mCons (op2 bIx (mVar 0) (mC (.int 0))) (mCons (mVar 1) mNil)))))
def F_is_point : Fun1 := defF 0 m_is_point
theorem eq_defF {n : Nat} {m : M Fl} {args l : List SV} {a : EV} (h : wp m (fun fl r => fin args (.ok fl r) = .ok a l) (args ++ List.replicate n .un)) : defF n m args = .ok a l := by
  obtain ⟨fl, r', e, h⟩ := wp_ok h
  unfold defF
  rw [e]; exact h
theorem at1_zero {α : Type} {c : α} {l : List α} : at1 (c :: l) 0 = some c := by
  have := at1_map (f := id) (cs := [0]) (a := 0)
  unfold at1 ixN
  simp
theorem at1_nil {α : Type} {i : Int} : at1 ([] : List α) i = none := by
  unfold at1
  cases ixN ([] : List α).length i <;> simp
theorem look_val {r : List SV} {d : D} : look r (.val d) = some d := rfl
theorem look_own {r : List SV} {d : D} : look r (.own d) = some d := rfl
theorem look_bx {r : List SV} {i : Nat} : look r (.bx i) = match r[i]? with
    | some (.box d) => some d
    | some (.pbx d) => some d
    | some (.val d) => some d
    | _ => none := rfl
theorem looks_nil {r : List SV} : looks r [] = some [] := rfl
theorem looks_cons {r : List SV} {e : EV} {es : List EV} : looks r (e :: es) = match look r e, looks r es with
    | some d, some ds => some (d :: ds)
    | _, _ => none := rfl
theorem toV_val {r : List SV} {d : D} : toV (.val d) r = some (d, r) := rfl
theorem toV_own {r : List SV} {d : D} : toV (.own d) r = some (d, r) := rfl
theorem toVs_nil {r : List SV} : toVs [] r = some ([], r) := rfl
theorem toVs_cons {r : List SV} {e : EV} {es : List EV} : toVs (e :: es) r = match toV e r with
    | some (d, r1) => match toVs es r1 with
      | some (ds, r2) => some (d :: ds, r2)
      | none => none
    | none => none := rfl
theorem isTD_eq {t : Tn} {d : D} : isTD t d = (tyD d).map fun a => .val (.bl (isTn a t)) := rfl
theorem tyD_str {s : Str} : tyD (.str s) = some .str := rfl
theorem tyD_int {s : Int} : tyD (.int s) = some .int := rfl
theorem tyD_bl {s : Bool} : tyD (.bl s) = some .bl := rfl
theorem tyD_tup {s : List D} : tyD (.tup s) = some .tup := rfl
theorem tyD_lst {s : List D} : tyD (.lst s) = some .lst := rfl
theorem truD_bl {b : Bool} : truD (.bl b) = some b := rfl
theorem fLen_str {s : Str} (h : s.length ≤ sizeLine) : fLen [.str s] = some (.val (.int s.length)) := by
  show (if s.length ≤ sizeLine then _ else _) = _
  rw [if_pos h]
theorem fLen_tup {xs : List D} : fLen [.tup xs] = some (.val (.int xs.length)) := rfl
theorem fLen_lst {xs : List D} : fLen [.lst xs] = some (.val (.int xs.length)) := rfl
theorem bLe_int {i j : Int} : bLe (.int i) (.int j) = some (.val (.bl (decide (i ≤ j)))) := rfl
theorem bGe_int {i j : Int} : bGe (.int i) (.int j) = some (.val (.bl (decide (j ≤ i)))) := rfl
theorem bLt_int {i j : Int} : bLt (.int i) (.int j) = some (.val (.bl (decide (i < j)))) := rfl
theorem bGt_int {i j : Int} : bGt (.int i) (.int j) = some (.val (.bl (decide (j < i)))) := rfl
theorem bLt_str {i j : Str} : bLt (.str i) (.str j) = some (.val (.bl (ltS i j))) := rfl
theorem bIx_tup {xs : List D} {i : Int} : bIx (.tup xs) (.int i) = (at1 xs i).map .val := rfl
theorem bIx_lst {xs : List D} {i : Int} : bIx (.lst xs) (.int i) = (at1 xs i).map .val := rfl
theorem bIx_str {s : Str} {i : Int} (h : s.length ≤ sizeLine) : bIx (.str s) (.int i) = (at1 s.cps.toList i).map fun c => .val (.str ⟨#[c]⟩) := by
  show (if s.length ≤ sizeLine then _ else _) = _
  rw [if_pos h]
theorem bIn_chr {c : Nat} {z : Str} : bIn (.str ⟨#[c]⟩) (.str z) = some (.val (.bl (decide (c ∈ z.cps.toList)))) := rfl
theorem bNotIn_chr {c : Nat} {z : Str} : bNotIn (.str ⟨#[c]⟩) (.str z) = some (.val (.bl (!decide (c ∈ z.cps.toList)))) := rfl
theorem items_str {s : Str} : items (.str s) = some (strD s) := rfl
theorem items_tup {xs : List D} : items (.tup xs) = some xs := rfl
theorem items_lst {xs : List D} : items (.lst xs) = some xs := rfl
def plD : D → Bool
  | .fn _ => false
  | .ins _ _ => false
  | _ => true
def jWhole : D → Bool
  | .int _ => true
  | _ => false
theorem is_whole_eq {d : D} (h : plD d = true) : F_is_whole [.val d] = .ok (.val (.bl (jWhole d))) [.val d] := by
  cases d <;> first | rfl | cases h
def smallL : List Nat := Str.cps "abcdefghijklmnopqrstuvwxyz" |>.toList
def signL : List Nat := Str.cps "abcdefghijklmnopqrstuvwxyz0123456789" |>.toList
def jNameL : List Nat → Bool
  | [] => false
  | c :: l => decide (l.length < 12) && (decide (c ∈ smallL) && (c :: l).all fun x => decide (x ∈ signL))
def jName : D → Bool
  | .str s => jNameL s.cps.toList
  | _ => false
theorem fin_val {args r : List SV} {d : D} : fin args (.ok (.rt (.val d)) r) = match back args r with
    | some l => .ok (.val d) l
    | none => .no := rfl
theorem back_nil {r : List SV} : back [] r = some [] := rfl
theorem back_val {d : D} {l r : List SV} {y : SV} : back (.val d :: l) (y :: r) = (back l r).map (.val d :: ·) := rfl
theorem back_pbx {d e : D} {l r : List SV} : back (.pbx d :: l) (.pbx e :: r) = (back l r).map (.pbx e :: ·) := rfl
theorem blsOf_map {γ : Type} {g : γ → Bool} {l : List γ} : blsOf (l.map fun x => .bl (g x)) = some (l.map g) := by
  induction l with
  | nil => rfl
  | cons a l ih => rw [List.map_cons, List.map_cons, blsOf, ih] <;> rfl
theorem fAll_map {γ : Type} {g : γ → Bool} {l : List γ} : fAll [.lst (l.map fun x => .bl (g x))] = some (.val (.bl (l.all g))) := by
  show (blsOf _).map _ = _
  rw [blsOf_map]
  show some (EV.val (.bl ((l.map g).all id))) = _
  rw [List.all_map] <;> rfl
theorem is_name_str {s : Str} (h : s.length ≤ sizeLine) : F_is_name [.val (.str s)] = .ok (.val (.bl (jNameL s.cps.toList))) [.val (.str s)] := by
  have hl : (s.length : Int) = s.cps.toList.length := by rw [Array.length_toList]; rfl
  have hc2 : strD s = s.cps.toList.map fun c => .str ⟨#[c]⟩ := rfl
  refine eq_defF ?_
  unfold m_is_name
  simp only [isTD_eq, tyD_str, truD_bl, isTn, fLen_str h, bLe_int, bIx_str h, items_str, wp_bnd, wp_rt, wp_mC, wp_mVar, wp_mNil, wp_mCons, wp_op1, wp_op2, wp_mTst, wp_mTru, wp_mAnd, wp_mOr, wp_mNot, wp_mBl, wp_mAndV, wp_mOrV, wp_mNotV, wp_mIte, wp_lk2, wp_mChain, wp_mTup, wp_mLst, wp_mB, wp_mDk, wp_mYes, wp_mPass, wp_mBreak, wp_mCont, nxt, wp_mSeq, wp_mIf, wp_mRet, wp_mExpr, wp_mAsg, wp_mAsgT, wp_mPar, wp_mPut, wp_mApp, wp_mSl, wp_mPartN, wp_mPartS, wp_mRev2, wp_mMt, wp_mCall, wpC_val, wpC_own, wp_mCallR, wp_mItV, wp_mItF, wp_mRng1, wp_mFor, wp_mComp, sm_some, sm_none, sm_ite, sm_map, look_val, look_own, look_bx, looks_nil, looks_cons, toV_val, toV_own, toVs_nil, toVs_cons, List.getElem?_cons_zero, List.getElem?_cons_succ, List.set_cons_zero, List.set_cons_succ, List.map_cons, List.map_nil, List.cons_append, List.nil_append, List.replicate_succ, List.replicate_zero, List.append_nil]
  unfold jNameL
  rw [hc2]
  cases hc : s.cps.toList with
  | nil =>
    rw [hc] at hl
    simp [hl, fin_val, back_val, back_nil]
  | cons c l =>
    rw [hc] at hl
    by_cases h1 : l.length < 12
    · by_cases h2 : c ∈ smallL
      · have h3 : (1 : Int) ≤ (s.length : Int) := by rw [hl, List.length_cons]; omega
        have h4 : (s.length : Int) ≤ 12 := by rw [hl, List.length_cons]; omega
        have h5 : bNotIn (.str ⟨#[c]⟩) c_SMALL = some (.val (.bl false)) := by
          rw [c_SMALL, bNotIn_chr, decide_eq_true (show c ∈ (Str.cps "abcdefghijklmnopqrstuvwxyz").toList from h2)] <;> rfl
        simp [h3, h4, at1_zero, sm_some, sm_map, h5, look_val]
        refine wp_comp (c :: l) (fun c => .str ⟨#[c]⟩) (fun x => .bl (decide (x ∈ signL))) rfl ?_ rfl ?_ ?_
        · have : (s.length : Int) ≤ (12 : Nat) := h4
          rw [sizeLine_eq]; rw [List.length_cons]; omega
        · intro x hx
          simp [tgN, wipeR, restR, kv1, wp_bnd, wp_rt, wp_mC, wp_mVar, wp_mNil, wp_mCons, wp_op1, wp_op2, wp_mTst, wp_mTru, wp_mAnd, wp_mOr, wp_mNot, wp_mBl, wp_mAndV, wp_mOrV, wp_mNotV, wp_mIte, wp_lk2, wp_mChain, wp_mTup, wp_mLst, wp_mB, wp_mDk, wp_mYes, wp_mPass, wp_mBreak, wp_mCont, nxt, wp_mSeq, wp_mIf, wp_mRet, wp_mExpr, wp_mAsg, wp_mAsgT, wp_mPar, wp_mPut, wp_mApp, wp_mSl, wp_mPartN, wp_mPartS, wp_mRev2, wp_mMt, wp_mCall, wpC_val, wpC_own, wp_mCallR, wp_mItV, wp_mItF, wp_mRng1, wp_mFor, wp_mComp, sm_some, sm_none, sm_ite, sm_map, look_val, look_own, look_bx, looks_nil, looks_cons, toV_val, toV_own, toVs_nil, toVs_cons, List.getElem?_cons_zero, List.getElem?_cons_succ, List.set_cons_zero, List.set_cons_succ, List.map_cons, List.map_nil, List.cons_append, List.nil_append, List.replicate_succ, List.replicate_zero, List.append_nil, c_SIGNS, bIn_chr, signL]
        · simp only [looks_cons, looks_nil, look_own, fAll_map, sm_some, fin_val, restR, kv1, List.getElem?_cons_zero, List.getElem?_cons_succ, List.set_cons_zero, List.set_cons_succ, back_val, back_nil, Option.map_some]
          rw [decide_eq_true h1, decide_eq_true h2] <;> rfl
      · have h3 : (1 : Int) ≤ (s.length : Int) := by rw [hl, List.length_cons]; omega
        have h4 : (s.length : Int) ≤ 12 := by rw [hl, List.length_cons]; omega
        have h5 : bNotIn (.str ⟨#[c]⟩) c_SMALL = some (.val (.bl true)) := by
          rw [c_SMALL, bNotIn_chr, decide_eq_false (show ¬ c ∈ (Str.cps "abcdefghijklmnopqrstuvwxyz").toList from h2)] <;> rfl
        simp [h3, h4, at1_zero, sm_some, sm_map, h5, look_val, fin_val, back_val, back_nil, h2]
    · have h3 : (1 : Int) ≤ (s.length : Int) := by rw [hl, List.length_cons]; omega
      have h4 : ¬ (s.length : Int) ≤ 12 := by rw [hl, List.length_cons]; omega
      simp [h3, h4, look_val, fin_val, back_val, back_nil, h1]
theorem is_name_no {d : D} (h : plD d = true) (hs : ∀ s, d ≠ .str s) : F_is_name [.val d] = .ok (.val (.bl false)) [.val d] := by
  cases d with
  | str s => exact absurd rfl (hs s)
  | fn _ => cases h
  | ins _ _ => cases h
  | _ => rfl
/-! what is fit to be judged: no list too long -/
mutual
def fit : D → Bool
  | .tup xs => decide (xs.length < sizeLine) && fitL xs
  | .str s => PyData.strOk s && decide (s.length < sizeLine)
  | .fn _ => false
  | .ins _ _ => false
  | _ => true
def fitL : List D → Bool
  | [] => true
  | d :: r => fit d && fitL r
end
theorem fit_mem {xs : List D} (h : fitL xs = true) {d : D} (m : d ∈ xs) : fit d = true := by
  induction xs with
  | nil => cases m
  | cons a l ih =>
    unfold fitL at h
    rw [Bool.and_eq_true] at h
    cases m with
    | head => exact h.1
    | tail _ m => exact ih h.2 m
theorem fit_pl {d : D} (h : fit d = true) : plD d = true := by
  cases d <;> first | rfl | (unfold fit at h; cases h)
theorem is_name_eq {d : D} (h : fit d = true) : F_is_name [.val d] = .ok (.val (.bl (jName d))) [.val d] := by
  cases d with
  | str s => exact is_name_str (Nat.le_of_lt (by unfold fit at h; rw [Bool.and_eq_true] at h; exact of_decide_eq_true h.2))
  | fn _ => unfold fit at h; cases h
  | ins _ _ => unfold fit at h; cases h
  | _ => rfl
theorem isD_tup {xs : List D} (h : fit (.tup xs) = true) : xs.length < sizeLine ∧ fitL xs = true := by
  unfold fit at h
  rw [Bool.and_eq_true] at h
  exact ⟨of_decide_eq_true h.1, h.2⟩
/-! what is rising -/
def jRis (ss : List Str) : Bool := (ss.zip ss.tail).all fun p => ltS p.1 p.2
theorem cut1 {α : Type} {xs : List α} : cut xs (some 1) none = xs.drop 1 := by
  unfold cut HT.sIx
  cases xs with
  | nil => simp
  | cons a l =>
    dsimp only
    rw [if_neg (by decide)]
    have : min (1 : Int).toNat (a :: l).length = 1 := by rw [List.length_cons]; show min 1 _ = 1; omega
    rw [this, List.take_of_length_le (by rw [List.length_drop]; omega)]
theorem zip_eq {ss : List Str} : List.zipWith pr2 (ss.map .str) ((ss.map .str).drop 1) = (ss.zip ss.tail).map fun p => D.tup [.str p.1, .str p.2] := by
  rw [← List.map_drop, List.drop_one, List.zipWith_map, List.zip, List.map_zipWith] <;> rfl
theorem is_rising_tup {ss : List Str} (h : ss.length < sizeLine) : F_is_rising [.val (.tup (ss.map .str))] = .ok (.val (.bl (jRis ss))) [.val (.tup (ss.map .str))] := by
  refine eq_defF ?_
  unfold m_is_rising
  simp only [bSl, zipD, cut1, zip_eq, wp_bnd, wp_rt, wp_mC, wp_mVar, wp_mNil, wp_mCons, wp_op1, wp_op2, wp_mTst, wp_mTru, wp_mAnd, wp_mOr, wp_mNot, wp_mBl, wp_mAndV, wp_mOrV, wp_mNotV, wp_mIte, wp_lk2, wp_mChain, wp_mTup, wp_mLst, wp_mB, wp_mDk, wp_mYes, wp_mPass, wp_mBreak, wp_mCont, nxt, wp_mSeq, wp_mIf, wp_mRet, wp_mExpr, wp_mAsg, wp_mAsgT, wp_mPar, wp_mPut, wp_mApp, wp_mSl, wp_mPartN, wp_mPartS, wp_mRev2, wp_mMt, wp_mCall, wpC_val, wpC_own, wp_mCallR, wp_mItV, wp_mItF, wp_mRng1, wp_mFor, wp_mComp, sm_some, sm_none, sm_ite, sm_map, look_val, look_own, look_bx, looks_nil, looks_cons, toV_val, toV_own, toVs_nil, toVs_cons, List.getElem?_cons_zero, List.getElem?_cons_succ, List.set_cons_zero, List.set_cons_succ, List.map_cons, List.map_nil, List.cons_append, List.nil_append, List.replicate_succ, List.replicate_zero, List.append_nil]
  refine wp_comp (ss.zip ss.tail) (fun p => D.tup [.str p.1, .str p.2]) (fun p => .bl (ltS p.1 p.2)) rfl ?_ rfl ?_ ?_
  · rw [List.length_zip]; omega
  · intro x hx
    simp [tgT, tgL, tgN, wipeR, restR, kv1, wp_bnd, wp_rt, wp_mC, wp_mVar, wp_mNil, wp_mCons, wp_op1, wp_op2, wp_mTst, wp_mTru, wp_mAnd, wp_mOr, wp_mNot, wp_mBl, wp_mAndV, wp_mOrV, wp_mNotV, wp_mIte, wp_lk2, wp_mChain, wp_mTup, wp_mLst, wp_mB, wp_mDk, wp_mYes, wp_mPass, wp_mBreak, wp_mCont, nxt, wp_mSeq, wp_mIf, wp_mRet, wp_mExpr, wp_mAsg, wp_mAsgT, wp_mPar, wp_mPut, wp_mApp, wp_mSl, wp_mPartN, wp_mPartS, wp_mRev2, wp_mMt, wp_mCall, wpC_val, wpC_own, wp_mCallR, wp_mItV, wp_mItF, wp_mRng1, wp_mFor, wp_mComp, sm_some, sm_none, sm_ite, sm_map, look_val, look_own, look_bx, looks_nil, looks_cons, toV_val, toV_own, toVs_nil, toVs_cons, List.getElem?_cons_zero, List.getElem?_cons_succ, List.set_cons_zero, List.set_cons_succ, List.map_cons, List.map_nil, List.cons_append, List.nil_append, List.replicate_succ, List.replicate_zero, List.append_nil, bLt_str]
  · simp only [looks_cons, looks_nil, look_own, fAll_map, sm_some, fin_val, restR, kv1, List.getElem?_cons_zero, List.getElem?_cons_succ, List.set_cons_zero, List.set_cons_succ, back_val, back_nil, Option.map_some]
    rfl
theorem is_rising_lst {ss : List Str} (h : ss.length < sizeLine) : F_is_rising [.val (.lst (ss.map .str))] = .ok (.val (.bl (jRis ss))) [.val (.lst (ss.map .str))] := by
  refine eq_defF ?_
  unfold m_is_rising
  simp only [bSl, zipD, cut1, zip_eq, wp_bnd, wp_rt, wp_mC, wp_mVar, wp_mNil, wp_mCons, wp_op1, wp_op2, wp_mTst, wp_mTru, wp_mAnd, wp_mOr, wp_mNot, wp_mBl, wp_mAndV, wp_mOrV, wp_mNotV, wp_mIte, wp_lk2, wp_mChain, wp_mTup, wp_mLst, wp_mB, wp_mDk, wp_mYes, wp_mPass, wp_mBreak, wp_mCont, nxt, wp_mSeq, wp_mIf, wp_mRet, wp_mExpr, wp_mAsg, wp_mAsgT, wp_mPar, wp_mPut, wp_mApp, wp_mSl, wp_mPartN, wp_mPartS, wp_mRev2, wp_mMt, wp_mCall, wpC_val, wpC_own, wp_mCallR, wp_mItV, wp_mItF, wp_mRng1, wp_mFor, wp_mComp, sm_some, sm_none, sm_ite, sm_map, look_val, look_own, look_bx, looks_nil, looks_cons, toV_val, toV_own, toVs_nil, toVs_cons, List.getElem?_cons_zero, List.getElem?_cons_succ, List.set_cons_zero, List.set_cons_succ, List.map_cons, List.map_nil, List.cons_append, List.nil_append, List.replicate_succ, List.replicate_zero, List.append_nil]
  refine wp_comp (ss.zip ss.tail) (fun p => D.tup [.str p.1, .str p.2]) (fun p => .bl (ltS p.1 p.2)) rfl ?_ rfl ?_ ?_
  · rw [List.length_zip]; omega
  · intro x hx
    simp [tgT, tgL, tgN, wipeR, restR, kv1, wp_bnd, wp_rt, wp_mC, wp_mVar, wp_mNil, wp_mCons, wp_op1, wp_op2, wp_mTst, wp_mTru, wp_mAnd, wp_mOr, wp_mNot, wp_mBl, wp_mAndV, wp_mOrV, wp_mNotV, wp_mIte, wp_lk2, wp_mChain, wp_mTup, wp_mLst, wp_mB, wp_mDk, wp_mYes, wp_mPass, wp_mBreak, wp_mCont, nxt, wp_mSeq, wp_mIf, wp_mRet, wp_mExpr, wp_mAsg, wp_mAsgT, wp_mPar, wp_mPut, wp_mApp, wp_mSl, wp_mPartN, wp_mPartS, wp_mRev2, wp_mMt, wp_mCall, wpC_val, wpC_own, wp_mCallR, wp_mItV, wp_mItF, wp_mRng1, wp_mFor, wp_mComp, sm_some, sm_none, sm_ite, sm_map, look_val, look_own, look_bx, looks_nil, looks_cons, toV_val, toV_own, toVs_nil, toVs_cons, List.getElem?_cons_zero, List.getElem?_cons_succ, List.set_cons_zero, List.set_cons_succ, List.map_cons, List.map_nil, List.cons_append, List.nil_append, List.replicate_succ, List.replicate_zero, List.append_nil, bLt_str]
  · simp only [looks_cons, looks_nil, look_own, fAll_map, sm_some, fin_val, restR, kv1, List.getElem?_cons_zero, List.getElem?_cons_succ, List.set_cons_zero, List.set_cons_succ, back_val, back_nil, Option.map_some]
    rfl
/-! what is named -/
def jPair : D → Bool
  | .tup [_, _] => true
  | _ => false
def pairsOf : List D → Option (List (D × D))
  | [] => some []
  | .tup [a, b] :: l => (pairsOf l).map ((a, b) :: ·)
  | _ :: _ => none
def prD (p : D × D) : D := .tup [p.1, p.2]
theorem pairsOf_some {xs : List D} {ps : List (D × D)} (h : pairsOf xs = some ps) : xs = ps.map prD := by
  induction xs generalizing ps with
  | nil => rw [pairsOf] at h; cases h; rfl
  | cons a l ih =>
    unfold pairsOf at h
    split at h
    · rename_i e; cases e
    · rename_i x y l' e
      cases e
      cases hp : pairsOf l with
      | none => rw [hp] at h; cases h
      | some qs => rw [hp] at h; cases h; rw [List.map_cons, ← ih hp] <;> rfl
    · cases h
theorem pairsOf_map {ps : List (D × D)} : pairsOf (ps.map prD) = some ps := by
  induction ps with
  | nil => rfl
  | cons p l ih => rw [List.map_cons]; show (pairsOf (l.map prD)).map _ = _; rw [ih] <;> rfl
theorem jPair_yes {a : D} (h : jPair a = true) : ∃ x y, a = .tup [x, y] := by
  unfold jPair at h
  split at h
  · rename_i x y; exact ⟨x, y, rfl⟩
  · cases h
theorem pairsOf_no {a : D} {l : List D} (h : jPair a = false) : pairsOf (a :: l) = none := by
  unfold pairsOf
  split
  · rename_i e; cases e
  · rename_i x y l' e; cases e; cases h
  · rfl
theorem pairsOf_all {xs : List D} : xs.all jPair = (pairsOf xs).isSome := by
  induction xs with
  | nil => rfl
  | cons a l ih =>
    rw [List.all_cons, ih]
    cases h : jPair a with
    | false => rw [pairsOf_no h] <;> rfl
    | true =>
      obtain ⟨x, y, rfl⟩ := jPair_yes h
      show (true && _) = ((pairsOf l).map _).isSome
      rw [Bool.true_and]; cases pairsOf l <;> rfl
def jRisD (ds : List D) : Bool := match strsOf ds with
  | some ss => jRis ss
  | none => false
def jNamed : D → Bool
  | .tup xs => match pairsOf xs with
    | some ps => (ps.all fun p => jName p.1) && jRisD (ps.map (·.1))
    | none => false
  | _ => false
theorem strsOf_map {ss : List Str} : strsOf (ss.map .str) = some ss := by
  induction ss with
  | nil => rfl
  | cons a l ih => rw [List.map_cons]; show (strsOf _).map _ = _; rw [ih] <;> rfl
theorem strs_of_names {ds : List D} (h : ds.all jName = true) : ∃ ss : List Str, ds = ss.map .str := by
  induction ds with
  | nil => exact ⟨[], rfl⟩
  | cons a l ih =>
    rw [List.all_cons, Bool.and_eq_true] at h
    obtain ⟨ss, rfl⟩ := ih h.2
    cases a with
    | str s => exact ⟨s :: ss, rfl⟩
    | _ => cases h.1
theorem are_named_tup {xs : List D} (h : fit (.tup xs) = true) : F_are_named [.val (.tup xs)] = .ok (.val (.bl (jNamed (.tup xs)))) [.val (.tup xs)] := by
  obtain ⟨hn, hf⟩ := isD_tup h
  refine eq_defF ?_
  unfold m_are_named
  simp only [isTD_eq, tyD_tup, truD_bl, isTn, items_tup, wp_bnd, wp_rt, wp_mC, wp_mVar, wp_mNil, wp_mCons, wp_op1, wp_op2, wp_mTst, wp_mTru, wp_mAnd, wp_mOr, wp_mNot, wp_mBl, wp_mAndV, wp_mOrV, wp_mNotV, wp_mIte, wp_lk2, wp_mChain, wp_mTup, wp_mLst, wp_mB, wp_mDk, wp_mYes, wp_mPass, wp_mBreak, wp_mCont, nxt, wp_mSeq, wp_mIf, wp_mRet, wp_mExpr, wp_mAsg, wp_mAsgT, wp_mPar, wp_mPut, wp_mApp, wp_mSl, wp_mPartN, wp_mPartS, wp_mRev2, wp_mMt, wp_mCall, wpC_val, wpC_own, wp_mCallR, wp_mItV, wp_mItF, wp_mRng1, wp_mFor, wp_mComp, sm_some, sm_none, sm_ite, sm_map, look_val, look_own, look_bx, looks_nil, looks_cons, toV_val, toV_own, toVs_nil, toVs_cons, List.getElem?_cons_zero, List.getElem?_cons_succ, List.set_cons_zero, List.set_cons_succ, List.map_cons, List.map_nil, List.cons_append, List.nil_append, List.replicate_succ, List.replicate_zero, List.append_nil, truD_bl, items_str, items_tup, items_lst, fLen_tup, fLen_lst, bIx_tup, bIx_lst, tyD_str, tyD_int, tyD_bl, tyD_tup, tyD_lst, isTD_eq, isTn, fin_val, back_val, back_nil, back_pbx, Option.map_some]
  rw [if_neg (by decide)]
  refine wp_comp xs id (fun d => .bl (jPair d)) (List.map_id _).symm hn rfl ?_ ?_
  · intro x hx
    have hp := fit_pl (fit_mem hf hx)
    cases x with
    | tup zs =>
      simp [tgN, wipeR, restR, kv1, wp_bnd, wp_rt, wp_mC, wp_mVar, wp_mNil, wp_mCons, wp_op1, wp_op2, wp_mTst, wp_mTru, wp_mAnd, wp_mOr, wp_mNot, wp_mBl, wp_mAndV, wp_mOrV, wp_mNotV, wp_mIte, wp_lk2, wp_mChain, wp_mTup, wp_mLst, wp_mB, wp_mDk, wp_mYes, wp_mPass, wp_mBreak, wp_mCont, nxt, wp_mSeq, wp_mIf, wp_mRet, wp_mExpr, wp_mAsg, wp_mAsgT, wp_mPar, wp_mPut, wp_mApp, wp_mSl, wp_mPartN, wp_mPartS, wp_mRev2, wp_mMt, wp_mCall, wpC_val, wpC_own, wp_mCallR, wp_mItV, wp_mItF, wp_mRng1, wp_mFor, wp_mComp, sm_some, sm_none, sm_ite, sm_map, look_val, look_own, look_bx, looks_nil, looks_cons, toV_val, toV_own, toVs_nil, toVs_cons, List.getElem?_cons_zero, List.getElem?_cons_succ, List.set_cons_zero, List.set_cons_succ, List.map_cons, List.map_nil, List.cons_append, List.nil_append, List.replicate_succ, List.replicate_zero, List.append_nil, truD_bl, items_str, items_tup, items_lst, fLen_tup, fLen_lst, bIx_tup, bIx_lst, tyD_str, tyD_int, tyD_bl, tyD_tup, tyD_lst, isTD_eq, isTn, fin_val, back_val, back_nil, back_pbx, Option.map_some, isTD_eq, tyD_tup, isTn, fLen_tup, bEq_int]
      match zs with
      | [] => rfl
      | [_] => rfl
      | [_, _] => rfl
      | _ :: _ :: _ :: t => simp [jPair]; omega
    | fn _ => cases hp
    | ins _ _ => cases hp
    | _ => simp [tgN, wipeR, restR, kv1, wp_bnd, wp_rt, wp_mC, wp_mVar, wp_mNil, wp_mCons, wp_op1, wp_op2, wp_mTst, wp_mTru, wp_mAnd, wp_mOr, wp_mNot, wp_mBl, wp_mAndV, wp_mOrV, wp_mNotV, wp_mIte, wp_lk2, wp_mChain, wp_mTup, wp_mLst, wp_mB, wp_mDk, wp_mYes, wp_mPass, wp_mBreak, wp_mCont, nxt, wp_mSeq, wp_mIf, wp_mRet, wp_mExpr, wp_mAsg, wp_mAsgT, wp_mPar, wp_mPut, wp_mApp, wp_mSl, wp_mPartN, wp_mPartS, wp_mRev2, wp_mMt, wp_mCall, wpC_val, wpC_own, wp_mCallR, wp_mItV, wp_mItF, wp_mRng1, wp_mFor, wp_mComp, sm_some, sm_none, sm_ite, sm_map, look_val, look_own, look_bx, looks_nil, looks_cons, toV_val, toV_own, toVs_nil, toVs_cons, List.getElem?_cons_zero, List.getElem?_cons_succ, List.set_cons_zero, List.set_cons_succ, List.map_cons, List.map_nil, List.cons_append, List.nil_append, List.replicate_succ, List.replicate_zero, List.append_nil, truD_bl, items_str, items_tup, items_lst, fLen_tup, fLen_lst, bIx_tup, bIx_lst, tyD_str, tyD_int, tyD_bl, tyD_tup, tyD_lst, isTD_eq, isTn, fin_val, back_val, back_nil, back_pbx, Option.map_some, isTD_eq, tyD, isTn, jPair]
  · simp only [wp_bnd, wp_rt, wp_mC, wp_mVar, wp_mNil, wp_mCons, wp_op1, wp_op2, wp_mTst, wp_mTru, wp_mAnd, wp_mOr, wp_mNot, wp_mBl, wp_mAndV, wp_mOrV, wp_mNotV, wp_mIte, wp_lk2, wp_mChain, wp_mTup, wp_mLst, wp_mB, wp_mDk, wp_mYes, wp_mPass, wp_mBreak, wp_mCont, nxt, wp_mSeq, wp_mIf, wp_mRet, wp_mExpr, wp_mAsg, wp_mAsgT, wp_mPar, wp_mPut, wp_mApp, wp_mSl, wp_mPartN, wp_mPartS, wp_mRev2, wp_mMt, wp_mCall, wpC_val, wpC_own, wp_mCallR, wp_mItV, wp_mItF, wp_mRng1, wp_mFor, wp_mComp, sm_some, sm_none, sm_ite, sm_map, look_val, look_own, look_bx, looks_nil, looks_cons, toV_val, toV_own, toVs_nil, toVs_cons, List.getElem?_cons_zero, List.getElem?_cons_succ, List.set_cons_zero, List.set_cons_succ, List.cons_append, List.nil_append, List.replicate_succ, List.replicate_zero, List.append_nil, truD_bl, items_str, items_tup, items_lst, fLen_tup, fLen_lst, bIx_tup, bIx_lst, tyD_str, tyD_int, tyD_bl, tyD_tup, tyD_lst, isTD_eq, isTn, fin_val, back_val, back_nil, back_pbx, Option.map_some, fAll_map, restR, kv1, truD_bl, pairsOf_all]
    cases hp : pairsOf xs with
    | none => simp [jNamed, hp, fin_val, back_val, back_nil, wp_bnd, wp_rt, wp_mC, wp_mVar, wp_mNil, wp_mCons, wp_op1, wp_op2, wp_mTst, wp_mTru, wp_mAnd, wp_mOr, wp_mNot, wp_mBl, wp_mAndV, wp_mOrV, wp_mNotV, wp_mIte, wp_lk2, wp_mChain, wp_mTup, wp_mLst, wp_mB, wp_mDk, wp_mYes, wp_mPass, wp_mBreak, wp_mCont, nxt, wp_mSeq, wp_mIf, wp_mRet, wp_mExpr, wp_mAsg, wp_mAsgT, wp_mPar, wp_mPut, wp_mApp, wp_mSl, wp_mPartN, wp_mPartS, wp_mRev2, wp_mMt, wp_mCall, wpC_val, wpC_own, wp_mCallR, wp_mItV, wp_mItF, wp_mRng1, wp_mFor, wp_mComp, sm_some, sm_none, sm_ite, sm_map, look_val, look_own, look_bx, looks_nil, looks_cons, toV_val, toV_own, toVs_nil, toVs_cons, List.getElem?_cons_zero, List.getElem?_cons_succ, List.set_cons_zero, List.set_cons_succ, List.map_cons, List.map_nil, List.cons_append, List.nil_append, List.replicate_succ, List.replicate_zero, List.append_nil, truD_bl, items_str, items_tup, items_lst, fLen_tup, fLen_lst, bIx_tup, bIx_lst, tyD_str, tyD_int, tyD_bl, tyD_tup, tyD_lst, isTD_eq, isTn, fin_val, back_val, back_nil, back_pbx, Option.map_some]
    | some ps =>
      have hx := pairsOf_some hp
      subst hx
      simp only [Option.isSome, Bool.not_true, Bool.false_eq_true, if_false, items_tup, wp_bnd, wp_rt, wp_mC, wp_mVar, wp_mNil, wp_mCons, wp_op1, wp_op2, wp_mTst, wp_mTru, wp_mAnd, wp_mOr, wp_mNot, wp_mBl, wp_mAndV, wp_mOrV, wp_mNotV, wp_mIte, wp_lk2, wp_mChain, wp_mTup, wp_mLst, wp_mB, wp_mDk, wp_mYes, wp_mPass, wp_mBreak, wp_mCont, nxt, wp_mSeq, wp_mIf, wp_mRet, wp_mExpr, wp_mAsg, wp_mAsgT, wp_mPar, wp_mPut, wp_mApp, wp_mSl, wp_mPartN, wp_mPartS, wp_mRev2, wp_mMt, wp_mCall, wpC_val, wpC_own, wp_mCallR, wp_mItV, wp_mItF, wp_mRng1, wp_mFor, wp_mComp, sm_some, sm_none, sm_ite, sm_map, look_val, look_own, look_bx, looks_nil, looks_cons, toV_val, toV_own, toVs_nil, toVs_cons, List.getElem?_cons_zero, List.getElem?_cons_succ, List.set_cons_zero, List.set_cons_succ, List.map_cons, List.map_nil, List.cons_append, List.nil_append, List.replicate_succ, List.replicate_zero, List.append_nil, truD_bl, items_str, items_tup, items_lst, fLen_tup, fLen_lst, bIx_tup, bIx_lst, tyD_str, tyD_int, tyD_bl, tyD_tup, tyD_lst, isTD_eq, isTn, fin_val, back_val, back_nil, back_pbx, Option.map_some]
      have hfp : ∀ p ∈ ps, fit p.1 = true ∧ fit p.2 = true := by
        intro p m
        have := fit_mem hf (List.mem_map_of_mem (f := prD) m)
        have := (isD_tup this).2
        simp only [fitL, Bool.and_eq_true] at this
        exact ⟨this.1, this.2.1⟩
      refine wp_comp ps prD (fun p => .bl (jName p.1)) rfl (by rw [List.length_map] at hn; exact hn) rfl ?_ ?_
      · intro p hm
        simp [tgN, wipeR, restR, kv1, prD, wp_bnd, wp_rt, wp_mC, wp_mVar, wp_mNil, wp_mCons, wp_op1, wp_op2, wp_mTst, wp_mTru, wp_mAnd, wp_mOr, wp_mNot, wp_mBl, wp_mAndV, wp_mOrV, wp_mNotV, wp_mIte, wp_lk2, wp_mChain, wp_mTup, wp_mLst, wp_mB, wp_mDk, wp_mYes, wp_mPass, wp_mBreak, wp_mCont, nxt, wp_mSeq, wp_mIf, wp_mRet, wp_mExpr, wp_mAsg, wp_mAsgT, wp_mPar, wp_mPut, wp_mApp, wp_mSl, wp_mPartN, wp_mPartS, wp_mRev2, wp_mMt, wp_mCall, wpC_val, wpC_own, wp_mCallR, wp_mItV, wp_mItF, wp_mRng1, wp_mFor, wp_mComp, sm_some, sm_none, sm_ite, sm_map, look_val, look_own, look_bx, looks_nil, looks_cons, toV_val, toV_own, toVs_nil, toVs_cons, List.getElem?_cons_zero, List.getElem?_cons_succ, List.set_cons_zero, List.set_cons_succ, List.map_cons, List.map_nil, List.cons_append, List.nil_append, List.replicate_succ, List.replicate_zero, List.append_nil, truD_bl, items_str, items_tup, items_lst, fLen_tup, fLen_lst, bIx_tup, bIx_lst, tyD_str, tyD_int, tyD_bl, tyD_tup, tyD_lst, isTD_eq, isTn, fin_val, back_val, back_nil, back_pbx, Option.map_some, bIx_tup, at1_zero, is_name_eq (hfp p hm).1]
      · simp only [wp_bnd, wp_rt, wp_mC, wp_mVar, wp_mNil, wp_mCons, wp_op1, wp_op2, wp_mTst, wp_mTru, wp_mAnd, wp_mOr, wp_mNot, wp_mBl, wp_mAndV, wp_mOrV, wp_mNotV, wp_mIte, wp_lk2, wp_mChain, wp_mTup, wp_mLst, wp_mB, wp_mDk, wp_mYes, wp_mPass, wp_mBreak, wp_mCont, nxt, wp_mSeq, wp_mIf, wp_mRet, wp_mExpr, wp_mAsg, wp_mAsgT, wp_mPar, wp_mPut, wp_mApp, wp_mSl, wp_mPartN, wp_mPartS, wp_mRev2, wp_mMt, wp_mCall, wpC_val, wpC_own, wp_mCallR, wp_mItV, wp_mItF, wp_mRng1, wp_mFor, wp_mComp, sm_some, sm_none, sm_ite, sm_map, look_val, look_own, look_bx, looks_nil, looks_cons, toV_val, toV_own, toVs_nil, toVs_cons, List.getElem?_cons_zero, List.getElem?_cons_succ, List.set_cons_zero, List.set_cons_succ, List.cons_append, List.nil_append, List.replicate_succ, List.replicate_zero, List.append_nil, truD_bl, items_str, items_tup, items_lst, fLen_tup, fLen_lst, bIx_tup, bIx_lst, tyD_str, tyD_int, tyD_bl, tyD_tup, tyD_lst, isTD_eq, isTn, fin_val, back_val, back_nil, back_pbx, Option.map_some, fAll_map, restR, kv1]
        by_cases ha : (ps.all fun p => jName p.1) = true
        · rw [if_pos ha]
          obtain ⟨ss, hss⟩ := strs_of_names (ds := ps.map (·.1)) (by rw [List.all_map]; exact ha)
          refine wp_comp ps prD (fun p => p.1) rfl (by rw [List.length_map] at hn; exact hn) rfl ?_ ?_
          · intro p hm
            simp [tgN, wipeR, restR, kv1, prD, wp_bnd, wp_rt, wp_mC, wp_mVar, wp_mNil, wp_mCons, wp_op1, wp_op2, wp_mTst, wp_mTru, wp_mAnd, wp_mOr, wp_mNot, wp_mBl, wp_mAndV, wp_mOrV, wp_mNotV, wp_mIte, wp_lk2, wp_mChain, wp_mTup, wp_mLst, wp_mB, wp_mDk, wp_mYes, wp_mPass, wp_mBreak, wp_mCont, nxt, wp_mSeq, wp_mIf, wp_mRet, wp_mExpr, wp_mAsg, wp_mAsgT, wp_mPar, wp_mPut, wp_mApp, wp_mSl, wp_mPartN, wp_mPartS, wp_mRev2, wp_mMt, wp_mCall, wpC_val, wpC_own, wp_mCallR, wp_mItV, wp_mItF, wp_mRng1, wp_mFor, wp_mComp, sm_some, sm_none, sm_ite, sm_map, look_val, look_own, look_bx, looks_nil, looks_cons, toV_val, toV_own, toVs_nil, toVs_cons, List.getElem?_cons_zero, List.getElem?_cons_succ, List.set_cons_zero, List.set_cons_succ, List.map_cons, List.map_nil, List.cons_append, List.nil_append, List.replicate_succ, List.replicate_zero, List.append_nil, truD_bl, items_str, items_tup, items_lst, fLen_tup, fLen_lst, bIx_tup, bIx_lst, tyD_str, tyD_int, tyD_bl, tyD_tup, tyD_lst, isTD_eq, isTn, fin_val, back_val, back_nil, back_pbx, Option.map_some, bIx_tup, at1_zero]
          · have hl : ss.length < sizeLine := by
              have := congrArg List.length hss
              rw [List.length_map, List.length_map] at this
              rw [List.length_map] at hn
              omega
            simp only [hss, wp_bnd, wp_rt, wp_mC, wp_mVar, wp_mNil, wp_mCons, wp_op1, wp_op2, wp_mTst, wp_mTru, wp_mAnd, wp_mOr, wp_mNot, wp_mBl, wp_mAndV, wp_mOrV, wp_mNotV, wp_mIte, wp_lk2, wp_mChain, wp_mTup, wp_mLst, wp_mB, wp_mDk, wp_mYes, wp_mPass, wp_mBreak, wp_mCont, nxt, wp_mSeq, wp_mIf, wp_mRet, wp_mExpr, wp_mAsg, wp_mAsgT, wp_mPar, wp_mPut, wp_mApp, wp_mSl, wp_mPartN, wp_mPartS, wp_mRev2, wp_mMt, wp_mCall, wpC_val, wpC_own, wp_mCallR, wp_mItV, wp_mItF, wp_mRng1, wp_mFor, wp_mComp, sm_some, sm_none, sm_ite, sm_map, look_val, look_own, look_bx, looks_nil, looks_cons, toV_val, toV_own, toVs_nil, toVs_cons, List.getElem?_cons_zero, List.getElem?_cons_succ, List.set_cons_zero, List.set_cons_succ, List.map_cons, List.map_nil, List.cons_append, List.nil_append, List.replicate_succ, List.replicate_zero, List.append_nil, truD_bl, items_str, items_tup, items_lst, fLen_tup, fLen_lst, bIx_tup, bIx_lst, tyD_str, tyD_int, tyD_bl, tyD_tup, tyD_lst, isTD_eq, isTn, fin_val, back_val, back_nil, back_pbx, Option.map_some, is_rising_lst hl, wpC_val]
            simp only [jNamed, hp, ha, jRisD, hss, strsOf_map, wp_bnd, wp_rt, wp_mC, wp_mVar, wp_mNil, wp_mCons, wp_op1, wp_op2, wp_mTst, wp_mTru, wp_mAnd, wp_mOr, wp_mNot, wp_mBl, wp_mAndV, wp_mOrV, wp_mNotV, wp_mIte, wp_lk2, wp_mChain, wp_mTup, wp_mLst, wp_mB, wp_mDk, wp_mYes, wp_mPass, wp_mBreak, wp_mCont, nxt, wp_mSeq, wp_mIf, wp_mRet, wp_mExpr, wp_mAsg, wp_mAsgT, wp_mPar, wp_mPut, wp_mApp, wp_mSl, wp_mPartN, wp_mPartS, wp_mRev2, wp_mMt, wp_mCall, wpC_val, wpC_own, wp_mCallR, wp_mItV, wp_mItF, wp_mRng1, wp_mFor, wp_mComp, sm_some, sm_none, sm_ite, sm_map, look_val, look_own, look_bx, looks_nil, looks_cons, toV_val, toV_own, toVs_nil, toVs_cons, List.getElem?_cons_zero, List.getElem?_cons_succ, List.set_cons_zero, List.set_cons_succ, List.cons_append, List.nil_append, List.replicate_succ, List.replicate_zero, List.append_nil, truD_bl, items_str, items_tup, items_lst, fLen_tup, fLen_lst, bIx_tup, bIx_lst, tyD_str, tyD_int, tyD_bl, tyD_tup, tyD_lst, isTD_eq, isTn, fin_val, back_val, back_nil, back_pbx, Option.map_some, fAll_map, restR, kv1]
            rfl
        · rw [if_neg ha]
          simp only [jNamed, hp, Bool.not_eq_true] at ha ⊢
          rw [ha] <;> rfl
theorem are_named_eq {d : D} (h : fit d = true) : F_are_named [.val d] = .ok (.val (.bl (jNamed d))) [.val d] := by
  cases d with
  | tup xs => exact are_named_tup h
  | fn _ => unfold fit at h; cases h
  | ins _ _ => unfold fit at h; cases h
  | _ => rfl
/-! numbers -/
def jFrac : D → Bool
  | .tup [.int a, .int b] => decide (1 ≤ b) && ((Nat.gcd a.natAbs b.natAbs : Nat) : Int) == 1
  | _ => false
theorem is_fraction_tup {xs : List D} (h : fit (.tup xs) = true) : F_is_fraction [.val (.tup xs)] = .ok (.val (.bl (jFrac (.tup xs)))) [.val (.tup xs)] := by
  obtain ⟨hn, hf⟩ := isD_tup h
  refine eq_defF ?_
  unfold m_is_fraction
  simp only [bNe_int, wp_bnd, wp_rt, wp_mC, wp_mVar, wp_mNil, wp_mCons, wp_op1, wp_op2, wp_mTst, wp_mTru, wp_mAnd, wp_mOr, wp_mNot, wp_mBl, wp_mAndV, wp_mOrV, wp_mNotV, wp_mIte, wp_lk2, wp_mChain, wp_mTup, wp_mLst, wp_mB, wp_mDk, wp_mYes, wp_mPass, wp_mBreak, wp_mCont, nxt, wp_mSeq, wp_mIf, wp_mRet, wp_mExpr, wp_mAsg, wp_mAsgT, wp_mPar, wp_mPut, wp_mApp, wp_mSl, wp_mPartN, wp_mPartS, wp_mRev2, wp_mMt, wp_mCall, wpC_val, wpC_own, wp_mCallR, wp_mItV, wp_mItF, wp_mRng1, wp_mFor, wp_mComp, sm_some, sm_none, sm_ite, sm_map, look_val, look_own, look_bx, looks_nil, looks_cons, toV_val, toV_own, toVs_nil, toVs_cons, List.getElem?_cons_zero, List.getElem?_cons_succ, List.set_cons_zero, List.set_cons_succ, List.map_cons, List.map_nil, List.cons_append, List.nil_append, List.replicate_succ, List.replicate_zero, List.append_nil, truD_bl, items_str, items_tup, items_lst, fLen_tup, fLen_lst, bIx_tup, bIx_lst, tyD_str, tyD_int, tyD_bl, tyD_tup, tyD_lst, isTD_eq, isTn, fin_val, back_val, back_nil, back_pbx, Option.map_some]
  by_cases h2 : xs.length = 2
  · obtain ⟨a, b, rfl⟩ : ∃ a b, xs = [a, b] := by
      match xs, h2 with
      | [a, b], _ => exact ⟨a, b, rfl⟩
    rw [if_neg (by decide)]
    simp only [List.length_cons, List.length_nil]
    rw [if_neg (by decide)]
    refine wp_comp [a, b] id (fun d => .bl (jWhole d)) (List.map_id _).symm hn rfl ?_ ?_
    · intro x hx
      simp [tgN, wipeR, restR, kv1, wp_bnd, wp_rt, wp_mC, wp_mVar, wp_mNil, wp_mCons, wp_op1, wp_op2, wp_mTst, wp_mTru, wp_mAnd, wp_mOr, wp_mNot, wp_mBl, wp_mAndV, wp_mOrV, wp_mNotV, wp_mIte, wp_lk2, wp_mChain, wp_mTup, wp_mLst, wp_mB, wp_mDk, wp_mYes, wp_mPass, wp_mBreak, wp_mCont, nxt, wp_mSeq, wp_mIf, wp_mRet, wp_mExpr, wp_mAsg, wp_mAsgT, wp_mPar, wp_mPut, wp_mApp, wp_mSl, wp_mPartN, wp_mPartS, wp_mRev2, wp_mMt, wp_mCall, wpC_val, wpC_own, wp_mCallR, wp_mItV, wp_mItF, wp_mRng1, wp_mFor, wp_mComp, sm_some, sm_none, sm_ite, sm_map, look_val, look_own, look_bx, looks_nil, looks_cons, toV_val, toV_own, toVs_nil, toVs_cons, List.getElem?_cons_zero, List.getElem?_cons_succ, List.set_cons_zero, List.set_cons_succ, List.map_cons, List.map_nil, List.cons_append, List.nil_append, List.replicate_succ, List.replicate_zero, List.append_nil, truD_bl, items_str, items_tup, items_lst, fLen_tup, fLen_lst, bIx_tup, bIx_lst, tyD_str, tyD_int, tyD_bl, tyD_tup, tyD_lst, isTD_eq, isTn, fin_val, back_val, back_nil, back_pbx, Option.map_some, is_whole_eq (fit_pl (fit_mem hf hx))]
    · simp only [wp_bnd, wp_rt, wp_mC, wp_mVar, wp_mNil, wp_mCons, wp_op1, wp_op2, wp_mTst, wp_mTru, wp_mAnd, wp_mOr, wp_mNot, wp_mBl, wp_mAndV, wp_mOrV, wp_mNotV, wp_mIte, wp_lk2, wp_mChain, wp_mTup, wp_mLst, wp_mB, wp_mDk, wp_mYes, wp_mPass, wp_mBreak, wp_mCont, nxt, wp_mSeq, wp_mIf, wp_mRet, wp_mExpr, wp_mAsg, wp_mAsgT, wp_mPar, wp_mPut, wp_mApp, wp_mSl, wp_mPartN, wp_mPartS, wp_mRev2, wp_mMt, wp_mCall, wpC_val, wpC_own, wp_mCallR, wp_mItV, wp_mItF, wp_mRng1, wp_mFor, wp_mComp, sm_some, sm_none, sm_ite, sm_map, look_val, look_own, look_bx, looks_nil, looks_cons, toV_val, toV_own, toVs_nil, toVs_cons, List.getElem?_cons_zero, List.getElem?_cons_succ, List.set_cons_zero, List.set_cons_succ, List.cons_append, List.nil_append, List.replicate_succ, List.replicate_zero, List.append_nil, truD_bl, items_str, items_tup, items_lst, fLen_tup, fLen_lst, bIx_tup, bIx_lst, tyD_str, tyD_int, tyD_bl, tyD_tup, tyD_lst, isTD_eq, isTn, fin_val, back_val, back_nil, back_pbx, Option.map_some, fAll_map, restR, kv1]
      cases a with
      | int a =>
        cases b with
        | int b =>
          simp [jWhole, wp_bnd, wp_rt, wp_mC, wp_mVar, wp_mNil, wp_mCons, wp_op1, wp_op2, wp_mTst, wp_mTru, wp_mAnd, wp_mOr, wp_mNot, wp_mBl, wp_mAndV, wp_mOrV, wp_mNotV, wp_mIte, wp_lk2, wp_mChain, wp_mTup, wp_mLst, wp_mB, wp_mDk, wp_mYes, wp_mPass, wp_mBreak, wp_mCont, nxt, wp_mSeq, wp_mIf, wp_mRet, wp_mExpr, wp_mAsg, wp_mAsgT, wp_mPar, wp_mPut, wp_mApp, wp_mSl, wp_mPartN, wp_mPartS, wp_mRev2, wp_mMt, wp_mCall, wpC_val, wpC_own, wp_mCallR, wp_mItV, wp_mItF, wp_mRng1, wp_mFor, wp_mComp, sm_some, sm_none, sm_ite, sm_map, look_val, look_own, look_bx, looks_nil, looks_cons, toV_val, toV_own, toVs_nil, toVs_cons, List.getElem?_cons_zero, List.getElem?_cons_succ, List.set_cons_zero, List.set_cons_succ, List.map_cons, List.map_nil, List.cons_append, List.nil_append, List.replicate_succ, List.replicate_zero, List.append_nil, truD_bl, items_str, items_tup, items_lst, fLen_tup, fLen_lst, bIx_tup, bIx_lst, tyD_str, tyD_int, tyD_bl, tyD_tup, tyD_lst, isTD_eq, isTn, fin_val, back_val, back_nil, back_pbx, Option.map_some, at1_zero, bGe_int, bEq_int, fGcd, jFrac, show at1 [D.int a, D.int b] 1 = some (.int b) from rfl, wp_mB]
          by_cases hb : 1 ≤ b <;> simp [hb, wp_bnd, wp_rt, wp_mC, wp_mVar, wp_mNil, wp_mCons, wp_op1, wp_op2, wp_mTst, wp_mTru, wp_mAnd, wp_mOr, wp_mNot, wp_mBl, wp_mAndV, wp_mOrV, wp_mNotV, wp_mIte, wp_lk2, wp_mChain, wp_mTup, wp_mLst, wp_mB, wp_mDk, wp_mYes, wp_mPass, wp_mBreak, wp_mCont, nxt, wp_mSeq, wp_mIf, wp_mRet, wp_mExpr, wp_mAsg, wp_mAsgT, wp_mPar, wp_mPut, wp_mApp, wp_mSl, wp_mPartN, wp_mPartS, wp_mRev2, wp_mMt, wp_mCall, wpC_val, wpC_own, wp_mCallR, wp_mItV, wp_mItF, wp_mRng1, wp_mFor, wp_mComp, sm_some, sm_none, sm_ite, sm_map, look_val, look_own, look_bx, looks_nil, looks_cons, toV_val, toV_own, toVs_nil, toVs_cons, List.getElem?_cons_zero, List.getElem?_cons_succ, List.set_cons_zero, List.set_cons_succ, List.map_cons, List.map_nil, List.cons_append, List.nil_append, List.replicate_succ, List.replicate_zero, List.append_nil, truD_bl, items_str, items_tup, items_lst, fLen_tup, fLen_lst, bIx_tup, bIx_lst, tyD_str, tyD_int, tyD_bl, tyD_tup, tyD_lst, isTD_eq, isTn, fin_val, back_val, back_nil, back_pbx, Option.map_some]
        | _ => simp [jWhole, wp_bnd, wp_rt, wp_mC, wp_mVar, wp_mNil, wp_mCons, wp_op1, wp_op2, wp_mTst, wp_mTru, wp_mAnd, wp_mOr, wp_mNot, wp_mBl, wp_mAndV, wp_mOrV, wp_mNotV, wp_mIte, wp_lk2, wp_mChain, wp_mTup, wp_mLst, wp_mB, wp_mDk, wp_mYes, wp_mPass, wp_mBreak, wp_mCont, nxt, wp_mSeq, wp_mIf, wp_mRet, wp_mExpr, wp_mAsg, wp_mAsgT, wp_mPar, wp_mPut, wp_mApp, wp_mSl, wp_mPartN, wp_mPartS, wp_mRev2, wp_mMt, wp_mCall, wpC_val, wpC_own, wp_mCallR, wp_mItV, wp_mItF, wp_mRng1, wp_mFor, wp_mComp, sm_some, sm_none, sm_ite, sm_map, look_val, look_own, look_bx, looks_nil, looks_cons, toV_val, toV_own, toVs_nil, toVs_cons, List.getElem?_cons_zero, List.getElem?_cons_succ, List.set_cons_zero, List.set_cons_succ, List.map_cons, List.map_nil, List.cons_append, List.nil_append, List.replicate_succ, List.replicate_zero, List.append_nil, truD_bl, items_str, items_tup, items_lst, fLen_tup, fLen_lst, bIx_tup, bIx_lst, tyD_str, tyD_int, tyD_bl, tyD_tup, tyD_lst, isTD_eq, isTn, fin_val, back_val, back_nil, back_pbx, Option.map_some, jFrac]
      | _ => simp [jWhole, wp_bnd, wp_rt, wp_mC, wp_mVar, wp_mNil, wp_mCons, wp_op1, wp_op2, wp_mTst, wp_mTru, wp_mAnd, wp_mOr, wp_mNot, wp_mBl, wp_mAndV, wp_mOrV, wp_mNotV, wp_mIte, wp_lk2, wp_mChain, wp_mTup, wp_mLst, wp_mB, wp_mDk, wp_mYes, wp_mPass, wp_mBreak, wp_mCont, nxt, wp_mSeq, wp_mIf, wp_mRet, wp_mExpr, wp_mAsg, wp_mAsgT, wp_mPar, wp_mPut, wp_mApp, wp_mSl, wp_mPartN, wp_mPartS, wp_mRev2, wp_mMt, wp_mCall, wpC_val, wpC_own, wp_mCallR, wp_mItV, wp_mItF, wp_mRng1, wp_mFor, wp_mComp, sm_some, sm_none, sm_ite, sm_map, look_val, look_own, look_bx, looks_nil, looks_cons, toV_val, toV_own, toVs_nil, toVs_cons, List.getElem?_cons_zero, List.getElem?_cons_succ, List.set_cons_zero, List.set_cons_succ, List.map_cons, List.map_nil, List.cons_append, List.nil_append, List.replicate_succ, List.replicate_zero, List.append_nil, truD_bl, items_str, items_tup, items_lst, fLen_tup, fLen_lst, bIx_tup, bIx_lst, tyD_str, tyD_int, tyD_bl, tyD_tup, tyD_lst, isTD_eq, isTn, fin_val, back_val, back_nil, back_pbx, Option.map_some, jFrac]
  · have h3 : ((xs.length : Int) == 2) = false := by rw [beq_eq_false_iff_ne]; omega
    simp only [h3, wp_bnd, wp_rt, wp_mC, wp_mVar, wp_mNil, wp_mCons, wp_op1, wp_op2, wp_mTst, wp_mTru, wp_mAnd, wp_mOr, wp_mNot, wp_mBl, wp_mAndV, wp_mOrV, wp_mNotV, wp_mIte, wp_lk2, wp_mChain, wp_mTup, wp_mLst, wp_mB, wp_mDk, wp_mYes, wp_mPass, wp_mBreak, wp_mCont, nxt, wp_mSeq, wp_mIf, wp_mRet, wp_mExpr, wp_mAsg, wp_mAsgT, wp_mPar, wp_mPut, wp_mApp, wp_mSl, wp_mPartN, wp_mPartS, wp_mRev2, wp_mMt, wp_mCall, wpC_val, wpC_own, wp_mCallR, wp_mItV, wp_mItF, wp_mRng1, wp_mFor, wp_mComp, sm_some, sm_none, sm_ite, sm_map, look_val, look_own, look_bx, looks_nil, looks_cons, toV_val, toV_own, toVs_nil, toVs_cons, List.getElem?_cons_zero, List.getElem?_cons_succ, List.set_cons_zero, List.set_cons_succ, List.map_cons, List.map_nil, List.cons_append, List.nil_append, List.replicate_succ, List.replicate_zero, List.append_nil, truD_bl, items_str, items_tup, items_lst, fLen_tup, fLen_lst, bIx_tup, bIx_lst, tyD_str, tyD_int, tyD_bl, tyD_tup, tyD_lst, isTD_eq, isTn, fin_val, back_val, back_nil, back_pbx, Option.map_some]
    simp [wp_bnd, wp_rt, wp_mC, wp_mVar, wp_mNil, wp_mCons, wp_op1, wp_op2, wp_mTst, wp_mTru, wp_mAnd, wp_mOr, wp_mNot, wp_mBl, wp_mAndV, wp_mOrV, wp_mNotV, wp_mIte, wp_lk2, wp_mChain, wp_mTup, wp_mLst, wp_mB, wp_mDk, wp_mYes, wp_mPass, wp_mBreak, wp_mCont, nxt, wp_mSeq, wp_mIf, wp_mRet, wp_mExpr, wp_mAsg, wp_mAsgT, wp_mPar, wp_mPut, wp_mApp, wp_mSl, wp_mPartN, wp_mPartS, wp_mRev2, wp_mMt, wp_mCall, wpC_val, wpC_own, wp_mCallR, wp_mItV, wp_mItF, wp_mRng1, wp_mFor, wp_mComp, sm_some, sm_none, sm_ite, sm_map, look_val, look_own, look_bx, looks_nil, looks_cons, toV_val, toV_own, toVs_nil, toVs_cons, List.getElem?_cons_zero, List.getElem?_cons_succ, List.set_cons_zero, List.set_cons_succ, List.map_cons, List.map_nil, List.cons_append, List.nil_append, List.replicate_succ, List.replicate_zero, List.append_nil, truD_bl, items_str, items_tup, items_lst, fLen_tup, fLen_lst, bIx_tup, bIx_lst, tyD_str, tyD_int, tyD_bl, tyD_tup, tyD_lst, isTD_eq, isTn, fin_val, back_val, back_nil, back_pbx, Option.map_some]
    unfold jFrac
    split
    · rename_i e; cases e; exact absurd rfl h2
    · rfl
theorem is_fraction_eq {d : D} (h : fit d = true) : F_is_fraction [.val d] = .ok (.val (.bl (jFrac d))) [.val d] := by
  cases d with
  | tup xs => exact is_fraction_tup h
  | fn _ => unfold fit at h; cases h
  | ins _ _ => unfold fit at h; cases h
  | _ => rfl
/-! forms -/
def jFac : D → Bool
  | .int i => !(i == 0)
  | _ => false
def jForm : D → Bool
  | .tup xs => jNamed (.tup xs) && match pairsOf xs with
    | some ps => ps.all fun p => jFac p.2
    | none => false
  | _ => false
theorem fit_pairs {ps : List (D × D)} (hf : fitL (ps.map prD) = true) : ∀ p ∈ ps, fit p.1 = true ∧ fit p.2 = true := by
  intro p m
  have := fit_mem hf (List.mem_map_of_mem (f := prD) m)
  have := (isD_tup this).2
  simp only [fitL, Bool.and_eq_true] at this
  exact ⟨this.1, this.2.1⟩
theorem named_pairs {xs : List D} (h : jNamed (.tup xs) = true) : ∃ (ps : List (D × D)) (ss : List Str), pairsOf xs = some ps ∧ xs = ps.map prD ∧ ps.map (·.1) = ss.map .str ∧ (ps.all fun p => jName p.1) = true ∧ jRis ss = true := by
  simp only [jNamed] at h
  cases hp : pairsOf xs with
  | none => rw [hp] at h; cases h
  | some ps =>
    rw [hp] at h
    simp only [Bool.and_eq_true] at h
    obtain ⟨ss, hs⟩ := strs_of_names (ds := ps.map (·.1)) (by rw [List.all_map]; exact h.1)
    refine ⟨ps, ss, rfl, pairsOf_some hp, hs, h.1, ?_⟩
    have h2 := h.2
    rw [jRisD, hs, strsOf_map] at h2
    exact h2
theorem is_form_tup {xs : List D} (h : fit (.tup xs) = true) : F_is_form [.val (.tup xs)] = .ok (.val (.bl (jForm (.tup xs)))) [.val (.tup xs)] := by
  obtain ⟨hn, hf⟩ := isD_tup h
  refine eq_defF ?_
  unfold m_is_form
  simp only [are_named_eq h, wp_bnd, wp_rt, wp_mC, wp_mVar, wp_mNil, wp_mCons, wp_op1, wp_op2, wp_mTst, wp_mTru, wp_mAnd, wp_mOr, wp_mNot, wp_mBl, wp_mAndV, wp_mOrV, wp_mNotV, wp_mIte, wp_lk2, wp_mChain, wp_mTup, wp_mLst, wp_mB, wp_mDk, wp_mYes, wp_mPass, wp_mBreak, wp_mCont, nxt, wp_mSeq, wp_mIf, wp_mRet, wp_mExpr, wp_mAsg, wp_mAsgT, wp_mPar, wp_mPut, wp_mApp, wp_mSl, wp_mPartN, wp_mPartS, wp_mRev2, wp_mMt, wp_mCall, wpC_val, wpC_own, wp_mCallR, wp_mItV, wp_mItF, wp_mRng1, wp_mFor, wp_mComp, sm_some, sm_none, sm_ite, sm_map, look_val, look_own, look_bx, looks_nil, looks_cons, toV_val, toV_own, toVs_nil, toVs_cons, List.getElem?_cons_zero, List.getElem?_cons_succ, List.set_cons_zero, List.set_cons_succ, List.map_cons, List.map_nil, List.cons_append, List.nil_append, List.replicate_succ, List.replicate_zero, List.append_nil, truD_bl, items_str, items_tup, items_lst, fLen_tup, fLen_lst, bIx_tup, bIx_lst, tyD_str, tyD_int, tyD_bl, tyD_tup, tyD_lst, isTD_eq, isTn, fin_val, back_val, back_nil, back_pbx, Option.map_some]
  cases hj : jNamed (.tup xs) with
  | false => simp [jForm, hj]
  | true =>
    obtain ⟨ps, ss, hp, rfl, hs, ha, hr⟩ := named_pairs hj
    rw [if_pos rfl]
    refine wp_comp ps prD (fun p => .bl (jFac p.2)) rfl (by rw [List.length_map] at hn; exact hn) rfl ?_ ?_
    · intro p hm
      have hf2 := (fit_pairs hf p hm).2
      simp only [tgT, tgL, tgN, wipeR, restR, kv1, prD, wp_bnd, wp_rt, wp_mC, wp_mVar, wp_mNil, wp_mCons, wp_op1, wp_op2, wp_mTst, wp_mTru, wp_mAnd, wp_mOr, wp_mNot, wp_mBl, wp_mAndV, wp_mOrV, wp_mNotV, wp_mIte, wp_lk2, wp_mChain, wp_mTup, wp_mLst, wp_mB, wp_mDk, wp_mYes, wp_mPass, wp_mBreak, wp_mCont, nxt, wp_mSeq, wp_mIf, wp_mRet, wp_mExpr, wp_mAsg, wp_mAsgT, wp_mPar, wp_mPut, wp_mApp, wp_mSl, wp_mPartN, wp_mPartS, wp_mRev2, wp_mMt, wp_mCall, wpC_val, wpC_own, wp_mCallR, wp_mItV, wp_mItF, wp_mRng1, wp_mFor, wp_mComp, sm_some, sm_none, sm_ite, sm_map, look_val, look_own, look_bx, looks_nil, looks_cons, toV_val, toV_own, toVs_nil, toVs_cons, List.getElem?_cons_zero, List.getElem?_cons_succ, List.set_cons_zero, List.set_cons_succ, List.map_cons, List.map_nil, List.cons_append, List.nil_append, List.replicate_succ, List.replicate_zero, List.append_nil, truD_bl, items_str, items_tup, items_lst, fLen_tup, fLen_lst, bIx_tup, bIx_lst, tyD_str, tyD_int, tyD_bl, tyD_tup, tyD_lst, isTD_eq, isTn, fin_val, back_val, back_nil, back_pbx, Option.map_some, is_whole_eq (fit_pl hf2)]
      cases p.2 with
      | int i => simp [jWhole, jFac, wp_bnd, wp_rt, wp_mC, wp_mVar, wp_mNil, wp_mCons, wp_op1, wp_op2, wp_mTst, wp_mTru, wp_mAnd, wp_mOr, wp_mNot, wp_mBl, wp_mAndV, wp_mOrV, wp_mNotV, wp_mIte, wp_lk2, wp_mChain, wp_mTup, wp_mLst, wp_mB, wp_mDk, wp_mYes, wp_mPass, wp_mBreak, wp_mCont, nxt, wp_mSeq, wp_mIf, wp_mRet, wp_mExpr, wp_mAsg, wp_mAsgT, wp_mPar, wp_mPut, wp_mApp, wp_mSl, wp_mPartN, wp_mPartS, wp_mRev2, wp_mMt, wp_mCall, wpC_val, wpC_own, wp_mCallR, wp_mItV, wp_mItF, wp_mRng1, wp_mFor, wp_mComp, sm_some, sm_none, sm_ite, sm_map, look_val, look_own, look_bx, looks_nil, looks_cons, toV_val, toV_own, toVs_nil, toVs_cons, List.getElem?_cons_zero, List.getElem?_cons_succ, List.set_cons_zero, List.set_cons_succ, List.map_cons, List.map_nil, List.cons_append, List.nil_append, List.replicate_succ, List.replicate_zero, List.append_nil, truD_bl, items_str, items_tup, items_lst, fLen_tup, fLen_lst, bIx_tup, bIx_lst, tyD_str, tyD_int, tyD_bl, tyD_tup, tyD_lst, isTD_eq, isTn, fin_val, back_val, back_nil, back_pbx, Option.map_some, bNe_int]
      | _ => simp [jWhole, jFac, wp_bnd, wp_rt, wp_mC, wp_mVar, wp_mNil, wp_mCons, wp_op1, wp_op2, wp_mTst, wp_mTru, wp_mAnd, wp_mOr, wp_mNot, wp_mBl, wp_mAndV, wp_mOrV, wp_mNotV, wp_mIte, wp_lk2, wp_mChain, wp_mTup, wp_mLst, wp_mB, wp_mDk, wp_mYes, wp_mPass, wp_mBreak, wp_mCont, nxt, wp_mSeq, wp_mIf, wp_mRet, wp_mExpr, wp_mAsg, wp_mAsgT, wp_mPar, wp_mPut, wp_mApp, wp_mSl, wp_mPartN, wp_mPartS, wp_mRev2, wp_mMt, wp_mCall, wpC_val, wpC_own, wp_mCallR, wp_mItV, wp_mItF, wp_mRng1, wp_mFor, wp_mComp, sm_some, sm_none, sm_ite, sm_map, look_val, look_own, look_bx, looks_nil, looks_cons, toV_val, toV_own, toVs_nil, toVs_cons, List.getElem?_cons_zero, List.getElem?_cons_succ, List.set_cons_zero, List.set_cons_succ, List.map_cons, List.map_nil, List.cons_append, List.nil_append, List.replicate_succ, List.replicate_zero, List.append_nil, truD_bl, items_str, items_tup, items_lst, fLen_tup, fLen_lst, bIx_tup, bIx_lst, tyD_str, tyD_int, tyD_bl, tyD_tup, tyD_lst, isTD_eq, isTn, fin_val, back_val, back_nil, back_pbx, Option.map_some]
    · simp only [wp_bnd, wp_rt, wp_mC, wp_mVar, wp_mNil, wp_mCons, wp_op1, wp_op2, wp_mTst, wp_mTru, wp_mAnd, wp_mOr, wp_mNot, wp_mBl, wp_mAndV, wp_mOrV, wp_mNotV, wp_mIte, wp_lk2, wp_mChain, wp_mTup, wp_mLst, wp_mB, wp_mDk, wp_mYes, wp_mPass, wp_mBreak, wp_mCont, nxt, wp_mSeq, wp_mIf, wp_mRet, wp_mExpr, wp_mAsg, wp_mAsgT, wp_mPar, wp_mPut, wp_mApp, wp_mSl, wp_mPartN, wp_mPartS, wp_mRev2, wp_mMt, wp_mCall, wpC_val, wpC_own, wp_mCallR, wp_mItV, wp_mItF, wp_mRng1, wp_mFor, wp_mComp, sm_some, sm_none, sm_ite, sm_map, look_val, look_own, look_bx, looks_nil, looks_cons, toV_val, toV_own, toVs_nil, toVs_cons, List.getElem?_cons_zero, List.getElem?_cons_succ, List.set_cons_zero, List.set_cons_succ, List.cons_append, List.nil_append, List.replicate_succ, List.replicate_zero, List.append_nil, truD_bl, items_str, items_tup, items_lst, fLen_tup, fLen_lst, bIx_tup, bIx_lst, tyD_str, tyD_int, tyD_bl, tyD_tup, tyD_lst, isTD_eq, isTn, fin_val, back_val, back_nil, back_pbx, Option.map_some, fAll_map, restR, kv1, jForm, hj, hp]
      rfl
theorem is_form_eq {d : D} (h : fit d = true) : F_is_form [.val d] = .ok (.val (.bl (jForm d))) [.val d] := by
  cases d with
  | tup xs => exact is_form_tup h
  | fn _ => unfold fit at h; cases h
  | ins _ _ => unfold fit at h; cases h
  | _ => rfl
def jFormOf (ns : List Str) (d : D) : Bool := jForm d && match d with
  | .tup xs => match pairsOf xs with
    | some ps => ps.all fun p => (ns.map D.str).any fun y => eqF y p.1
    | none => false
  | _ => false
theorem flat_strs {ns : List Str} : (ns.map D.str).all D.flat = true := by
  induction ns with
  | nil => rfl
  | cons a l ih => rw [List.map_cons, List.all_cons, ih] <;> rfl
theorem bIn_strs {ns : List Str} {s : Str} : bIn (.str s) (.tup (ns.map .str)) = some (.val (.bl ((ns.map D.str).any fun y => eqF y (.str s)))) := by
  unfold bIn inD
  dsimp only
  rw [if_pos ⟨rfl, flat_strs⟩] <;> rfl
theorem form_pairs {xs : List D} (h : jForm (.tup xs) = true) : jNamed (.tup xs) = true := by
  unfold jForm at h
  rw [Bool.and_eq_true] at h
  exact h.1
theorem is_form_of_eq {ns : List Str} {d : D} (h : fit d = true) : F_is_form_of [.val (.tup (ns.map .str)), .val d] = .ok (.val (.bl (jFormOf ns d))) [.val (.tup (ns.map .str)), .val d] := by
  refine eq_defF ?_
  unfold m_is_form_of
  simp only [is_form_eq h, wp_bnd, wp_rt, wp_mC, wp_mVar, wp_mNil, wp_mCons, wp_op1, wp_op2, wp_mTst, wp_mTru, wp_mAnd, wp_mOr, wp_mNot, wp_mBl, wp_mAndV, wp_mOrV, wp_mNotV, wp_mIte, wp_lk2, wp_mChain, wp_mTup, wp_mLst, wp_mB, wp_mDk, wp_mYes, wp_mPass, wp_mBreak, wp_mCont, nxt, wp_mSeq, wp_mIf, wp_mRet, wp_mExpr, wp_mAsg, wp_mAsgT, wp_mPar, wp_mPut, wp_mApp, wp_mSl, wp_mPartN, wp_mPartS, wp_mRev2, wp_mMt, wp_mCall, wpC_val, wpC_own, wp_mCallR, wp_mItV, wp_mItF, wp_mRng1, wp_mFor, wp_mComp, sm_some, sm_none, sm_ite, sm_map, look_val, look_own, look_bx, looks_nil, looks_cons, toV_val, toV_own, toVs_nil, toVs_cons, List.getElem?_cons_zero, List.getElem?_cons_succ, List.set_cons_zero, List.set_cons_succ, List.map_cons, List.map_nil, List.cons_append, List.nil_append, List.replicate_succ, List.replicate_zero, List.append_nil, truD_bl, items_str, items_tup, items_lst, fLen_tup, fLen_lst, bIx_tup, bIx_lst, tyD_str, tyD_int, tyD_bl, tyD_tup, tyD_lst, isTD_eq, isTn, fin_val, back_val, back_nil, back_pbx, Option.map_some]
  cases hj : jForm d with
  | false => simp [jFormOf, hj]
  | true =>
    rw [if_pos rfl]
    cases d with
    | tup xs =>
      obtain ⟨hn, hf⟩ := isD_tup h
      obtain ⟨ps, ss, hp, rfl, hs, ha, hr⟩ := named_pairs (form_pairs hj)
      simp only [wp_bnd, wp_rt, wp_mC, wp_mVar, wp_mNil, wp_mCons, wp_op1, wp_op2, wp_mTst, wp_mTru, wp_mAnd, wp_mOr, wp_mNot, wp_mBl, wp_mAndV, wp_mOrV, wp_mNotV, wp_mIte, wp_lk2, wp_mChain, wp_mTup, wp_mLst, wp_mB, wp_mDk, wp_mYes, wp_mPass, wp_mBreak, wp_mCont, nxt, wp_mSeq, wp_mIf, wp_mRet, wp_mExpr, wp_mAsg, wp_mAsgT, wp_mPar, wp_mPut, wp_mApp, wp_mSl, wp_mPartN, wp_mPartS, wp_mRev2, wp_mMt, wp_mCall, wpC_val, wpC_own, wp_mCallR, wp_mItV, wp_mItF, wp_mRng1, wp_mFor, wp_mComp, sm_some, sm_none, sm_ite, sm_map, look_val, look_own, look_bx, looks_nil, looks_cons, toV_val, toV_own, toVs_nil, toVs_cons, List.getElem?_cons_zero, List.getElem?_cons_succ, List.set_cons_zero, List.set_cons_succ, List.map_cons, List.map_nil, List.cons_append, List.nil_append, List.replicate_succ, List.replicate_zero, List.append_nil, truD_bl, items_str, items_tup, items_lst, fLen_tup, fLen_lst, bIx_tup, bIx_lst, tyD_str, tyD_int, tyD_bl, tyD_tup, tyD_lst, isTD_eq, isTn, fin_val, back_val, back_nil, back_pbx, Option.map_some]
      refine wp_comp ps prD (fun p => .bl ((ns.map D.str).any fun y => eqF y p.1)) rfl (by rw [List.length_map] at hn; exact hn) rfl ?_ ?_
      · intro p hm
        obtain ⟨s, hs⟩ : ∃ s, p.1 = .str s := by
          have := List.all_eq_true.mp ha p hm
          cases hq : p.1 with
          | str s => exact ⟨s, rfl⟩
          | _ => rw [hq] at this; cases this
        simp only [tgT, tgL, tgN, wipeR, restR, kv1, prD, hs, bIn_strs, wp_bnd, wp_rt, wp_mC, wp_mVar, wp_mNil, wp_mCons, wp_op1, wp_op2, wp_mTst, wp_mTru, wp_mAnd, wp_mOr, wp_mNot, wp_mBl, wp_mAndV, wp_mOrV, wp_mNotV, wp_mIte, wp_lk2, wp_mChain, wp_mTup, wp_mLst, wp_mB, wp_mDk, wp_mYes, wp_mPass, wp_mBreak, wp_mCont, nxt, wp_mSeq, wp_mIf, wp_mRet, wp_mExpr, wp_mAsg, wp_mAsgT, wp_mPar, wp_mPut, wp_mApp, wp_mSl, wp_mPartN, wp_mPartS, wp_mRev2, wp_mMt, wp_mCall, wpC_val, wpC_own, wp_mCallR, wp_mItV, wp_mItF, wp_mRng1, wp_mFor, wp_mComp, sm_some, sm_none, sm_ite, sm_map, look_val, look_own, look_bx, looks_nil, looks_cons, toV_val, toV_own, toVs_nil, toVs_cons, List.getElem?_cons_zero, List.getElem?_cons_succ, List.set_cons_zero, List.set_cons_succ, List.map_cons, List.map_nil, List.cons_append, List.nil_append, List.replicate_succ, List.replicate_zero, List.append_nil, truD_bl, items_str, items_tup, items_lst, fLen_tup, fLen_lst, bIx_tup, bIx_lst, tyD_str, tyD_int, tyD_bl, tyD_tup, tyD_lst, isTD_eq, isTn, fin_val, back_val, back_nil, back_pbx, Option.map_some]
        exact ⟨trivial, trivial, trivial⟩
      · simp only [wp_bnd, wp_rt, wp_mC, wp_mVar, wp_mNil, wp_mCons, wp_op1, wp_op2, wp_mTst, wp_mTru, wp_mAnd, wp_mOr, wp_mNot, wp_mBl, wp_mAndV, wp_mOrV, wp_mNotV, wp_mIte, wp_lk2, wp_mChain, wp_mTup, wp_mLst, wp_mB, wp_mDk, wp_mYes, wp_mPass, wp_mBreak, wp_mCont, nxt, wp_mSeq, wp_mIf, wp_mRet, wp_mExpr, wp_mAsg, wp_mAsgT, wp_mPar, wp_mPut, wp_mApp, wp_mSl, wp_mPartN, wp_mPartS, wp_mRev2, wp_mMt, wp_mCall, wpC_val, wpC_own, wp_mCallR, wp_mItV, wp_mItF, wp_mRng1, wp_mFor, wp_mComp, sm_some, sm_none, sm_ite, sm_map, look_val, look_own, look_bx, looks_nil, looks_cons, toV_val, toV_own, toVs_nil, toVs_cons, List.getElem?_cons_zero, List.getElem?_cons_succ, List.set_cons_zero, List.set_cons_succ, List.cons_append, List.nil_append, List.replicate_succ, List.replicate_zero, List.append_nil, truD_bl, items_str, items_tup, items_lst, fLen_tup, fLen_lst, bIx_tup, bIx_lst, tyD_str, tyD_int, tyD_bl, tyD_tup, tyD_lst, isTD_eq, isTn, fin_val, back_val, back_nil, back_pbx, Option.map_some, fAll_map, restR, kv1, jFormOf, hj, hp]
        rfl
    | _ => cases hj
/-! rows and books -/
def jWords : D → Bool
  | .str s => [D.str ">=", .str ">", .str "="].any fun y => eqF y (.str s)
  | _ => false
def jRow (ns : List Str) : D → Bool
  | .tup [a, m, b] => jFormOf ns a && match m with
    | .str s => if (s == "far") = true then jFormOf ns b else jWords (.str s) && jWhole b
    | _ => false
  | _ => false
theorem fit_str {s : Str} (h : fit (.str s) = true) : PyData.strOk s = true ∧ s.length < sizeLine := by
  unfold fit at h
  rw [Bool.and_eq_true] at h
  exact ⟨h.1, of_decide_eq_true h.2⟩
theorem bEq_str {a b : Str} (h : PyData.strOk a = true) (h2 : PyData.strOk b = true) : bEq (.str a) (.str b) = some (.val (.bl (a == b))) := by
  unfold bEq eqD
  simp only [toPy, SeqAt.shaped, PyData.canLay0, PyData.depth, h, h2]
  rfl
theorem is_row_tup {ns : List Str} {xs : List D} (h : fit (.tup xs) = true) : F_is_row [.val (.tup (ns.map .str)), .val (.tup xs)] = .ok (.val (.bl (jRow ns (.tup xs)))) [.val (.tup (ns.map .str)), .val (.tup xs)] := by
  obtain ⟨hn, hf⟩ := isD_tup h
  refine eq_defF ?_
  unfold m_is_row
  simp only [bNe_int, wp_bnd, wp_rt, wp_mC, wp_mVar, wp_mNil, wp_mCons, wp_op1, wp_op2, wp_mTst, wp_mTru, wp_mAnd, wp_mOr, wp_mNot, wp_mBl, wp_mAndV, wp_mOrV, wp_mNotV, wp_mIte, wp_lk2, wp_mChain, wp_mTup, wp_mLst, wp_mB, wp_mDk, wp_mYes, wp_mPass, wp_mBreak, wp_mCont, nxt, wp_mSeq, wp_mIf, wp_mRet, wp_mExpr, wp_mAsg, wp_mAsgT, wp_mPar, wp_mPut, wp_mApp, wp_mSl, wp_mPartN, wp_mPartS, wp_mRev2, wp_mMt, wp_mCall, wpC_val, wpC_own, wp_mCallR, wp_mItV, wp_mItF, wp_mRng1, wp_mFor, wp_mComp, sm_some, sm_none, sm_ite, sm_map, look_val, look_own, look_bx, looks_nil, looks_cons, toV_val, toV_own, toVs_nil, toVs_cons, List.getElem?_cons_zero, List.getElem?_cons_succ, List.set_cons_zero, List.set_cons_succ, List.map_cons, List.map_nil, List.cons_append, List.nil_append, List.replicate_succ, List.replicate_zero, List.append_nil, truD_bl, items_str, items_tup, items_lst, fLen_tup, fLen_lst, bIx_tup, bIx_lst, tyD_str, tyD_int, tyD_bl, tyD_tup, tyD_lst, isTD_eq, isTn, fin_val, back_val, back_nil, back_pbx, Option.map_some]
  by_cases h3 : xs.length = 3
  · obtain ⟨a, m, b, rfl⟩ : ∃ a m b, xs = [a, m, b] := by
      match xs, h3 with
      | [a, m, b], _ => exact ⟨a, m, b, rfl⟩
    simp only [fitL, Bool.and_eq_true] at hf
    simp only [List.length_cons, List.length_nil, at1_zero, is_form_of_eq hf.1, show at1 [a, m, b] 1 = some m from rfl, show at1 [a, m, b] 2 = some b from rfl, wp_bnd, wp_rt, wp_mC, wp_mVar, wp_mNil, wp_mCons, wp_op1, wp_op2, wp_mTst, wp_mTru, wp_mAnd, wp_mOr, wp_mNot, wp_mBl, wp_mAndV, wp_mOrV, wp_mNotV, wp_mIte, wp_lk2, wp_mChain, wp_mTup, wp_mLst, wp_mB, wp_mDk, wp_mYes, wp_mPass, wp_mBreak, wp_mCont, nxt, wp_mSeq, wp_mIf, wp_mRet, wp_mExpr, wp_mAsg, wp_mAsgT, wp_mPar, wp_mPut, wp_mApp, wp_mSl, wp_mPartN, wp_mPartS, wp_mRev2, wp_mMt, wp_mCall, wpC_val, wpC_own, wp_mCallR, wp_mItV, wp_mItF, wp_mRng1, wp_mFor, wp_mComp, sm_some, sm_none, sm_ite, sm_map, look_val, look_own, look_bx, looks_nil, looks_cons, toV_val, toV_own, toVs_nil, toVs_cons, List.getElem?_cons_zero, List.getElem?_cons_succ, List.set_cons_zero, List.set_cons_succ, List.map_cons, List.map_nil, List.cons_append, List.nil_append, List.replicate_succ, List.replicate_zero, List.append_nil, truD_bl, items_str, items_tup, items_lst, fLen_tup, fLen_lst, bIx_tup, bIx_lst, tyD_str, tyD_int, tyD_bl, tyD_tup, tyD_lst, isTD_eq, isTn, fin_val, back_val, back_nil, back_pbx, Option.map_some]
    cases ha : jFormOf ns a with
    | false => simp [jRow, ha]
    | true =>
      cases m with
      | str s =>
        simp only [bEq_str (fit_str hf.2.1).1 (show PyData.strOk "far" = true by decide +kernel), wp_bnd, wp_rt, wp_mC, wp_mVar, wp_mNil, wp_mCons, wp_op1, wp_op2, wp_mTst, wp_mTru, wp_mAnd, wp_mOr, wp_mNot, wp_mBl, wp_mAndV, wp_mOrV, wp_mNotV, wp_mIte, wp_lk2, wp_mChain, wp_mTup, wp_mLst, wp_mB, wp_mDk, wp_mYes, wp_mPass, wp_mBreak, wp_mCont, nxt, wp_mSeq, wp_mIf, wp_mRet, wp_mExpr, wp_mAsg, wp_mAsgT, wp_mPar, wp_mPut, wp_mApp, wp_mSl, wp_mPartN, wp_mPartS, wp_mRev2, wp_mMt, wp_mCall, wpC_val, wpC_own, wp_mCallR, wp_mItV, wp_mItF, wp_mRng1, wp_mFor, wp_mComp, sm_some, sm_none, sm_ite, sm_map, look_val, look_own, look_bx, looks_nil, looks_cons, toV_val, toV_own, toVs_nil, toVs_cons, List.getElem?_cons_zero, List.getElem?_cons_succ, List.set_cons_zero, List.set_cons_succ, List.map_cons, List.map_nil, List.cons_append, List.nil_append, List.replicate_succ, List.replicate_zero, List.append_nil, truD_bl, items_str, items_tup, items_lst, fLen_tup, fLen_lst, bIx_tup, bIx_lst, tyD_str, tyD_int, tyD_bl, tyD_tup, tyD_lst, isTD_eq, isTn, fin_val, back_val, back_nil, back_pbx, Option.map_some]
        cases hs : (s == "far") with
        | true => simp [jRow, ha, hs, is_form_of_eq hf.2.2.1, wp_bnd, wp_rt, wp_mC, wp_mVar, wp_mNil, wp_mCons, wp_op1, wp_op2, wp_mTst, wp_mTru, wp_mAnd, wp_mOr, wp_mNot, wp_mBl, wp_mAndV, wp_mOrV, wp_mNotV, wp_mIte, wp_lk2, wp_mChain, wp_mTup, wp_mLst, wp_mB, wp_mDk, wp_mYes, wp_mPass, wp_mBreak, wp_mCont, nxt, wp_mSeq, wp_mIf, wp_mRet, wp_mExpr, wp_mAsg, wp_mAsgT, wp_mPar, wp_mPut, wp_mApp, wp_mSl, wp_mPartN, wp_mPartS, wp_mRev2, wp_mMt, wp_mCall, wpC_val, wpC_own, wp_mCallR, wp_mItV, wp_mItF, wp_mRng1, wp_mFor, wp_mComp, sm_some, sm_none, sm_ite, sm_map, look_val, look_own, look_bx, looks_nil, looks_cons, toV_val, toV_own, toVs_nil, toVs_cons, List.getElem?_cons_zero, List.getElem?_cons_succ, List.set_cons_zero, List.set_cons_succ, List.map_cons, List.map_nil, List.cons_append, List.nil_append, List.replicate_succ, List.replicate_zero, List.append_nil, truD_bl, items_str, items_tup, items_lst, fLen_tup, fLen_lst, bIx_tup, bIx_lst, tyD_str, tyD_int, tyD_bl, tyD_tup, tyD_lst, isTD_eq, isTn, fin_val, back_val, back_nil, back_pbx, Option.map_some]
        | false =>
          have hw : bIn (.str s) c_WORDS = some (.val (.bl (jWords (.str s)))) := rfl
          cases hj : jWords (.str s) with
          | false => simp [jRow, ha, hs, hw, hj, wp_bnd, wp_rt, wp_mC, wp_mVar, wp_mNil, wp_mCons, wp_op1, wp_op2, wp_mTst, wp_mTru, wp_mAnd, wp_mOr, wp_mNot, wp_mBl, wp_mAndV, wp_mOrV, wp_mNotV, wp_mIte, wp_lk2, wp_mChain, wp_mTup, wp_mLst, wp_mB, wp_mDk, wp_mYes, wp_mPass, wp_mBreak, wp_mCont, nxt, wp_mSeq, wp_mIf, wp_mRet, wp_mExpr, wp_mAsg, wp_mAsgT, wp_mPar, wp_mPut, wp_mApp, wp_mSl, wp_mPartN, wp_mPartS, wp_mRev2, wp_mMt, wp_mCall, wpC_val, wpC_own, wp_mCallR, wp_mItV, wp_mItF, wp_mRng1, wp_mFor, wp_mComp, sm_some, sm_none, sm_ite, sm_map, look_val, look_own, look_bx, looks_nil, looks_cons, toV_val, toV_own, toVs_nil, toVs_cons, List.getElem?_cons_zero, List.getElem?_cons_succ, List.set_cons_zero, List.set_cons_succ, List.map_cons, List.map_nil, List.cons_append, List.nil_append, List.replicate_succ, List.replicate_zero, List.append_nil, truD_bl, items_str, items_tup, items_lst, fLen_tup, fLen_lst, bIx_tup, bIx_lst, tyD_str, tyD_int, tyD_bl, tyD_tup, tyD_lst, isTD_eq, isTn, fin_val, back_val, back_nil, back_pbx, Option.map_some]
          | true => simp [jRow, ha, hs, hw, hj, wp_bnd, wp_rt, wp_mC, wp_mVar, wp_mNil, wp_mCons, wp_op1, wp_op2, wp_mTst, wp_mTru, wp_mAnd, wp_mOr, wp_mNot, wp_mBl, wp_mAndV, wp_mOrV, wp_mNotV, wp_mIte, wp_lk2, wp_mChain, wp_mTup, wp_mLst, wp_mB, wp_mDk, wp_mYes, wp_mPass, wp_mBreak, wp_mCont, nxt, wp_mSeq, wp_mIf, wp_mRet, wp_mExpr, wp_mAsg, wp_mAsgT, wp_mPar, wp_mPut, wp_mApp, wp_mSl, wp_mPartN, wp_mPartS, wp_mRev2, wp_mMt, wp_mCall, wpC_val, wpC_own, wp_mCallR, wp_mItV, wp_mItF, wp_mRng1, wp_mFor, wp_mComp, sm_some, sm_none, sm_ite, sm_map, look_val, look_own, look_bx, looks_nil, looks_cons, toV_val, toV_own, toVs_nil, toVs_cons, List.getElem?_cons_zero, List.getElem?_cons_succ, List.set_cons_zero, List.set_cons_succ, List.map_cons, List.map_nil, List.cons_append, List.nil_append, List.replicate_succ, List.replicate_zero, List.append_nil, truD_bl, items_str, items_tup, items_lst, fLen_tup, fLen_lst, bIx_tup, bIx_lst, tyD_str, tyD_int, tyD_bl, tyD_tup, tyD_lst, isTD_eq, isTn, fin_val, back_val, back_nil, back_pbx, Option.map_some, is_whole_eq (fit_pl hf.2.2.1)]
      | fn _ => have := hf.2.1; unfold fit at this; cases this
      | ins _ _ => have := hf.2.1; unfold fit at this; cases this
      | _ => simp [jRow, ha, tyD, wp_bnd, wp_rt, wp_mC, wp_mVar, wp_mNil, wp_mCons, wp_op1, wp_op2, wp_mTst, wp_mTru, wp_mAnd, wp_mOr, wp_mNot, wp_mBl, wp_mAndV, wp_mOrV, wp_mNotV, wp_mIte, wp_lk2, wp_mChain, wp_mTup, wp_mLst, wp_mB, wp_mDk, wp_mYes, wp_mPass, wp_mBreak, wp_mCont, nxt, wp_mSeq, wp_mIf, wp_mRet, wp_mExpr, wp_mAsg, wp_mAsgT, wp_mPar, wp_mPut, wp_mApp, wp_mSl, wp_mPartN, wp_mPartS, wp_mRev2, wp_mMt, wp_mCall, wpC_val, wpC_own, wp_mCallR, wp_mItV, wp_mItF, wp_mRng1, wp_mFor, wp_mComp, sm_some, sm_none, sm_ite, sm_map, look_val, look_own, look_bx, looks_nil, looks_cons, toV_val, toV_own, toVs_nil, toVs_cons, List.getElem?_cons_zero, List.getElem?_cons_succ, List.set_cons_zero, List.set_cons_succ, List.map_cons, List.map_nil, List.cons_append, List.nil_append, List.replicate_succ, List.replicate_zero, List.append_nil, truD_bl, items_str, items_tup, items_lst, fLen_tup, fLen_lst, bIx_tup, bIx_lst, tyD_str, tyD_int, tyD_bl, tyD_tup, tyD_lst, isTD_eq, isTn, fin_val, back_val, back_nil, back_pbx, Option.map_some]
  · have h4 : ((xs.length : Int) == 3) = false := by rw [beq_eq_false_iff_ne]; omega
    simp only [h4, wp_bnd, wp_rt, wp_mC, wp_mVar, wp_mNil, wp_mCons, wp_op1, wp_op2, wp_mTst, wp_mTru, wp_mAnd, wp_mOr, wp_mNot, wp_mBl, wp_mAndV, wp_mOrV, wp_mNotV, wp_mIte, wp_lk2, wp_mChain, wp_mTup, wp_mLst, wp_mB, wp_mDk, wp_mYes, wp_mPass, wp_mBreak, wp_mCont, nxt, wp_mSeq, wp_mIf, wp_mRet, wp_mExpr, wp_mAsg, wp_mAsgT, wp_mPar, wp_mPut, wp_mApp, wp_mSl, wp_mPartN, wp_mPartS, wp_mRev2, wp_mMt, wp_mCall, wpC_val, wpC_own, wp_mCallR, wp_mItV, wp_mItF, wp_mRng1, wp_mFor, wp_mComp, sm_some, sm_none, sm_ite, sm_map, look_val, look_own, look_bx, looks_nil, looks_cons, toV_val, toV_own, toVs_nil, toVs_cons, List.getElem?_cons_zero, List.getElem?_cons_succ, List.set_cons_zero, List.set_cons_succ, List.map_cons, List.map_nil, List.cons_append, List.nil_append, List.replicate_succ, List.replicate_zero, List.append_nil, truD_bl, items_str, items_tup, items_lst, fLen_tup, fLen_lst, bIx_tup, bIx_lst, tyD_str, tyD_int, tyD_bl, tyD_tup, tyD_lst, isTD_eq, isTn, fin_val, back_val, back_nil, back_pbx, Option.map_some]
    simp [wp_bnd, wp_rt, wp_mC, wp_mVar, wp_mNil, wp_mCons, wp_op1, wp_op2, wp_mTst, wp_mTru, wp_mAnd, wp_mOr, wp_mNot, wp_mBl, wp_mAndV, wp_mOrV, wp_mNotV, wp_mIte, wp_lk2, wp_mChain, wp_mTup, wp_mLst, wp_mB, wp_mDk, wp_mYes, wp_mPass, wp_mBreak, wp_mCont, nxt, wp_mSeq, wp_mIf, wp_mRet, wp_mExpr, wp_mAsg, wp_mAsgT, wp_mPar, wp_mPut, wp_mApp, wp_mSl, wp_mPartN, wp_mPartS, wp_mRev2, wp_mMt, wp_mCall, wpC_val, wpC_own, wp_mCallR, wp_mItV, wp_mItF, wp_mRng1, wp_mFor, wp_mComp, sm_some, sm_none, sm_ite, sm_map, look_val, look_own, look_bx, looks_nil, looks_cons, toV_val, toV_own, toVs_nil, toVs_cons, List.getElem?_cons_zero, List.getElem?_cons_succ, List.set_cons_zero, List.set_cons_succ, List.map_cons, List.map_nil, List.cons_append, List.nil_append, List.replicate_succ, List.replicate_zero, List.append_nil, truD_bl, items_str, items_tup, items_lst, fLen_tup, fLen_lst, bIx_tup, bIx_lst, tyD_str, tyD_int, tyD_bl, tyD_tup, tyD_lst, isTD_eq, isTn, fin_val, back_val, back_nil, back_pbx, Option.map_some]
    unfold jRow
    split
    · rename_i e; cases e; exact absurd rfl h3
    · rfl
theorem is_row_eq {ns : List Str} {d : D} (h : fit d = true) : F_is_row [.val (.tup (ns.map .str)), .val d] = .ok (.val (.bl (jRow ns d))) [.val (.tup (ns.map .str)), .val d] := by
  cases d with
  | tup xs => exact is_row_tup h
  | fn _ => unfold fit at h; cases h
  | ins _ _ => unfold fit at h; cases h
  | _ => rfl
def jBook : D → Bool
  | .tup [.tup xs, .tup rows] => xs.all jName && match strsOf xs with
    | some ss => jRis ss && rows.all (jRow ss)
    | none => false
  | _ => false
theorem is_book_tup {xs : List D} (h : fit (.tup xs) = true) : F_is_book [.val (.tup xs)] = .ok (.val (.bl (jBook (.tup xs)))) [.val (.tup xs)] := by
  obtain ⟨hn, hf⟩ := isD_tup h
  refine eq_defF ?_
  unfold m_is_book
  simp only [bNe_int, wp_bnd, wp_rt, wp_mC, wp_mVar, wp_mNil, wp_mCons, wp_op1, wp_op2, wp_mTst, wp_mTru, wp_mAnd, wp_mOr, wp_mNot, wp_mBl, wp_mAndV, wp_mOrV, wp_mNotV, wp_mIte, wp_lk2, wp_mChain, wp_mTup, wp_mLst, wp_mB, wp_mDk, wp_mYes, wp_mPass, wp_mBreak, wp_mCont, nxt, wp_mSeq, wp_mIf, wp_mRet, wp_mExpr, wp_mAsg, wp_mAsgT, wp_mPar, wp_mPut, wp_mApp, wp_mSl, wp_mPartN, wp_mPartS, wp_mRev2, wp_mMt, wp_mCall, wpC_val, wpC_own, wp_mCallR, wp_mItV, wp_mItF, wp_mRng1, wp_mFor, wp_mComp, sm_some, sm_none, sm_ite, sm_map, look_val, look_own, look_bx, looks_nil, looks_cons, toV_val, toV_own, toVs_nil, toVs_cons, List.getElem?_cons_zero, List.getElem?_cons_succ, List.set_cons_zero, List.set_cons_succ, List.map_cons, List.map_nil, List.cons_append, List.nil_append, List.replicate_succ, List.replicate_zero, List.append_nil, truD_bl, items_str, items_tup, items_lst, fLen_tup, fLen_lst, bIx_tup, bIx_lst, tyD_str, tyD_int, tyD_bl, tyD_tup, tyD_lst, isTD_eq, isTn, fin_val, back_val, back_nil, back_pbx, Option.map_some]
  by_cases h3 : xs.length = 2
  · obtain ⟨a, b, rfl⟩ : ∃ a b, xs = [a, b] := by
      match xs, h3 with
      | [a, b], _ => exact ⟨a, b, rfl⟩
    simp only [fitL, Bool.and_eq_true] at hf
    simp only [List.length_cons, List.length_nil, tgT, tgL, tgN, wp_bnd, wp_rt, wp_mC, wp_mVar, wp_mNil, wp_mCons, wp_op1, wp_op2, wp_mTst, wp_mTru, wp_mAnd, wp_mOr, wp_mNot, wp_mBl, wp_mAndV, wp_mOrV, wp_mNotV, wp_mIte, wp_lk2, wp_mChain, wp_mTup, wp_mLst, wp_mB, wp_mDk, wp_mYes, wp_mPass, wp_mBreak, wp_mCont, nxt, wp_mSeq, wp_mIf, wp_mRet, wp_mExpr, wp_mAsg, wp_mAsgT, wp_mPar, wp_mPut, wp_mApp, wp_mSl, wp_mPartN, wp_mPartS, wp_mRev2, wp_mMt, wp_mCall, wpC_val, wpC_own, wp_mCallR, wp_mItV, wp_mItF, wp_mRng1, wp_mFor, wp_mComp, sm_some, sm_none, sm_ite, sm_map, look_val, look_own, look_bx, looks_nil, looks_cons, toV_val, toV_own, toVs_nil, toVs_cons, List.getElem?_cons_zero, List.getElem?_cons_succ, List.set_cons_zero, List.set_cons_succ, List.map_cons, List.map_nil, List.cons_append, List.nil_append, List.replicate_succ, List.replicate_zero, List.append_nil, truD_bl, items_str, items_tup, items_lst, fLen_tup, fLen_lst, bIx_tup, bIx_lst, tyD_str, tyD_int, tyD_bl, tyD_tup, tyD_lst, isTD_eq, isTn, fin_val, back_val, back_nil, back_pbx, Option.map_some]
    by_cases hab : ∃ as bs, a = .tup as ∧ b = .tup bs
    · obtain ⟨as, bs, rfl, rfl⟩ := hab
      obtain ⟨ha, hfa⟩ := isD_tup hf.1
      obtain ⟨hb, hfb⟩ := isD_tup hf.2.1
      simp [wp_bnd, wp_rt, wp_mC, wp_mVar, wp_mNil, wp_mCons, wp_op1, wp_op2, wp_mTst, wp_mTru, wp_mAnd, wp_mOr, wp_mNot, wp_mBl, wp_mAndV, wp_mOrV, wp_mNotV, wp_mIte, wp_lk2, wp_mChain, wp_mTup, wp_mLst, wp_mB, wp_mDk, wp_mYes, wp_mPass, wp_mBreak, wp_mCont, nxt, wp_mSeq, wp_mIf, wp_mRet, wp_mExpr, wp_mAsg, wp_mAsgT, wp_mPar, wp_mPut, wp_mApp, wp_mSl, wp_mPartN, wp_mPartS, wp_mRev2, wp_mMt, wp_mCall, wpC_val, wpC_own, wp_mCallR, wp_mItV, wp_mItF, wp_mRng1, wp_mFor, wp_mComp, sm_some, sm_none, sm_ite, sm_map, look_val, look_own, look_bx, looks_nil, looks_cons, toV_val, toV_own, toVs_nil, toVs_cons, List.getElem?_cons_zero, List.getElem?_cons_succ, List.set_cons_zero, List.set_cons_succ, List.map_cons, List.map_nil, List.cons_append, List.nil_append, List.replicate_succ, List.replicate_zero, List.append_nil, truD_bl, items_str, items_tup, items_lst, fLen_tup, fLen_lst, bIx_tup, bIx_lst, tyD_str, tyD_int, tyD_bl, tyD_tup, tyD_lst, isTD_eq, isTn, fin_val, back_val, back_nil, back_pbx, Option.map_some]
      refine wp_comp as id (fun d => .bl (jName d)) (List.map_id _).symm ha rfl ?_ ?_
      · intro x hx
        simp [tgN, wipeR, restR, kv1, wp_bnd, wp_rt, wp_mC, wp_mVar, wp_mNil, wp_mCons, wp_op1, wp_op2, wp_mTst, wp_mTru, wp_mAnd, wp_mOr, wp_mNot, wp_mBl, wp_mAndV, wp_mOrV, wp_mNotV, wp_mIte, wp_lk2, wp_mChain, wp_mTup, wp_mLst, wp_mB, wp_mDk, wp_mYes, wp_mPass, wp_mBreak, wp_mCont, nxt, wp_mSeq, wp_mIf, wp_mRet, wp_mExpr, wp_mAsg, wp_mAsgT, wp_mPar, wp_mPut, wp_mApp, wp_mSl, wp_mPartN, wp_mPartS, wp_mRev2, wp_mMt, wp_mCall, wpC_val, wpC_own, wp_mCallR, wp_mItV, wp_mItF, wp_mRng1, wp_mFor, wp_mComp, sm_some, sm_none, sm_ite, sm_map, look_val, look_own, look_bx, looks_nil, looks_cons, toV_val, toV_own, toVs_nil, toVs_cons, List.getElem?_cons_zero, List.getElem?_cons_succ, List.set_cons_zero, List.set_cons_succ, List.map_cons, List.map_nil, List.cons_append, List.nil_append, List.replicate_succ, List.replicate_zero, List.append_nil, truD_bl, items_str, items_tup, items_lst, fLen_tup, fLen_lst, bIx_tup, bIx_lst, tyD_str, tyD_int, tyD_bl, tyD_tup, tyD_lst, isTD_eq, isTn, fin_val, back_val, back_nil, back_pbx, Option.map_some, is_name_eq (fit_mem hfa hx)]
      · simp only [wp_bnd, wp_rt, wp_mC, wp_mVar, wp_mNil, wp_mCons, wp_op1, wp_op2, wp_mTst, wp_mTru, wp_mAnd, wp_mOr, wp_mNot, wp_mBl, wp_mAndV, wp_mOrV, wp_mNotV, wp_mIte, wp_lk2, wp_mChain, wp_mTup, wp_mLst, wp_mB, wp_mDk, wp_mYes, wp_mPass, wp_mBreak, wp_mCont, nxt, wp_mSeq, wp_mIf, wp_mRet, wp_mExpr, wp_mAsg, wp_mAsgT, wp_mPar, wp_mPut, wp_mApp, wp_mSl, wp_mPartN, wp_mPartS, wp_mRev2, wp_mMt, wp_mCall, wpC_val, wpC_own, wp_mCallR, wp_mItV, wp_mItF, wp_mRng1, wp_mFor, wp_mComp, sm_some, sm_none, sm_ite, sm_map, look_val, look_own, look_bx, looks_nil, looks_cons, toV_val, toV_own, toVs_nil, toVs_cons, List.getElem?_cons_zero, List.getElem?_cons_succ, List.set_cons_zero, List.set_cons_succ, List.cons_append, List.nil_append, List.replicate_succ, List.replicate_zero, List.append_nil, truD_bl, items_str, items_tup, items_lst, fLen_tup, fLen_lst, bIx_tup, bIx_lst, tyD_str, tyD_int, tyD_bl, tyD_tup, tyD_lst, isTD_eq, isTn, fin_val, back_val, back_nil, back_pbx, Option.map_some, fAll_map, restR, kv1]
        cases hj : as.all jName with
        | false => simp [jBook, hj, wp_bnd, wp_rt, wp_mC, wp_mVar, wp_mNil, wp_mCons, wp_op1, wp_op2, wp_mTst, wp_mTru, wp_mAnd, wp_mOr, wp_mNot, wp_mBl, wp_mAndV, wp_mOrV, wp_mNotV, wp_mIte, wp_lk2, wp_mChain, wp_mTup, wp_mLst, wp_mB, wp_mDk, wp_mYes, wp_mPass, wp_mBreak, wp_mCont, nxt, wp_mSeq, wp_mIf, wp_mRet, wp_mExpr, wp_mAsg, wp_mAsgT, wp_mPar, wp_mPut, wp_mApp, wp_mSl, wp_mPartN, wp_mPartS, wp_mRev2, wp_mMt, wp_mCall, wpC_val, wpC_own, wp_mCallR, wp_mItV, wp_mItF, wp_mRng1, wp_mFor, wp_mComp, sm_some, sm_none, sm_ite, sm_map, look_val, look_own, look_bx, looks_nil, looks_cons, toV_val, toV_own, toVs_nil, toVs_cons, List.getElem?_cons_zero, List.getElem?_cons_succ, List.set_cons_zero, List.set_cons_succ, List.map_cons, List.map_nil, List.cons_append, List.nil_append, List.replicate_succ, List.replicate_zero, List.append_nil, truD_bl, items_str, items_tup, items_lst, fLen_tup, fLen_lst, bIx_tup, bIx_lst, tyD_str, tyD_int, tyD_bl, tyD_tup, tyD_lst, isTD_eq, isTn, fin_val, back_val, back_nil, back_pbx, Option.map_some]
        | true =>
          obtain ⟨ss, rfl⟩ := strs_of_names hj
          have hss : ss.length < sizeLine := by rw [List.length_map] at ha; exact ha
          simp only [is_rising_tup hss, wp_bnd, wp_rt, wp_mC, wp_mVar, wp_mNil, wp_mCons, wp_op1, wp_op2, wp_mTst, wp_mTru, wp_mAnd, wp_mOr, wp_mNot, wp_mBl, wp_mAndV, wp_mOrV, wp_mNotV, wp_mIte, wp_lk2, wp_mChain, wp_mTup, wp_mLst, wp_mB, wp_mDk, wp_mYes, wp_mPass, wp_mBreak, wp_mCont, nxt, wp_mSeq, wp_mIf, wp_mRet, wp_mExpr, wp_mAsg, wp_mAsgT, wp_mPar, wp_mPut, wp_mApp, wp_mSl, wp_mPartN, wp_mPartS, wp_mRev2, wp_mMt, wp_mCall, wpC_val, wpC_own, wp_mCallR, wp_mItV, wp_mItF, wp_mRng1, wp_mFor, wp_mComp, sm_some, sm_none, sm_ite, sm_map, look_val, look_own, look_bx, looks_nil, looks_cons, toV_val, toV_own, toVs_nil, toVs_cons, List.getElem?_cons_zero, List.getElem?_cons_succ, List.set_cons_zero, List.set_cons_succ, List.map_cons, List.map_nil, List.cons_append, List.nil_append, List.replicate_succ, List.replicate_zero, List.append_nil, truD_bl, items_str, items_tup, items_lst, fLen_tup, fLen_lst, bIx_tup, bIx_lst, tyD_str, tyD_int, tyD_bl, tyD_tup, tyD_lst, isTD_eq, isTn, fin_val, back_val, back_nil, back_pbx, Option.map_some]
          cases hr : jRis ss with
          | false => simp [jBook, hj, strsOf_map, hr, wp_bnd, wp_rt, wp_mC, wp_mVar, wp_mNil, wp_mCons, wp_op1, wp_op2, wp_mTst, wp_mTru, wp_mAnd, wp_mOr, wp_mNot, wp_mBl, wp_mAndV, wp_mOrV, wp_mNotV, wp_mIte, wp_lk2, wp_mChain, wp_mTup, wp_mLst, wp_mB, wp_mDk, wp_mYes, wp_mPass, wp_mBreak, wp_mCont, nxt, wp_mSeq, wp_mIf, wp_mRet, wp_mExpr, wp_mAsg, wp_mAsgT, wp_mPar, wp_mPut, wp_mApp, wp_mSl, wp_mPartN, wp_mPartS, wp_mRev2, wp_mMt, wp_mCall, wpC_val, wpC_own, wp_mCallR, wp_mItV, wp_mItF, wp_mRng1, wp_mFor, wp_mComp, sm_some, sm_none, sm_ite, sm_map, look_val, look_own, look_bx, looks_nil, looks_cons, toV_val, toV_own, toVs_nil, toVs_cons, List.getElem?_cons_zero, List.getElem?_cons_succ, List.set_cons_zero, List.set_cons_succ, List.map_cons, List.map_nil, List.cons_append, List.nil_append, List.replicate_succ, List.replicate_zero, List.append_nil, truD_bl, items_str, items_tup, items_lst, fLen_tup, fLen_lst, bIx_tup, bIx_lst, tyD_str, tyD_int, tyD_bl, tyD_tup, tyD_lst, isTD_eq, isTn, fin_val, back_val, back_nil, back_pbx, Option.map_some]
          | true =>
            simp [wp_bnd, wp_rt, wp_mC, wp_mVar, wp_mNil, wp_mCons, wp_op1, wp_op2, wp_mTst, wp_mTru, wp_mAnd, wp_mOr, wp_mNot, wp_mBl, wp_mAndV, wp_mOrV, wp_mNotV, wp_mIte, wp_lk2, wp_mChain, wp_mTup, wp_mLst, wp_mB, wp_mDk, wp_mYes, wp_mPass, wp_mBreak, wp_mCont, nxt, wp_mSeq, wp_mIf, wp_mRet, wp_mExpr, wp_mAsg, wp_mAsgT, wp_mPar, wp_mPut, wp_mApp, wp_mSl, wp_mPartN, wp_mPartS, wp_mRev2, wp_mMt, wp_mCall, wpC_val, wpC_own, wp_mCallR, wp_mItV, wp_mItF, wp_mRng1, wp_mFor, wp_mComp, sm_some, sm_none, sm_ite, sm_map, look_val, look_own, look_bx, looks_nil, looks_cons, toV_val, toV_own, toVs_nil, toVs_cons, List.getElem?_cons_zero, List.getElem?_cons_succ, List.set_cons_zero, List.set_cons_succ, List.map_cons, List.map_nil, List.cons_append, List.nil_append, List.replicate_succ, List.replicate_zero, List.append_nil, truD_bl, items_str, items_tup, items_lst, fLen_tup, fLen_lst, bIx_tup, bIx_lst, tyD_str, tyD_int, tyD_bl, tyD_tup, tyD_lst, isTD_eq, isTn, fin_val, back_val, back_nil, back_pbx, Option.map_some]
            refine wp_comp bs id (fun d => .bl (jRow ss d)) (List.map_id _).symm hb rfl ?_ ?_
            · intro x hx
              simp [tgN, wipeR, restR, kv1, wp_bnd, wp_rt, wp_mC, wp_mVar, wp_mNil, wp_mCons, wp_op1, wp_op2, wp_mTst, wp_mTru, wp_mAnd, wp_mOr, wp_mNot, wp_mBl, wp_mAndV, wp_mOrV, wp_mNotV, wp_mIte, wp_lk2, wp_mChain, wp_mTup, wp_mLst, wp_mB, wp_mDk, wp_mYes, wp_mPass, wp_mBreak, wp_mCont, nxt, wp_mSeq, wp_mIf, wp_mRet, wp_mExpr, wp_mAsg, wp_mAsgT, wp_mPar, wp_mPut, wp_mApp, wp_mSl, wp_mPartN, wp_mPartS, wp_mRev2, wp_mMt, wp_mCall, wpC_val, wpC_own, wp_mCallR, wp_mItV, wp_mItF, wp_mRng1, wp_mFor, wp_mComp, sm_some, sm_none, sm_ite, sm_map, look_val, look_own, look_bx, looks_nil, looks_cons, toV_val, toV_own, toVs_nil, toVs_cons, List.getElem?_cons_zero, List.getElem?_cons_succ, List.set_cons_zero, List.set_cons_succ, List.map_cons, List.map_nil, List.cons_append, List.nil_append, List.replicate_succ, List.replicate_zero, List.append_nil, truD_bl, items_str, items_tup, items_lst, fLen_tup, fLen_lst, bIx_tup, bIx_lst, tyD_str, tyD_int, tyD_bl, tyD_tup, tyD_lst, isTD_eq, isTn, fin_val, back_val, back_nil, back_pbx, Option.map_some, is_row_eq (fit_mem hfb hx)]
            · simp only [wp_bnd, wp_rt, wp_mC, wp_mVar, wp_mNil, wp_mCons, wp_op1, wp_op2, wp_mTst, wp_mTru, wp_mAnd, wp_mOr, wp_mNot, wp_mBl, wp_mAndV, wp_mOrV, wp_mNotV, wp_mIte, wp_lk2, wp_mChain, wp_mTup, wp_mLst, wp_mB, wp_mDk, wp_mYes, wp_mPass, wp_mBreak, wp_mCont, nxt, wp_mSeq, wp_mIf, wp_mRet, wp_mExpr, wp_mAsg, wp_mAsgT, wp_mPar, wp_mPut, wp_mApp, wp_mSl, wp_mPartN, wp_mPartS, wp_mRev2, wp_mMt, wp_mCall, wpC_val, wpC_own, wp_mCallR, wp_mItV, wp_mItF, wp_mRng1, wp_mFor, wp_mComp, sm_some, sm_none, sm_ite, sm_map, look_val, look_own, look_bx, looks_nil, looks_cons, toV_val, toV_own, toVs_nil, toVs_cons, List.getElem?_cons_zero, List.getElem?_cons_succ, List.set_cons_zero, List.set_cons_succ, List.cons_append, List.nil_append, List.replicate_succ, List.replicate_zero, List.append_nil, truD_bl, items_str, items_tup, items_lst, fLen_tup, fLen_lst, bIx_tup, bIx_lst, tyD_str, tyD_int, tyD_bl, tyD_tup, tyD_lst, isTD_eq, isTn, fin_val, back_val, back_nil, back_pbx, Option.map_some, fAll_map, restR, kv1, jBook, hj, strsOf_map, hr]
              rfl
    · have fa := fit_pl hf.1
      have fb := fit_pl hf.2.1
      cases a with
      | tup as =>
        cases b with
        | tup bs => exact absurd ⟨as, bs, rfl, rfl⟩ hab
        | fn _ => cases fb
        | ins _ _ => cases fb
        | _ => simp [tyD, jBook, wp_bnd, wp_rt, wp_mC, wp_mVar, wp_mNil, wp_mCons, wp_op1, wp_op2, wp_mTst, wp_mTru, wp_mAnd, wp_mOr, wp_mNot, wp_mBl, wp_mAndV, wp_mOrV, wp_mNotV, wp_mIte, wp_lk2, wp_mChain, wp_mTup, wp_mLst, wp_mB, wp_mDk, wp_mYes, wp_mPass, wp_mBreak, wp_mCont, nxt, wp_mSeq, wp_mIf, wp_mRet, wp_mExpr, wp_mAsg, wp_mAsgT, wp_mPar, wp_mPut, wp_mApp, wp_mSl, wp_mPartN, wp_mPartS, wp_mRev2, wp_mMt, wp_mCall, wpC_val, wpC_own, wp_mCallR, wp_mItV, wp_mItF, wp_mRng1, wp_mFor, wp_mComp, sm_some, sm_none, sm_ite, sm_map, look_val, look_own, look_bx, looks_nil, looks_cons, toV_val, toV_own, toVs_nil, toVs_cons, List.getElem?_cons_zero, List.getElem?_cons_succ, List.set_cons_zero, List.set_cons_succ, List.map_cons, List.map_nil, List.cons_append, List.nil_append, List.replicate_succ, List.replicate_zero, List.append_nil, truD_bl, items_str, items_tup, items_lst, fLen_tup, fLen_lst, bIx_tup, bIx_lst, tyD_str, tyD_int, tyD_bl, tyD_tup, tyD_lst, isTD_eq, isTn, fin_val, back_val, back_nil, back_pbx, Option.map_some]
      | fn _ => cases fa
      | ins _ _ => cases fa
      | _ => simp [tyD, jBook, wp_bnd, wp_rt, wp_mC, wp_mVar, wp_mNil, wp_mCons, wp_op1, wp_op2, wp_mTst, wp_mTru, wp_mAnd, wp_mOr, wp_mNot, wp_mBl, wp_mAndV, wp_mOrV, wp_mNotV, wp_mIte, wp_lk2, wp_mChain, wp_mTup, wp_mLst, wp_mB, wp_mDk, wp_mYes, wp_mPass, wp_mBreak, wp_mCont, nxt, wp_mSeq, wp_mIf, wp_mRet, wp_mExpr, wp_mAsg, wp_mAsgT, wp_mPar, wp_mPut, wp_mApp, wp_mSl, wp_mPartN, wp_mPartS, wp_mRev2, wp_mMt, wp_mCall, wpC_val, wpC_own, wp_mCallR, wp_mItV, wp_mItF, wp_mRng1, wp_mFor, wp_mComp, sm_some, sm_none, sm_ite, sm_map, look_val, look_own, look_bx, looks_nil, looks_cons, toV_val, toV_own, toVs_nil, toVs_cons, List.getElem?_cons_zero, List.getElem?_cons_succ, List.set_cons_zero, List.set_cons_succ, List.map_cons, List.map_nil, List.cons_append, List.nil_append, List.replicate_succ, List.replicate_zero, List.append_nil, truD_bl, items_str, items_tup, items_lst, fLen_tup, fLen_lst, bIx_tup, bIx_lst, tyD_str, tyD_int, tyD_bl, tyD_tup, tyD_lst, isTD_eq, isTn, fin_val, back_val, back_nil, back_pbx, Option.map_some]
  · have h4 : ((xs.length : Int) == 2) = false := by rw [beq_eq_false_iff_ne]; omega
    simp only [h4, wp_bnd, wp_rt, wp_mC, wp_mVar, wp_mNil, wp_mCons, wp_op1, wp_op2, wp_mTst, wp_mTru, wp_mAnd, wp_mOr, wp_mNot, wp_mBl, wp_mAndV, wp_mOrV, wp_mNotV, wp_mIte, wp_lk2, wp_mChain, wp_mTup, wp_mLst, wp_mB, wp_mDk, wp_mYes, wp_mPass, wp_mBreak, wp_mCont, nxt, wp_mSeq, wp_mIf, wp_mRet, wp_mExpr, wp_mAsg, wp_mAsgT, wp_mPar, wp_mPut, wp_mApp, wp_mSl, wp_mPartN, wp_mPartS, wp_mRev2, wp_mMt, wp_mCall, wpC_val, wpC_own, wp_mCallR, wp_mItV, wp_mItF, wp_mRng1, wp_mFor, wp_mComp, sm_some, sm_none, sm_ite, sm_map, look_val, look_own, look_bx, looks_nil, looks_cons, toV_val, toV_own, toVs_nil, toVs_cons, List.getElem?_cons_zero, List.getElem?_cons_succ, List.set_cons_zero, List.set_cons_succ, List.map_cons, List.map_nil, List.cons_append, List.nil_append, List.replicate_succ, List.replicate_zero, List.append_nil, truD_bl, items_str, items_tup, items_lst, fLen_tup, fLen_lst, bIx_tup, bIx_lst, tyD_str, tyD_int, tyD_bl, tyD_tup, tyD_lst, isTD_eq, isTn, fin_val, back_val, back_nil, back_pbx, Option.map_some]
    simp [wp_bnd, wp_rt, wp_mC, wp_mVar, wp_mNil, wp_mCons, wp_op1, wp_op2, wp_mTst, wp_mTru, wp_mAnd, wp_mOr, wp_mNot, wp_mBl, wp_mAndV, wp_mOrV, wp_mNotV, wp_mIte, wp_lk2, wp_mChain, wp_mTup, wp_mLst, wp_mB, wp_mDk, wp_mYes, wp_mPass, wp_mBreak, wp_mCont, nxt, wp_mSeq, wp_mIf, wp_mRet, wp_mExpr, wp_mAsg, wp_mAsgT, wp_mPar, wp_mPut, wp_mApp, wp_mSl, wp_mPartN, wp_mPartS, wp_mRev2, wp_mMt, wp_mCall, wpC_val, wpC_own, wp_mCallR, wp_mItV, wp_mItF, wp_mRng1, wp_mFor, wp_mComp, sm_some, sm_none, sm_ite, sm_map, look_val, look_own, look_bx, looks_nil, looks_cons, toV_val, toV_own, toVs_nil, toVs_cons, List.getElem?_cons_zero, List.getElem?_cons_succ, List.set_cons_zero, List.set_cons_succ, List.map_cons, List.map_nil, List.cons_append, List.nil_append, List.replicate_succ, List.replicate_zero, List.append_nil, truD_bl, items_str, items_tup, items_lst, fLen_tup, fLen_lst, bIx_tup, bIx_lst, tyD_str, tyD_int, tyD_bl, tyD_tup, tyD_lst, isTD_eq, isTn, fin_val, back_val, back_nil, back_pbx, Option.map_some]
    unfold jBook
    split
    · rename_i e; cases e; exact absurd rfl h3
    · rfl
theorem is_book_eq {d : D} (h : fit d = true) : F_is_book [.val d] = .ok (.val (.bl (jBook d))) [.val d] := by
  cases d with
  | tup xs => exact is_book_tup h
  | fn _ => unfold fit at h; cases h
  | ins _ _ => unfold fit at h; cases h
  | _ => rfl
theorem need_book_yes {d : D} (h : fit d = true) (hb : jBook d = true) : F_need_book [.val d] = .ok (.val .none) [.val d] := by
  refine eq_defF ?_
  unfold m_need_book
  simp [is_book_eq h, hb, wp_bnd, wp_rt, wp_mC, wp_mVar, wp_mNil, wp_mCons, wp_op1, wp_op2, wp_mTst, wp_mTru, wp_mAnd, wp_mOr, wp_mNot, wp_mBl, wp_mAndV, wp_mOrV, wp_mNotV, wp_mIte, wp_lk2, wp_mChain, wp_mTup, wp_mLst, wp_mB, wp_mDk, wp_mYes, wp_mPass, wp_mBreak, wp_mCont, nxt, wp_mSeq, wp_mIf, wp_mRet, wp_mExpr, wp_mAsg, wp_mAsgT, wp_mPar, wp_mPut, wp_mApp, wp_mSl, wp_mPartN, wp_mPartS, wp_mRev2, wp_mMt, wp_mCall, wpC_val, wpC_own, wp_mCallR, wp_mItV, wp_mItF, wp_mRng1, wp_mFor, wp_mComp, sm_some, sm_none, sm_ite, sm_map, look_val, look_own, look_bx, looks_nil, looks_cons, toV_val, toV_own, toVs_nil, toVs_cons, List.getElem?_cons_zero, List.getElem?_cons_succ, List.set_cons_zero, List.set_cons_succ, List.map_cons, List.map_nil, List.cons_append, List.nil_append, List.replicate_succ, List.replicate_zero, List.append_nil, truD_bl, items_str, items_tup, items_lst, fLen_tup, fLen_lst, bIx_tup, bIx_lst, tyD_str, tyD_int, tyD_bl, tyD_tup, tyD_lst, isTD_eq, isTn, fin_val, back_val, back_nil, back_pbx, Option.map_some]
  rfl
theorem need_book_no {d : D} (h : fit d = true) (hb : jBook d = false) : F_need_book [.val d] = .exc "BadBook" [("book", d)] [.val d] := by
  have e : mCall F_is_book (mCons (mVar 0) mNil) [.val d] = .ok (.val (.bl false)) [.val d] := by
    show (match F_is_book [.val d] with
      | .ok (.val d') _ => R.ok (EV.val d') [SV.val d]
      | .ok (.own d') _ => .ok (.own d') [.val d]
      | .ok (.bx _) _ => .no
      | .exc c fs _ => .exc c fs [.val d]
      | .no => .no) = _
    rw [is_book_eq h, hb]
  have e2 : mNot (mTru (mCall F_is_book (mCons (mVar 0) mNil))) [.val d] = .ok true [.val d] := by
    unfold mNot mTru bnd
    rw [e] <;> rfl
  unfold F_need_book defF m_need_book mIf
  show fin _ (bnd _ _ [.val d]) = _
  unfold bnd
  rw [e2] <;> rfl
/-! points -/
def jPoint (ns : List Str) (d : D) : Bool := jNamed d && match d with
  | .tup xs => match pairsOf xs with
    | some ps => (ps.all fun p => jFrac p.2) && match strsOf (ps.map (·.1)) with
      | some ss => ss == ns
      | none => false
    | none => false
  | _ => false
theorem toPyL_strs {ss : List Str} : toPyL (ss.map .str) = some (ss.map .str) := by
  induction ss with
  | nil => rfl
  | cons a l ih => rw [List.map_cons, List.map_cons]; unfold toPyL; rw [ih] <;> rfl
theorem shaped_strs {ss : List Str} (h : ∀ s ∈ ss, PyData.strOk s = true) : SeqAt.shaped (.tuple (ss.map .str)) = true := by
  have h1 : PyData.canLayAll0 (ss.map .str) = true := by
    induction ss with
    | nil => rfl
    | cons a l ih =>
      rw [List.map_cons]
      unfold PyData.canLayAll0
      rw [ih fun s m => h s (List.mem_cons_of_mem _ m), Bool.and_true]
      exact h a (List.mem_cons_self ..)
  have h2 : PyData.depthAll (ss.map .str) = 0 := by
    clear h h1
    induction ss with
    | nil => rfl
    | cons a l ih => rw [List.map_cons]; unfold PyData.depthAll; rw [ih] <;> rfl
  unfold SeqAt.shaped
  show (PyData.canLayAll0 _ && decide (PyData.depthAll _ + 1 ≤ 64)) = true
  rw [h1, h2] <;> rfl
theorem eqv_strs {as bs : List Str} : PyData.eqvAll (as.map .str) (bs.map .str) = (as == bs) := by
  induction as generalizing bs with
  | nil => cases bs <;> rfl
  | cons a l ih =>
    cases bs with
    | nil => rfl
    | cons b r =>
      rw [List.map_cons, List.map_cons]
      unfold PyData.eqvAll
      rw [ih] <;> rfl
theorem bEq_strs {as bs : List Str} (h1 : ∀ s ∈ as, PyData.strOk s = true) (h2 : ∀ s ∈ bs, PyData.strOk s = true) : bEq (.tup (as.map .str)) (.tup (bs.map .str)) = some (.val (.bl (as == bs))) := by
  unfold bEq eqD
  simp only [toPy, toPyL_strs, Option.map_some, shaped_strs h1, shaped_strs h2]
  show some (EV.val (.bl (PyData.eqvAll _ _))) = _
  rw [eqv_strs]
theorem is_point_of_eq {ns : List Str} {d : D} (hns : ∀ s ∈ ns, PyData.strOk s = true) (h : fit d = true) : F_is_point_of [.val (.tup (ns.map .str)), .val d] = .ok (.val (.bl (jPoint ns d))) [.val (.tup (ns.map .str)), .val d] := by
  refine eq_defF ?_
  unfold m_is_point_of
  simp only [are_named_eq h, wp_bnd, wp_rt, wp_mC, wp_mVar, wp_mNil, wp_mCons, wp_op1, wp_op2, wp_mTst, wp_mTru, wp_mAnd, wp_mOr, wp_mNot, wp_mBl, wp_mAndV, wp_mOrV, wp_mNotV, wp_mIte, wp_lk2, wp_mChain, wp_mTup, wp_mLst, wp_mB, wp_mDk, wp_mYes, wp_mPass, wp_mBreak, wp_mCont, nxt, wp_mSeq, wp_mIf, wp_mRet, wp_mExpr, wp_mAsg, wp_mAsgT, wp_mPar, wp_mPut, wp_mApp, wp_mSl, wp_mPartN, wp_mPartS, wp_mRev2, wp_mMt, wp_mCall, wpC_val, wpC_own, wp_mCallR, wp_mItV, wp_mItF, wp_mRng1, wp_mFor, wp_mComp, sm_some, sm_none, sm_ite, sm_map, look_val, look_own, look_bx, looks_nil, looks_cons, toV_val, toV_own, toVs_nil, toVs_cons, List.getElem?_cons_zero, List.getElem?_cons_succ, List.set_cons_zero, List.set_cons_succ, List.map_cons, List.map_nil, List.cons_append, List.nil_append, List.replicate_succ, List.replicate_zero, List.append_nil, truD_bl, items_str, items_tup, items_lst, fLen_tup, fLen_lst, bIx_tup, bIx_lst, tyD_str, tyD_int, tyD_bl, tyD_tup, tyD_lst, isTD_eq, isTn, fin_val, back_val, back_nil, back_pbx, Option.map_some]
  cases hj : jNamed d with
  | false => simp [jPoint, hj, wp_bnd, wp_rt, wp_mC, wp_mVar, wp_mNil, wp_mCons, wp_op1, wp_op2, wp_mTst, wp_mTru, wp_mAnd, wp_mOr, wp_mNot, wp_mBl, wp_mAndV, wp_mOrV, wp_mNotV, wp_mIte, wp_lk2, wp_mChain, wp_mTup, wp_mLst, wp_mB, wp_mDk, wp_mYes, wp_mPass, wp_mBreak, wp_mCont, nxt, wp_mSeq, wp_mIf, wp_mRet, wp_mExpr, wp_mAsg, wp_mAsgT, wp_mPar, wp_mPut, wp_mApp, wp_mSl, wp_mPartN, wp_mPartS, wp_mRev2, wp_mMt, wp_mCall, wpC_val, wpC_own, wp_mCallR, wp_mItV, wp_mItF, wp_mRng1, wp_mFor, wp_mComp, sm_some, sm_none, sm_ite, sm_map, look_val, look_own, look_bx, looks_nil, looks_cons, toV_val, toV_own, toVs_nil, toVs_cons, List.getElem?_cons_zero, List.getElem?_cons_succ, List.set_cons_zero, List.set_cons_succ, List.map_cons, List.map_nil, List.cons_append, List.nil_append, List.replicate_succ, List.replicate_zero, List.append_nil, truD_bl, items_str, items_tup, items_lst, fLen_tup, fLen_lst, bIx_tup, bIx_lst, tyD_str, tyD_int, tyD_bl, tyD_tup, tyD_lst, isTD_eq, isTn, fin_val, back_val, back_nil, back_pbx, Option.map_some]
  | true =>
    cases d with
    | tup xs =>
      obtain ⟨hn, hf⟩ := isD_tup h
      obtain ⟨ps, ss, hp, rfl, hs, ha, hr⟩ := named_pairs hj
      have hfp := fit_pairs hf
      rw [List.length_map] at hn
      simp [wp_bnd, wp_rt, wp_mC, wp_mVar, wp_mNil, wp_mCons, wp_op1, wp_op2, wp_mTst, wp_mTru, wp_mAnd, wp_mOr, wp_mNot, wp_mBl, wp_mAndV, wp_mOrV, wp_mNotV, wp_mIte, wp_lk2, wp_mChain, wp_mTup, wp_mLst, wp_mB, wp_mDk, wp_mYes, wp_mPass, wp_mBreak, wp_mCont, nxt, wp_mSeq, wp_mIf, wp_mRet, wp_mExpr, wp_mAsg, wp_mAsgT, wp_mPar, wp_mPut, wp_mApp, wp_mSl, wp_mPartN, wp_mPartS, wp_mRev2, wp_mMt, wp_mCall, wpC_val, wpC_own, wp_mCallR, wp_mItV, wp_mItF, wp_mRng1, wp_mFor, wp_mComp, sm_some, sm_none, sm_ite, sm_map, look_val, look_own, look_bx, looks_nil, looks_cons, toV_val, toV_own, toVs_nil, toVs_cons, List.getElem?_cons_zero, List.getElem?_cons_succ, List.set_cons_zero, List.set_cons_succ, List.map_cons, List.map_nil, List.cons_append, List.nil_append, List.replicate_succ, List.replicate_zero, List.append_nil, truD_bl, items_str, items_tup, items_lst, fLen_tup, fLen_lst, bIx_tup, bIx_lst, tyD_str, tyD_int, tyD_bl, tyD_tup, tyD_lst, isTD_eq, isTn, fin_val, back_val, back_nil, back_pbx, Option.map_some]
      refine wp_comp ps prD (fun p => .bl (jFrac p.2)) rfl hn rfl ?_ ?_
      · intro p hm
        simp [tgT, tgL, tgN, wipeR, restR, kv1, prD, wp_bnd, wp_rt, wp_mC, wp_mVar, wp_mNil, wp_mCons, wp_op1, wp_op2, wp_mTst, wp_mTru, wp_mAnd, wp_mOr, wp_mNot, wp_mBl, wp_mAndV, wp_mOrV, wp_mNotV, wp_mIte, wp_lk2, wp_mChain, wp_mTup, wp_mLst, wp_mB, wp_mDk, wp_mYes, wp_mPass, wp_mBreak, wp_mCont, nxt, wp_mSeq, wp_mIf, wp_mRet, wp_mExpr, wp_mAsg, wp_mAsgT, wp_mPar, wp_mPut, wp_mApp, wp_mSl, wp_mPartN, wp_mPartS, wp_mRev2, wp_mMt, wp_mCall, wpC_val, wpC_own, wp_mCallR, wp_mItV, wp_mItF, wp_mRng1, wp_mFor, wp_mComp, sm_some, sm_none, sm_ite, sm_map, look_val, look_own, look_bx, looks_nil, looks_cons, toV_val, toV_own, toVs_nil, toVs_cons, List.getElem?_cons_zero, List.getElem?_cons_succ, List.set_cons_zero, List.set_cons_succ, List.map_cons, List.map_nil, List.cons_append, List.nil_append, List.replicate_succ, List.replicate_zero, List.append_nil, truD_bl, items_str, items_tup, items_lst, fLen_tup, fLen_lst, bIx_tup, bIx_lst, tyD_str, tyD_int, tyD_bl, tyD_tup, tyD_lst, isTD_eq, isTn, fin_val, back_val, back_nil, back_pbx, Option.map_some, is_fraction_eq (hfp p hm).2]
      · simp only [wp_bnd, wp_rt, wp_mC, wp_mVar, wp_mNil, wp_mCons, wp_op1, wp_op2, wp_mTst, wp_mTru, wp_mAnd, wp_mOr, wp_mNot, wp_mBl, wp_mAndV, wp_mOrV, wp_mNotV, wp_mIte, wp_lk2, wp_mChain, wp_mTup, wp_mLst, wp_mB, wp_mDk, wp_mYes, wp_mPass, wp_mBreak, wp_mCont, nxt, wp_mSeq, wp_mIf, wp_mRet, wp_mExpr, wp_mAsg, wp_mAsgT, wp_mPar, wp_mPut, wp_mApp, wp_mSl, wp_mPartN, wp_mPartS, wp_mRev2, wp_mMt, wp_mCall, wpC_val, wpC_own, wp_mCallR, wp_mItV, wp_mItF, wp_mRng1, wp_mFor, wp_mComp, sm_some, sm_none, sm_ite, sm_map, look_val, look_own, look_bx, looks_nil, looks_cons, toV_val, toV_own, toVs_nil, toVs_cons, List.getElem?_cons_zero, List.getElem?_cons_succ, List.set_cons_zero, List.set_cons_succ, List.cons_append, List.nil_append, List.replicate_succ, List.replicate_zero, List.append_nil, truD_bl, items_str, items_tup, items_lst, fLen_tup, fLen_lst, bIx_tup, bIx_lst, tyD_str, tyD_int, tyD_bl, tyD_tup, tyD_lst, isTD_eq, isTn, fin_val, back_val, back_nil, back_pbx, Option.map_some, fAll_map, restR, kv1]
        cases hq : ps.all (fun p => jFrac p.2) with
        | false => simp [jPoint, hj, hp, hq, wp_bnd, wp_rt, wp_mC, wp_mVar, wp_mNil, wp_mCons, wp_op1, wp_op2, wp_mTst, wp_mTru, wp_mAnd, wp_mOr, wp_mNot, wp_mBl, wp_mAndV, wp_mOrV, wp_mNotV, wp_mIte, wp_lk2, wp_mChain, wp_mTup, wp_mLst, wp_mB, wp_mDk, wp_mYes, wp_mPass, wp_mBreak, wp_mCont, nxt, wp_mSeq, wp_mIf, wp_mRet, wp_mExpr, wp_mAsg, wp_mAsgT, wp_mPar, wp_mPut, wp_mApp, wp_mSl, wp_mPartN, wp_mPartS, wp_mRev2, wp_mMt, wp_mCall, wpC_val, wpC_own, wp_mCallR, wp_mItV, wp_mItF, wp_mRng1, wp_mFor, wp_mComp, sm_some, sm_none, sm_ite, sm_map, look_val, look_own, look_bx, looks_nil, looks_cons, toV_val, toV_own, toVs_nil, toVs_cons, List.getElem?_cons_zero, List.getElem?_cons_succ, List.set_cons_zero, List.set_cons_succ, List.map_cons, List.map_nil, List.cons_append, List.nil_append, List.replicate_succ, List.replicate_zero, List.append_nil, truD_bl, items_str, items_tup, items_lst, fLen_tup, fLen_lst, bIx_tup, bIx_lst, tyD_str, tyD_int, tyD_bl, tyD_tup, tyD_lst, isTD_eq, isTn, fin_val, back_val, back_nil, back_pbx, Option.map_some]
        | true =>
          simp [wp_bnd, wp_rt, wp_mC, wp_mVar, wp_mNil, wp_mCons, wp_op1, wp_op2, wp_mTst, wp_mTru, wp_mAnd, wp_mOr, wp_mNot, wp_mBl, wp_mAndV, wp_mOrV, wp_mNotV, wp_mIte, wp_lk2, wp_mChain, wp_mTup, wp_mLst, wp_mB, wp_mDk, wp_mYes, wp_mPass, wp_mBreak, wp_mCont, nxt, wp_mSeq, wp_mIf, wp_mRet, wp_mExpr, wp_mAsg, wp_mAsgT, wp_mPar, wp_mPut, wp_mApp, wp_mSl, wp_mPartN, wp_mPartS, wp_mRev2, wp_mMt, wp_mCall, wpC_val, wpC_own, wp_mCallR, wp_mItV, wp_mItF, wp_mRng1, wp_mFor, wp_mComp, sm_some, sm_none, sm_ite, sm_map, look_val, look_own, look_bx, looks_nil, looks_cons, toV_val, toV_own, toVs_nil, toVs_cons, List.getElem?_cons_zero, List.getElem?_cons_succ, List.set_cons_zero, List.set_cons_succ, List.map_cons, List.map_nil, List.cons_append, List.nil_append, List.replicate_succ, List.replicate_zero, List.append_nil, truD_bl, items_str, items_tup, items_lst, fLen_tup, fLen_lst, bIx_tup, bIx_lst, tyD_str, tyD_int, tyD_bl, tyD_tup, tyD_lst, isTD_eq, isTn, fin_val, back_val, back_nil, back_pbx, Option.map_some]
          refine wp_comp ps prD (fun p => p.1) rfl hn rfl ?_ ?_
          · intro p hm
            simp [tgT, tgL, tgN, wipeR, restR, kv1, prD, wp_bnd, wp_rt, wp_mC, wp_mVar, wp_mNil, wp_mCons, wp_op1, wp_op2, wp_mTst, wp_mTru, wp_mAnd, wp_mOr, wp_mNot, wp_mBl, wp_mAndV, wp_mOrV, wp_mNotV, wp_mIte, wp_lk2, wp_mChain, wp_mTup, wp_mLst, wp_mB, wp_mDk, wp_mYes, wp_mPass, wp_mBreak, wp_mCont, nxt, wp_mSeq, wp_mIf, wp_mRet, wp_mExpr, wp_mAsg, wp_mAsgT, wp_mPar, wp_mPut, wp_mApp, wp_mSl, wp_mPartN, wp_mPartS, wp_mRev2, wp_mMt, wp_mCall, wpC_val, wpC_own, wp_mCallR, wp_mItV, wp_mItF, wp_mRng1, wp_mFor, wp_mComp, sm_some, sm_none, sm_ite, sm_map, look_val, look_own, look_bx, looks_nil, looks_cons, toV_val, toV_own, toVs_nil, toVs_cons, List.getElem?_cons_zero, List.getElem?_cons_succ, List.set_cons_zero, List.set_cons_succ, List.map_cons, List.map_nil, List.cons_append, List.nil_append, List.replicate_succ, List.replicate_zero, List.append_nil, truD_bl, items_str, items_tup, items_lst, fLen_tup, fLen_lst, bIx_tup, bIx_lst, tyD_str, tyD_int, tyD_bl, tyD_tup, tyD_lst, isTD_eq, isTn, fin_val, back_val, back_nil, back_pbx, Option.map_some]
          · have hss : ∀ s ∈ ss, PyData.strOk s = true := by
              intro s m
              have : D.str s ∈ ps.map (·.1) := by rw [hs]; exact List.mem_map_of_mem m
              obtain ⟨p, hm, hps⟩ := List.mem_map.mp this
              have := (hfp p hm).1
              rw [hps] at this
              exact (fit_str this).1
            simp only [hs, fTuple, restR, kv1, bEq_strs hss hns, jPoint, hj, hp, hq, strsOf_map, wp_bnd, wp_rt, wp_mC, wp_mVar, wp_mNil, wp_mCons, wp_op1, wp_op2, wp_mTst, wp_mTru, wp_mAnd, wp_mOr, wp_mNot, wp_mBl, wp_mAndV, wp_mOrV, wp_mNotV, wp_mIte, wp_lk2, wp_mChain, wp_mTup, wp_mLst, wp_mB, wp_mDk, wp_mYes, wp_mPass, wp_mBreak, wp_mCont, nxt, wp_mSeq, wp_mIf, wp_mRet, wp_mExpr, wp_mAsg, wp_mAsgT, wp_mPar, wp_mPut, wp_mApp, wp_mSl, wp_mPartN, wp_mPartS, wp_mRev2, wp_mMt, wp_mCall, wpC_val, wpC_own, wp_mCallR, wp_mItV, wp_mItF, wp_mRng1, wp_mFor, wp_mComp, sm_some, sm_none, sm_ite, sm_map, look_val, look_own, look_bx, looks_nil, looks_cons, toV_val, toV_own, toVs_nil, toVs_cons, List.getElem?_cons_zero, List.getElem?_cons_succ, List.set_cons_zero, List.set_cons_succ, List.map_cons, List.map_nil, List.cons_append, List.nil_append, List.replicate_succ, List.replicate_zero, List.append_nil, truD_bl, items_str, items_tup, items_lst, fLen_tup, fLen_lst, bIx_tup, bIx_lst, tyD_str, tyD_int, tyD_bl, tyD_tup, tyD_lst, isTD_eq, isTn, fin_val, back_val, back_nil, back_pbx, Option.map_some]
            rfl
    | _ => cases hj
theorem book_parts {d : D} (hb : jBook d = true) : ∃ (ns : List Str) (rows : List D), d = .tup [.tup (ns.map .str), .tup rows] ∧ (ns.map D.str).all jName = true ∧ jRis ns = true ∧ rows.all (jRow ns) = true := by
  unfold jBook at hb
  split at hb
  · rename_i xs rows
    rw [Bool.and_eq_true] at hb
    obtain ⟨ss, rfl⟩ := strs_of_names hb.1
    have h2 := hb.2
    rw [strsOf_map] at h2
    simp only [Bool.and_eq_true] at h2
    exact ⟨ss, rows, rfl, hb.1, h2.1, h2.2⟩
  · cases hb
theorem is_point_yes {ns : List Str} {rows : List D} {d : D} (h0 : fit (.tup [.tup (ns.map .str), .tup rows]) = true) (hb : jBook (.tup [.tup (ns.map .str), .tup rows]) = true) (h : fit d = true) :
    F_is_point [.val (.tup [.tup (ns.map .str), .tup rows]), .val d] = .ok (.val (.bl (jPoint ns d))) [.val (.tup [.tup (ns.map .str), .tup rows]), .val d] := by
  have hns : ∀ s ∈ ns, PyData.strOk s = true := by
    intro s m
    obtain ⟨_, hf⟩ := isD_tup h0
    simp only [fitL, Bool.and_eq_true] at hf
    obtain ⟨_, hf2⟩ := isD_tup hf.1
    exact (fit_str (fit_mem hf2 (List.mem_map_of_mem m))).1
  refine eq_defF ?_
  unfold m_is_point
  simp only [need_book_yes h0 hb, at1_zero, is_point_of_eq hns h, wp_bnd, wp_rt, wp_mC, wp_mVar, wp_mNil, wp_mCons, wp_op1, wp_op2, wp_mTst, wp_mTru, wp_mAnd, wp_mOr, wp_mNot, wp_mBl, wp_mAndV, wp_mOrV, wp_mNotV, wp_mIte, wp_lk2, wp_mChain, wp_mTup, wp_mLst, wp_mB, wp_mDk, wp_mYes, wp_mPass, wp_mBreak, wp_mCont, nxt, wp_mSeq, wp_mIf, wp_mRet, wp_mExpr, wp_mAsg, wp_mAsgT, wp_mPar, wp_mPut, wp_mApp, wp_mSl, wp_mPartN, wp_mPartS, wp_mRev2, wp_mMt, wp_mCall, wpC_val, wpC_own, wp_mCallR, wp_mItV, wp_mItF, wp_mRng1, wp_mFor, wp_mComp, sm_some, sm_none, sm_ite, sm_map, look_val, look_own, look_bx, looks_nil, looks_cons, toV_val, toV_own, toVs_nil, toVs_cons, List.getElem?_cons_zero, List.getElem?_cons_succ, List.set_cons_zero, List.set_cons_succ, List.map_cons, List.map_nil, List.cons_append, List.nil_append, List.replicate_succ, List.replicate_zero, List.append_nil, truD_bl, items_str, items_tup, items_lst, fLen_tup, fLen_lst, bIx_tup, bIx_lst, tyD_str, tyD_int, tyD_bl, tyD_tup, tyD_lst, isTD_eq, isTn, fin_val, back_val, back_nil, back_pbx, Option.map_some]
theorem is_point_no {b d : D} (h0 : fit b = true) (hb : jBook b = false) : F_is_point [.val b, .val d] = .exc "BadBook" [("book", b)] [.val b, .val d] := by
  have e : mCall F_need_book (mCons (mVar 0) mNil) [.val b, .val d] = .exc "BadBook" [("book", b)] [.val b, .val d] := by
    show (match F_need_book [.val b] with
      | .ok (.val d') _ => R.ok (EV.val d') [SV.val b, .val d]
      | .ok (.own d') _ => .ok (.own d') [.val b, .val d]
      | .ok (.bx _) _ => .no
      | .exc c fs _ => .exc c fs [.val b, .val d]
      | .no => .no) = _
    rw [need_book_no h0 hb]
  unfold F_is_point defF m_is_point mSeq mExpr
  show fin _ (bnd _ _ [.val b, .val d]) = _
  unfold bnd
  rw [e] <;> rfl
end Mi.J
end
section
set_option maxRecDepth 100000
set_option maxHeartbeats 2000000
namespace Mi.J
open PySem PySem.Spec L2
open PyProof.Rows hiding St
/-! a call that changes what it is handed -/
def Gv (F : Fun1) (d : D) (xs : List D) (Q : D → D → Prop) : Prop := ∃ y d' l, F (.pbx d :: xs.map .val) = .ok (.val y) (.pbx d' :: l) ∧ Q y d'
def Go (F : Fun1) (d : D) (xs : List D) (Q : D → D → Prop) : Prop := ∃ y d' l, F (.pbx d :: xs.map .val) = .ok (.own y) (.pbx d' :: l) ∧ Q y d'
section
variable {F : Fun1} {d : D} {xs : List D} {Q : D → D → Prop} {i n : Nat} {r : List SV} {evs : List EV} {P : EV → List SV → Prop} {m : M Fl}
theorem gv_p (hi : r[i]? = some (.pbx d)) (hv : toVs evs r = some (xs, r)) (h : Gv F d xs Q) (k : ∀ y d', Q y d' → P (.val y) (r.set i (.pbx d'))) : wp (callR F 0 (.bx i :: evs)) P r := by
  obtain ⟨y, d', l, e, q⟩ := h
  refine wp_of (a := .val y) (r' := r.set i (.pbx d')) ?_ (k _ _ q)
  unfold callR
  simp only [List.getElem?_cons_zero, List.set_cons_zero, toVs_cons, toV_val, hv, hi, List.map_cons, e]
theorem gv_b (hi : r[i]? = some (.box d)) (hv : toVs evs r = some (xs, r)) (h : Gv F d xs Q) (k : ∀ y d', Q y d' → P (.val y) (r.set i (.box d'))) : wp (callR F 0 (.bx i :: evs)) P r := by
  obtain ⟨y, d', l, e, q⟩ := h
  refine wp_of (a := .val y) (r' := r.set i (.box d')) ?_ (k _ _ q)
  unfold callR
  simp only [List.getElem?_cons_zero, List.set_cons_zero, toVs_cons, toV_val, hv, hi, List.map_cons, e]
theorem go_p (hi : r[i]? = some (.pbx d)) (hv : toVs evs r = some (xs, r)) (h : Go F d xs Q) (k : ∀ y d', Q y d' → P (.own y) (r.set i (.pbx d'))) : wp (callR F 0 (.bx i :: evs)) P r := by
  obtain ⟨y, d', l, e, q⟩ := h
  refine wp_of (a := .own y) (r' := r.set i (.pbx d')) ?_ (k _ _ q)
  unfold callR
  simp only [List.getElem?_cons_zero, List.set_cons_zero, toVs_cons, toV_val, hv, hi, List.map_cons, e]
theorem gv_def (h : wp m (fun fl r => ∃ y d' l, fin (.pbx d :: xs.map .val) (.ok fl r) = .ok (.val y) (.pbx d' :: l) ∧ Q y d') (.pbx d :: xs.map .val ++ List.replicate n .un)) : Gv (defF n m) d xs Q := by
  obtain ⟨fl, r', e, y, d', l, e2, q⟩ := wp_ok h
  exact ⟨y, d', l, by unfold defF; rw [e]; exact e2, q⟩
theorem go_def (h : wp m (fun fl r => ∃ y d' l, fin (.pbx d :: xs.map .val) (.ok fl r) = .ok (.own y) (.pbx d' :: l) ∧ Q y d') (.pbx d :: xs.map .val ++ List.replicate n .un)) : Go (defF n m) d xs Q := by
  obtain ⟨fl, r', e, y, d', l, e2, q⟩ := wp_ok h
  exact ⟨y, d', l, by unfold defF; rw [e]; exact e2, q⟩
/-- a comprehension whose elements change what is held -/
theorem wp_compI {γ : Type} {vs : List Nat} {T : Tgt} {m : M EV} {ds : List D} (l : List γ) (f : γ → D) (hd : ds = l.map f) (hn : l.length < sizeLine) (I : List γ → List D → List SV → Prop) (h0 : I l [] r)
    (hs : ∀ x l acc r, I (x :: l) acc r → sm (T (f x) (wipeR r vs)) fun r2 => wp m (fun ev r3 => sm (toV ev r3) fun y => I l (acc ++ [y.1]) y.2) r2)
    (he : ∀ acc r', I [] acc r' → P (.own (.lst acc)) (restR r r' vs)) : wp (cmpE vs T mYes m ds) P r := by
  subst hd
  have key : ∀ (l : List γ) (acc : List D) (r' : List SV), I l acc r' → ∃ acc' r'', cmpF vs T mYes m (l.map f) acc r' = .ok acc' r'' ∧ I [] acc' r'' := by
    intro l
    induction l with
    | nil => intro acc r' h; exact ⟨acc, r', rfl, h⟩
    | cons x l ih =>
      intro acc r' h
      have h4 := hs x l acc r' h
      rw [List.map_cons]
      unfold cmpF
      cases hT : T (f x) (wipeR r' vs) with
      | none => rw [hT] at h4; exact h4.elim
      | some r2 =>
        rw [hT] at h4
        dsimp only
        obtain ⟨ev, r3, e1, h5⟩ := wp_ok (show wp m _ r2 from h4)
        cases hV : toV ev r3 with
        | none => rw [hV] at h5; exact h5.elim
        | some y =>
          rw [hV] at h5
          obtain ⟨y, r4⟩ := y
          have e2 : elF m r2 = .ok y r4 := by
            unfold elF
            rw [e1]; dsimp only; rw [hV]
          rw [show mYes r2 = .ok true r2 from rfl]
          dsimp only
          rw [e2]
          exact ih _ _ h5
  obtain ⟨acc', r'', e, h⟩ := key l [] r h0
  refine wp_of (a := .own (.lst acc')) (r' := restR r r'' vs) ?_ (he _ _ h)
  unfold cmpE
  rw [if_pos (by rw [List.length_map]; exact hn), e]
end
/-! the pen -/
def Pn (cs : List Int) (n : Int) (d : D) : Prop := ∃ a g c f, d = penD cs a g c f ∧ 0 ≤ a ∧ 0 ≤ c ∧ c ≤ n ∧ 0 ≤ f ∧ f < 2 ^ 31
theorem Pn.up {cs : List Int} {n n' : Int} {d : D} (h : Pn cs n d) (hn : n ≤ n') : Pn cs n' d := by
  obtain ⟨a, g, c, f, e, h1, h2, h3, h4⟩ := h
  exact ⟨a, g, c, f, e, h1, h2, by omega, h4⟩
def DrawOk (F : Fun1) : Prop := ∀ (cs : List Int) (n many : Int) (d : D), Pn cs n d → n < 2 ^ 39 → 0 < many → many < 2 ^ 64 → Gv F d [.int many] fun y d' => ∃ k, y = .int k ∧ 0 ≤ k ∧ k < many ∧ Pn cs (n + 1) d'
theorem draw_of {K1 M1 K2 c0 pw M2 dv : Int} (hM1 : 0 < M1 ∧ M1 ≤ 2 ^ 31) (hK1 : 0 ≤ K1 ∧ K1 < 2 ^ 31) (hK2 : 0 ≤ K2 ∧ K2 < 2 ^ 20) (hc0 : 0 ≤ c0 ∧ c0 < 2 ^ 20) (hpw : 0 ≤ pw ∧ pw ≤ 1000) (hM2 : M2 ≠ 0) (hdv : okDiv dv = true) : DrawOk (defF 3 (genDraw K1 M1 K2 c0 pw M2 dv)) := by
  intro cs n many d ⟨a, g, c, f, e, h1, h2, h3, h4, h5⟩ hn hm hm2
  subst e
  have hod : okDiv many = true := by
    unfold okDiv
    have := log2_lt (n := many.natAbs) (k := 64) (by omega) (by decide)
    exact decide_eq_true ⟨by omega, by omega⟩
  obtain ⟨k, a', g', f', e, p1, p2, p3, p4, p5⟩ := draw_ok (cs := cs) (g := g) hM1 hK1 hK2 hc0 hpw hM2 hdv hm hod h1 (show 0 ≤ c ∧ c < 2 ^ 40 by omega) ⟨h4, h5⟩
  exact ⟨_, _, _, e, k, rfl, p1, p2, a', g', c + 1, f', rfl, p3, by omega, by omega, p4, p5⟩
/-! what is drawn from a list, over any draw -/
def mPick (Fd : Fun1) : M Fl := (mRet (op2 bIx (mVar 1) (mCallR Fd 0 (mCons (mVar 0) (mCons (mB fLen (mCons (mVar 1) mNil)) mNil)))))
def PickOk (F : Fun1) : Prop := ∀ (cs : List Int) (n : Int) (d : D) (xs : List D) (w : D), (w = .lst xs ∨ w = .tup xs) → Pn cs n d → n < 2 ^ 39 → xs ≠ [] → xs.length < 2 ^ 60 → Gv F d [w] fun y d' => y ∈ xs ∧ Pn cs (n + 1) d'
theorem at1_in {α : Type} {xs : List α} {k : Int} (h0 : 0 ≤ k) (h : k < xs.length) : ∃ x, at1 xs k = some x ∧ x ∈ xs := by
  unfold at1 ixN
  rw [if_pos h0, if_pos h]
  exact ⟨xs[k.toNat]'(by omega), by show xs[k.toNat]? = _; exact List.getElem?_eq_getElem (by omega), List.getElem_mem _⟩
theorem pick_of {Fd : Fun1} (hd : DrawOk Fd) : PickOk (defF 0 (mPick Fd)) := by
  intro cs n d xs w hw hp hn hx hl
  have h0 : 0 < xs.length := List.length_pos_iff.mpr hx
  rcases hw with rfl | rfl
  · refine gv_def ?_
    unfold mPick
    simp only [wp_bnd, wp_rt, wp_mC, wp_mVar, wp_mNil, wp_mCons, wp_op1, wp_op2, wp_mTst, wp_mTru, wp_mAnd, wp_mOr, wp_mNot, wp_mBl, wp_mAndV, wp_mOrV, wp_mNotV, wp_mIte, wp_lk2, wp_mChain, wp_mTup, wp_mLst, wp_mB, wp_mDk, wp_mYes, wp_mPass, wp_mBreak, wp_mCont, nxt, wp_mSeq, wp_mIf, wp_mRet, wp_mExpr, wp_mAsg, wp_mAsgT, wp_mPar, wp_mPut, wp_mApp, wp_mSl, wp_mPartN, wp_mPartS, wp_mRev2, wp_mMt, wp_mCall, wpC_val, wpC_own, wp_mCallR, wp_mItV, wp_mItF, wp_mRng1, wp_mFor, wp_mComp, sm_some, sm_none, sm_ite, sm_map, look_val, look_own, look_bx, looks_nil, looks_cons, toV_val, toV_own, toVs_nil, toVs_cons, List.getElem?_cons_zero, List.getElem?_cons_succ, List.set_cons_zero, List.set_cons_succ, List.map_cons, List.map_nil, List.cons_append, List.nil_append, List.replicate_succ, List.replicate_zero, List.append_nil, truD_bl, items_str, items_tup, items_lst, fLen_tup, fLen_lst, bIx_tup, bIx_lst, tyD_str, tyD_int, tyD_bl, tyD_tup, tyD_lst, isTD_eq, isTn, fin_val, back_val, back_nil, back_pbx, Option.map_some]
    refine gv_p (i := 0) (d := d) (xs := [.int xs.length]) rfl rfl (hd cs n xs.length d hp hn (by omega) (by omega)) ?_
    rintro y d' ⟨k, rfl, hk0, hk, hp'⟩
    obtain ⟨x, hx1, hx2⟩ := at1_in hk0 hk
    simp only [hx1, wp_bnd, wp_rt, wp_mC, wp_mVar, wp_mNil, wp_mCons, wp_op1, wp_op2, wp_mTst, wp_mTru, wp_mAnd, wp_mOr, wp_mNot, wp_mBl, wp_mAndV, wp_mOrV, wp_mNotV, wp_mIte, wp_lk2, wp_mChain, wp_mTup, wp_mLst, wp_mB, wp_mDk, wp_mYes, wp_mPass, wp_mBreak, wp_mCont, nxt, wp_mSeq, wp_mIf, wp_mRet, wp_mExpr, wp_mAsg, wp_mAsgT, wp_mPar, wp_mPut, wp_mApp, wp_mSl, wp_mPartN, wp_mPartS, wp_mRev2, wp_mMt, wp_mCall, wpC_val, wpC_own, wp_mCallR, wp_mItV, wp_mItF, wp_mRng1, wp_mFor, wp_mComp, sm_some, sm_none, sm_ite, sm_map, look_val, look_own, look_bx, looks_nil, looks_cons, toV_val, toV_own, toVs_nil, toVs_cons, List.getElem?_cons_zero, List.getElem?_cons_succ, List.set_cons_zero, List.set_cons_succ, List.map_cons, List.map_nil, List.cons_append, List.nil_append, List.replicate_succ, List.replicate_zero, List.append_nil, truD_bl, items_str, items_tup, items_lst, fLen_tup, fLen_lst, bIx_tup, bIx_lst, tyD_str, tyD_int, tyD_bl, tyD_tup, tyD_lst, isTD_eq, isTn, fin_val, back_val, back_nil, back_pbx, Option.map_some]
    exact ⟨x, d', _, rfl, hx2, hp'⟩
  · refine gv_def ?_
    unfold mPick
    simp only [wp_bnd, wp_rt, wp_mC, wp_mVar, wp_mNil, wp_mCons, wp_op1, wp_op2, wp_mTst, wp_mTru, wp_mAnd, wp_mOr, wp_mNot, wp_mBl, wp_mAndV, wp_mOrV, wp_mNotV, wp_mIte, wp_lk2, wp_mChain, wp_mTup, wp_mLst, wp_mB, wp_mDk, wp_mYes, wp_mPass, wp_mBreak, wp_mCont, nxt, wp_mSeq, wp_mIf, wp_mRet, wp_mExpr, wp_mAsg, wp_mAsgT, wp_mPar, wp_mPut, wp_mApp, wp_mSl, wp_mPartN, wp_mPartS, wp_mRev2, wp_mMt, wp_mCall, wpC_val, wpC_own, wp_mCallR, wp_mItV, wp_mItF, wp_mRng1, wp_mFor, wp_mComp, sm_some, sm_none, sm_ite, sm_map, look_val, look_own, look_bx, looks_nil, looks_cons, toV_val, toV_own, toVs_nil, toVs_cons, List.getElem?_cons_zero, List.getElem?_cons_succ, List.set_cons_zero, List.set_cons_succ, List.map_cons, List.map_nil, List.cons_append, List.nil_append, List.replicate_succ, List.replicate_zero, List.append_nil, truD_bl, items_str, items_tup, items_lst, fLen_tup, fLen_lst, bIx_tup, bIx_lst, tyD_str, tyD_int, tyD_bl, tyD_tup, tyD_lst, isTD_eq, isTn, fin_val, back_val, back_nil, back_pbx, Option.map_some]
    refine gv_p (i := 0) (d := d) (xs := [.int xs.length]) rfl rfl (hd cs n xs.length d hp hn (by omega) (by omega)) ?_
    rintro y d' ⟨k, rfl, hk0, hk, hp'⟩
    obtain ⟨x, hx1, hx2⟩ := at1_in hk0 hk
    simp only [hx1, wp_bnd, wp_rt, wp_mC, wp_mVar, wp_mNil, wp_mCons, wp_op1, wp_op2, wp_mTst, wp_mTru, wp_mAnd, wp_mOr, wp_mNot, wp_mBl, wp_mAndV, wp_mOrV, wp_mNotV, wp_mIte, wp_lk2, wp_mChain, wp_mTup, wp_mLst, wp_mB, wp_mDk, wp_mYes, wp_mPass, wp_mBreak, wp_mCont, nxt, wp_mSeq, wp_mIf, wp_mRet, wp_mExpr, wp_mAsg, wp_mAsgT, wp_mPar, wp_mPut, wp_mApp, wp_mSl, wp_mPartN, wp_mPartS, wp_mRev2, wp_mMt, wp_mCall, wpC_val, wpC_own, wp_mCallR, wp_mItV, wp_mItF, wp_mRng1, wp_mFor, wp_mComp, sm_some, sm_none, sm_ite, sm_map, look_val, look_own, look_bx, looks_nil, looks_cons, toV_val, toV_own, toVs_nil, toVs_cons, List.getElem?_cons_zero, List.getElem?_cons_succ, List.set_cons_zero, List.set_cons_succ, List.map_cons, List.map_nil, List.cons_append, List.nil_append, List.replicate_succ, List.replicate_zero, List.append_nil, truD_bl, items_str, items_tup, items_lst, fLen_tup, fLen_lst, bIx_tup, bIx_lst, tyD_str, tyD_int, tyD_bl, tyD_tup, tyD_lst, isTD_eq, isTn, fin_val, back_val, back_nil, back_pbx, Option.map_some]
    exact ⟨x, d', _, rfl, hx2, hp'⟩
/-! numbers, fractions -/
def mNumber (Fd Fp : Fun1) : M Fl := (mRet (op2 bAdd (mC (.int 1)) (mCallR Fd 0 (mCons (mVar 0) (mCons (mCallR Fp 0 (mCons (mVar 0) (mCons (mLst (mCons (mC (.int 3)) (mCons (mC (.int 9)) (mCons (mC (.int 9)) (mCons (mC (.int 40)) (mCons (op2 bPow (mC (.int 10)) (mC (.int 5))) mNil)))))) mNil))) mNil)))))
def m_gcd : M Fl := (mSeq (mPar [0, 1] [false, false] (mCons (mB fAbs (mCons (mVar 0) mNil)) (mCons (mB fAbs (mCons (mVar 1) mNil)) mNil)))
  (mSeq (mFor (mRng1 (mCons (mC (.int 4000)) mNil)) (tgN 2) (mSeq (mIf (mTst (op2 bEq (mVar 1) (mC (.int 0)))) (mRet (mVar 0)) mPass)
  (mPar [0, 1] [false, false] (mCons (mVar 1) (mCons (op2 bMod (mB fInt (mCons (mVar 0) mNil)) (mVar 1)) mNil)))))
  (mRet (mVar 0))))
def F_gcd : Fun1 := defF 1 m_gcd
def m_fraction : M Fl := (mSeq (mAsg 2 false (mCall F_gcd (mCons (mVar 0) (mCons (mVar 1) mNil))))
  (mRet (mTup (mCons (op2 bDiv (mVar 0) (mVar 2)) (mCons (op2 bDiv (mVar 1) (mVar 2)) mNil)))))
def F_fraction : Fun1 := defF 1 m_fraction
def NumOk (F : Fun1) : Prop := ∀ (cs : List Int) (n : Int) (d : D), Pn cs n d → n < 2 ^ 38 → Gv F d [] fun y d' => ∃ k, y = .int k ∧ 1 ≤ k ∧ k ≤ 100000 ∧ Pn cs (n + 2) d'
theorem number_of {Fd Fp : Fun1} (hd : DrawOk Fd) (hp : PickOk Fp) : NumOk (defF 0 (mNumber Fd Fp)) := by
  intro cs n d h hn
  refine gv_def ?_
  unfold mNumber
  have e : bPow (.int 10) (.int 5) = some (.val (.int 100000)) := by
    rw [bPow_int (by decide)] <;> rfl
  simp only [e, wp_bnd, wp_rt, wp_mC, wp_mVar, wp_mNil, wp_mCons, wp_op1, wp_op2, wp_mTst, wp_mTru, wp_mAnd, wp_mOr, wp_mNot, wp_mBl, wp_mAndV, wp_mOrV, wp_mNotV, wp_mIte, wp_lk2, wp_mChain, wp_mTup, wp_mLst, wp_mB, wp_mDk, wp_mYes, wp_mPass, wp_mBreak, wp_mCont, nxt, wp_mSeq, wp_mIf, wp_mRet, wp_mExpr, wp_mAsg, wp_mAsgT, wp_mPar, wp_mPut, wp_mApp, wp_mSl, wp_mPartN, wp_mPartS, wp_mRev2, wp_mMt, wp_mCall, wpC_val, wpC_own, wp_mCallR, wp_mItV, wp_mItF, wp_mRng1, wp_mFor, wp_mComp, sm_some, sm_none, sm_ite, sm_map, look_val, look_own, look_bx, looks_nil, looks_cons, toV_val, toV_own, toVs_nil, toVs_cons, List.getElem?_cons_zero, List.getElem?_cons_succ, List.set_cons_zero, List.set_cons_succ, List.map_cons, List.map_nil, List.cons_append, List.nil_append, List.replicate_succ, List.replicate_zero, List.append_nil, truD_bl, items_str, items_tup, items_lst, fLen_tup, fLen_lst, bIx_tup, bIx_lst, tyD_str, tyD_int, tyD_bl, tyD_tup, tyD_lst, isTD_eq, isTn, fin_val, back_val, back_nil, back_pbx, Option.map_some]
  refine gv_p (i := 0) (d := d) (xs := [.lst [.int 3, .int 9, .int 9, .int 40, .int 100000]]) rfl rfl (hp cs n d _ _ (.inl rfl) h (by omega) (by simp) (by simp)) ?_
  rintro y d' ⟨hy, hp'⟩
  simp only [List.mem_cons, List.not_mem_nil, or_false] at hy
  have hy2 : ∃ k : Int, y = .int k ∧ 1 ≤ k ∧ k ≤ 100000 := by
    rcases hy with rfl | rfl | rfl | rfl | rfl <;> exact ⟨_, rfl, by omega, by omega⟩
  obtain ⟨many, rfl, h1, h2⟩ := hy2
  simp only [wp_bnd, wp_rt, wp_mC, wp_mVar, wp_mNil, wp_mCons, wp_op1, wp_op2, wp_mTst, wp_mTru, wp_mAnd, wp_mOr, wp_mNot, wp_mBl, wp_mAndV, wp_mOrV, wp_mNotV, wp_mIte, wp_lk2, wp_mChain, wp_mTup, wp_mLst, wp_mB, wp_mDk, wp_mYes, wp_mPass, wp_mBreak, wp_mCont, nxt, wp_mSeq, wp_mIf, wp_mRet, wp_mExpr, wp_mAsg, wp_mAsgT, wp_mPar, wp_mPut, wp_mApp, wp_mSl, wp_mPartN, wp_mPartS, wp_mRev2, wp_mMt, wp_mCall, wpC_val, wpC_own, wp_mCallR, wp_mItV, wp_mItF, wp_mRng1, wp_mFor, wp_mComp, sm_some, sm_none, sm_ite, sm_map, look_val, look_own, look_bx, looks_nil, looks_cons, toV_val, toV_own, toVs_nil, toVs_cons, List.getElem?_cons_zero, List.getElem?_cons_succ, List.set_cons_zero, List.set_cons_succ, List.map_cons, List.map_nil, List.cons_append, List.nil_append, List.replicate_succ, List.replicate_zero, List.append_nil, truD_bl, items_str, items_tup, items_lst, fLen_tup, fLen_lst, bIx_tup, bIx_lst, tyD_str, tyD_int, tyD_bl, tyD_tup, tyD_lst, isTD_eq, isTn, fin_val, back_val, back_nil, back_pbx, Option.map_some]
  refine gv_p (i := 0) (d := d') (xs := [.int many]) rfl rfl (hd cs (n + 1) many d' hp' (by omega) (by omega) (by omega)) ?_
  rintro y d2 ⟨k, rfl, hk0, hk, hp2⟩
  simp only [show bAdd (.int 1) (.int k) = some (.val (.int (1 + k))) from rfl, wp_bnd, wp_rt, wp_mC, wp_mVar, wp_mNil, wp_mCons, wp_op1, wp_op2, wp_mTst, wp_mTru, wp_mAnd, wp_mOr, wp_mNot, wp_mBl, wp_mAndV, wp_mOrV, wp_mNotV, wp_mIte, wp_lk2, wp_mChain, wp_mTup, wp_mLst, wp_mB, wp_mDk, wp_mYes, wp_mPass, wp_mBreak, wp_mCont, nxt, wp_mSeq, wp_mIf, wp_mRet, wp_mExpr, wp_mAsg, wp_mAsgT, wp_mPar, wp_mPut, wp_mApp, wp_mSl, wp_mPartN, wp_mPartS, wp_mRev2, wp_mMt, wp_mCall, wpC_val, wpC_own, wp_mCallR, wp_mItV, wp_mItF, wp_mRng1, wp_mFor, wp_mComp, sm_some, sm_none, sm_ite, sm_map, look_val, look_own, look_bx, looks_nil, looks_cons, toV_val, toV_own, toVs_nil, toVs_cons, List.getElem?_cons_zero, List.getElem?_cons_succ, List.set_cons_zero, List.set_cons_succ, List.map_cons, List.map_nil, List.cons_append, List.nil_append, List.replicate_succ, List.replicate_zero, List.append_nil, truD_bl, items_str, items_tup, items_lst, fLen_tup, fLen_lst, bIx_tup, bIx_lst, tyD_str, tyD_int, tyD_bl, tyD_tup, tyD_lst, isTD_eq, isTn, fin_val, back_val, back_nil, back_pbx, Option.map_some]
  exact ⟨_, _, _, rfl, 1 + k, rfl, by omega, by omega, hp2.up (by omega)⟩
theorem fmod_nat (a b : Nat) : (a : Int).fmod (b : Int) = ((a % b : Nat) : Int) := by
  rw [Int.fmod_eq_emod_of_nonneg _ (Int.natCast_nonneg b)] <;> rfl
theorem law_gcd {a b : Int} (hb : b.natAbs < 4000) : ∃ l, F_gcd [.val (.int a), .val (.int b)] = .ok (.val (.int (Nat.gcd a.natAbs b.natAbs : Nat))) l := by
  have habs : ∀ i : Int, fAbs [.int i] = some (.val (.int (i.natAbs : Int))) := by
    intro i
    show some (EV.val (.int (if i < 0 then -i else i))) = _
    by_cases h : i < 0
    · rw [if_pos h]; congr 3; omega
    · rw [if_neg h]; congr 3; omega
  have key : ∃ a' l, F_gcd [.val (.int a), .val (.int b)] = .ok a' l ∧ a' = .val (.int (Nat.gcd a.natAbs b.natAbs : Nat)) := by
    refine wp_defF ?_
    unfold m_gcd
    simp only [habs, frzs, kp, stor, wp_bnd, wp_rt, wp_mC, wp_mVar, wp_mNil, wp_mCons, wp_op1, wp_op2, wp_mTst, wp_mTru, wp_mAnd, wp_mOr, wp_mNot, wp_mBl, wp_mAndV, wp_mOrV, wp_mNotV, wp_mIte, wp_lk2, wp_mChain, wp_mTup, wp_mLst, wp_mB, wp_mDk, wp_mYes, wp_mPass, wp_mBreak, wp_mCont, nxt, wp_mSeq, wp_mIf, wp_mRet, wp_mExpr, wp_mAsg, wp_mAsgT, wp_mPar, wp_mPut, wp_mApp, wp_mSl, wp_mPartN, wp_mPartS, wp_mRev2, wp_mMt, wp_mCall, wpC_val, wpC_own, wp_mCallR, wp_mItV, wp_mItF, wp_mRng1, wp_mFor, wp_mComp, sm_some, sm_none, sm_ite, sm_map, look_val, look_own, look_bx, looks_nil, looks_cons, toV_val, toV_own, toVs_nil, toVs_cons, List.getElem?_cons_zero, List.getElem?_cons_succ, List.set_cons_zero, List.set_cons_succ, List.map_cons, List.map_nil, List.cons_append, List.nil_append, List.replicate_succ, List.replicate_zero, List.append_nil, truD_bl, items_str, items_tup, items_lst, fLen_tup, fLen_lst, bIx_tup, bIx_lst, tyD_str, tyD_int, tyD_bl, tyD_tup, tyD_lst, isTD_eq, isTn, fin_val, back_val, back_nil, back_pbx, Option.map_some]
    refine ⟨by decide, wp_mono (P := fun (fl : Fl) (r : List SV) => (fl = Fl.nx ∧ ∃ z, r = [.val (.int (Nat.gcd a.natAbs b.natAbs : Nat)), .val (.int 0), z]) ∨ (fl = Fl.rt (.val (.int (Nat.gcd a.natAbs b.natAbs : Nat))) ∧ ∃ x y z, r = [.val x, .val y, z])) ?_ ?_⟩
    · refine wp_loop (fun ds r => ∃ (x y : Nat) (z : SV), r = [.val (.int x), .val (.int y), z] ∧ Nat.gcd x y = Nat.gcd a.natAbs b.natAbs ∧ y ≤ ds.length) ⟨_, _, _, rfl, rfl, ?_⟩ ?_ ?_
      · unfold rng
        rw [List.length_map, List.length_range]
        have : (4000 - 0 : Int).toNat = 4000 := rfl
        omega
      · rintro d ds r ⟨x, y, z, rfl, hg, hy⟩
        simp only [tgN, bEq_int, fInt, wp_bnd, wp_rt, wp_mC, wp_mVar, wp_mNil, wp_mCons, wp_op1, wp_op2, wp_mTst, wp_mTru, wp_mAnd, wp_mOr, wp_mNot, wp_mBl, wp_mAndV, wp_mOrV, wp_mNotV, wp_mIte, wp_lk2, wp_mChain, wp_mTup, wp_mLst, wp_mB, wp_mDk, wp_mYes, wp_mPass, wp_mBreak, wp_mCont, nxt, wp_mSeq, wp_mIf, wp_mRet, wp_mExpr, wp_mAsg, wp_mAsgT, wp_mPar, wp_mPut, wp_mApp, wp_mSl, wp_mPartN, wp_mPartS, wp_mRev2, wp_mMt, wp_mCall, wpC_val, wpC_own, wp_mCallR, wp_mItV, wp_mItF, wp_mRng1, wp_mFor, wp_mComp, sm_some, sm_none, sm_ite, sm_map, look_val, look_own, look_bx, looks_nil, looks_cons, toV_val, toV_own, toVs_nil, toVs_cons, List.getElem?_cons_zero, List.getElem?_cons_succ, List.set_cons_zero, List.set_cons_succ, List.map_cons, List.map_nil, List.cons_append, List.nil_append, List.replicate_succ, List.replicate_zero, List.append_nil, truD_bl, items_str, items_tup, items_lst, fLen_tup, fLen_lst, bIx_tup, bIx_lst, tyD_str, tyD_int, tyD_bl, tyD_tup, tyD_lst, isTD_eq, isTn, fin_val, back_val, back_nil, back_pbx, Option.map_some]
        by_cases h0 : y = 0
        · subst h0
          rw [if_pos (by decide)]
          rw [Nat.gcd_zero_right] at hg
          exact .inr ⟨by rw [← hg], _, _, _, rfl⟩
        · rw [if_neg (by simpa using h0)]
          rw [bMod_int (by omega), fmod_nat]
          simp only [frzs, kp, stor, wp_bnd, wp_rt, wp_mC, wp_mVar, wp_mNil, wp_mCons, wp_op1, wp_op2, wp_mTst, wp_mTru, wp_mAnd, wp_mOr, wp_mNot, wp_mBl, wp_mAndV, wp_mOrV, wp_mNotV, wp_mIte, wp_lk2, wp_mChain, wp_mTup, wp_mLst, wp_mB, wp_mDk, wp_mYes, wp_mPass, wp_mBreak, wp_mCont, nxt, wp_mSeq, wp_mIf, wp_mRet, wp_mExpr, wp_mAsg, wp_mAsgT, wp_mPar, wp_mPut, wp_mApp, wp_mSl, wp_mPartN, wp_mPartS, wp_mRev2, wp_mMt, wp_mCall, wpC_val, wpC_own, wp_mCallR, wp_mItV, wp_mItF, wp_mRng1, wp_mFor, wp_mComp, sm_some, sm_none, sm_ite, sm_map, look_val, look_own, look_bx, looks_nil, looks_cons, toV_val, toV_own, toVs_nil, toVs_cons, List.getElem?_cons_zero, List.getElem?_cons_succ, List.set_cons_zero, List.set_cons_succ, List.map_cons, List.map_nil, List.cons_append, List.nil_append, List.replicate_succ, List.replicate_zero, List.append_nil, truD_bl, items_str, items_tup, items_lst, fLen_tup, fLen_lst, bIx_tup, bIx_lst, tyD_str, tyD_int, tyD_bl, tyD_tup, tyD_lst, isTD_eq, isTn, fin_val, back_val, back_nil, back_pbx, Option.map_some]
          refine ⟨y, x % y, _, rfl, ?_, ?_⟩
          · rw [← hg, Nat.gcd_comm x y, Nat.gcd_rec y x, Nat.gcd_comm]
          · have := Nat.mod_lt x (Nat.pos_of_ne_zero h0)
            rw [List.length_cons] at hy
            omega
      · rintro r ⟨x, y, z, rfl, hg, hy⟩
        have : y = 0 := by simpa using hy
        subst this
        rw [Nat.gcd_zero_right] at hg
        exact .inl ⟨rfl, z, by rw [← hg] <;> rfl⟩
    · rintro fl r (⟨rfl, z, rfl⟩ | ⟨rfl, x, y, z, rfl⟩)
      · simp only [wp_bnd, wp_rt, wp_mC, wp_mVar, wp_mNil, wp_mCons, wp_op1, wp_op2, wp_mTst, wp_mTru, wp_mAnd, wp_mOr, wp_mNot, wp_mBl, wp_mAndV, wp_mOrV, wp_mNotV, wp_mIte, wp_lk2, wp_mChain, wp_mTup, wp_mLst, wp_mB, wp_mDk, wp_mYes, wp_mPass, wp_mBreak, wp_mCont, nxt, wp_mSeq, wp_mIf, wp_mRet, wp_mExpr, wp_mAsg, wp_mAsgT, wp_mPar, wp_mPut, wp_mApp, wp_mSl, wp_mPartN, wp_mPartS, wp_mRev2, wp_mMt, wp_mCall, wpC_val, wpC_own, wp_mCallR, wp_mItV, wp_mItF, wp_mRng1, wp_mFor, wp_mComp, sm_some, sm_none, sm_ite, sm_map, look_val, look_own, look_bx, looks_nil, looks_cons, toV_val, toV_own, toVs_nil, toVs_cons, List.getElem?_cons_zero, List.getElem?_cons_succ, List.set_cons_zero, List.set_cons_succ, List.map_cons, List.map_nil, List.cons_append, List.nil_append, List.replicate_succ, List.replicate_zero, List.append_nil, truD_bl, items_str, items_tup, items_lst, fLen_tup, fLen_lst, bIx_tup, bIx_lst, tyD_str, tyD_int, tyD_bl, tyD_tup, tyD_lst, isTD_eq, isTn, fin_val, back_val, back_nil, back_pbx, Option.map_some]
      · simp only [wp_bnd, wp_rt, wp_mC, wp_mVar, wp_mNil, wp_mCons, wp_op1, wp_op2, wp_mTst, wp_mTru, wp_mAnd, wp_mOr, wp_mNot, wp_mBl, wp_mAndV, wp_mOrV, wp_mNotV, wp_mIte, wp_lk2, wp_mChain, wp_mTup, wp_mLst, wp_mB, wp_mDk, wp_mYes, wp_mPass, wp_mBreak, wp_mCont, nxt, wp_mSeq, wp_mIf, wp_mRet, wp_mExpr, wp_mAsg, wp_mAsgT, wp_mPar, wp_mPut, wp_mApp, wp_mSl, wp_mPartN, wp_mPartS, wp_mRev2, wp_mMt, wp_mCall, wpC_val, wpC_own, wp_mCallR, wp_mItV, wp_mItF, wp_mRng1, wp_mFor, wp_mComp, sm_some, sm_none, sm_ite, sm_map, look_val, look_own, look_bx, looks_nil, looks_cons, toV_val, toV_own, toVs_nil, toVs_cons, List.getElem?_cons_zero, List.getElem?_cons_succ, List.set_cons_zero, List.set_cons_succ, List.map_cons, List.map_nil, List.cons_append, List.nil_append, List.replicate_succ, List.replicate_zero, List.append_nil, truD_bl, items_str, items_tup, items_lst, fLen_tup, fLen_lst, bIx_tup, bIx_lst, tyD_str, tyD_int, tyD_bl, tyD_tup, tyD_lst, isTD_eq, isTn, fin_val, back_val, back_nil, back_pbx, Option.map_some]
  obtain ⟨a', l, e, rfl⟩ := key
  exact ⟨l, e⟩
theorem fdiv_nat {a : Int} {g : Nat} (hg : 0 < g) (h : (g : Int) ∣ a) : a.fdiv g * g = a := by
  rw [Int.fdiv_eq_ediv_of_nonneg _ (Int.natCast_nonneg g)]
  exact Int.ediv_mul_cancel h
theorem law_fraction {a b : Int} (hb0 : 0 < b) (hb : b < 4000) : ∃ (x y : Int) (l : List SV), F_fraction [.val (.int a), .val (.int b)] = .ok (.val (.tup [.int x, .int y])) l ∧ jFrac (.tup [.int x, .int y]) = true ∧ x.natAbs ≤ a.natAbs ∧ y ≤ b ∧ 1 ≤ y := by
  obtain ⟨l0, hg⟩ := law_gcd (a := a) (b := b) (by omega)
  generalize hgd : Nat.gcd a.natAbs b.natAbs = g at hg
  have hgpos : 0 < g := by rw [← hgd]; exact Nat.gcd_pos_of_pos_right _ (by omega)
  have hgb : g ≤ b.natAbs := by rw [← hgd]; exact Nat.gcd_le_right _ (by omega)
  have hod : okDiv (g : Int) = true := by
    unfold okDiv
    have := log2_lt (n := (g : Int).natAbs) (k := 64) (by omega) (by decide)
    exact decide_eq_true ⟨by omega, by omega⟩
  have ha := fdiv_nat (a := a) hgpos (Int.ofNat_dvd_left.mpr (by rw [← hgd]; exact Nat.gcd_dvd_left _ _))
  have hbb := fdiv_nat (a := b) hgpos (Int.ofNat_dvd_left.mpr (by rw [← hgd]; exact Nat.gcd_dvd_right _ _))
  generalize hx : a.fdiv g = x at ha
  generalize hy : b.fdiv g = y at hbb
  have hy1 : 1 ≤ y := by
    rcases Int.lt_or_le 0 y with h | h
    · omega
    · have : y * g ≤ 0 := Int.mul_nonpos_of_nonpos_of_nonneg h (Int.natCast_nonneg g)
      omega
  have key : ∃ a' l, F_fraction [.val (.int a), .val (.int b)] = .ok a' l ∧ a' = .val (.tup [.int x, .int y]) := by
    refine wp_defF ?_
    unfold m_fraction
    simp only [hg, bDiv_int hod, hx, hy, wp_bnd, wp_rt, wp_mC, wp_mVar, wp_mNil, wp_mCons, wp_op1, wp_op2, wp_mTst, wp_mTru, wp_mAnd, wp_mOr, wp_mNot, wp_mBl, wp_mAndV, wp_mOrV, wp_mNotV, wp_mIte, wp_lk2, wp_mChain, wp_mTup, wp_mLst, wp_mB, wp_mDk, wp_mYes, wp_mPass, wp_mBreak, wp_mCont, nxt, wp_mSeq, wp_mIf, wp_mRet, wp_mExpr, wp_mAsg, wp_mAsgT, wp_mPar, wp_mPut, wp_mApp, wp_mSl, wp_mPartN, wp_mPartS, wp_mRev2, wp_mMt, wp_mCall, wpC_val, wpC_own, wp_mCallR, wp_mItV, wp_mItF, wp_mRng1, wp_mFor, wp_mComp, sm_some, sm_none, sm_ite, sm_map, look_val, look_own, look_bx, looks_nil, looks_cons, toV_val, toV_own, toVs_nil, toVs_cons, List.getElem?_cons_zero, List.getElem?_cons_succ, List.set_cons_zero, List.set_cons_succ, List.map_cons, List.map_nil, List.cons_append, List.nil_append, List.replicate_succ, List.replicate_zero, List.append_nil, truD_bl, items_str, items_tup, items_lst, fLen_tup, fLen_lst, bIx_tup, bIx_lst, tyD_str, tyD_int, tyD_bl, tyD_tup, tyD_lst, isTD_eq, isTn, fin_val, back_val, back_nil, back_pbx, Option.map_some]
  obtain ⟨a', l, e, rfl⟩ := key
  have hcop : Nat.gcd x.natAbs y.natAbs = 1 := by
    have h1 : a.natAbs = x.natAbs * g := by rw [← ha, Int.natAbs_mul] <;> rfl
    have h2 : b.natAbs = y.natAbs * g := by rw [← hbb, Int.natAbs_mul] <;> rfl
    rw [h1, h2, Nat.gcd_mul_right] at hgd
    exact Nat.eq_of_mul_eq_mul_right hgpos (by rw [hgd, Nat.one_mul])
  refine ⟨x, y, l, e, ?_, ?_, ?_, hy1⟩
  · simp only [jFrac]
    rw [decide_eq_true hy1, hcop] <;> rfl
  · rw [← ha, Int.natAbs_mul]
    exact Nat.le_mul_of_pos_right _ hgpos
  · rw [← hbb]
    have := Int.mul_le_mul_of_nonneg_left (show (1 : Int) ≤ g by omega) (show 0 ≤ y by omega)
    omega
end Mi.J
end
section
set_option maxRecDepth 100000
set_option maxHeartbeats 2000000
namespace Mi.J
open PySem PySem.Spec L2
open PyProof.Rows hiding St
/-! the order of words -/
theorem ltS_iff {a b : Str} : ltS a b = true ↔ a.cps.toList < b.cps.toList := by unfold ltS; exact decide_eq_true_iff
theorem leS_iff {a b : Str} : leS a b = true ↔ a.cps.toList ≤ b.cps.toList := by
  unfold leS ltS
  rw [Bool.not_eq_true', decide_eq_false_iff_not]
  exact List.not_lt
theorem str_eq {a b : Str} (h : a.cps.toList = b.cps.toList) : a = b := by
  cases a; cases b
  congr 1
  exact Array.toList_inj.mp h
theorem srtS_pair (ss : List Str) : (srtS ss).Pairwise fun a b => leS a b = true := by
  refine List.pairwise_mergeSort (le := leS) ?_ ?_ ss
  · intro a b c h1 h2
    rw [leS_iff] at h1 h2 ⊢
    exact List.le_trans h1 h2
  · intro a b
    rw [Bool.or_eq_true, leS_iff, leS_iff]
    exact List.le_total _ _
theorem srtS_perm (ss : List Str) : (srtS ss).Perm ss := List.mergeSort_perm ss leS
theorem jRis_cons {a b : Str} {l : List Str} : jRis (a :: b :: l) = (ltS a b && jRis (b :: l)) := rfl
theorem ris_of {ss : List Str} (h : ss.Pairwise fun a b => leS a b = true) (hn : ss.Nodup) : jRis ss = true := by
  induction ss with
  | nil => rfl
  | cons a l ih =>
    cases l with
    | nil => rfl
    | cons b r =>
      rw [jRis_cons, ih (List.Pairwise.of_cons h) (List.nodup_cons.mp hn).2, Bool.and_true, ltS_iff]
      have h1 := (List.pairwise_cons.mp h).1 b (List.mem_cons_self ..)
      rw [leS_iff] at h1
      have h2 : a ≠ b := fun e => (List.nodup_cons.mp hn).1 (e ▸ List.mem_cons_self ..)
      rcases List.le_iff_lt_or_eq.mp h1 with h3 | h3
      · exact h3
      · exact absurd (str_eq h3) h2
theorem srt_ris {ss : List Str} (hn : ss.Nodup) : jRis (srtS ss) = true := ris_of (srtS_pair ss) ((srtS_perm ss).nodup_iff.mpr hn)
theorem ris_nodup {ss : List Str} (h : ss.Pairwise fun a b => ltS a b = true) : ss.Nodup := by
  refine List.Pairwise.imp ?_ h
  intro a b h e
  subst e
  rw [ltS_iff] at h
  exact List.lt_irrefl _ h
theorem ris_pair {ss : List Str} (h : jRis ss = true) : ss.Pairwise fun a b => ltS a b = true := by
  induction ss with
  | nil => exact .nil
  | cons a l ih =>
    cases l with
    | nil => exact List.pairwise_singleton _ _
    | cons b r =>
      rw [jRis_cons, Bool.and_eq_true] at h
      have h2 := ih h.2
      refine List.pairwise_cons.mpr ⟨?_, h2⟩
      intro c hc
      cases hc with
      | head => exact h.1
      | tail _ hc =>
        have h3 := (List.pairwise_cons.mp h2).1 c hc
        rw [ltS_iff] at h3 ⊢
        exact List.lt_trans (ltS_iff.mp h.1) h3
theorem fSort_strs {ss : List Str} (h : ss.length < 64) : fSort [.lst (ss.map .str)] = some (.own (.lst ((srtS ss).map .str))) := by
  cases ss with
  | nil => simp [fSort, intsOf, srtI, srtS]
  | cons a l =>
    show (match intsOf ((a :: l).map .str) with
      | some ns => some (EV.own (.lst ((srtI ns).map .int)))
      | none => match strsOf ((a :: l).map .str) with
        | some ss => if ss.length < 64 then some (EV.own (.lst ((srtS ss).map .str))) else none
        | none => none) = _
    rw [strsOf_map]
    show (if (a :: l).length < 64 then some (EV.own (.lst ((srtS (a :: l)).map .str))) else none) = _
    rw [if_pos h]
/-! a dict of names -/
section
variable {α : Type}
theorem pK_len {kvs : List (Key × α)} {k : Key} {v : α} : (pK kvs k v).length = kvs.length ∧ k ∈ kvs.map (·.1) ∧ (pK kvs k v).map (·.1) = kvs.map (·.1) ∨ (pK kvs k v).length = kvs.length + 1 ∧ k ∉ kvs.map (·.1) ∧ (pK kvs k v).map (·.1) = kvs.map (·.1) ++ [k] := by
  unfold pK
  by_cases h : (kvs.any fun kv => decide (kv.1 = k)) = true
  · rw [if_pos h]
    refine .inl ⟨by rw [List.length_map], ?_, ?_⟩
    · obtain ⟨kv, hm, he⟩ := List.any_eq_true.mp h
      rw [← of_decide_eq_true he]
      exact List.mem_map_of_mem hm
    · rw [List.map_map]
      refine List.map_congr_left fun kv _ => ?_
      show (if kv.1 = k then (kv.1, v) else kv).1 = kv.1
      split <;> rfl
  · rw [if_neg h]
    refine .inr ⟨by rw [List.length_append] <;> rfl, ?_, by rw [List.map_append] <;> rfl⟩
    intro hm
    obtain ⟨kv, hm2, rfl⟩ := List.mem_map.mp hm
    exact h (List.any_eq_true.mpr ⟨kv, hm2, decide_eq_true rfl⟩)
theorem mrg_len (l : List (Key × α)) : ∀ acc : List (Key × α), (l.foldl (fun acc kv => pK acc kv.1 kv.2) acc).length ≤ acc.length + l.length ∧
    ((l.foldl (fun acc kv => pK acc kv.1 kv.2) acc).length = acc.length + l.length → (l.map (·.1)).Nodup ∧ ∀ k ∈ l.map (·.1), k ∉ acc.map (·.1)) := by
  induction l with
  | nil => intro acc; exact ⟨Nat.le_refl _, fun _ => ⟨List.nodup_nil, fun k h => by cases h⟩⟩
  | cons a l ih =>
    intro acc
    obtain ⟨h1, h2⟩ := ih (pK acc a.1 a.2)
    rw [List.foldl_cons]
    rcases pK_len (kvs := acc) (k := a.1) (v := a.2) with ⟨e1, e2, e3⟩ | ⟨e1, e2, e3⟩
    · rw [e1] at h1 h2
      rw [List.length_cons]
      exact ⟨by omega, fun h => by omega⟩
    · rw [e1] at h1 h2
      rw [List.length_cons]
      refine ⟨by omega, fun h => ?_⟩
      obtain ⟨n1, n2⟩ := h2 (by omega)
      rw [e3] at n2
      rw [List.map_cons]
      refine ⟨List.nodup_cons.mpr ⟨fun hm => n2 _ hm (List.mem_append_right _ (List.mem_singleton_self _)), n1⟩, ?_⟩
      intro k hk
      cases hk with
      | head => exact e2
      | tail _ hk => exact fun hm => n2 k hk (List.mem_append_left _ hm)
end
theorem prsOf_strs {ss : List Str} {v : D} : prsOf (ss.map fun s => .tup [.str s, v]) = some (ss.map fun s => (.inr s, v)) := by
  induction ss with
  | nil => rfl
  | cons a l ih =>
    rw [List.map_cons, List.map_cons]
    show (match keyD (.str a), prsOf (l.map fun s => .tup [.str s, v]) with
      | some k', some l => some ((k', v) :: l)
      | _, _ => none) = _
    rw [ih] <;> rfl
theorem fDict_strs {ss : List Str} {v : D} : fDict [.lst (ss.map fun s => .tup [.str s, v])] = some (.own (.dK (mrgD (ss.map fun s => (.inr s, v))))) := by
  show (prsOf _).map _ = _
  rw [prsOf_strs] <;> rfl
theorem nodup_of_dict {ss : List Str} {v : D} (h : (mrgD (ss.map fun s => ((.inr s : Key), v))).length = ss.length) : ss.Nodup := by
  have h2 := ((mrg_len (ss.map fun s => ((.inr s : Key), v)) []).2 (by rw [List.length_map, List.length_nil, Nat.zero_add]; exact h)).1
  rw [List.map_map] at h2
  refine List.Pairwise.of_map (fun s => (.inr s : Key)) ?_ h2
  intro a b hab e
  exact hab (by rw [e])
/-! words put together -/
theorem app_cps {a b : Str} : (a ++ b).cps.toList = a.cps.toList ++ b.cps.toList := by
  show (a.cps ++ b.cps).toList = _
  exact Array.toList_append
theorem app_len {a b : Str} : (a ++ b).length = a.length + b.length := by
  show (a.cps ++ b.cps).size = _
  exact Array.size_append
theorem len_cps {a : Str} : a.length = a.cps.toList.length := by rw [Array.length_toList]; rfl
def chr (c : Nat) : Str := ⟨#[c]⟩
theorem join_chrs {cs : List Nat} : (Txt.join "" (cs.map chr)).cps.toList = cs := by
  have : Txt.join "" (cs.map chr) = Str.join "" (cs.map chr) := StrLaws.glued_eq_join _ _
  rw [this]
  have he : (Str.ofString "").cps.toList = [] := by decide +kernel
  induction cs with
  | nil => rfl
  | cons c l ih =>
    cases l with
    | nil => rfl
    | cons d r =>
      show (chr c ++ Str.ofString "" ++ Str.join "" ((d :: r).map chr)).cps.toList = _
      rw [app_cps, app_cps, he, ih (StrLaws.glued_eq_join _ _)]
      rfl
theorem sum_chrs {cs : List Nat} : ((cs.map chr).map fun s => s.length).sum = cs.length := by
  induction cs with
  | nil => rfl
  | cons c l ih => rw [List.map_cons, List.map_cons, List.sum_cons, ih, List.length_cons]; show 1 + _ = _; omega
theorem fJoin_chrs {cs : List Nat} (h : cs.length ≤ 1000) : fJoin (.str "") [.lst (cs.map fun c => .str (chr c))] = some (.val (.str (Txt.join "" (cs.map chr)))) := by
  have e : (cs.map fun c => D.str (chr c)) = (cs.map chr).map .str := by rw [List.map_map] <;> rfl
  rw [e]
  show (match strsOf ((cs.map chr).map .str) with
    | some ys => if (ys.map fun (s : Str) => s.length).sum + ys.length * (Str.ofString "").length ≤ 16777216 then some (EV.val (.str (Txt.join "" ys))) else none
    | none => none) = _
  rw [strsOf_map]
  show (if ((cs.map chr).map fun s => s.length).sum + (cs.map chr).length * (Str.ofString "").length ≤ 16777216 then some (EV.val (.str (Txt.join "" (cs.map chr)))) else none) = _
  rw [sum_chrs, show (Str.ofString "").length = 0 by decide +kernel, if_pos (by omega)]
end Mi.J
end
section
set_option maxRecDepth 100000
set_option maxHeartbeats 2000000
namespace Mi.J
open PySem PySem.Spec L2
open PyProof.Rows hiding St
/-! names drawn -/
def mNames (Fd Fp : Fun1) : M Fl := (mSeq (mPar [4, 5] [false, true] (mCons (mC (.str "abcdefghijklmnopqrstuvwxyz0123456789")) (mCons (mLst mNil) mNil)))
  (mSeq (mFor (mRng1 (mCons (mVar 1) mNil)) (tgN 2) (mSeq (mAsg 6 false (mMt .str fJoin (mC (.str "")) (mCons (mComp [7] (mRng1 (mCons (mCallR Fp 0 (mCons (mVar 0) (mCons (mLst (mCons (mC (.int 0)) (mCons (mC (.int 0)) (mCons (mC (.int 1)) (mCons (mC (.int 3)) (mCons (mC (.int 8)) mNil)))))) mNil))) mNil)) (tgN 7) mYes (op2 bIx (mVar 4) (mCallR Fd 0 (mCons (mVar 0) (mCons (mC (.int 36)) mNil))))) mNil)))
  (mExpr (mApp 5 (mCons (op2 bAdd (op2 bAdd (op2 bIx (mVar 4) (mCallR Fd 0 (mCons (mVar 0) (mCons (mC (.int 26)) mNil)))) (mVar 6)) (mB fStr (mCons (op2 bMod (mVar 2) (mC (.int 10))) mNil))) mNil)))))
  (mSeq (mAsg 3 false (op2 bEq (mB fLen (mCons (mB fDict (mCons (mComp [8] (mItV (mVar 5)) (tgN 8) mYes (mTup (mCons (mVar 8) (mCons (mC (.bl true)) mNil)))) mNil)) mNil)) (mVar 1)))
  (mRet (mIte (mTru (mVar 3)) (mB fSort (mCons (mVar 5) mNil)) (mB fSort (mCons (mComp [2] (mRng1 (mCons (mVar 1) mNil)) (tgN 2) mYes (op2 bAdd (op2 bAdd (mC (.str "n")) (op2 bIx (mVar 4) (mVar 2))) (mC (.str "0")))) mNil)))))))
theorem sign_at {k : Int} (h0 : 0 ≤ k) (h : k < 36) : ∃ c, at1 (Str.ofString "abcdefghijklmnopqrstuvwxyz0123456789").cps.toList k = some c ∧ c ∈ signL := by
  have hl : (Str.ofString "abcdefghijklmnopqrstuvwxyz0123456789").cps.toList.length = 36 := by decide +kernel
  exact at1_in h0 (by rw [hl]; omega)
theorem small_at {k : Int} (h0 : 0 ≤ k) (h : k < 26) : ∃ c, at1 (Str.ofString "abcdefghijklmnopqrstuvwxyz0123456789").cps.toList k = some c ∧ c ∈ smallL := by
  have hl : (Str.ofString "abcdefghijklmnopqrstuvwxyz0123456789").cps.toList.length = 36 := by decide +kernel
  have key : ∀ j : Fin 26, ∃ c, (Str.ofString "abcdefghijklmnopqrstuvwxyz0123456789").cps.toList[j.val]? = some c ∧ c ∈ smallL := by
    have : ∀ j : Fin 26, ((Str.ofString "abcdefghijklmnopqrstuvwxyz0123456789").cps.toList[j.val]?).any (fun c => decide (c ∈ smallL)) = true := by decide +kernel
    intro j
    have h := this j
    cases e : (Str.ofString "abcdefghijklmnopqrstuvwxyz0123456789").cps.toList[j.val]? with
    | none => rw [e] at h; cases h
    | some c => rw [e] at h; exact ⟨c, rfl, of_decide_eq_true h⟩
  obtain ⟨c, h1, h2⟩ := key ⟨k.toNat, by omega⟩
  refine ⟨c, ?_, h2⟩
  unfold at1 ixN
  rw [if_pos h0, if_pos (by rw [hl]; omega)]
  exact h1
theorem small_sign {c : Nat} (h : c ∈ smallL) : c ∈ signL := by
  have : ∀ c ∈ smallL, c ∈ signL := by decide +kernel
  exact this c h
theorem dig_one {k : Int} (h0 : 0 ≤ k) (h : k < 10) : ∃ c, fStr [.int k] = some (.val (.str (chr c))) ∧ c ∈ signL := by
  have h2 : k = 0 ∨ k = 1 ∨ k = 2 ∨ k = 3 ∨ k = 4 ∨ k = 5 ∨ k = 6 ∨ k = 7 ∨ k = 8 ∨ k = 9 := by omega
  have key : ∀ j : Fin 10, okShow (j.val : Int) = true ∧ (Str.ofString (toString (j.val : Int)) = chr (48 + j.val)) ∧ 48 + j.val ∈ signL := by decide +kernel
  obtain ⟨h3, h4, h5⟩ := key ⟨k.toNat, by omega⟩
  have e : ((⟨k.toNat, by omega⟩ : Fin 10).val : Int) = k := by show (k.toNat : Int) = k; omega
  rw [e] at h3 h4
  refine ⟨_, ?_, h5⟩
  show (if okShow k = true then some (EV.val (.str (Str.ofString (toString k)))) else none) = _
  rw [if_pos h3, h4]
theorem bxD_box {d : D} : bxD (.box d) = some d := rfl
theorem bxD_pbx {d : D} : bxD (.pbx d) = some d := rfl
theorem bAdd_str {a b : Str} (h : a.length + b.length ≤ sizeLine) : bAdd (.str a) (.str b) = some (.val (.str (a ++ b))) := by
  show (if a.length + b.length ≤ sizeLine then _ else _) = _
  rw [if_pos h]
/-- a name as the law draws it -/
def Nm (s : Str) : Prop := ∃ c l, s.cps.toList = c :: l ∧ (l.length ≤ 9 ∧ l.length ≠ 6) ∧ c ∈ smallL ∧ ∀ x ∈ l, x ∈ signL
theorem Nm.name {s : Str} (h : Nm s) : jName (.str s) = true := by
  obtain ⟨c, l, e, h1, h2, h3⟩ := h
  show jNameL s.cps.toList = true
  rw [e]
  simp only [jNameL]
  rw [decide_eq_true (show l.length < 12 by omega), decide_eq_true h2, List.all_cons, decide_eq_true (small_sign h2)]
  simp only [Bool.true_and]
  exact List.all_eq_true.mpr fun x hx => decide_eq_true (h3 x hx)
theorem Nm.len {s : Str} (h : Nm s) : s.length ≤ 10 := by
  obtain ⟨c, l, e, h1, h2, h3⟩ := h
  rw [len_cps, e, List.length_cons]; omega
theorem Nm.of {c g : Nat} {t : List Nat} {s : Str} (hc : c ∈ smallL) (ht : t.length ≤ 8 ∧ t.length ≠ 5) (hs : ∀ x ∈ t, x ∈ signL) (hg : g ∈ signL) (hst : s.cps.toList = t) : Nm (chr c ++ s ++ chr g) := by
  refine ⟨c, t ++ [g], ?_, by rw [List.length_append]; show t.length + 1 ≤ 9 ∧ t.length + 1 ≠ 6; omega, hc, ?_⟩
  · rw [app_cps, app_cps, hst]; rfl
  · intro x hx
    rcases List.mem_append.mp hx with h | h
    · exact hs x h
    · rw [List.mem_singleton.mp h]; exact hg
def fewNames : List Str := ["na0", "nb0", "nc0", "nd0", "ne0"]
theorem few_nm : ∀ s ∈ fewNames, Nm s := by
  intro s hs
  unfold fewNames at hs
  simp only [List.mem_cons, List.not_mem_nil, or_false] at hs
  rcases hs with rfl | rfl | rfl | rfl | rfl
  · exact ⟨110, [97, 48], by decide +kernel, by decide, by decide +kernel, by decide +kernel⟩
  · exact ⟨110, [98, 48], by decide +kernel, by decide, by decide +kernel, by decide +kernel⟩
  · exact ⟨110, [99, 48], by decide +kernel, by decide, by decide +kernel, by decide +kernel⟩
  · exact ⟨110, [100, 48], by decide +kernel, by decide, by decide +kernel, by decide +kernel⟩
  · exact ⟨110, [101, 48], by decide +kernel, by decide, by decide +kernel, by decide +kernel⟩
theorem few_at {i : Nat} (h : i < 5) : ∃ c, at1 (Str.ofString "abcdefghijklmnopqrstuvwxyz0123456789").cps.toList (0 + (i : Int)) = some c ∧ Str.ofString "n" ++ ⟨#[c]⟩ ++ Str.ofString "0" = fewNames.getD i "" := by
  have key : ∀ j : Fin 5, ((at1 (Str.ofString "abcdefghijklmnopqrstuvwxyz0123456789").cps.toList (0 + (j.val : Int))).any fun c => decide (Str.ofString "n" ++ ⟨#[c]⟩ ++ Str.ofString "0" = fewNames.getD j.val "")) = true := by decide +kernel
  have h2 := key ⟨i, h⟩
  cases e : at1 (Str.ofString "abcdefghijklmnopqrstuvwxyz0123456789").cps.toList (0 + (i : Int)) with
  | none => rw [e] at h2; cases h2
  | some c => rw [e] at h2; exact ⟨c, rfl, of_decide_eq_true h2⟩
theorem few_take {m : Nat} (h : m ≤ 5) : ((List.range m).map fun i => fewNames.getD i "") = fewNames.take m ∧ (fewNames.take m).Nodup ∧ (fewNames.take m).length = m := by
  have key : ∀ j : Fin 6, ((List.range j.val).map fun i => fewNames.getD i "") = fewNames.take j.val ∧ (fewNames.take j.val).Nodup ∧ (fewNames.take j.val).length = j.val := by decide +kernel
  exact key ⟨m, by omega⟩
def NamesF (F : Fun1) : Prop := ∀ (cs : List Int) (n : Int) (m : Nat) (d : D), Pn cs n d → n < 2 ^ 37 → m ≤ 5 → Go F d [.int m] fun y d' => ∃ ns : List Str, y = .lst (ns.map .str) ∧ ns.length = m ∧ (∀ s ∈ ns, Nm s) ∧ jRis ns = true ∧ Pn cs (n + 100) d'
theorem names_of {Fd Fp : Fun1} (hd : DrawOk Fd) (hp : PickOk Fp) : NamesF (defF 7 (mNames Fd Fp)) := by
  intro cs n m d h hn hm
  refine go_def ?_
  unfold mNames
  simp only [frzs, kp, stor, wp_bnd, wp_rt, wp_mC, wp_mVar, wp_mNil, wp_mCons, wp_op1, wp_op2, wp_mTst, wp_mTru, wp_mAnd, wp_mOr, wp_mNot, wp_mBl, wp_mAndV, wp_mOrV, wp_mNotV, wp_mIte, wp_lk2, wp_mChain, wp_mTup, wp_mLst, wp_mB, wp_mDk, wp_mYes, wp_mPass, wp_mBreak, wp_mCont, nxt, wp_mSeq, wp_mIf, wp_mRet, wp_mExpr, wp_mAsg, wp_mAsgT, wp_mPar, wp_mPut, wp_mApp, wp_mSl, wp_mPartN, wp_mPartS, wp_mRev2, wp_mMt, wp_mCall, wpC_val, wpC_own, wp_mCallR, wp_mItV, wp_mItF, wp_mRng1, wp_mFor, wp_mComp, sm_some, sm_none, sm_ite, sm_map, look_val, look_own, look_bx, looks_nil, looks_cons, toV_val, toV_own, toVs_nil, toVs_cons, List.getElem?_cons_zero, List.getElem?_cons_succ, List.set_cons_zero, List.set_cons_succ, List.map_cons, List.map_nil, List.cons_append, List.nil_append, List.replicate_succ, List.replicate_zero, List.append_nil, truD_bl, items_str, items_tup, items_lst, fLen_tup, fLen_lst, bIx_tup, bIx_lst, tyD_str, tyD_int, tyD_bl, tyD_tup, tyD_lst, isTD_eq, isTn, fin_val, back_val, back_nil, back_pbx, Option.map_some]
  refine ⟨by unfold lim; exact decide_eq_true ⟨by omega, by omega⟩, ?_⟩
  refine wp_mono (P := fun (fl : Fl) (r : List SV) => fl = Fl.nx ∧ ∃ (fs : List Str) (d' : D) (x2 x6 : SV), r = [.pbx d', .val (.int m), x2, .un, .val (.str "abcdefghijklmnopqrstuvwxyz0123456789"), .box (.lst (fs.map .str)), x6, .un, .un] ∧ fs.length = m ∧ (∀ s ∈ fs, Nm s) ∧ Pn cs (n + 100) d') ?_ ?_
  · refine wp_loop (fun ds r => ∃ (fs : List Str) (d' : D) (x2 x6 : SV), r = [.pbx d', .val (.int m), x2, .un, .val (.str "abcdefghijklmnopqrstuvwxyz0123456789"), .box (.lst (fs.map .str)), x6, .un, .un] ∧ fs.length + ds.length = m ∧ (∀ s ∈ fs, Nm s) ∧ (∀ e ∈ ds, ∃ k : Nat, e = .int k) ∧ Pn cs (n + 20 * fs.length) d') ⟨[], d, .un, .un, rfl, ?_, fun s hs => (by cases hs), ?_, h.up (by simp)⟩ ?_ ?_
    · unfold rng
      rw [List.length_map, List.length_range]
      simp
    · intro e he
      unfold rng at he
      obtain ⟨i, _, rfl⟩ := List.mem_map.mp he
      exact ⟨i, by congr 1; omega⟩
    · rintro e ds r ⟨fs, d', x2, x6, rfl, hl, hf, hds, hp'⟩
      obtain ⟨k, rfl⟩ := hds e (List.mem_cons_self ..)
      rw [List.length_cons] at hl
      simp only [tgN, wp_bnd, wp_rt, wp_mC, wp_mVar, wp_mNil, wp_mCons, wp_op1, wp_op2, wp_mTst, wp_mTru, wp_mAnd, wp_mOr, wp_mNot, wp_mBl, wp_mAndV, wp_mOrV, wp_mNotV, wp_mIte, wp_lk2, wp_mChain, wp_mTup, wp_mLst, wp_mB, wp_mDk, wp_mYes, wp_mPass, wp_mBreak, wp_mCont, nxt, wp_mSeq, wp_mIf, wp_mRet, wp_mExpr, wp_mAsg, wp_mAsgT, wp_mPar, wp_mPut, wp_mApp, wp_mSl, wp_mPartN, wp_mPartS, wp_mRev2, wp_mMt, wp_mCall, wpC_val, wpC_own, wp_mCallR, wp_mItV, wp_mItF, wp_mRng1, wp_mFor, wp_mComp, sm_some, sm_none, sm_ite, sm_map, look_val, look_own, look_bx, looks_nil, looks_cons, toV_val, toV_own, toVs_nil, toVs_cons, List.getElem?_cons_zero, List.getElem?_cons_succ, List.set_cons_zero, List.set_cons_succ, List.map_cons, List.map_nil, List.cons_append, List.nil_append, List.replicate_succ, List.replicate_zero, List.append_nil, truD_bl, items_str, items_tup, items_lst, fLen_tup, fLen_lst, bIx_tup, bIx_lst, tyD_str, tyD_int, tyD_bl, tyD_tup, tyD_lst, isTD_eq, isTn, fin_val, back_val, back_nil, back_pbx, Option.map_some]
      refine ⟨trivial, ?_⟩
      refine gv_p (i := 0) (d := d') (xs := [.lst [.int 0, .int 0, .int 1, .int 3, .int 8]]) rfl rfl (hp cs _ d' _ _ (.inl rfl) hp' (by omega) (by simp) (by simp)) ?_
      rintro y d2 ⟨hy, hp2⟩
      simp only [List.mem_cons, List.not_mem_nil, or_false] at hy
      have hy2 : ∃ j : Nat, y = .int j ∧ (j ≤ 8 ∧ j ≠ 5) := by
        rcases hy with rfl | rfl | rfl | rfl | rfl
        · exact ⟨0, rfl, by omega⟩
        · exact ⟨0, rfl, by omega⟩
        · exact ⟨1, rfl, by omega⟩
        · exact ⟨3, rfl, by omega⟩
        · exact ⟨8, rfl, by omega⟩
      obtain ⟨j, rfl, hj⟩ := hy2
      simp only [wp_bnd, wp_rt, wp_mC, wp_mVar, wp_mNil, wp_mCons, wp_op1, wp_op2, wp_mTst, wp_mTru, wp_mAnd, wp_mOr, wp_mNot, wp_mBl, wp_mAndV, wp_mOrV, wp_mNotV, wp_mIte, wp_lk2, wp_mChain, wp_mTup, wp_mLst, wp_mB, wp_mDk, wp_mYes, wp_mPass, wp_mBreak, wp_mCont, nxt, wp_mSeq, wp_mIf, wp_mRet, wp_mExpr, wp_mAsg, wp_mAsgT, wp_mPar, wp_mPut, wp_mApp, wp_mSl, wp_mPartN, wp_mPartS, wp_mRev2, wp_mMt, wp_mCall, wpC_val, wpC_own, wp_mCallR, wp_mItV, wp_mItF, wp_mRng1, wp_mFor, wp_mComp, sm_some, sm_none, sm_ite, sm_map, look_val, look_own, look_bx, looks_nil, looks_cons, toV_val, toV_own, toVs_nil, toVs_cons, List.getElem?_cons_zero, List.getElem?_cons_succ, List.set_cons_zero, List.set_cons_succ, List.map_cons, List.map_nil, List.cons_append, List.nil_append, List.replicate_succ, List.replicate_zero, List.append_nil, truD_bl, items_str, items_tup, items_lst, fLen_tup, fLen_lst, bIx_tup, bIx_lst, tyD_str, tyD_int, tyD_bl, tyD_tup, tyD_lst, isTD_eq, isTn, fin_val, back_val, back_nil, back_pbx, Option.map_some]
      refine ⟨by unfold lim; exact decide_eq_true ⟨by omega, by omega⟩, ?_⟩
      have hr : rng 0 (j : Int) = (List.range j).map fun (i : Nat) => D.int (0 + i) := by unfold rng; rw [Int.sub_zero, Int.toNat_natCast]
      refine wp_compI (List.range j) (fun (i : Nat) => D.int (0 + i)) hr (by rw [List.length_range, sizeLine_eq]; omega)
        (fun l acc r => ∃ (t : List Nat) (d3 : D) (x7 : SV), acc = t.map (fun c => .str (chr c)) ∧ t.length + l.length = j ∧ (∀ x ∈ t, x ∈ signL) ∧ r = [.pbx d3, .val (.int m), .val (.int k), .un, .val (.str "abcdefghijklmnopqrstuvwxyz0123456789"), .box (.lst (fs.map .str)), x6, x7, .un] ∧ Pn cs (n + 20 * fs.length + 1 + t.length) d3)
        ⟨[], d2, .un, rfl, by simp, fun x hx => (by cases hx), rfl, hp2.up (by simp)⟩ ?_ ?_
      · rintro i l acc r ⟨t, d3, x7, rfl, htl, hts, rfl, hp3⟩
        rw [List.length_cons] at htl
        simp only [wipeR, tgN, wp_bnd, wp_rt, wp_mC, wp_mVar, wp_mNil, wp_mCons, wp_op1, wp_op2, wp_mTst, wp_mTru, wp_mAnd, wp_mOr, wp_mNot, wp_mBl, wp_mAndV, wp_mOrV, wp_mNotV, wp_mIte, wp_lk2, wp_mChain, wp_mTup, wp_mLst, wp_mB, wp_mDk, wp_mYes, wp_mPass, wp_mBreak, wp_mCont, nxt, wp_mSeq, wp_mIf, wp_mRet, wp_mExpr, wp_mAsg, wp_mAsgT, wp_mPar, wp_mPut, wp_mApp, wp_mSl, wp_mPartN, wp_mPartS, wp_mRev2, wp_mMt, wp_mCall, wpC_val, wpC_own, wp_mCallR, wp_mItV, wp_mItF, wp_mRng1, wp_mFor, wp_mComp, sm_some, sm_none, sm_ite, sm_map, look_val, look_own, look_bx, looks_nil, looks_cons, toV_val, toV_own, toVs_nil, toVs_cons, List.getElem?_cons_zero, List.getElem?_cons_succ, List.set_cons_zero, List.set_cons_succ, List.map_cons, List.map_nil, List.cons_append, List.nil_append, List.replicate_succ, List.replicate_zero, List.append_nil, truD_bl, items_str, items_tup, items_lst, fLen_tup, fLen_lst, bIx_tup, bIx_lst, tyD_str, tyD_int, tyD_bl, tyD_tup, tyD_lst, isTD_eq, isTn, fin_val, back_val, back_nil, back_pbx, Option.map_some]
        refine gv_p (i := 0) (d := d3) (xs := [.int 36]) rfl rfl (hd cs _ 36 d3 hp3 (by omega) (by omega) (by omega)) ?_
        rintro y d4 ⟨q, rfl, hq0, hq, hp4⟩
        obtain ⟨c, hc1, hc2⟩ := sign_at hq0 hq
        simp only [bIx_str (show (Str.ofString "abcdefghijklmnopqrstuvwxyz0123456789").length ≤ sizeLine by rw [sizeLine_eq]; decide +kernel), hc1, wp_bnd, wp_rt, wp_mC, wp_mVar, wp_mNil, wp_mCons, wp_op1, wp_op2, wp_mTst, wp_mTru, wp_mAnd, wp_mOr, wp_mNot, wp_mBl, wp_mAndV, wp_mOrV, wp_mNotV, wp_mIte, wp_lk2, wp_mChain, wp_mTup, wp_mLst, wp_mB, wp_mDk, wp_mYes, wp_mPass, wp_mBreak, wp_mCont, nxt, wp_mSeq, wp_mIf, wp_mRet, wp_mExpr, wp_mAsg, wp_mAsgT, wp_mPar, wp_mPut, wp_mApp, wp_mSl, wp_mPartN, wp_mPartS, wp_mRev2, wp_mMt, wp_mCall, wpC_val, wpC_own, wp_mCallR, wp_mItV, wp_mItF, wp_mRng1, wp_mFor, wp_mComp, sm_some, sm_none, sm_ite, sm_map, look_val, look_own, look_bx, looks_nil, looks_cons, toV_val, toV_own, toVs_nil, toVs_cons, List.getElem?_cons_zero, List.getElem?_cons_succ, List.set_cons_zero, List.set_cons_succ, List.map_cons, List.map_nil, List.cons_append, List.nil_append, List.replicate_succ, List.replicate_zero, List.append_nil, truD_bl, items_str, items_tup, items_lst, fLen_tup, fLen_lst, bIx_tup, bIx_lst, tyD_str, tyD_int, tyD_bl, tyD_tup, tyD_lst, isTD_eq, isTn, fin_val, back_val, back_nil, back_pbx, Option.map_some]
        refine ⟨t ++ [c], d4, _, by rw [List.map_append] <;> rfl, by rw [List.length_append]; show t.length + 1 + _ = _; omega, ?_, rfl, hp4.up (by rw [List.length_append]; simp; omega)⟩
        intro x hx
        rcases List.mem_append.mp hx with h | h
        · exact hts x h
        · rw [List.mem_singleton.mp h]; exact hc2
      · rintro acc r ⟨t, d3, x7, rfl, htl, hts, rfl, hp3⟩
        have ht8 : t.length ≤ 8 ∧ t.length ≠ 5 := by simp at htl; omega
        simp only [restR, kv1, wp_bnd, wp_rt, wp_mC, wp_mVar, wp_mNil, wp_mCons, wp_op1, wp_op2, wp_mTst, wp_mTru, wp_mAnd, wp_mOr, wp_mNot, wp_mBl, wp_mAndV, wp_mOrV, wp_mNotV, wp_mIte, wp_lk2, wp_mChain, wp_mTup, wp_mLst, wp_mB, wp_mDk, wp_mYes, wp_mPass, wp_mBreak, wp_mCont, nxt, wp_mSeq, wp_mIf, wp_mRet, wp_mExpr, wp_mAsg, wp_mAsgT, wp_mPar, wp_mPut, wp_mApp, wp_mSl, wp_mPartN, wp_mPartS, wp_mRev2, wp_mMt, wp_mCall, wpC_val, wpC_own, wp_mCallR, wp_mItV, wp_mItF, wp_mRng1, wp_mFor, wp_mComp, sm_some, sm_none, sm_ite, sm_map, look_val, look_own, look_bx, looks_nil, looks_cons, toV_val, toV_own, toVs_nil, toVs_cons, List.getElem?_cons_zero, List.getElem?_cons_succ, List.set_cons_zero, List.set_cons_succ, List.map_cons, List.map_nil, List.cons_append, List.nil_append, List.replicate_succ, List.replicate_zero, List.append_nil, truD_bl, items_str, items_tup, items_lst, fLen_tup, fLen_lst, bIx_tup, bIx_lst, tyD_str, tyD_int, tyD_bl, tyD_tup, tyD_lst, isTD_eq, isTn, fin_val, back_val, back_nil, back_pbx, Option.map_some]
        rw [fJoin_chrs (by omega)]
        simp only [bxD_box, isL, wp_bnd, wp_rt, wp_mC, wp_mVar, wp_mNil, wp_mCons, wp_op1, wp_op2, wp_mTst, wp_mTru, wp_mAnd, wp_mOr, wp_mNot, wp_mBl, wp_mAndV, wp_mOrV, wp_mNotV, wp_mIte, wp_lk2, wp_mChain, wp_mTup, wp_mLst, wp_mB, wp_mDk, wp_mYes, wp_mPass, wp_mBreak, wp_mCont, nxt, wp_mSeq, wp_mIf, wp_mRet, wp_mExpr, wp_mAsg, wp_mAsgT, wp_mPar, wp_mPut, wp_mApp, wp_mSl, wp_mPartN, wp_mPartS, wp_mRev2, wp_mMt, wp_mCall, wpC_val, wpC_own, wp_mCallR, wp_mItV, wp_mItF, wp_mRng1, wp_mFor, wp_mComp, sm_some, sm_none, sm_ite, sm_map, look_val, look_own, look_bx, looks_nil, looks_cons, toV_val, toV_own, toVs_nil, toVs_cons, List.getElem?_cons_zero, List.getElem?_cons_succ, List.set_cons_zero, List.set_cons_succ, List.map_cons, List.map_nil, List.cons_append, List.nil_append, List.replicate_succ, List.replicate_zero, List.append_nil, truD_bl, items_str, items_tup, items_lst, fLen_tup, fLen_lst, bIx_tup, bIx_lst, tyD_str, tyD_int, tyD_bl, tyD_tup, tyD_lst, isTD_eq, isTn, fin_val, back_val, back_nil, back_pbx, Option.map_some]
        refine ⟨trivial, ?_⟩
        refine gv_p (i := 0) (d := d3) (xs := [.int 26]) rfl rfl (hd cs _ 26 d3 hp3 (by omega) (by omega) (by omega)) ?_
        rintro y d4 ⟨q, rfl, hq0, hq, hp4⟩
        obtain ⟨c, hc1, hc2⟩ := small_at hq0 hq
        obtain ⟨g, hg1, hg2⟩ := dig_one (k := (k : Int).fmod 10) (Int.fmod_nonneg_of_pos _ (by omega)) (Int.fmod_lt_of_pos _ (by omega))
        have hjl : (Txt.join "" (t.map chr)).length = t.length := by rw [len_cps, join_chrs]
        have e1 : bAdd (.str ⟨#[c]⟩) (.str (Txt.join "" (t.map chr))) = some (.val (.str (chr c ++ Txt.join "" (t.map chr)))) := bAdd_str (show (chr c).length + _ ≤ _ by rw [hjl, sizeLine_eq]; show 1 + _ ≤ _; omega)
        have e2 : bAdd (.str (chr c ++ Txt.join "" (t.map chr))) (.str (chr g)) = some (.val (.str (chr c ++ Txt.join "" (t.map chr) ++ chr g))) := bAdd_str (by rw [app_len, hjl, sizeLine_eq]; show 1 + _ + 1 ≤ _; omega)
        simp only [bIx_str (show (Str.ofString "abcdefghijklmnopqrstuvwxyz0123456789").length ≤ sizeLine by rw [sizeLine_eq]; decide +kernel), hc1, e1, bMod_int (show (10 : Int) ≠ 0 by omega), hg1, e2, bxD_box, appD, SV.put, wp_bnd, wp_rt, wp_mC, wp_mVar, wp_mNil, wp_mCons, wp_op1, wp_op2, wp_mTst, wp_mTru, wp_mAnd, wp_mOr, wp_mNot, wp_mBl, wp_mAndV, wp_mOrV, wp_mNotV, wp_mIte, wp_lk2, wp_mChain, wp_mTup, wp_mLst, wp_mB, wp_mDk, wp_mYes, wp_mPass, wp_mBreak, wp_mCont, nxt, wp_mSeq, wp_mIf, wp_mRet, wp_mExpr, wp_mAsg, wp_mAsgT, wp_mPar, wp_mPut, wp_mApp, wp_mSl, wp_mPartN, wp_mPartS, wp_mRev2, wp_mMt, wp_mCall, wpC_val, wpC_own, wp_mCallR, wp_mItV, wp_mItF, wp_mRng1, wp_mFor, wp_mComp, sm_some, sm_none, sm_ite, sm_map, look_val, look_own, look_bx, looks_nil, looks_cons, toV_val, toV_own, toVs_nil, toVs_cons, List.getElem?_cons_zero, List.getElem?_cons_succ, List.set_cons_zero, List.set_cons_succ, List.map_cons, List.map_nil, List.cons_append, List.nil_append, List.replicate_succ, List.replicate_zero, List.append_nil, truD_bl, items_str, items_tup, items_lst, fLen_tup, fLen_lst, bIx_tup, bIx_lst, tyD_str, tyD_int, tyD_bl, tyD_tup, tyD_lst, isTD_eq, isTn, fin_val, back_val, back_nil, back_pbx, Option.map_some]
        refine ⟨by rw [List.length_map, sizeLine_eq]; omega, ?_⟩
        refine ⟨fs ++ [chr c ++ Txt.join "" (t.map chr) ++ chr g], d4, .val (.int k), .val (.str (Txt.join "" (t.map chr))), ?_, ?_, ?_, ?_, hp4.up ?_⟩
        · rw [List.map_append] <;> rfl
        · rw [List.length_append]; show fs.length + 1 + _ = _; omega
        · intro s hs
          rcases List.mem_append.mp hs with h | h
          · exact hf s h
          · rw [List.mem_singleton.mp h]; exact Nm.of hc2 ht8 hts hg2 join_chrs
        · intro e he; exact hds e (List.mem_cons_of_mem _ he)
        · rw [List.length_append]; simp; omega
    · rintro r ⟨fs, d', x2, x6, rfl, hl, hf, hds, hp'⟩
      refine ⟨rfl, fs, d', x2, x6, rfl, by simpa using hl, hf, hp'.up ?_⟩
      have : fs.length ≤ 5 := by simp at hl; omega
      omega
  · rintro fl r ⟨rfl, fs, d', x2, x6, rfl, hl, hf, hp'⟩
    simp only [wp_bnd, wp_rt, wp_mC, wp_mVar, wp_mNil, wp_mCons, wp_op1, wp_op2, wp_mTst, wp_mTru, wp_mAnd, wp_mOr, wp_mNot, wp_mBl, wp_mAndV, wp_mOrV, wp_mNotV, wp_mIte, wp_lk2, wp_mChain, wp_mTup, wp_mLst, wp_mB, wp_mDk, wp_mYes, wp_mPass, wp_mBreak, wp_mCont, nxt, wp_mSeq, wp_mIf, wp_mRet, wp_mExpr, wp_mAsg, wp_mAsgT, wp_mPar, wp_mPut, wp_mApp, wp_mSl, wp_mPartN, wp_mPartS, wp_mRev2, wp_mMt, wp_mCall, wpC_val, wpC_own, wp_mCallR, wp_mItV, wp_mItF, wp_mRng1, wp_mFor, wp_mComp, sm_some, sm_none, sm_ite, sm_map, look_val, look_own, look_bx, looks_nil, looks_cons, toV_val, toV_own, toVs_nil, toVs_cons, List.getElem?_cons_zero, List.getElem?_cons_succ, List.set_cons_zero, List.set_cons_succ, List.map_cons, List.map_nil, List.cons_append, List.nil_append, List.replicate_succ, List.replicate_zero, List.append_nil, truD_bl, items_str, items_tup, items_lst, fLen_tup, fLen_lst, bIx_tup, bIx_lst, tyD_str, tyD_int, tyD_bl, tyD_tup, tyD_lst, isTD_eq, isTn, fin_val, back_val, back_nil, back_pbx, Option.map_some]
    refine wp_comp fs D.str (fun s => .tup [.str s, .bl true]) rfl (by rw [sizeLine_eq]; omega) rfl ?_ ?_
    · intro s hs
      simp [tgN, wipeR, restR, kv1, wp_bnd, wp_rt, wp_mC, wp_mVar, wp_mNil, wp_mCons, wp_op1, wp_op2, wp_mTst, wp_mTru, wp_mAnd, wp_mOr, wp_mNot, wp_mBl, wp_mAndV, wp_mOrV, wp_mNotV, wp_mIte, wp_lk2, wp_mChain, wp_mTup, wp_mLst, wp_mB, wp_mDk, wp_mYes, wp_mPass, wp_mBreak, wp_mCont, nxt, wp_mSeq, wp_mIf, wp_mRet, wp_mExpr, wp_mAsg, wp_mAsgT, wp_mPar, wp_mPut, wp_mApp, wp_mSl, wp_mPartN, wp_mPartS, wp_mRev2, wp_mMt, wp_mCall, wpC_val, wpC_own, wp_mCallR, wp_mItV, wp_mItF, wp_mRng1, wp_mFor, wp_mComp, sm_some, sm_none, sm_ite, sm_map, look_val, look_own, look_bx, looks_nil, looks_cons, toV_val, toV_own, toVs_nil, toVs_cons, List.getElem?_cons_zero, List.getElem?_cons_succ, List.set_cons_zero, List.set_cons_succ, List.map_cons, List.map_nil, List.cons_append, List.nil_append, List.replicate_succ, List.replicate_zero, List.append_nil, truD_bl, items_str, items_tup, items_lst, fLen_tup, fLen_lst, bIx_tup, bIx_lst, tyD_str, tyD_int, tyD_bl, tyD_tup, tyD_lst, isTD_eq, isTn, fin_val, back_val, back_nil, back_pbx, Option.map_some]
    · have e0 : bEq (.int ((mrgD (fs.map fun s => ((.inr s : Key), D.bl true))).length : Nat)) (.int m) = some (.val (.bl (((mrgD (fs.map fun s => ((.inr s : Key), D.bl true))).length : Int) == (m : Int)))) := bEq_int _ _
      simp only [fDict_strs, fLen, e0, wp_bnd, wp_rt, wp_mC, wp_mVar, wp_mNil, wp_mCons, wp_op1, wp_op2, wp_mTst, wp_mTru, wp_mAnd, wp_mOr, wp_mNot, wp_mBl, wp_mAndV, wp_mOrV, wp_mNotV, wp_mIte, wp_lk2, wp_mChain, wp_mTup, wp_mLst, wp_mB, wp_mDk, wp_mYes, wp_mPass, wp_mBreak, wp_mCont, nxt, wp_mSeq, wp_mIf, wp_mRet, wp_mExpr, wp_mAsg, wp_mAsgT, wp_mPar, wp_mPut, wp_mApp, wp_mSl, wp_mPartN, wp_mPartS, wp_mRev2, wp_mMt, wp_mCall, wpC_val, wpC_own, wp_mCallR, wp_mItV, wp_mItF, wp_mRng1, wp_mFor, wp_mComp, sm_some, sm_none, sm_ite, sm_map, look_val, look_own, look_bx, looks_nil, looks_cons, toV_val, toV_own, toVs_nil, toVs_cons, List.getElem?_cons_zero, List.getElem?_cons_succ, List.set_cons_zero, List.set_cons_succ, List.cons_append, List.nil_append, List.replicate_succ, List.replicate_zero, List.append_nil, truD_bl, items_str, items_tup, items_lst, fLen_tup, fLen_lst, bIx_tup, bIx_lst, tyD_str, tyD_int, tyD_bl, tyD_tup, tyD_lst, isTD_eq, isTn, fin_val, back_val, back_nil, back_pbx, Option.map_some, fAll_map, restR, kv1]
      cases hq : (((mrgD (fs.map fun s => ((.inr s : Key), D.bl true))).length : Int) == (m : Int)) with
      | true =>
        have hnd : fs.Nodup := nodup_of_dict (v := .bl true) (by have := eq_of_beq hq; omega)
        rw [if_pos rfl]
        rw [fSort_strs (by omega)]
        simp only [wp_bnd, wp_rt, wp_mC, wp_mVar, wp_mNil, wp_mCons, wp_op1, wp_op2, wp_mTst, wp_mTru, wp_mAnd, wp_mOr, wp_mNot, wp_mBl, wp_mAndV, wp_mOrV, wp_mNotV, wp_mIte, wp_lk2, wp_mChain, wp_mTup, wp_mLst, wp_mB, wp_mDk, wp_mYes, wp_mPass, wp_mBreak, wp_mCont, nxt, wp_mSeq, wp_mIf, wp_mRet, wp_mExpr, wp_mAsg, wp_mAsgT, wp_mPar, wp_mPut, wp_mApp, wp_mSl, wp_mPartN, wp_mPartS, wp_mRev2, wp_mMt, wp_mCall, wpC_val, wpC_own, wp_mCallR, wp_mItV, wp_mItF, wp_mRng1, wp_mFor, wp_mComp, sm_some, sm_none, sm_ite, sm_map, look_val, look_own, look_bx, looks_nil, looks_cons, toV_val, toV_own, toVs_nil, toVs_cons, List.getElem?_cons_zero, List.getElem?_cons_succ, List.set_cons_zero, List.set_cons_succ, List.cons_append, List.nil_append, List.replicate_succ, List.replicate_zero, List.append_nil, truD_bl, items_str, items_tup, items_lst, fLen_tup, fLen_lst, bIx_tup, bIx_lst, tyD_str, tyD_int, tyD_bl, tyD_tup, tyD_lst, isTD_eq, isTn, fin_val, back_val, back_nil, back_pbx, Option.map_some, fAll_map, restR, kv1]
        refine ⟨_, _, _, rfl, srtS fs, rfl, ?_, ?_, srt_ris hnd, hp'⟩
        · rw [(srtS_perm fs).length_eq]; exact hl
        · intro s hs; exact hf s ((srtS_perm fs).mem_iff.mp hs)
      | false =>
        rw [if_neg (by decide)]
        refine ⟨by unfold lim; exact decide_eq_true ⟨by omega, by omega⟩, ?_⟩
        have hr : rng 0 (m : Int) = (List.range m).map fun (i : Nat) => D.int (0 + i) := by unfold rng; rw [Int.sub_zero, Int.toNat_natCast]
        obtain ⟨ht1, ht2, ht3⟩ := few_take hm
        refine wp_comp (List.range m) (fun (i : Nat) => D.int (0 + i)) (fun i => .str (fewNames.getD i "")) hr (by rw [List.length_range, sizeLine_eq]; omega) rfl ?_ ?_
        · intro i hi
          have hi5 : i < 5 := by have := List.mem_range.mp hi; omega
          obtain ⟨c, hc1, hc2⟩ := few_at hi5
          have e1 : bAdd (.str (Str.ofString "n")) (.str ⟨#[c]⟩) = some (.val (.str (Str.ofString "n" ++ ⟨#[c]⟩))) := bAdd_str (by rw [sizeLine_eq]; show (Str.ofString "n").length + 1 ≤ _; rw [show (Str.ofString "n").length = 1 by decide +kernel]; omega)
          have e2 : bAdd (.str (Str.ofString "n" ++ ⟨#[c]⟩)) (.str (Str.ofString "0")) = some (.val (.str (Str.ofString "n" ++ ⟨#[c]⟩ ++ Str.ofString "0"))) := bAdd_str (by rw [app_len, sizeLine_eq]; show (Str.ofString "n").length + 1 + _ ≤ _; rw [show (Str.ofString "n").length = 1 by decide +kernel, show (Str.ofString "0").length = 1 by decide +kernel]; omega)
          simp only [wipeR, tgN, bIx_str (show (Str.ofString "abcdefghijklmnopqrstuvwxyz0123456789").length ≤ sizeLine by rw [sizeLine_eq]; decide +kernel), hc1, e1, e2, wp_bnd, wp_rt, wp_mC, wp_mVar, wp_mNil, wp_mCons, wp_op1, wp_op2, wp_mTst, wp_mTru, wp_mAnd, wp_mOr, wp_mNot, wp_mBl, wp_mAndV, wp_mOrV, wp_mNotV, wp_mIte, wp_lk2, wp_mChain, wp_mTup, wp_mLst, wp_mB, wp_mDk, wp_mYes, wp_mPass, wp_mBreak, wp_mCont, nxt, wp_mSeq, wp_mIf, wp_mRet, wp_mExpr, wp_mAsg, wp_mAsgT, wp_mPar, wp_mPut, wp_mApp, wp_mSl, wp_mPartN, wp_mPartS, wp_mRev2, wp_mMt, wp_mCall, wpC_val, wpC_own, wp_mCallR, wp_mItV, wp_mItF, wp_mRng1, wp_mFor, wp_mComp, sm_some, sm_none, sm_ite, sm_map, look_val, look_own, look_bx, looks_nil, looks_cons, toV_val, toV_own, toVs_nil, toVs_cons, List.getElem?_cons_zero, List.getElem?_cons_succ, List.set_cons_zero, List.set_cons_succ, List.map_cons, List.map_nil, List.cons_append, List.nil_append, List.replicate_succ, List.replicate_zero, List.append_nil, truD_bl, items_str, items_tup, items_lst, fLen_tup, fLen_lst, bIx_tup, bIx_lst, tyD_str, tyD_int, tyD_bl, tyD_tup, tyD_lst, isTD_eq, isTn, fin_val, back_val, back_nil, back_pbx, Option.map_some]
          exact ⟨by rw [hc2], trivial, rfl⟩
        · have e3 : ((List.range m).map fun i => D.str (fewNames.getD i "")) = (fewNames.take m).map .str := by rw [← ht1, List.map_map] <;> rfl
          rw [e3]
          simp only [fSort_strs (show (fewNames.take m).length < 64 by omega), wp_bnd, wp_rt, wp_mC, wp_mVar, wp_mNil, wp_mCons, wp_op1, wp_op2, wp_mTst, wp_mTru, wp_mAnd, wp_mOr, wp_mNot, wp_mBl, wp_mAndV, wp_mOrV, wp_mNotV, wp_mIte, wp_lk2, wp_mChain, wp_mTup, wp_mLst, wp_mB, wp_mDk, wp_mYes, wp_mPass, wp_mBreak, wp_mCont, nxt, wp_mSeq, wp_mIf, wp_mRet, wp_mExpr, wp_mAsg, wp_mAsgT, wp_mPar, wp_mPut, wp_mApp, wp_mSl, wp_mPartN, wp_mPartS, wp_mRev2, wp_mMt, wp_mCall, wpC_val, wpC_own, wp_mCallR, wp_mItV, wp_mItF, wp_mRng1, wp_mFor, wp_mComp, sm_some, sm_none, sm_ite, sm_map, look_val, look_own, look_bx, looks_nil, looks_cons, toV_val, toV_own, toVs_nil, toVs_cons, List.getElem?_cons_zero, List.getElem?_cons_succ, List.set_cons_zero, List.set_cons_succ, List.cons_append, List.nil_append, List.replicate_succ, List.replicate_zero, List.append_nil, truD_bl, items_str, items_tup, items_lst, fLen_tup, fLen_lst, bIx_tup, bIx_lst, tyD_str, tyD_int, tyD_bl, tyD_tup, tyD_lst, isTD_eq, isTn, fin_val, back_val, back_nil, back_pbx, Option.map_some, fAll_map, restR, kv1]
          refine ⟨_, _, _, rfl, srtS (fewNames.take m), rfl, ?_, ?_, srt_ris ht2, hp'⟩
          · rw [(srtS_perm _).length_eq]; exact ht3
          · intro s hs; exact few_nm s (List.mem_of_mem_take ((srtS_perm _).mem_iff.mp hs))
end Mi.J
end
section
set_option maxRecDepth 100000
set_option maxHeartbeats 2000000
namespace Mi.J
open PySem PySem.Spec L2
open PyProof.Rows hiding St
/-! forms drawn -/
def mForm (Fd Fp Fn : Fun1) : M Fl := (mSeq (mAsg 2 true mDk)
  (mSeq (mFor (mRng1 (mCons (mIte (mTst (op2 bGt (mB fLen (mCons (mVar 1) mNil)) (mC (.int 0)))) (mCallR Fd 0 (mCons (mVar 0) (mCons (mC (.int 4)) mNil))) (mC (.int 0))) mNil)) (tgN 3) (mPut 2 (mCallR Fp 0 (mCons (mVar 0) (mCons (mVar 1) mNil))) (mCallR Fp 0 (mCons (mVar 0) (mCons (mLst (mCons (mC (.int 1)) (mCons (mC (.int 1)) (mCons (op1 uNeg (mC (.int 1))) (mCons (mC (.int 2)) (mCons (op1 uNeg (mC (.int 3))) (mCons (mCallR Fn 0 (mCons (mVar 0) mNil)) mNil))))))) mNil)))))
  (mRet (mB fTuple (mCons (mComp [4] (mItV (mB fSort (mCons (mVar 2) mNil))) (tgN 4) mYes (mTup (mCons (mVar 4) (mCons (op2 bIx (mVar 2) (mVar 4)) mNil)))) mNil)))))
def prI (p : Str × Int) : D := .tup [.str p.1, .int p.2]
structure FmOk (ns : List Str) (ps : List (Str × Int)) : Prop where
  few : ps.length ≤ 3
  of : ∀ p ∈ ps, p.1 ∈ ns ∧ p.2 ≠ 0 ∧ p.2.natAbs ≤ 100000
  ris : jRis (ps.map (·.1)) = true
def FormF (F : Fun1) : Prop := ∀ (cs : List Int) (n : Int) (d : D) (ns : List Str) (w : D), (w = .lst (ns.map .str) ∨ w = .tup (ns.map .str)) → Pn cs n d → n < 2 ^ 37 → ns.length ≤ 60 → Gv F d [w] fun y d' => ∃ ps : List (Str × Int), y = .tup (ps.map prI) ∧ FmOk ns ps ∧ Pn cs (n + 20) d'
structure DkOk (ns : List Str) (kvs : List (Key × D)) (k : Nat) : Prop where
  few : kvs.length ≤ k
  of : ∀ kv ∈ kvs, ∃ (s : Str) (v : Int), kv = (.inr s, .int v) ∧ s ∈ ns ∧ v ≠ 0 ∧ v.natAbs ≤ 100000
  nod : (kvs.map (·.1)).Nodup
theorem DkOk.put {ns : List Str} {kvs : List (Key × D)} {k : Nat} {s : Str} {v : Int} (h : DkOk ns kvs k) (hs : s ∈ ns) (hv : v ≠ 0 ∧ v.natAbs ≤ 100000) : DkOk ns (pK kvs (.inr s) (.int v)) (k + 1) := by
  refine ⟨?_, ?_, ?_⟩
  · rcases pK_len (kvs := kvs) (k := (.inr s : Key)) (v := D.int v) with ⟨e, _⟩ | ⟨e, _⟩
    · have := h.few; omega
    · have := h.few; omega
  · intro kv hm
    unfold pK at hm
    split at hm
    · obtain ⟨kv', hm2, rfl⟩ := List.mem_map.mp hm
      obtain ⟨s', v', rfl, h2⟩ := h.of kv' hm2
      dsimp only
      by_cases e : (Sum.inr s' : Key) = .inr s
      · rw [if_pos e]
        exact ⟨s', v, rfl, h2.1, hv⟩
      · rw [if_neg e]
        exact ⟨s', v', rfl, h2⟩
    · rcases List.mem_append.mp hm with h1 | h1
      · exact h.of kv h1
      · rw [List.mem_singleton.mp h1]; exact ⟨s, v, rfl, hs, hv⟩
  · rcases pK_len (kvs := kvs) (k := (.inr s : Key)) (v := D.int v) with ⟨_, _, e⟩ | ⟨_, h1, e⟩
    · rw [e]; exact h.nod
    · rw [e]
      refine List.nodup_append.mpr ⟨h.nod, List.nodup_cons.mpr ⟨by simp, List.nodup_nil⟩, ?_⟩
      intro a ha b hb e
      rw [List.mem_singleton.mp hb] at e
      exact h1 (e ▸ ha)
theorem DkOk.keys {ns : List Str} {kvs : List (Key × D)} {k : Nat} (h : DkOk ns kvs k) : ∃ ss : List Str, kvs.map (·.1) = ss.map Sum.inr ∧ ss.Nodup ∧ ss.length = kvs.length ∧ ∀ s ∈ ss, ∃ v : Int, gK kvs (.inr s) = some (.int v) ∧ s ∈ ns ∧ v ≠ 0 ∧ v.natAbs ≤ 100000 := by
  have key : ∀ l : List (Key × D), (∀ kv ∈ l, ∃ (s : Str) (v : Int), kv = (.inr s, .int v) ∧ s ∈ ns ∧ v ≠ 0 ∧ v.natAbs ≤ 100000) → ∃ ss : List Str, l.map (·.1) = ss.map Sum.inr ∧ ss.length = l.length := by
    intro l
    induction l with
    | nil => intro _; exact ⟨[], rfl, rfl⟩
    | cons a l ih =>
      intro h
      obtain ⟨ss, e, hl⟩ := ih fun kv m => h kv (List.mem_cons_of_mem _ m)
      obtain ⟨s, v, rfl, _⟩ := h a (List.mem_cons_self ..)
      exact ⟨s :: ss, by rw [List.map_cons, List.map_cons, e], by rw [List.length_cons, List.length_cons, hl]⟩
  obtain ⟨ss, e, hl⟩ := key kvs h.of
  refine ⟨ss, e, ?_, hl, ?_⟩
  · have hn := h.nod
    rw [e] at hn
    refine List.Pairwise.of_map (fun s => (.inr s : Key)) ?_ hn
    intro a b hab e
    exact hab (by rw [e])
  · intro s hs
    have hm : (.inr s : Key) ∈ kvs.map (·.1) := by rw [e]; exact List.mem_map_of_mem hs
    unfold gK
    obtain ⟨kv, hm2, he⟩ := List.mem_map.mp hm
    cases hf : kvs.find? fun kv => decide (kv.1 = (.inr s : Key)) with
    | none =>
      have := List.find?_eq_none.mp hf kv hm2
      exact absurd (decide_eq_true he) this
    | some q =>
      have h1 := List.mem_of_find?_eq_some hf
      have h2 := List.find?_some hf
      obtain ⟨s', v, rfl, h3⟩ := h.of q h1
      have h4 := of_decide_eq_true h2
      cases h4
      exact ⟨v, rfl, h3⟩
theorem keysS_map {ss : List Str} : keysS (ss.map Sum.inr) = some ss := by
  induction ss with
  | nil => rfl
  | cons a l ih => rw [List.map_cons]; show (keysS _).map _ = _; rw [ih] <;> rfl
theorem fSort_dk {kvs : List (Key × D)} {ss : List Str} (e : kvs.map (·.1) = ss.map Sum.inr) (h : kvs.length < 64) : fSort [.dK kvs] = some (.own (.lst ((srtS ss).map .str))) := by
  show (if kvs.length < 64 then match keysI (kvs.map (·.1)) with
      | some ns => some (EV.own (.lst ((srtI ns).map .int)))
      | none => match keysS (kvs.map (·.1)) with
        | some ss => some (EV.own (.lst ((srtS ss).map .str)))
        | none => none
    else none) = _
  rw [if_pos h, e]
  cases ss with
  | nil => simp [keysI, srtI, srtS]
  | cons a l =>
    show (match keysS ((a :: l).map Sum.inr) with
        | some ss => some (EV.own (.lst ((srtS ss).map .str)))
        | none => none) = _
    rw [keysS_map]
def toI : Option D → Int
  | some (.int v) => v
  | _ => 0
theorem form_of {Fd Fp Fn : Fun1} (hd : DrawOk Fd) (hp : PickOk Fp) (hnm : NumOk Fn) : FormF (defF 3 (mForm Fd Fp Fn)) := by
  intro cs n d ns w hw h hn hl
  refine gv_def ?_
  unfold mForm
  simp only [wp_bnd, wp_rt, wp_mC, wp_mVar, wp_mNil, wp_mCons, wp_op1, wp_op2, wp_mTst, wp_mTru, wp_mAnd, wp_mOr, wp_mNot, wp_mBl, wp_mAndV, wp_mOrV, wp_mNotV, wp_mIte, wp_lk2, wp_mChain, wp_mTup, wp_mLst, wp_mB, wp_mDk, wp_mYes, wp_mPass, wp_mBreak, wp_mCont, nxt, wp_mSeq, wp_mIf, wp_mRet, wp_mExpr, wp_mAsg, wp_mAsgT, wp_mPar, wp_mPut, wp_mApp, wp_mSl, wp_mPartN, wp_mPartS, wp_mRev2, wp_mMt, wp_mCall, wpC_val, wpC_own, wp_mCallR, wp_mItV, wp_mItF, wp_mRng1, wp_mFor, wp_mComp, sm_some, sm_none, sm_ite, sm_map, look_val, look_own, look_bx, looks_nil, looks_cons, toV_val, toV_own, toVs_nil, toVs_cons, List.getElem?_cons_zero, List.getElem?_cons_succ, List.set_cons_zero, List.set_cons_succ, List.map_cons, List.map_nil, List.cons_append, List.nil_append, List.replicate_succ, List.replicate_zero, List.append_nil, truD_bl, items_str, items_tup, items_lst, fLen_tup, fLen_lst, bIx_tup, bIx_lst, tyD_str, tyD_int, tyD_bl, tyD_tup, tyD_lst, isTD_eq, isTn, fin_val, back_val, back_nil, back_pbx, Option.map_some, bxD_box, bxD_pbx]
  have hlen : fLen [w] = some (.val (.int ns.length)) := by
    rcases hw with rfl | rfl
    · rw [fLen_lst, List.length_map]
    · rw [fLen_tup, List.length_map]
  simp only [hlen, bGt_int, wp_bnd, wp_rt, wp_mC, wp_mVar, wp_mNil, wp_mCons, wp_op1, wp_op2, wp_mTst, wp_mTru, wp_mAnd, wp_mOr, wp_mNot, wp_mBl, wp_mAndV, wp_mOrV, wp_mNotV, wp_mIte, wp_lk2, wp_mChain, wp_mTup, wp_mLst, wp_mB, wp_mDk, wp_mYes, wp_mPass, wp_mBreak, wp_mCont, nxt, wp_mSeq, wp_mIf, wp_mRet, wp_mExpr, wp_mAsg, wp_mAsgT, wp_mPar, wp_mPut, wp_mApp, wp_mSl, wp_mPartN, wp_mPartS, wp_mRev2, wp_mMt, wp_mCall, wpC_val, wpC_own, wp_mCallR, wp_mItV, wp_mItF, wp_mRng1, wp_mFor, wp_mComp, sm_some, sm_none, sm_ite, sm_map, look_val, look_own, look_bx, looks_nil, looks_cons, toV_val, toV_own, toVs_nil, toVs_cons, List.getElem?_cons_zero, List.getElem?_cons_succ, List.set_cons_zero, List.set_cons_succ, List.map_cons, List.map_nil, List.cons_append, List.nil_append, List.replicate_succ, List.replicate_zero, List.append_nil, truD_bl, items_str, items_tup, items_lst, fLen_tup, fLen_lst, bIx_tup, bIx_lst, tyD_str, tyD_int, tyD_bl, tyD_tup, tyD_lst, isTD_eq, isTn, fin_val, back_val, back_nil, back_pbx, Option.map_some, bxD_box, bxD_pbx]
  have core : ∀ (j : Int) (d1 : D), 0 ≤ j → j < 4 → (0 < j → ns ≠ []) → Pn cs (n + 1) d1 → wp (loopF (tgN 3) (mPut 2 (mCallR Fp 0 (mCons (mVar 0) (mCons (mVar 1) mNil))) (mCallR Fp 0 (mCons (mVar 0) (mCons (mLst (mCons (mC (.int 1)) (mCons (mC (.int 1)) (mCons (op1 uNeg (mC (.int 1))) (mCons (mC (.int 2)) (mCons (op1 uNeg (mC (.int 3))) (mCons (mCallR Fn 0 (mCons (mVar 0) mNil)) mNil))))))) mNil)))) (rng 0 j))
      (fun (fl : Fl) (r : List SV) => fl = Fl.nx ∧ ∃ (d2 : D) (kvs : List (Key × D)) (x3 : SV), r = [.pbx d2, .val w, .box (.dK kvs), x3, .un] ∧ DkOk ns kvs 3 ∧ Pn cs (n + 20) d2) [.pbx d1, .val w, .box (.dK []), .un, .un] := by
    intro j d1 hj0 hj4 hne hp1
    refine wp_loop (fun ds r => ∃ (d2 : D) (kvs : List (Key × D)) (x3 : SV) (k : Nat), r = [.pbx d2, .val w, .box (.dK kvs), x3, .un] ∧ (k : Int) + ds.length = j ∧ DkOk ns kvs k ∧ Pn cs (n + 1 + 4 * k) d2) ⟨d1, [], .un, 0, rfl, ?_, ⟨Nat.le_refl _, fun kv hk => (by cases hk), List.nodup_nil⟩, hp1.up (by omega)⟩ ?_ ?_
    · unfold rng
      rw [List.length_map, List.length_range]
      simp; omega
    · rintro e ds r ⟨d2, kvs, x3, k, rfl, hk, hdk, hp2⟩
      rw [List.length_cons] at hk
      simp only [tgN, show uNeg (.int 1) = some (.val (.int (-1))) from rfl, show uNeg (.int 3) = some (.val (.int (-3))) from rfl, wp_bnd, wp_rt, wp_mC, wp_mVar, wp_mNil, wp_mCons, wp_op1, wp_op2, wp_mTst, wp_mTru, wp_mAnd, wp_mOr, wp_mNot, wp_mBl, wp_mAndV, wp_mOrV, wp_mNotV, wp_mIte, wp_lk2, wp_mChain, wp_mTup, wp_mLst, wp_mB, wp_mDk, wp_mYes, wp_mPass, wp_mBreak, wp_mCont, nxt, wp_mSeq, wp_mIf, wp_mRet, wp_mExpr, wp_mAsg, wp_mAsgT, wp_mPar, wp_mPut, wp_mApp, wp_mSl, wp_mPartN, wp_mPartS, wp_mRev2, wp_mMt, wp_mCall, wpC_val, wpC_own, wp_mCallR, wp_mItV, wp_mItF, wp_mRng1, wp_mFor, wp_mComp, sm_some, sm_none, sm_ite, sm_map, look_val, look_own, look_bx, looks_nil, looks_cons, toV_val, toV_own, toVs_nil, toVs_cons, List.getElem?_cons_zero, List.getElem?_cons_succ, List.set_cons_zero, List.set_cons_succ, List.map_cons, List.map_nil, List.cons_append, List.nil_append, List.replicate_succ, List.replicate_zero, List.append_nil, truD_bl, items_str, items_tup, items_lst, fLen_tup, fLen_lst, bIx_tup, bIx_lst, tyD_str, tyD_int, tyD_bl, tyD_tup, tyD_lst, isTD_eq, isTn, fin_val, back_val, back_nil, back_pbx, Option.map_some, bxD_box, bxD_pbx]
      refine gv_p (i := 0) (d := d2) (xs := []) rfl rfl (hnm cs _ d2 hp2 (by omega)) ?_
      rintro y d3 ⟨q, rfl, hq1, hq2, hp3⟩
      simp only [wp_bnd, wp_rt, wp_mC, wp_mVar, wp_mNil, wp_mCons, wp_op1, wp_op2, wp_mTst, wp_mTru, wp_mAnd, wp_mOr, wp_mNot, wp_mBl, wp_mAndV, wp_mOrV, wp_mNotV, wp_mIte, wp_lk2, wp_mChain, wp_mTup, wp_mLst, wp_mB, wp_mDk, wp_mYes, wp_mPass, wp_mBreak, wp_mCont, nxt, wp_mSeq, wp_mIf, wp_mRet, wp_mExpr, wp_mAsg, wp_mAsgT, wp_mPar, wp_mPut, wp_mApp, wp_mSl, wp_mPartN, wp_mPartS, wp_mRev2, wp_mMt, wp_mCall, wpC_val, wpC_own, wp_mCallR, wp_mItV, wp_mItF, wp_mRng1, wp_mFor, wp_mComp, sm_some, sm_none, sm_ite, sm_map, look_val, look_own, look_bx, looks_nil, looks_cons, toV_val, toV_own, toVs_nil, toVs_cons, List.getElem?_cons_zero, List.getElem?_cons_succ, List.set_cons_zero, List.set_cons_succ, List.map_cons, List.map_nil, List.cons_append, List.nil_append, List.replicate_succ, List.replicate_zero, List.append_nil, truD_bl, items_str, items_tup, items_lst, fLen_tup, fLen_lst, bIx_tup, bIx_lst, tyD_str, tyD_int, tyD_bl, tyD_tup, tyD_lst, isTD_eq, isTn, fin_val, back_val, back_nil, back_pbx, Option.map_some, bxD_box, bxD_pbx]
      refine gv_p (i := 0) (d := d3) (xs := [.lst [.int 1, .int 1, .int (-1), .int 2, .int (-3), .int q]]) rfl rfl (hp cs _ d3 _ _ (.inl rfl) hp3 (by omega) (by simp) (by simp)) ?_
      rintro y d4 ⟨hy, hp4⟩
      have hy2 : ∃ v : Int, y = .int v ∧ v ≠ 0 ∧ v.natAbs ≤ 100000 := by
        simp only [List.mem_cons, List.not_mem_nil, or_false] at hy
        rcases hy with rfl | rfl | rfl | rfl | rfl | rfl <;> exact ⟨_, rfl, by omega, by omega⟩
      obtain ⟨v, rfl, hv⟩ := hy2
      simp only [wp_bnd, wp_rt, wp_mC, wp_mVar, wp_mNil, wp_mCons, wp_op1, wp_op2, wp_mTst, wp_mTru, wp_mAnd, wp_mOr, wp_mNot, wp_mBl, wp_mAndV, wp_mOrV, wp_mNotV, wp_mIte, wp_lk2, wp_mChain, wp_mTup, wp_mLst, wp_mB, wp_mDk, wp_mYes, wp_mPass, wp_mBreak, wp_mCont, nxt, wp_mSeq, wp_mIf, wp_mRet, wp_mExpr, wp_mAsg, wp_mAsgT, wp_mPar, wp_mPut, wp_mApp, wp_mSl, wp_mPartN, wp_mPartS, wp_mRev2, wp_mMt, wp_mCall, wpC_val, wpC_own, wp_mCallR, wp_mItV, wp_mItF, wp_mRng1, wp_mFor, wp_mComp, sm_some, sm_none, sm_ite, sm_map, look_val, look_own, look_bx, looks_nil, looks_cons, toV_val, toV_own, toVs_nil, toVs_cons, List.getElem?_cons_zero, List.getElem?_cons_succ, List.set_cons_zero, List.set_cons_succ, List.map_cons, List.map_nil, List.cons_append, List.nil_append, List.replicate_succ, List.replicate_zero, List.append_nil, truD_bl, items_str, items_tup, items_lst, fLen_tup, fLen_lst, bIx_tup, bIx_lst, tyD_str, tyD_int, tyD_bl, tyD_tup, tyD_lst, isTD_eq, isTn, fin_val, back_val, back_nil, back_pbx, Option.map_some, bxD_box, bxD_pbx]
      refine gv_p (i := 0) (d := d4) (xs := [w]) rfl rfl (hp cs _ d4 (ns.map .str) w hw hp4 (by omega) (by rw [ne_eq, List.map_eq_nil_iff]; exact hne (by omega)) (by rw [List.length_map]; omega)) ?_
      rintro y d5 ⟨hy, hp5⟩
      obtain ⟨s, hs, rfl⟩ := List.mem_map.mp hy
      have hput : putD (.dK kvs) (.str s) (.int v) = some (.dK (pK kvs (.inr s) (.int v))) := by
        show (if kvs.length < sizeLine then some (D.dK (pK kvs (.inr s) (.int v))) else none) = _
        have := hdk.few
        rw [if_pos (by rw [sizeLine_eq]; omega)]
      simp only [hput, SV.put, wp_bnd, wp_rt, wp_mC, wp_mVar, wp_mNil, wp_mCons, wp_op1, wp_op2, wp_mTst, wp_mTru, wp_mAnd, wp_mOr, wp_mNot, wp_mBl, wp_mAndV, wp_mOrV, wp_mNotV, wp_mIte, wp_lk2, wp_mChain, wp_mTup, wp_mLst, wp_mB, wp_mDk, wp_mYes, wp_mPass, wp_mBreak, wp_mCont, nxt, wp_mSeq, wp_mIf, wp_mRet, wp_mExpr, wp_mAsg, wp_mAsgT, wp_mPar, wp_mPut, wp_mApp, wp_mSl, wp_mPartN, wp_mPartS, wp_mRev2, wp_mMt, wp_mCall, wpC_val, wpC_own, wp_mCallR, wp_mItV, wp_mItF, wp_mRng1, wp_mFor, wp_mComp, sm_some, sm_none, sm_ite, sm_map, look_val, look_own, look_bx, looks_nil, looks_cons, toV_val, toV_own, toVs_nil, toVs_cons, List.getElem?_cons_zero, List.getElem?_cons_succ, List.set_cons_zero, List.set_cons_succ, List.map_cons, List.map_nil, List.cons_append, List.nil_append, List.replicate_succ, List.replicate_zero, List.append_nil, truD_bl, items_str, items_tup, items_lst, fLen_tup, fLen_lst, bIx_tup, bIx_lst, tyD_str, tyD_int, tyD_bl, tyD_tup, tyD_lst, isTD_eq, isTn, fin_val, back_val, back_nil, back_pbx, Option.map_some, bxD_box, bxD_pbx]
      exact ⟨d5, _, _, k + 1, rfl, by omega, hdk.put hs hv, hp5.up (by omega)⟩
    · rintro r ⟨d2, kvs, x3, k, rfl, hk, hdk, hp2⟩
      have : k ≤ 3 := by simp at hk; omega
      exact ⟨rfl, d2, kvs, x3, rfl, ⟨by have := hdk.few; omega, hdk.of, hdk.nod⟩, hp2.up (by omega)⟩
  have tail : ∀ (d2 : D) (kvs : List (Key × D)) (x3 : SV), DkOk ns kvs 3 → Pn cs (n + 20) d2 → wp (mRet (mB fTuple (mCons (mComp [4] (mItV (mB fSort (mCons (mVar 2) mNil))) (tgN 4) mYes (mTup (mCons (mVar 4) (mCons (op2 bIx (mVar 2) (mVar 4)) mNil)))) mNil)))
      (fun fl r => ∃ y d' l, fin [.pbx d, .val w] (.ok fl r) = .ok (.val y) (.pbx d' :: l) ∧ ∃ ps : List (Str × Int), y = .tup (ps.map prI) ∧ FmOk ns ps ∧ Pn cs (n + 20) d') [.pbx d2, .val w, .box (.dK kvs), x3, .un] := by
    intro d2 kvs x3 hdk hp2
    obtain ⟨ss, hk, hnd, hsl, hss⟩ := hdk.keys
    have hf := hdk.few
    simp only [fSort_dk hk (by omega), wp_bnd, wp_rt, wp_mC, wp_mVar, wp_mNil, wp_mCons, wp_op1, wp_op2, wp_mTst, wp_mTru, wp_mAnd, wp_mOr, wp_mNot, wp_mBl, wp_mAndV, wp_mOrV, wp_mNotV, wp_mIte, wp_lk2, wp_mChain, wp_mTup, wp_mLst, wp_mB, wp_mDk, wp_mYes, wp_mPass, wp_mBreak, wp_mCont, nxt, wp_mSeq, wp_mIf, wp_mRet, wp_mExpr, wp_mAsg, wp_mAsgT, wp_mPar, wp_mPut, wp_mApp, wp_mSl, wp_mPartN, wp_mPartS, wp_mRev2, wp_mMt, wp_mCall, wpC_val, wpC_own, wp_mCallR, wp_mItV, wp_mItF, wp_mRng1, wp_mFor, wp_mComp, sm_some, sm_none, sm_ite, sm_map, look_val, look_own, look_bx, looks_nil, looks_cons, toV_val, toV_own, toVs_nil, toVs_cons, List.getElem?_cons_zero, List.getElem?_cons_succ, List.set_cons_zero, List.set_cons_succ, List.map_cons, List.map_nil, List.cons_append, List.nil_append, List.replicate_succ, List.replicate_zero, List.append_nil, truD_bl, items_str, items_tup, items_lst, fLen_tup, fLen_lst, bIx_tup, bIx_lst, tyD_str, tyD_int, tyD_bl, tyD_tup, tyD_lst, isTD_eq, isTn, fin_val, back_val, back_nil, back_pbx, Option.map_some, bxD_box, bxD_pbx]
    have hmem : ∀ s ∈ srtS ss, ∃ v : Int, gK kvs (.inr s) = some (.int v) ∧ s ∈ ns ∧ v ≠ 0 ∧ v.natAbs ≤ 100000 := fun s hs => hss s ((srtS_perm ss).mem_iff.mp hs)
    have hlen2 := (srtS_perm ss).length_eq
    refine wp_comp (srtS ss) D.str (fun s => prI (s, toI (gK kvs (.inr s)))) rfl (by rw [sizeLine_eq]; omega) rfl ?_ ?_
    · intro s hs
      obtain ⟨v, hv, _⟩ := hmem s hs
      have hix : bIx (.dK kvs) (.str s) = some (.val (.int v)) := by
        show (match dGet (.dK kvs) (.str s) with
          | some (some d) => some (EV.val d)
          | _ => none) = _
        unfold dGet keyD
        dsimp only
        rw [hv]
      simp only [wipeR, tgN, hix, wp_bnd, wp_rt, wp_mC, wp_mVar, wp_mNil, wp_mCons, wp_op1, wp_op2, wp_mTst, wp_mTru, wp_mAnd, wp_mOr, wp_mNot, wp_mBl, wp_mAndV, wp_mOrV, wp_mNotV, wp_mIte, wp_lk2, wp_mChain, wp_mTup, wp_mLst, wp_mB, wp_mDk, wp_mYes, wp_mPass, wp_mBreak, wp_mCont, nxt, wp_mSeq, wp_mIf, wp_mRet, wp_mExpr, wp_mAsg, wp_mAsgT, wp_mPar, wp_mPut, wp_mApp, wp_mSl, wp_mPartN, wp_mPartS, wp_mRev2, wp_mMt, wp_mCall, wpC_val, wpC_own, wp_mCallR, wp_mItV, wp_mItF, wp_mRng1, wp_mFor, wp_mComp, sm_some, sm_none, sm_ite, sm_map, look_val, look_own, look_bx, looks_nil, looks_cons, toV_val, toV_own, toVs_nil, toVs_cons, List.getElem?_cons_zero, List.getElem?_cons_succ, List.set_cons_zero, List.set_cons_succ, List.map_cons, List.map_nil, List.cons_append, List.nil_append, List.replicate_succ, List.replicate_zero, List.append_nil, truD_bl, items_str, items_tup, items_lst, fLen_tup, fLen_lst, bIx_tup, bIx_lst, tyD_str, tyD_int, tyD_bl, tyD_tup, tyD_lst, isTD_eq, isTn, fin_val, back_val, back_nil, back_pbx, Option.map_some, bxD_box, bxD_pbx]
      exact ⟨by rw [hv] <;> rfl, trivial, rfl⟩
    · simp only [fTuple, wp_bnd, wp_rt, wp_mC, wp_mVar, wp_mNil, wp_mCons, wp_op1, wp_op2, wp_mTst, wp_mTru, wp_mAnd, wp_mOr, wp_mNot, wp_mBl, wp_mAndV, wp_mOrV, wp_mNotV, wp_mIte, wp_lk2, wp_mChain, wp_mTup, wp_mLst, wp_mB, wp_mDk, wp_mYes, wp_mPass, wp_mBreak, wp_mCont, nxt, wp_mSeq, wp_mIf, wp_mRet, wp_mExpr, wp_mAsg, wp_mAsgT, wp_mPar, wp_mPut, wp_mApp, wp_mSl, wp_mPartN, wp_mPartS, wp_mRev2, wp_mMt, wp_mCall, wpC_val, wpC_own, wp_mCallR, wp_mItV, wp_mItF, wp_mRng1, wp_mFor, wp_mComp, sm_some, sm_none, sm_ite, sm_map, look_val, look_own, look_bx, looks_nil, looks_cons, toV_val, toV_own, toVs_nil, toVs_cons, List.getElem?_cons_zero, List.getElem?_cons_succ, List.set_cons_zero, List.set_cons_succ, List.cons_append, List.nil_append, List.replicate_succ, List.replicate_zero, List.append_nil, truD_bl, items_str, items_tup, items_lst, fLen_tup, fLen_lst, bIx_tup, bIx_lst, tyD_str, tyD_int, tyD_bl, tyD_tup, tyD_lst, isTD_eq, isTn, fin_val, back_val, back_nil, back_pbx, Option.map_some, fAll_map, restR, kv1]
      refine ⟨_, _, _, rfl, (srtS ss).map fun s => (s, toI (gK kvs (.inr s))), by rw [List.map_map] <;> rfl, ⟨?_, ?_, ?_⟩, hp2⟩
      · rw [List.length_map]; omega
      · intro p hpm
        obtain ⟨s, hs, rfl⟩ := List.mem_map.mp hpm
        obtain ⟨v, hv, h1⟩ := hmem s hs
        dsimp only
        rw [hv]; exact h1
      · rw [List.map_map]
        show jRis ((srtS ss).map id) = true
        rw [List.map_id]
        exact srt_ris hnd
  by_cases h0 : (0 : Int) < ns.length
  · rw [decide_eq_true h0, if_pos rfl]
    refine gv_p (i := 0) (d := d) (xs := [.int 4]) rfl rfl (hd cs n 4 d h (by omega) (by omega) (by omega)) ?_
    rintro y d1 ⟨j, rfl, hj0, hj, hp1⟩
    simp only [wp_bnd, wp_rt, wp_mC, wp_mVar, wp_mNil, wp_mCons, wp_op1, wp_op2, wp_mTst, wp_mTru, wp_mAnd, wp_mOr, wp_mNot, wp_mBl, wp_mAndV, wp_mOrV, wp_mNotV, wp_mIte, wp_lk2, wp_mChain, wp_mTup, wp_mLst, wp_mB, wp_mDk, wp_mYes, wp_mPass, wp_mBreak, wp_mCont, nxt, wp_mSeq, wp_mIf, wp_mRet, wp_mExpr, wp_mAsg, wp_mAsgT, wp_mPar, wp_mPut, wp_mApp, wp_mSl, wp_mPartN, wp_mPartS, wp_mRev2, wp_mMt, wp_mCall, wpC_val, wpC_own, wp_mCallR, wp_mItV, wp_mItF, wp_mRng1, wp_mFor, wp_mComp, sm_some, sm_none, sm_ite, sm_map, look_val, look_own, look_bx, looks_nil, looks_cons, toV_val, toV_own, toVs_nil, toVs_cons, List.getElem?_cons_zero, List.getElem?_cons_succ, List.set_cons_zero, List.set_cons_succ, List.map_cons, List.map_nil, List.cons_append, List.nil_append, List.replicate_succ, List.replicate_zero, List.append_nil, truD_bl, items_str, items_tup, items_lst, fLen_tup, fLen_lst, bIx_tup, bIx_lst, tyD_str, tyD_int, tyD_bl, tyD_tup, tyD_lst, isTD_eq, isTn, fin_val, back_val, back_nil, back_pbx, Option.map_some, bxD_box, bxD_pbx]
    refine ⟨by unfold lim; exact decide_eq_true ⟨by omega, by omega⟩, ?_⟩
    refine wp_mono (core j d1 hj0 hj (fun _ e => by rw [e] at h0; simp at h0) hp1) ?_
    rintro fl r ⟨rfl, d2, kvs, x3, rfl, hdk, hp2⟩
    exact tail d2 kvs x3 hdk hp2
  · rw [decide_eq_false h0, if_neg (by decide)]
    refine ⟨by decide, ?_⟩
    refine wp_mono (core 0 d (by omega) (by omega) (fun h => by omega) (h.up (by omega))) ?_
    rintro fl r ⟨rfl, d2, kvs, x3, rfl, hdk, hp2⟩
    exact tail d2 kvs x3 hdk hp2
end Mi.J
end
section
set_option maxRecDepth 100000
set_option maxHeartbeats 2000000
namespace Mi.J
open PySem PySem.Spec L2
open PyProof.Rows hiding St
/-! what is shown consists of signs -/
def okL (l : List Nat) : Prop := ∀ c ∈ l, c < 0x110000
theorem ok_iff {x : Str} : PyData.strOk x = true ↔ okL x.cps.toList := by
  unfold PyData.strOk okL
  rw [Array.all_eq_true_iff_forall_mem]
  exact ⟨fun h c m => of_decide_eq_true (h c (Array.mem_toList_iff.mp m)), fun h c m => decide_eq_true (h c (Array.mem_toList_iff.mpr m))⟩
theorem okL_app {a b : List Nat} (h1 : okL a) (h2 : okL b) : okL (a ++ b) := by
  intro c hc
  rcases List.mem_append.mp hc with h | h
  · exact h1 c h
  · exact h2 c h
theorem ok_app {a b : Str} (h1 : PyData.strOk a = true) (h2 : PyData.strOk b = true) : PyData.strOk (a ++ b) = true := by
  rw [ok_iff] at h1 h2 ⊢
  rw [app_cps]
  exact okL_app h1 h2
theorem ok_chr (c : Char) : c.toNat < 0x110000 := by
  have := c.valid
  unfold UInt32.isValidChar Nat.isValidChar at this
  show c.val.toNat < _
  omega
theorem ok_string (s : String) : PyData.strOk (Str.ofString s) = true := by
  rw [ok_iff, Str.ofString_eq_toList]
  intro c hc
  obtain ⟨x, _, rfl⟩ := List.mem_map.mp hc
  exact ok_chr x
theorem okL_hex {w c : Nat} : okL (List.replicate (w - ((Nat.toDigits 16 c).map Char.toNat).length) 48 ++ (Nat.toDigits 16 c).map Char.toNat) := by
  refine okL_app ?_ ?_
  · intro x hx
    rw [List.eq_of_mem_replicate hx]; omega
  · intro x hx
    obtain ⟨y, _, rfl⟩ := List.mem_map.mp hx
    exact ok_chr y
theorem okL_two {a b : Nat} (ha : a < 0x110000) (hb : b < 0x110000) : okL [a, b] := by
  intro x hx
  simp only [List.mem_cons, List.not_mem_nil, or_false] at hx
  rcases hx with rfl | rfl <;> assumption
theorem okL_reprChar {q c : Nat} (hc : c < 0x110000) : okL (Builtin.Str.reprChar q c) := by
  unfold Builtin.Str.reprChar
  dsimp only
  repeat' split
  · exact okL_two (by omega) hc
  · exact okL_two (by omega) (by omega)
  · exact okL_two (by omega) (by omega)
  · exact okL_two (by omega) (by omega)
  · intro x hx; rw [List.mem_singleton.mp hx]; exact hc
  · exact okL_app (okL_two (by omega) (by omega)) okL_hex
  · exact okL_app (okL_two (by omega) (by omega)) okL_hex
  · exact okL_app (okL_two (by omega) (by omega)) okL_hex
theorem okL_fold {q : Nat} : ∀ (l : List Nat) (acc : Array Nat), okL l → okL acc.toList → okL (l.foldl (fun out c => out ++ (Builtin.Str.reprChar q c).toArray) acc).toList
  | [], acc, _, h => h
  | c :: r, acc, hl, h => by
    rw [List.foldl_cons]
    refine okL_fold r _ (fun x m => hl x (List.mem_cons_of_mem _ m)) ?_
    rw [Array.toList_append]
    exact okL_app h (okL_reprChar (hl c (List.mem_cons_self ..)))
theorem quote_lt (x : Str) : reprQuote x < 0x110000 := by
  unfold reprQuote
  split <;> omega
theorem ok_reprText {x : Str} (h : PyData.strOk x = true) : PyData.strOk (reprText x) = true := by
  rw [ok_iff] at h ⊢
  unfold reprText
  rw [Array.toList_push, ← Array.foldl_toList]
  refine okL_app (okL_fold _ _ h ?_) ?_
  · intro c hc
    have : c = reprQuote x := by simpa using hc
    rw [this]; exact quote_lt x
  · intro c hc
    rw [List.mem_singleton.mp hc]; exact quote_lt x
theorem ok_text : ∀ (ts : List Str) (k : Nat) (acc : Str), PyData.strOk acc = true → (∀ t ∈ ts, PyData.strOk t = true) → PyData.strOk (textFrom k acc ts) = true
  | [], _, _, h, _ => h
  | t :: r, k, acc, h, ht => by
    refine ok_text r (k + 1) _ (ok_app (ok_app h (ok_string _)) (ht t (List.mem_cons_self ..))) fun x m => ht x (List.mem_cons_of_mem _ m)
theorem ok_join : ∀ (ts : List Str), (∀ t ∈ ts, PyData.strOk t = true) → PyData.strOk (Str.join ", " ts) = true
  | [], _ => by decide +kernel
  | [x], h => h x (List.mem_singleton_self _)
  | x :: y :: r, h => by
    show PyData.strOk (x ++ Str.ofString ", " ++ Str.join ", " (y :: r)) = true
    exact ok_app (ok_app (h x (List.mem_cons_self ..)) (ok_string _)) (ok_join (y :: r) fun t m => h t (List.mem_cons_of_mem _ m))
mutual
theorem ok_shown : ∀ d : PyData, d.canLay0 = true → PyData.strOk d.shown = true
  | .none, _ => by decide +kernel
  | .bool b, _ => by cases b <;> decide +kernel
  | .int i, _ => ok_string _
  | .str x, h => ok_reprText (by simpa only [PyData.canLay0] using h)
  | .list xs, h => by
    have h1 := ok_shownAll xs (by simpa only [PyData.canLay0] using h)
    exact ok_app (ok_text _ _ _ (ok_string _) h1) (ok_string _)
  | .tuple xs, h => by
    have h1 := ok_shownAll xs (by simpa only [PyData.canLay0] using h)
    exact ok_app (ok_app (ok_string _) (ok_join _ h1)) (ok_string _)
  | .dict _, h => by simp only [PyData.canLay0] at h; exact nomatch h
theorem ok_shownAll : ∀ xs : List PyData, PyData.canLayAll0 xs = true → ∀ t ∈ PyData.shownAll xs, PyData.strOk t = true
  | [], _, t, m => by cases m
  | x :: xs, h, t, m => by
    have h' : x.canLay0 = true ∧ PyData.canLayAll0 xs = true := by simpa only [PyData.canLayAll0, Bool.and_eq_true] using h
    cases m with
    | head => exact ok_shown x h'.1
    | tail _ m => exact ok_shownAll xs h'.2 t m
end
/-! what can be shown, with bounds -/
def Lb (k w : Nat) (d : D) : Prop := ∃ y, toPy d = some y ∧ y.canLay0 = true ∧ y.showable = true ∧ y.intsShort 13 = true ∧ y.depth ≤ k ∧ y.weight ≤ w
def Ls (k w : Nat) (xs : List D) : Prop := ∃ ys, toPyL xs = some ys ∧ PyData.canLayAll0 ys = true ∧ PyData.showableAll ys = true ∧ PyData.intsShortAll 13 ys = true ∧ PyData.depthAll ys ≤ k ∧ PyData.weightAll ys ≤ w
theorem Lb.up {k w k' w' : Nat} {d : D} (h : Lb k w d) (h1 : k ≤ k') (h2 : w ≤ w') : Lb k' w' d := by
  obtain ⟨y, e, a, b, c, p, q⟩ := h
  exact ⟨y, e, a, b, c, by omega, by omega⟩
theorem Ls.nil {k w : Nat} : Ls k w [] := ⟨[], rfl, rfl, rfl, rfl, Nat.zero_le _, Nat.zero_le _⟩
theorem Ls.cons {k w w' : Nat} {d : D} {xs : List D} (h : Lb k w d) (h2 : Ls k w' xs) : Ls k (w + 1 + w') (d :: xs) := by
  obtain ⟨y, e, a, b, c, p, q⟩ := h
  obtain ⟨ys, e2, a2, b2, c2, p2, q2⟩ := h2
  refine ⟨y :: ys, ?_, ?_, ?_, ?_, ?_, ?_⟩
  · unfold toPyL; rw [e, e2]
  · unfold PyData.canLayAll0; rw [a, a2] <;> rfl
  · unfold PyData.showableAll; rw [b, b2] <;> rfl
  · unfold PyData.intsShortAll; rw [c, c2] <;> rfl
  · unfold PyData.depthAll; omega
  · unfold PyData.weightAll; omega
theorem Ls.app {k w w' : Nat} {xs ys : List D} (h : Ls k w xs) (h2 : Ls k w' ys) : Ls k (w + w') (xs ++ ys) := by
  induction xs generalizing w with
  | nil =>
    obtain ⟨y, e, a, b, c, p, q⟩ := h2
    exact ⟨y, e, a, b, c, p, by omega⟩
  | cons d l ih =>
    obtain ⟨zs, e, a, b, c, p, q⟩ := h
    unfold toPyL at e
    cases e1 : toPy d with
    | none => rw [e1] at e; cases e
    | some y =>
      cases e2 : toPyL l with
      | none => rw [e1, e2] at e; cases e
      | some zl =>
        rw [e1, e2] at e
        cases e
        simp only [PyData.canLayAll0, PyData.showableAll, PyData.intsShortAll, Bool.and_eq_true] at a b c
        simp only [PyData.depthAll, PyData.weightAll] at p q
        have h3 := ih (w := PyData.weightAll zl) ⟨zl, e2, a.2, b.2, c.2, by omega, Nat.le_refl _⟩
        have h4 := Ls.cons (k := k) (w := y.weight) ⟨y, e1, a.1, b.1, c.1, by omega, Nat.le_refl _⟩ h3
        obtain ⟨ws, e5, a5, b5, c5, p5, q5⟩ := h4
        exact ⟨ws, e5, a5, b5, c5, p5, by omega⟩
theorem Ls.up {k w k' w' : Nat} {xs : List D} (h : Ls k w xs) (h1 : k ≤ k') (h2 : w ≤ w') : Ls k' w' xs := by
  obtain ⟨y, e, a, b, c, p, q⟩ := h
  exact ⟨y, e, a, b, c, by omega, by omega⟩
theorem Ls.all {k w : Nat} {xs : List D} (h : ∀ d ∈ xs, Lb k w d) : Ls k (xs.length * (w + 1)) xs := by
  induction xs with
  | nil => exact Ls.nil
  | cons d l ih =>
    refine (Ls.cons (h d (List.mem_cons_self ..)) (ih fun x m => h x (List.mem_cons_of_mem _ m))).up (Nat.le_refl _) ?_
    rw [List.length_cons, Nat.succ_mul]; omega
theorem Ls.tup {k w : Nat} {xs : List D} (h : Ls k w xs) : Lb (k + 1) w (.tup xs) := by
  obtain ⟨ys, e, a, b, c, p, q⟩ := h
  refine ⟨.tuple ys, ?_, ?_, ?_, ?_, ?_, ?_⟩
  · unfold toPy; rw [e] <;> rfl
  · simpa only [PyData.canLay0] using a
  · simpa only [PyData.showable] using b
  · simpa only [PyData.intsShort] using c
  · unfold PyData.depth; omega
  · unfold PyData.weight; omega
theorem Ls.lst {k w : Nat} {xs : List D} (h : Ls k w xs) : Lb (k + 1) w (.lst xs) := by
  obtain ⟨ys, e, a, b, c, p, q⟩ := h
  refine ⟨.list ys, ?_, ?_, ?_, ?_, ?_, ?_⟩
  · unfold toPy; rw [e] <;> rfl
  · simpa only [PyData.canLay0] using a
  · simpa only [PyData.showable] using b
  · simpa only [PyData.intsShort] using c
  · unfold PyData.depth; omega
  · unfold PyData.weight; omega
theorem Lb.str {k : Nat} {s : Str} (h : PyData.strOk s = true) : Lb k s.length (.str s) := ⟨.str s, rfl, by simpa only [PyData.canLay0] using h, rfl, rfl, Nat.zero_le _, Nat.le_refl _⟩
theorem Lb.int {k : Nat} {i : Int} (h : i.natAbs < 10 ^ 12) : Lb k 41 (.int i) := by
  have hl : i.natAbs.log2 < 40 := log2_lt (by omega) (by decide)
  refine ⟨.int i, rfl, rfl, ?_, ?_, Nat.zero_le _, ?_⟩
  · simp only [PyData.showable]; exact decide_eq_true (by omega)
  · simp only [PyData.intsShort]; exact decide_eq_true (PyData.shown_int_le h)
  · simp only [PyData.weight]
    split <;> omega
theorem Lb.non {k : Nat} : Lb k 0 .none := ⟨.none, rfl, rfl, rfl, rfl, Nat.zero_le _, Nat.zero_le _⟩
theorem Lb.bl {k : Nat} {b : Bool} : Lb k 0 (.bl b) := ⟨.bool b, rfl, rfl, rfl, rfl, Nat.zero_le _, Nat.zero_le _⟩
def RepOk (d : D) : Prop := ∃ t, fRepr [d] = some (.val (.str t)) ∧ PyData.strOk t = true
theorem Lb.rep {k w : Nat} {d : D} (h : Lb k w d) (hk : k ≤ 60) (hw : w ≤ 2 ^ 20) : RepOk d := by
  obtain ⟨y, e, a, b, c, p, q⟩ := h
  have hR : toPyR d = some y := by
    unfold toPyR
    split
    · unfold toPy at e; cases e
    · exact e
  have hlay : y.layable0 = true := by
    unfold PyData.layable0
    rw [a, decide_eq_true (show y.depth ≤ 64 by omega), decide_eq_true (show y.weight ≤ 2 ^ 20 by omega)] <;> rfl
  have hl := PyData.shown_fits_of_layable0 (B := 13) (by omega) (by omega) hlay c
  refine ⟨y.shown, ?_, ok_shown y a⟩
  show (match toPyR d with
    | some y => if okRep y = true then some (EV.val (.str y.shown)) else none
    | none => none) = _
  rw [hR]
  dsimp only
  rw [if_pos]
  unfold okRep
  rw [b, decide_eq_true (show y.depth ≤ 60 by omega), decide_eq_true hl] <;> rfl
theorem rep_dk : RepOk (.dK []) := by
  refine ⟨PyData.shown (.dict []), ?_, by decide +kernel⟩
  show (if okRep (.dict []) = true then some (EV.val (.str (PyData.shown (.dict [])))) else none) = _
  rw [if_pos (by decide +kernel)]
end Mi.J
end
section
set_option maxRecDepth 100000
set_option maxHeartbeats 2000000
namespace Mi.J
open PySem PySem.Spec L2
open PyProof.Rows hiding St
theorem Nm.ok {s : Str} (h : Nm s) : PyData.strOk s = true := by
  obtain ⟨c, l, e, h1, h2, h3⟩ := h
  have key : ∀ c ∈ signL, c < 0x110000 := by decide +kernel
  rw [ok_iff, e]
  intro x hx
  cases hx with
  | head => exact key _ (small_sign h2)
  | tail _ hx => exact key _ (h3 x hx)
theorem Nm.fit {s : Str} (h : Nm s) : fit (.str s) = true := by
  unfold J.fit
  have := h.len
  rw [h.ok, decide_eq_true (show s.length < sizeLine by rw [sizeLine_eq]; omega)] <;> rfl
theorem fitL_all {xs : List D} (h : ∀ d ∈ xs, fit d = true) : fitL xs = true := by
  induction xs with
  | nil => rfl
  | cons a l ih => unfold fitL; rw [h a (List.mem_cons_self ..), ih fun d m => h d (List.mem_cons_of_mem _ m)] <;> rfl
theorem fit_tup {xs : List D} (h : ∀ d ∈ xs, fit d = true) (hl : xs.length < sizeLine) : fit (.tup xs) = true := by
  unfold fit
  rw [decide_eq_true hl, fitL_all h] <;> rfl
/-! forms, as judged -/
def prS (p : Str × Int) : D × D := (.str p.1, .int p.2)
theorem prI_eq {ps : List (Str × Int)} : ps.map prI = (ps.map prS).map prD := by rw [List.map_map] <;> rfl
theorem fm_pairs {ps : List (Str × Int)} : pairsOf (ps.map prI) = some (ps.map prS) := by rw [prI_eq, pairsOf_map]
theorem fm_strs {ps : List (Str × Int)} : (ps.map prS).map (·.1) = (ps.map (·.1)).map .str := by rw [List.map_map, List.map_map] <;> rfl
section
variable {ns : List Str} {ps : List (Str × Int)}
theorem fm_named (h : FmOk ns ps) (hns : ∀ s ∈ ns, Nm s) : jNamed (.tup (ps.map prI)) = true := by
  simp only [jNamed, fm_pairs, fm_strs, jRisD, strsOf_map, h.ris, Bool.and_true]
  rw [List.all_map]
  exact List.all_eq_true.mpr fun p hp => (hns _ (h.of p hp).1).name
theorem fm_form (h : FmOk ns ps) (hns : ∀ s ∈ ns, Nm s) : jForm (.tup (ps.map prI)) = true := by
  simp only [jForm, fm_named h hns, fm_pairs, Bool.true_and]
  rw [List.all_map]
  refine List.all_eq_true.mpr fun p hp => ?_
  show (!(p.2 == 0)) = true
  have := (h.of p hp).2.1
  simpa using this
theorem in_names {s : Str} (h : s ∈ ns) : ((ns.map D.str).any fun y => eqF y (.str s)) = true := by
  rw [List.any_map]
  exact List.any_eq_true.mpr ⟨s, h, by show (s == s) = true; simp⟩
theorem fm_formof (h : FmOk ns ps) (hns : ∀ s ∈ ns, Nm s) : jFormOf ns (.tup (ps.map prI)) = true := by
  simp only [jFormOf, fm_form h hns, fm_pairs, Bool.true_and]
  rw [List.all_map]
  exact List.all_eq_true.mpr fun p hp => in_names (h.of p hp).1
theorem fm_fit (h : FmOk ns ps) (hns : ∀ s ∈ ns, Nm s) : fit (.tup (ps.map prI)) = true := by
  refine fit_tup ?_ (by rw [List.length_map, sizeLine_eq]; have := h.few; omega)
  intro d hd
  obtain ⟨p, hp, rfl⟩ := List.mem_map.mp hd
  refine fit_tup ?_ (by rw [sizeLine_eq]; show 2 < _; omega)
  intro e he
  simp only [List.mem_cons, List.not_mem_nil, or_false] at he
  rcases he with rfl | rfl
  · exact (hns _ (h.of p hp).1).fit
  · rfl
theorem fm_lb (h : FmOk ns ps) (hns : ∀ s ∈ ns, Nm s) : Lb 2 162 (.tup (ps.map prI)) := by
  have h1 : ∀ d ∈ ps.map prI, Lb 1 53 d := by
    intro d hd
    obtain ⟨p, hp, rfl⟩ := List.mem_map.mp hd
    have hl := (hns _ (h.of p hp).1).len
    exact (Ls.tup (k := 0) (Ls.cons (Lb.str (hns _ (h.of p hp).1).ok) (Ls.cons (Lb.int (by have := (h.of p hp).2.2; omega)) (Ls.nil (w := 0))))).up (Nat.le_refl _) (by omega)
  refine (Ls.tup (Ls.all h1)).up (Nat.le_refl _) ?_
  rw [List.length_map]
  have := h.few
  omega
end
/-! rows -/
def mRow (Fd Fp Ff : Fun1) : M Fl := (mSeq (mIf (mTst (op2 bEq (mCallR Fd 0 (mCons (mVar 0) (mCons (mC (.int 3)) mNil))) (mC (.int 0)))) (mRet (mTup (mCons (mCallR Ff 0 (mCons (mVar 0) (mCons (mVar 1) mNil))) (mCons (mC (.str "far")) (mCons (mCallR Ff 0 (mCons (mVar 0) (mCons (mVar 1) mNil))) mNil))))) mPass)
  (mRet (mTup (mCons (mCallR Ff 0 (mCons (mVar 0) (mCons (mVar 1) mNil))) (mCons (mCallR Fp 0 (mCons (mVar 0) (mCons (mLst (mCons (mC (.str ">=")) (mCons (mC (.str ">")) (mCons (mC (.str "=")) mNil)))) mNil))) (mCons (op2 bSub (mCallR Fd 0 (mCons (mVar 0) (mCons (mC (.int 9)) mNil))) (mC (.int 4))) mNil))))))
structure RwOk (ns : List Str) (d : D) : Prop where
  row : jRow ns d = true
  fit : fit d = true
  lb : Lb 3 400 d
def RowF (F : Fun1) : Prop := ∀ (cs : List Int) (n : Int) (d : D) (ns : List Str), Pn cs n d → n < 2 ^ 36 → ns.length ≤ 60 → (∀ s ∈ ns, Nm s) → Gv F d [.lst (ns.map .str)] fun y d' => RwOk ns y ∧ Pn cs (n + 50) d'
theorem row_of {Fd Fp Ff : Fun1} (hd : DrawOk Fd) (hp : PickOk Fp) (hf : FormF Ff) : RowF (defF 0 (mRow Fd Fp Ff)) := by
  intro cs n d ns h hn hl hns
  refine gv_def ?_
  unfold mRow
  simp only [wp_bnd, wp_rt, wp_mC, wp_mVar, wp_mNil, wp_mCons, wp_op1, wp_op2, wp_mTst, wp_mTru, wp_mAnd, wp_mOr, wp_mNot, wp_mBl, wp_mAndV, wp_mOrV, wp_mNotV, wp_mIte, wp_lk2, wp_mChain, wp_mTup, wp_mLst, wp_mB, wp_mDk, wp_mYes, wp_mPass, wp_mBreak, wp_mCont, nxt, wp_mSeq, wp_mIf, wp_mRet, wp_mExpr, wp_mAsg, wp_mAsgT, wp_mPar, wp_mPut, wp_mApp, wp_mSl, wp_mPartN, wp_mPartS, wp_mRev2, wp_mMt, wp_mCall, wpC_val, wpC_own, wp_mCallR, wp_mItV, wp_mItF, wp_mRng1, wp_mFor, wp_mComp, sm_some, sm_none, sm_ite, sm_map, look_val, look_own, look_bx, looks_nil, looks_cons, toV_val, toV_own, toVs_nil, toVs_cons, List.getElem?_cons_zero, List.getElem?_cons_succ, List.set_cons_zero, List.set_cons_succ, List.map_cons, List.map_nil, List.cons_append, List.nil_append, List.replicate_succ, List.replicate_zero, List.append_nil, truD_bl, items_str, items_tup, items_lst, fLen_tup, fLen_lst, bIx_tup, bIx_lst, tyD_str, tyD_int, tyD_bl, tyD_tup, tyD_lst, isTD_eq, isTn, fin_val, back_val, back_nil, back_pbx, Option.map_some, bxD_box, bxD_pbx]
  refine gv_p (i := 0) (d := d) (xs := [.int 3]) rfl rfl (hd cs n 3 d h (by omega) (by omega) (by omega)) ?_
  rintro y d1 ⟨j, rfl, hj0, hj, hp1⟩
  simp only [bEq_int, wp_bnd, wp_rt, wp_mC, wp_mVar, wp_mNil, wp_mCons, wp_op1, wp_op2, wp_mTst, wp_mTru, wp_mAnd, wp_mOr, wp_mNot, wp_mBl, wp_mAndV, wp_mOrV, wp_mNotV, wp_mIte, wp_lk2, wp_mChain, wp_mTup, wp_mLst, wp_mB, wp_mDk, wp_mYes, wp_mPass, wp_mBreak, wp_mCont, nxt, wp_mSeq, wp_mIf, wp_mRet, wp_mExpr, wp_mAsg, wp_mAsgT, wp_mPar, wp_mPut, wp_mApp, wp_mSl, wp_mPartN, wp_mPartS, wp_mRev2, wp_mMt, wp_mCall, wpC_val, wpC_own, wp_mCallR, wp_mItV, wp_mItF, wp_mRng1, wp_mFor, wp_mComp, sm_some, sm_none, sm_ite, sm_map, look_val, look_own, look_bx, looks_nil, looks_cons, toV_val, toV_own, toVs_nil, toVs_cons, List.getElem?_cons_zero, List.getElem?_cons_succ, List.set_cons_zero, List.set_cons_succ, List.map_cons, List.map_nil, List.cons_append, List.nil_append, List.replicate_succ, List.replicate_zero, List.append_nil, truD_bl, items_str, items_tup, items_lst, fLen_tup, fLen_lst, bIx_tup, bIx_lst, tyD_str, tyD_int, tyD_bl, tyD_tup, tyD_lst, isTD_eq, isTn, fin_val, back_val, back_nil, back_pbx, Option.map_some, bxD_box, bxD_pbx]
  by_cases h0 : j = 0
  · rw [if_pos (by rw [h0] <;> rfl)]
    refine gv_p (i := 0) (d := d1) (xs := [.lst (ns.map .str)]) rfl rfl (hf cs _ d1 ns _ (.inl rfl) hp1 (by omega) hl) ?_
    rintro y d2 ⟨ps, rfl, hps, hp2⟩
    simp only [wp_bnd, wp_rt, wp_mC, wp_mVar, wp_mNil, wp_mCons, wp_op1, wp_op2, wp_mTst, wp_mTru, wp_mAnd, wp_mOr, wp_mNot, wp_mBl, wp_mAndV, wp_mOrV, wp_mNotV, wp_mIte, wp_lk2, wp_mChain, wp_mTup, wp_mLst, wp_mB, wp_mDk, wp_mYes, wp_mPass, wp_mBreak, wp_mCont, nxt, wp_mSeq, wp_mIf, wp_mRet, wp_mExpr, wp_mAsg, wp_mAsgT, wp_mPar, wp_mPut, wp_mApp, wp_mSl, wp_mPartN, wp_mPartS, wp_mRev2, wp_mMt, wp_mCall, wpC_val, wpC_own, wp_mCallR, wp_mItV, wp_mItF, wp_mRng1, wp_mFor, wp_mComp, sm_some, sm_none, sm_ite, sm_map, look_val, look_own, look_bx, looks_nil, looks_cons, toV_val, toV_own, toVs_nil, toVs_cons, List.getElem?_cons_zero, List.getElem?_cons_succ, List.set_cons_zero, List.set_cons_succ, List.map_cons, List.map_nil, List.cons_append, List.nil_append, List.replicate_succ, List.replicate_zero, List.append_nil, truD_bl, items_str, items_tup, items_lst, fLen_tup, fLen_lst, bIx_tup, bIx_lst, tyD_str, tyD_int, tyD_bl, tyD_tup, tyD_lst, isTD_eq, isTn, fin_val, back_val, back_nil, back_pbx, Option.map_some, bxD_box, bxD_pbx]
    refine gv_p (i := 0) (d := d2) (xs := [.lst (ns.map .str)]) rfl rfl (hf cs _ d2 ns _ (.inl rfl) hp2 (by omega) hl) ?_
    rintro y d3 ⟨qs, rfl, hqs, hp3⟩
    simp only [wp_bnd, wp_rt, wp_mC, wp_mVar, wp_mNil, wp_mCons, wp_op1, wp_op2, wp_mTst, wp_mTru, wp_mAnd, wp_mOr, wp_mNot, wp_mBl, wp_mAndV, wp_mOrV, wp_mNotV, wp_mIte, wp_lk2, wp_mChain, wp_mTup, wp_mLst, wp_mB, wp_mDk, wp_mYes, wp_mPass, wp_mBreak, wp_mCont, nxt, wp_mSeq, wp_mIf, wp_mRet, wp_mExpr, wp_mAsg, wp_mAsgT, wp_mPar, wp_mPut, wp_mApp, wp_mSl, wp_mPartN, wp_mPartS, wp_mRev2, wp_mMt, wp_mCall, wpC_val, wpC_own, wp_mCallR, wp_mItV, wp_mItF, wp_mRng1, wp_mFor, wp_mComp, sm_some, sm_none, sm_ite, sm_map, look_val, look_own, look_bx, looks_nil, looks_cons, toV_val, toV_own, toVs_nil, toVs_cons, List.getElem?_cons_zero, List.getElem?_cons_succ, List.set_cons_zero, List.set_cons_succ, List.map_cons, List.map_nil, List.cons_append, List.nil_append, List.replicate_succ, List.replicate_zero, List.append_nil, truD_bl, items_str, items_tup, items_lst, fLen_tup, fLen_lst, bIx_tup, bIx_lst, tyD_str, tyD_int, tyD_bl, tyD_tup, tyD_lst, isTD_eq, isTn, fin_val, back_val, back_nil, back_pbx, Option.map_some, bxD_box, bxD_pbx]
    refine ⟨_, _, _, rfl, ⟨?_, ?_, ?_⟩, hp3.up (by omega)⟩
    · simp only [jRow, fm_formof hps hns, fm_formof hqs hns, Bool.true_and]
      rw [if_pos (by decide +kernel)]
    · refine fit_tup ?_ (by rw [sizeLine_eq]; show 3 < _; omega)
      intro e he
      simp only [List.mem_cons, List.not_mem_nil, or_false] at he
      rcases he with rfl | rfl | rfl
      · exact fm_fit hps hns
      · decide +kernel
      · exact fm_fit hqs hns
    · exact (Ls.tup (Ls.cons (fm_lb hps hns) (Ls.cons (Lb.str (by decide +kernel)) (Ls.cons (fm_lb hqs hns) (Ls.nil (w := 0)))))).up (Nat.le_refl _) (by rw [show (Str.ofString "far").length = 3 by decide +kernel]; omega)
  · rw [if_neg (by simpa using h0)]
    refine gv_p (i := 0) (d := d1) (xs := [.lst (ns.map .str)]) rfl rfl (hf cs _ d1 ns _ (.inl rfl) hp1 (by omega) hl) ?_
    rintro y d2 ⟨ps, rfl, hps, hp2⟩
    simp only [wp_bnd, wp_rt, wp_mC, wp_mVar, wp_mNil, wp_mCons, wp_op1, wp_op2, wp_mTst, wp_mTru, wp_mAnd, wp_mOr, wp_mNot, wp_mBl, wp_mAndV, wp_mOrV, wp_mNotV, wp_mIte, wp_lk2, wp_mChain, wp_mTup, wp_mLst, wp_mB, wp_mDk, wp_mYes, wp_mPass, wp_mBreak, wp_mCont, nxt, wp_mSeq, wp_mIf, wp_mRet, wp_mExpr, wp_mAsg, wp_mAsgT, wp_mPar, wp_mPut, wp_mApp, wp_mSl, wp_mPartN, wp_mPartS, wp_mRev2, wp_mMt, wp_mCall, wpC_val, wpC_own, wp_mCallR, wp_mItV, wp_mItF, wp_mRng1, wp_mFor, wp_mComp, sm_some, sm_none, sm_ite, sm_map, look_val, look_own, look_bx, looks_nil, looks_cons, toV_val, toV_own, toVs_nil, toVs_cons, List.getElem?_cons_zero, List.getElem?_cons_succ, List.set_cons_zero, List.set_cons_succ, List.map_cons, List.map_nil, List.cons_append, List.nil_append, List.replicate_succ, List.replicate_zero, List.append_nil, truD_bl, items_str, items_tup, items_lst, fLen_tup, fLen_lst, bIx_tup, bIx_lst, tyD_str, tyD_int, tyD_bl, tyD_tup, tyD_lst, isTD_eq, isTn, fin_val, back_val, back_nil, back_pbx, Option.map_some, bxD_box, bxD_pbx]
    refine gv_p (i := 0) (d := d2) (xs := [.lst [.str ">=", .str ">", .str "="]]) rfl rfl (hp cs _ d2 _ _ (.inl rfl) hp2 (by omega) (by simp) (by simp)) ?_
    rintro y d3 ⟨hy, hp3⟩
    simp only [wp_bnd, wp_rt, wp_mC, wp_mVar, wp_mNil, wp_mCons, wp_op1, wp_op2, wp_mTst, wp_mTru, wp_mAnd, wp_mOr, wp_mNot, wp_mBl, wp_mAndV, wp_mOrV, wp_mNotV, wp_mIte, wp_lk2, wp_mChain, wp_mTup, wp_mLst, wp_mB, wp_mDk, wp_mYes, wp_mPass, wp_mBreak, wp_mCont, nxt, wp_mSeq, wp_mIf, wp_mRet, wp_mExpr, wp_mAsg, wp_mAsgT, wp_mPar, wp_mPut, wp_mApp, wp_mSl, wp_mPartN, wp_mPartS, wp_mRev2, wp_mMt, wp_mCall, wpC_val, wpC_own, wp_mCallR, wp_mItV, wp_mItF, wp_mRng1, wp_mFor, wp_mComp, sm_some, sm_none, sm_ite, sm_map, look_val, look_own, look_bx, looks_nil, looks_cons, toV_val, toV_own, toVs_nil, toVs_cons, List.getElem?_cons_zero, List.getElem?_cons_succ, List.set_cons_zero, List.set_cons_succ, List.map_cons, List.map_nil, List.cons_append, List.nil_append, List.replicate_succ, List.replicate_zero, List.append_nil, truD_bl, items_str, items_tup, items_lst, fLen_tup, fLen_lst, bIx_tup, bIx_lst, tyD_str, tyD_int, tyD_bl, tyD_tup, tyD_lst, isTD_eq, isTn, fin_val, back_val, back_nil, back_pbx, Option.map_some, bxD_box, bxD_pbx]
    refine gv_p (i := 0) (d := d3) (xs := [.int 9]) rfl rfl (hd cs _ 9 d3 hp3 (by omega) (by omega) (by omega)) ?_
    rintro z d4 ⟨q, rfl, hq0, hq, hp4⟩
    simp only [show bSub (.int q) (.int 4) = some (.val (.int (q - 4))) from rfl, wp_bnd, wp_rt, wp_mC, wp_mVar, wp_mNil, wp_mCons, wp_op1, wp_op2, wp_mTst, wp_mTru, wp_mAnd, wp_mOr, wp_mNot, wp_mBl, wp_mAndV, wp_mOrV, wp_mNotV, wp_mIte, wp_lk2, wp_mChain, wp_mTup, wp_mLst, wp_mB, wp_mDk, wp_mYes, wp_mPass, wp_mBreak, wp_mCont, nxt, wp_mSeq, wp_mIf, wp_mRet, wp_mExpr, wp_mAsg, wp_mAsgT, wp_mPar, wp_mPut, wp_mApp, wp_mSl, wp_mPartN, wp_mPartS, wp_mRev2, wp_mMt, wp_mCall, wpC_val, wpC_own, wp_mCallR, wp_mItV, wp_mItF, wp_mRng1, wp_mFor, wp_mComp, sm_some, sm_none, sm_ite, sm_map, look_val, look_own, look_bx, looks_nil, looks_cons, toV_val, toV_own, toVs_nil, toVs_cons, List.getElem?_cons_zero, List.getElem?_cons_succ, List.set_cons_zero, List.set_cons_succ, List.map_cons, List.map_nil, List.cons_append, List.nil_append, List.replicate_succ, List.replicate_zero, List.append_nil, truD_bl, items_str, items_tup, items_lst, fLen_tup, fLen_lst, bIx_tup, bIx_lst, tyD_str, tyD_int, tyD_bl, tyD_tup, tyD_lst, isTD_eq, isTn, fin_val, back_val, back_nil, back_pbx, Option.map_some, bxD_box, bxD_pbx]
    have hy2 : ∃ s : Str, y = .str s ∧ PyData.strOk s = true ∧ s.length ≤ 2 ∧ (s == "far") = false ∧ jWords (.str s) = true := by
      simp only [List.mem_cons, List.not_mem_nil, or_false] at hy
      rcases hy with rfl | rfl | rfl <;> exact ⟨_, rfl, by decide +kernel, by decide +kernel, by decide +kernel, by decide +kernel⟩
    obtain ⟨s, rfl, hs1, hs2, hs3, hs4⟩ := hy2
    refine ⟨_, _, _, rfl, ⟨?_, ?_, ?_⟩, hp4.up (by omega)⟩
    · simp only [jRow, fm_formof hps hns, hs3, hs4, Bool.true_and]
      rfl
    · refine fit_tup ?_ (by rw [sizeLine_eq]; show 3 < _; omega)
      intro e he
      simp only [List.mem_cons, List.not_mem_nil, or_false] at he
      rcases he with rfl | rfl | rfl
      · exact fm_fit hps hns
      · unfold J.fit
        rw [hs1, decide_eq_true (show s.length < sizeLine by rw [sizeLine_eq]; omega)] <;> rfl
      · rfl
    · exact (Ls.tup (Ls.cons (fm_lb hps hns) (Ls.cons (Lb.str hs1) (Ls.cons (Lb.int (by omega)) (Ls.nil (w := 0)))))).up (Nat.le_refl _) (by omega)
/-! books -/
def mBook (Fd Fs Fr : Fun1) : M Fl := (mSeq (mAsg 2 false (mCallR Fs 0 (mCons (mVar 0) (mCons (mVar 1) mNil))))
  (mRet (mTup (mCons (mB fTuple (mCons (mVar 2) mNil)) (mCons (mB fTuple (mCons (mComp [3] (mRng1 (mCons (mCallR Fd 0 (mCons (mVar 0) (mCons (mC (.int 6)) mNil))) mNil)) (tgN 3) mYes (mCallR Fr 0 (mCons (mVar 0) (mCons (mVar 2) mNil)))) mNil)) mNil)))))
structure BkOk (ns : List Str) (rows : List D) : Prop where
  nms : ∀ s ∈ ns, Nm s
  few : ns.length ≤ 5
  ris : jRis ns = true
  rws : ∀ r ∈ rows, RwOk ns r
  fewr : rows.length ≤ 5
def bkD (ns : List Str) (rows : List D) : D := .tup [.tup (ns.map .str), .tup rows]
def BookF (F : Fun1) : Prop := ∀ (cs : List Int) (n : Int) (m : Nat) (d : D), Pn cs n d → n < 2 ^ 35 → m ≤ 5 → Gv F d [.int m] fun y d' => ∃ (ns : List Str) (rows : List D), y = bkD ns rows ∧ ns.length = m ∧ BkOk ns rows ∧ Pn cs (n + 500) d'
theorem book_of {Fd Fs Fr : Fun1} (hd : DrawOk Fd) (hs : NamesF Fs) (hr : RowF Fr) : BookF (defF 2 (mBook Fd Fs Fr)) := by
  intro cs n m d h hn hm
  refine gv_def ?_
  unfold mBook
  simp only [wp_bnd, wp_rt, wp_mC, wp_mVar, wp_mNil, wp_mCons, wp_op1, wp_op2, wp_mTst, wp_mTru, wp_mAnd, wp_mOr, wp_mNot, wp_mBl, wp_mAndV, wp_mOrV, wp_mNotV, wp_mIte, wp_lk2, wp_mChain, wp_mTup, wp_mLst, wp_mB, wp_mDk, wp_mYes, wp_mPass, wp_mBreak, wp_mCont, nxt, wp_mSeq, wp_mIf, wp_mRet, wp_mExpr, wp_mAsg, wp_mAsgT, wp_mPar, wp_mPut, wp_mApp, wp_mSl, wp_mPartN, wp_mPartS, wp_mRev2, wp_mMt, wp_mCall, wpC_val, wpC_own, wp_mCallR, wp_mItV, wp_mItF, wp_mRng1, wp_mFor, wp_mComp, sm_some, sm_none, sm_ite, sm_map, look_val, look_own, look_bx, looks_nil, looks_cons, toV_val, toV_own, toVs_nil, toVs_cons, List.getElem?_cons_zero, List.getElem?_cons_succ, List.set_cons_zero, List.set_cons_succ, List.map_cons, List.map_nil, List.cons_append, List.nil_append, List.replicate_succ, List.replicate_zero, List.append_nil, truD_bl, items_str, items_tup, items_lst, fLen_tup, fLen_lst, bIx_tup, bIx_lst, tyD_str, tyD_int, tyD_bl, tyD_tup, tyD_lst, isTD_eq, isTn, fin_val, back_val, back_nil, back_pbx, Option.map_some, bxD_box, bxD_pbx]
  refine go_p (i := 0) (d := d) (xs := [.int m]) rfl rfl (hs cs n m d h (by omega) hm) ?_
  rintro y d1 ⟨ns, rfl, hl, hns, hri, hp1⟩
  simp only [fTuple, wp_bnd, wp_rt, wp_mC, wp_mVar, wp_mNil, wp_mCons, wp_op1, wp_op2, wp_mTst, wp_mTru, wp_mAnd, wp_mOr, wp_mNot, wp_mBl, wp_mAndV, wp_mOrV, wp_mNotV, wp_mIte, wp_lk2, wp_mChain, wp_mTup, wp_mLst, wp_mB, wp_mDk, wp_mYes, wp_mPass, wp_mBreak, wp_mCont, nxt, wp_mSeq, wp_mIf, wp_mRet, wp_mExpr, wp_mAsg, wp_mAsgT, wp_mPar, wp_mPut, wp_mApp, wp_mSl, wp_mPartN, wp_mPartS, wp_mRev2, wp_mMt, wp_mCall, wpC_val, wpC_own, wp_mCallR, wp_mItV, wp_mItF, wp_mRng1, wp_mFor, wp_mComp, sm_some, sm_none, sm_ite, sm_map, look_val, look_own, look_bx, looks_nil, looks_cons, toV_val, toV_own, toVs_nil, toVs_cons, List.getElem?_cons_zero, List.getElem?_cons_succ, List.set_cons_zero, List.set_cons_succ, List.map_cons, List.map_nil, List.cons_append, List.nil_append, List.replicate_succ, List.replicate_zero, List.append_nil, truD_bl, items_str, items_tup, items_lst, fLen_tup, fLen_lst, bIx_tup, bIx_lst, tyD_str, tyD_int, tyD_bl, tyD_tup, tyD_lst, isTD_eq, isTn, fin_val, back_val, back_nil, back_pbx, Option.map_some, bxD_box, bxD_pbx]
  refine gv_p (i := 0) (d := d1) (xs := [.int 6]) rfl rfl (hd cs _ 6 d1 hp1 (by omega) (by omega) (by omega)) ?_
  rintro y d2 ⟨j, rfl, hj0, hj, hp2⟩
  simp only [wp_bnd, wp_rt, wp_mC, wp_mVar, wp_mNil, wp_mCons, wp_op1, wp_op2, wp_mTst, wp_mTru, wp_mAnd, wp_mOr, wp_mNot, wp_mBl, wp_mAndV, wp_mOrV, wp_mNotV, wp_mIte, wp_lk2, wp_mChain, wp_mTup, wp_mLst, wp_mB, wp_mDk, wp_mYes, wp_mPass, wp_mBreak, wp_mCont, nxt, wp_mSeq, wp_mIf, wp_mRet, wp_mExpr, wp_mAsg, wp_mAsgT, wp_mPar, wp_mPut, wp_mApp, wp_mSl, wp_mPartN, wp_mPartS, wp_mRev2, wp_mMt, wp_mCall, wpC_val, wpC_own, wp_mCallR, wp_mItV, wp_mItF, wp_mRng1, wp_mFor, wp_mComp, sm_some, sm_none, sm_ite, sm_map, look_val, look_own, look_bx, looks_nil, looks_cons, toV_val, toV_own, toVs_nil, toVs_cons, List.getElem?_cons_zero, List.getElem?_cons_succ, List.set_cons_zero, List.set_cons_succ, List.map_cons, List.map_nil, List.cons_append, List.nil_append, List.replicate_succ, List.replicate_zero, List.append_nil, truD_bl, items_str, items_tup, items_lst, fLen_tup, fLen_lst, bIx_tup, bIx_lst, tyD_str, tyD_int, tyD_bl, tyD_tup, tyD_lst, isTD_eq, isTn, fin_val, back_val, back_nil, back_pbx, Option.map_some, bxD_box, bxD_pbx]
  refine ⟨by unfold lim; exact decide_eq_true ⟨by omega, by omega⟩, ?_⟩
  refine wp_compI (List.range (j - 0).toNat) (fun (i : Nat) => D.int (0 + i)) rfl (by rw [List.length_range, sizeLine_eq]; omega)
    (fun l acc r => ∃ (d3 : D) (x3 : SV), acc.length + l.length = j.toNat ∧ (∀ x ∈ acc, RwOk ns x) ∧ r = [.pbx d3, .val (.int m), .val (.lst (ns.map .str)), x3] ∧ Pn cs (n + 101 + 50 * acc.length) d3)
    ⟨d2, .un, by rw [List.length_range, List.length_nil]; omega, fun x hx => (by cases hx), rfl, hp2.up (by simp; omega)⟩ ?_ ?_
  · rintro i l acc r ⟨d3, x3, hal, hac, rfl, hp3⟩
    rw [List.length_cons] at hal
    simp only [wipeR, tgN, wp_bnd, wp_rt, wp_mC, wp_mVar, wp_mNil, wp_mCons, wp_op1, wp_op2, wp_mTst, wp_mTru, wp_mAnd, wp_mOr, wp_mNot, wp_mBl, wp_mAndV, wp_mOrV, wp_mNotV, wp_mIte, wp_lk2, wp_mChain, wp_mTup, wp_mLst, wp_mB, wp_mDk, wp_mYes, wp_mPass, wp_mBreak, wp_mCont, nxt, wp_mSeq, wp_mIf, wp_mRet, wp_mExpr, wp_mAsg, wp_mAsgT, wp_mPar, wp_mPut, wp_mApp, wp_mSl, wp_mPartN, wp_mPartS, wp_mRev2, wp_mMt, wp_mCall, wpC_val, wpC_own, wp_mCallR, wp_mItV, wp_mItF, wp_mRng1, wp_mFor, wp_mComp, sm_some, sm_none, sm_ite, sm_map, look_val, look_own, look_bx, looks_nil, looks_cons, toV_val, toV_own, toVs_nil, toVs_cons, List.getElem?_cons_zero, List.getElem?_cons_succ, List.set_cons_zero, List.set_cons_succ, List.map_cons, List.map_nil, List.cons_append, List.nil_append, List.replicate_succ, List.replicate_zero, List.append_nil, truD_bl, items_str, items_tup, items_lst, fLen_tup, fLen_lst, bIx_tup, bIx_lst, tyD_str, tyD_int, tyD_bl, tyD_tup, tyD_lst, isTD_eq, isTn, fin_val, back_val, back_nil, back_pbx, Option.map_some, bxD_box, bxD_pbx]
    refine gv_p (i := 0) (d := d3) (xs := [.lst (ns.map .str)]) rfl rfl (hr cs _ d3 ns hp3 (by omega) (by omega) hns) ?_
    rintro y d4 ⟨hy, hp4⟩
    simp only [wp_bnd, wp_rt, wp_mC, wp_mVar, wp_mNil, wp_mCons, wp_op1, wp_op2, wp_mTst, wp_mTru, wp_mAnd, wp_mOr, wp_mNot, wp_mBl, wp_mAndV, wp_mOrV, wp_mNotV, wp_mIte, wp_lk2, wp_mChain, wp_mTup, wp_mLst, wp_mB, wp_mDk, wp_mYes, wp_mPass, wp_mBreak, wp_mCont, nxt, wp_mSeq, wp_mIf, wp_mRet, wp_mExpr, wp_mAsg, wp_mAsgT, wp_mPar, wp_mPut, wp_mApp, wp_mSl, wp_mPartN, wp_mPartS, wp_mRev2, wp_mMt, wp_mCall, wpC_val, wpC_own, wp_mCallR, wp_mItV, wp_mItF, wp_mRng1, wp_mFor, wp_mComp, sm_some, sm_none, sm_ite, sm_map, look_val, look_own, look_bx, looks_nil, looks_cons, toV_val, toV_own, toVs_nil, toVs_cons, List.getElem?_cons_zero, List.getElem?_cons_succ, List.set_cons_zero, List.set_cons_succ, List.map_cons, List.map_nil, List.cons_append, List.nil_append, List.replicate_succ, List.replicate_zero, List.append_nil, truD_bl, items_str, items_tup, items_lst, fLen_tup, fLen_lst, bIx_tup, bIx_lst, tyD_str, tyD_int, tyD_bl, tyD_tup, tyD_lst, isTD_eq, isTn, fin_val, back_val, back_nil, back_pbx, Option.map_some, bxD_box, bxD_pbx]
    refine ⟨d4, _, by rw [List.length_append]; show acc.length + 1 + _ = _; omega, ?_, rfl, hp4.up (by rw [List.length_append]; simp; omega)⟩
    intro x hx
    rcases List.mem_append.mp hx with h | h
    · exact hac x h
    · rw [List.mem_singleton.mp h]; exact hy
  · rintro acc r ⟨d3, x3, hal, hac, rfl, hp3⟩
    have ha5 : acc.length ≤ 5 := by simp at hal; omega
    simp only [restR, kv1, wp_bnd, wp_rt, wp_mC, wp_mVar, wp_mNil, wp_mCons, wp_op1, wp_op2, wp_mTst, wp_mTru, wp_mAnd, wp_mOr, wp_mNot, wp_mBl, wp_mAndV, wp_mOrV, wp_mNotV, wp_mIte, wp_lk2, wp_mChain, wp_mTup, wp_mLst, wp_mB, wp_mDk, wp_mYes, wp_mPass, wp_mBreak, wp_mCont, nxt, wp_mSeq, wp_mIf, wp_mRet, wp_mExpr, wp_mAsg, wp_mAsgT, wp_mPar, wp_mPut, wp_mApp, wp_mSl, wp_mPartN, wp_mPartS, wp_mRev2, wp_mMt, wp_mCall, wpC_val, wpC_own, wp_mCallR, wp_mItV, wp_mItF, wp_mRng1, wp_mFor, wp_mComp, sm_some, sm_none, sm_ite, sm_map, look_val, look_own, look_bx, looks_nil, looks_cons, toV_val, toV_own, toVs_nil, toVs_cons, List.getElem?_cons_zero, List.getElem?_cons_succ, List.set_cons_zero, List.set_cons_succ, List.map_cons, List.map_nil, List.cons_append, List.nil_append, List.replicate_succ, List.replicate_zero, List.append_nil, truD_bl, items_str, items_tup, items_lst, fLen_tup, fLen_lst, bIx_tup, bIx_lst, tyD_str, tyD_int, tyD_bl, tyD_tup, tyD_lst, isTD_eq, isTn, fin_val, back_val, back_nil, back_pbx, Option.map_some, bxD_box, bxD_pbx]
    exact ⟨_, _, _, rfl, ns, acc, rfl, hl, ⟨hns, by omega, hri, hac, ha5⟩, hp3.up (by omega)⟩
/-! points -/
def mPoint (Fd Fp : Fun1) : M Fl := (mSeq (mAsg 2 true (mLst mNil))
  (mSeq (mFor (mItV (mVar 1)) (tgN 3) (mExpr (mApp 2 (mCons (mTup (mCons (mVar 3) (mCons (mCall F_fraction (mCons (op2 bSub (mCallR Fd 0 (mCons (mVar 0) (mCons (mC (.int 25)) mNil))) (mC (.int 8))) (mCons (mCallR Fp 0 (mCons (mVar 0) (mCons (mLst (mCons (mC (.int 1)) (mCons (mC (.int 1)) (mCons (mC (.int 1)) (mCons (mC (.int 2)) (mCons (mC (.int 3)) mNil)))))) mNil))) mNil))) mNil))) mNil))))
  (mRet (mB fTuple (mCons (mVar 2) mNil)))))
def ptD (p : Str × D) : D := .tup [.str p.1, p.2]
structure PtOk (ns : List Str) (ps : List (Str × D)) : Prop where
  nms : ps.map (·.1) = ns
  frs : ∀ p ∈ ps, ∃ a b : Int, p.2 = .tup [.int a, .int b] ∧ jFrac (.tup [.int a, .int b]) = true ∧ a.natAbs ≤ 100 ∧ b.natAbs ≤ 100
def PointF (F : Fun1) : Prop := ∀ (cs : List Int) (n : Int) (d : D) (ns : List Str), Pn cs n d → n < 2 ^ 35 → ns.length ≤ 5 → Gv F d [.tup (ns.map .str)] fun y d' => ∃ ps : List (Str × D), y = .tup (ps.map ptD) ∧ PtOk ns ps ∧ Pn cs (n + 20) d'
theorem point_of {Fd Fp : Fun1} (hd : DrawOk Fd) (hp : PickOk Fp) : PointF (defF 2 (mPoint Fd Fp)) := by
  intro cs n d ns h hn hl
  refine gv_def ?_
  unfold mPoint
  simp only [wp_bnd, wp_rt, wp_mC, wp_mVar, wp_mNil, wp_mCons, wp_op1, wp_op2, wp_mTst, wp_mTru, wp_mAnd, wp_mOr, wp_mNot, wp_mBl, wp_mAndV, wp_mOrV, wp_mNotV, wp_mIte, wp_lk2, wp_mChain, wp_mTup, wp_mLst, wp_mB, wp_mDk, wp_mYes, wp_mPass, wp_mBreak, wp_mCont, nxt, wp_mSeq, wp_mIf, wp_mRet, wp_mExpr, wp_mAsg, wp_mAsgT, wp_mPar, wp_mPut, wp_mApp, wp_mSl, wp_mPartN, wp_mPartS, wp_mRev2, wp_mMt, wp_mCall, wpC_val, wpC_own, wp_mCallR, wp_mItV, wp_mItF, wp_mRng1, wp_mFor, wp_mComp, sm_some, sm_none, sm_ite, sm_map, look_val, look_own, look_bx, looks_nil, looks_cons, toV_val, toV_own, toVs_nil, toVs_cons, List.getElem?_cons_zero, List.getElem?_cons_succ, List.set_cons_zero, List.set_cons_succ, List.map_cons, List.map_nil, List.cons_append, List.nil_append, List.replicate_succ, List.replicate_zero, List.append_nil, truD_bl, items_str, items_tup, items_lst, fLen_tup, fLen_lst, bIx_tup, bIx_lst, tyD_str, tyD_int, tyD_bl, tyD_tup, tyD_lst, isTD_eq, isTn, fin_val, back_val, back_nil, back_pbx, Option.map_some, bxD_box, bxD_pbx]
  rw [if_pos trivial]
  refine wp_mono (P := fun (fl : Fl) (r : List SV) => fl = Fl.nx ∧ ∃ (d2 : D) (ps : List (Str × D)) (x3 : SV), r = [.pbx d2, .val (.tup (ns.map .str)), .box (.lst (ps.map ptD)), x3] ∧ PtOk ns ps ∧ Pn cs (n + 20) d2) ?_ ?_
  · refine wp_loop (fun ds r => ∃ (d2 : D) (ps : List (Str × D)) (x3 : SV) (rest : List Str), r = [.pbx d2, .val (.tup (ns.map .str)), .box (.lst (ps.map ptD)), x3] ∧ ds = rest.map .str ∧ ps.map (·.1) ++ rest = ns ∧ (∀ p ∈ ps, ∃ a b : Int, p.2 = .tup [.int a, .int b] ∧ jFrac (.tup [.int a, .int b]) = true ∧ a.natAbs ≤ 100 ∧ b.natAbs ≤ 100) ∧ Pn cs (n + 2 * ps.length) d2)
      ⟨d, [], .un, ns, rfl, rfl, rfl, fun p hp => (by cases hp), h.up (by simp)⟩ ?_ ?_
    · rintro e ds r ⟨d2, ps, x3, rest, rfl, he, hcat, hfr, hp2⟩
      cases rest with
      | nil => cases he
      | cons s rest =>
        rw [List.map_cons, List.cons.injEq] at he
        obtain ⟨rfl, rfl⟩ := he
        have hlen : ps.length + (rest.length + 1) ≤ 5 := by
          have := congrArg List.length hcat
          rw [List.length_append, List.length_map, List.length_cons] at this
          omega
        simp only [tgN, isL, wp_bnd, wp_rt, wp_mC, wp_mVar, wp_mNil, wp_mCons, wp_op1, wp_op2, wp_mTst, wp_mTru, wp_mAnd, wp_mOr, wp_mNot, wp_mBl, wp_mAndV, wp_mOrV, wp_mNotV, wp_mIte, wp_lk2, wp_mChain, wp_mTup, wp_mLst, wp_mB, wp_mDk, wp_mYes, wp_mPass, wp_mBreak, wp_mCont, nxt, wp_mSeq, wp_mIf, wp_mRet, wp_mExpr, wp_mAsg, wp_mAsgT, wp_mPar, wp_mPut, wp_mApp, wp_mSl, wp_mPartN, wp_mPartS, wp_mRev2, wp_mMt, wp_mCall, wpC_val, wpC_own, wp_mCallR, wp_mItV, wp_mItF, wp_mRng1, wp_mFor, wp_mComp, sm_some, sm_none, sm_ite, sm_map, look_val, look_own, look_bx, looks_nil, looks_cons, toV_val, toV_own, toVs_nil, toVs_cons, List.getElem?_cons_zero, List.getElem?_cons_succ, List.set_cons_zero, List.set_cons_succ, List.map_cons, List.map_nil, List.cons_append, List.nil_append, List.replicate_succ, List.replicate_zero, List.append_nil, truD_bl, items_str, items_tup, items_lst, fLen_tup, fLen_lst, bIx_tup, bIx_lst, tyD_str, tyD_int, tyD_bl, tyD_tup, tyD_lst, isTD_eq, isTn, fin_val, back_val, back_nil, back_pbx, Option.map_some, bxD_box, bxD_pbx]
        refine ⟨trivial, ?_⟩
        refine gv_p (i := 0) (d := d2) (xs := [.int 25]) rfl rfl (hd cs _ 25 d2 hp2 (by omega) (by omega) (by omega)) ?_
        rintro y d3 ⟨q, rfl, hq0, hq, hp3⟩
        simp only [show bSub (.int q) (.int 8) = some (.val (.int (q - 8))) from rfl, wp_bnd, wp_rt, wp_mC, wp_mVar, wp_mNil, wp_mCons, wp_op1, wp_op2, wp_mTst, wp_mTru, wp_mAnd, wp_mOr, wp_mNot, wp_mBl, wp_mAndV, wp_mOrV, wp_mNotV, wp_mIte, wp_lk2, wp_mChain, wp_mTup, wp_mLst, wp_mB, wp_mDk, wp_mYes, wp_mPass, wp_mBreak, wp_mCont, nxt, wp_mSeq, wp_mIf, wp_mRet, wp_mExpr, wp_mAsg, wp_mAsgT, wp_mPar, wp_mPut, wp_mApp, wp_mSl, wp_mPartN, wp_mPartS, wp_mRev2, wp_mMt, wp_mCall, wpC_val, wpC_own, wp_mCallR, wp_mItV, wp_mItF, wp_mRng1, wp_mFor, wp_mComp, sm_some, sm_none, sm_ite, sm_map, look_val, look_own, look_bx, looks_nil, looks_cons, toV_val, toV_own, toVs_nil, toVs_cons, List.getElem?_cons_zero, List.getElem?_cons_succ, List.set_cons_zero, List.set_cons_succ, List.map_cons, List.map_nil, List.cons_append, List.nil_append, List.replicate_succ, List.replicate_zero, List.append_nil, truD_bl, items_str, items_tup, items_lst, fLen_tup, fLen_lst, bIx_tup, bIx_lst, tyD_str, tyD_int, tyD_bl, tyD_tup, tyD_lst, isTD_eq, isTn, fin_val, back_val, back_nil, back_pbx, Option.map_some, bxD_box, bxD_pbx]
        refine gv_p (i := 0) (d := d3) (xs := [.lst [.int 1, .int 1, .int 1, .int 2, .int 3]]) rfl rfl (hp cs _ d3 _ _ (.inl rfl) hp3 (by omega) (by simp) (by simp)) ?_
        rintro y d4 ⟨hy, hp4⟩
        have hy2 : ∃ b : Int, y = .int b ∧ 1 ≤ b ∧ b ≤ 3 := by
          simp only [List.mem_cons, List.not_mem_nil, or_false] at hy
          rcases hy with rfl | rfl | rfl | rfl | rfl <;> exact ⟨_, rfl, by omega, by omega⟩
        obtain ⟨b, rfl, hb1, hb3⟩ := hy2
        obtain ⟨x, y, l, hfe, hj, hx, hy1, hy2⟩ := law_fraction (a := q - 8) (b := b) (by omega) (by omega)
        simp only [hfe, appD, SV.put, wp_bnd, wp_rt, wp_mC, wp_mVar, wp_mNil, wp_mCons, wp_op1, wp_op2, wp_mTst, wp_mTru, wp_mAnd, wp_mOr, wp_mNot, wp_mBl, wp_mAndV, wp_mOrV, wp_mNotV, wp_mIte, wp_lk2, wp_mChain, wp_mTup, wp_mLst, wp_mB, wp_mDk, wp_mYes, wp_mPass, wp_mBreak, wp_mCont, nxt, wp_mSeq, wp_mIf, wp_mRet, wp_mExpr, wp_mAsg, wp_mAsgT, wp_mPar, wp_mPut, wp_mApp, wp_mSl, wp_mPartN, wp_mPartS, wp_mRev2, wp_mMt, wp_mCall, wpC_val, wpC_own, wp_mCallR, wp_mItV, wp_mItF, wp_mRng1, wp_mFor, wp_mComp, sm_some, sm_none, sm_ite, sm_map, look_val, look_own, look_bx, looks_nil, looks_cons, toV_val, toV_own, toVs_nil, toVs_cons, List.getElem?_cons_zero, List.getElem?_cons_succ, List.set_cons_zero, List.set_cons_succ, List.map_cons, List.map_nil, List.cons_append, List.nil_append, List.replicate_succ, List.replicate_zero, List.append_nil, truD_bl, items_str, items_tup, items_lst, fLen_tup, fLen_lst, bIx_tup, bIx_lst, tyD_str, tyD_int, tyD_bl, tyD_tup, tyD_lst, isTD_eq, isTn, fin_val, back_val, back_nil, back_pbx, Option.map_some, bxD_box, bxD_pbx]
        refine ⟨by rw [List.length_map, sizeLine_eq]; omega, ?_⟩
        refine ⟨d4, ps ++ [(s, .tup [.int x, .int y])], .val (.str s), rest, ?_, rfl, ?_, ?_, hp4.up ?_⟩
        · rw [List.map_append] <;> rfl
        · rw [List.map_append, ← hcat, List.append_assoc] <;> rfl
        · intro p hpm
          rcases List.mem_append.mp hpm with h | h
          · exact hfr p h
          · rw [List.mem_singleton.mp h]
            exact ⟨x, y, rfl, hj, by omega, by omega⟩
        · rw [List.length_append]; simp; omega
    · rintro r ⟨d2, ps, x3, rest, rfl, he, hcat, hfr, hp2⟩
      cases rest with
      | cons s rest => cases he
      | nil =>
        rw [List.append_nil] at hcat
        refine ⟨rfl, d2, ps, x3, rfl, ⟨hcat, hfr⟩, hp2.up ?_⟩
        have := congrArg List.length hcat
        rw [List.length_map] at this
        omega
  · rintro fl r ⟨rfl, d2, ps, x3, rfl, hpt, hp2⟩
    simp only [fTuple, wp_bnd, wp_rt, wp_mC, wp_mVar, wp_mNil, wp_mCons, wp_op1, wp_op2, wp_mTst, wp_mTru, wp_mAnd, wp_mOr, wp_mNot, wp_mBl, wp_mAndV, wp_mOrV, wp_mNotV, wp_mIte, wp_lk2, wp_mChain, wp_mTup, wp_mLst, wp_mB, wp_mDk, wp_mYes, wp_mPass, wp_mBreak, wp_mCont, nxt, wp_mSeq, wp_mIf, wp_mRet, wp_mExpr, wp_mAsg, wp_mAsgT, wp_mPar, wp_mPut, wp_mApp, wp_mSl, wp_mPartN, wp_mPartS, wp_mRev2, wp_mMt, wp_mCall, wpC_val, wpC_own, wp_mCallR, wp_mItV, wp_mItF, wp_mRng1, wp_mFor, wp_mComp, sm_some, sm_none, sm_ite, sm_map, look_val, look_own, look_bx, looks_nil, looks_cons, toV_val, toV_own, toVs_nil, toVs_cons, List.getElem?_cons_zero, List.getElem?_cons_succ, List.set_cons_zero, List.set_cons_succ, List.map_cons, List.map_nil, List.cons_append, List.nil_append, List.replicate_succ, List.replicate_zero, List.append_nil, truD_bl, items_str, items_tup, items_lst, fLen_tup, fLen_lst, bIx_tup, bIx_lst, tyD_str, tyD_int, tyD_bl, tyD_tup, tyD_lst, isTD_eq, isTn, fin_val, back_val, back_nil, back_pbx, Option.map_some, bxD_box, bxD_pbx]
    exact ⟨_, _, _, rfl, ps, rfl, hpt, hp2⟩
end Mi.J
end
section
set_option maxRecDepth 100000
set_option maxHeartbeats 2000000
namespace Mi.J
open PySem PySem.Spec L2
open PyProof.Rows hiding St
/-! the values near what is right -/
def m__law_odd_forms : M Fl := (mSeq (mAsg 1 false (mLst (mCons (mC .none) (mCons (mB fList (mCons (mVar 0) mNil)) (mCons (op2 bAdd (mVar 0) (mTup (mCons (mC .none) mNil))) (mCons (op2 bAdd (mVar 0) (mTup (mCons (mTup (mCons (mC (.str "zz")) (mCons (mC (.int 0)) mNil))) mNil))) (mCons (mTup (mCons (mTup (mCons (mC (.str "A")) (mCons (mC (.int 1)) mNil))) mNil)) (mCons (mTup (mCons (mTup (mCons (mC (.str "a")) (mCons (mC (.bl true)) mNil))) mNil)) (mCons (mTup (mCons (mTup (mCons (mC (.str "a")) (mCons (mC (.str "1")) mNil))) mNil)) mNil)))))))))
  (mSeq (mAsg 1 false (op2 bAdd (mVar 1) (mLst (mCons (mTup (mCons (mTup (mCons (mC (.str "a")) mNil)) mNil)) (mCons (mTup (mCons (mLst (mCons (mC (.str "a")) (mCons (mC (.int 1)) mNil))) mNil)) (mCons (mTup (mCons (mTup (mCons (mC (.str "a")) (mCons (mC (.int 1)) (mCons (mC (.int 1)) mNil)))) mNil)) (mCons (mTup (mCons (mTup (mCons (mC (.int 3)) (mCons (mC (.int 1)) mNil))) mNil)) (mCons (mTup (mCons (mTup (mCons (mC (.str "b")) (mCons (mC (.int 1)) mNil))) (mCons (mTup (mCons (mC (.str "a")) (mCons (mC (.int 1)) mNil))) mNil))) (mCons (mTup (mCons (mTup (mCons (mC (.str "a")) (mCons (mC (.int 1)) mNil))) (mCons (mTup (mCons (mC (.str "a")) (mCons (mC (.int 2)) mNil))) mNil))) mNil)))))))))
  (mRet (op2 bAdd (mVar 1) (mLst (mCons mDk (mCons (mC (.str "a")) (mCons (mC (.int 0)) mNil))))))))
def F__law_odd_forms : Fun1 := defF 1 m__law_odd_forms
def m__law_odd_books : M Fl := (mSeq (mAsgT (tgT [(tgN 3), (tgN 4)]) (mVar 0))
  (mSeq (mAsg 1 false (mTup (mCons (mTup mNil) (mCons (mC (.str ">=")) (mCons (mC (.int 0)) mNil)))))
  (mSeq (mAsg 2 true (mLst (mCons (mC .none) (mCons (mB fList (mCons (mVar 0) mNil)) (mCons (mTup (mCons (mVar 3) mNil)) (mCons (mTup (mCons (mB fList (mCons (mVar 3) mNil)) (mCons (mVar 4) mNil))) (mCons (mTup (mCons (mVar 3) (mCons (mB fList (mCons (mVar 4) mNil)) mNil))) (mCons (op2 bAdd (mVar 0) (mTup (mCons (mTup mNil) mNil))) (mCons (mVar 3) (mCons mDk (mCons (mC (.str "")) mNil)))))))))))
  (mSeq (mAsg 2 true (op2 bAdd (mVar 2) (mLst (mCons (mTup (mCons (op2 bAdd (mVar 3) (mTup (mCons (mC (.str "A")) mNil))) (mCons (mVar 4) mNil))) (mCons (mTup (mCons (op2 bAdd (mVar 3) (mTup (mCons (mC (.int 3)) mNil))) (mCons (mVar 4) mNil))) (mCons (mTup (mCons (mVar 3) (mCons (op2 bAdd (mVar 4) (mTup (mCons (mC .none) mNil))) mNil))) (mCons (mTup (mCons (mVar 3) (mCons (op2 bAdd (mVar 4) (mTup (mCons (mB fList (mCons (mVar 1) mNil)) mNil))) mNil))) mNil)))))))
  (mSeq (mAsg 2 true (op2 bAdd (mVar 2) (mLst (mCons (mTup (mCons (mVar 3) (mCons (op2 bAdd (mVar 4) (mTup (mCons (mTup (mCons (mTup (mCons (mTup (mCons (mC (.str "nobody0")) (mCons (mC (.int 1)) mNil))) mNil)) (mCons (mC (.str ">")) (mCons (mC (.int 0)) mNil)))) mNil))) mNil))) (mCons (mTup (mCons (mVar 3) (mCons (op2 bAdd (mVar 4) (mTup (mCons (mTup (mCons (mTup mNil) (mCons (mC (.str "<")) (mCons (mC (.int 0)) mNil)))) mNil))) mNil))) mNil)))))
  (mSeq (mExpr (mApp 2 (mCons (mTup (mCons (mVar 3) (mCons (op2 bAdd (mVar 4) (mTup (mCons (mTup (mCons (mTup mNil) (mCons (mC (.str ">")) (mCons (mC (.str "0")) mNil)))) mNil))) mNil))) mNil)))
  (mSeq (mAsg 2 true (op2 bAdd (mVar 2) (mLst (mCons (mTup (mCons (mVar 3) (mCons (op2 bAdd (mVar 4) (mTup (mCons (mTup (mCons (mTup mNil) (mCons (mC (.str ">")) (mCons (mC (.bl true)) mNil)))) mNil))) mNil))) (mCons (mTup (mCons (mVar 3) (mCons (op2 bAdd (mVar 4) (mTup (mCons (mTup (mCons (mTup mNil) (mCons (mC (.str ">")) mNil))) mNil))) mNil))) (mCons (mTup (mCons (mVar 3) (mCons (op2 bAdd (mVar 4) (mTup (mCons (mTup (mCons (mTup mNil) (mCons (mC (.str "far")) (mCons (mC (.int 0)) mNil)))) mNil))) mNil))) mNil))))))
  (mSeq (mAsg 2 true (op2 bAdd (mVar 2) (mLst (mCons (mTup (mCons (mVar 3) (mCons (op2 bAdd (mVar 4) (mTup (mCons (mTup (mCons (mTup mNil) (mCons (mC (.str ">=")) (mCons (mTup mNil) mNil)))) mNil))) mNil))) (mCons (mTup (mCons (mVar 3) (mCons (op2 bAdd (mVar 4) (mTup (mCons (mTup (mCons (mTup mNil) (mCons (mC (.str "far")) (mCons (mTup (mCons (mTup (mCons (mC (.str "nobody0")) (mCons (mC (.int 1)) mNil))) mNil)) mNil)))) mNil))) mNil))) mNil)))))
  (mSeq (mExpr (mApp 2 (mCons (mTup (mCons (mVar 3) (mCons (op2 bAdd (mVar 4) (mTup (mCons (mTup mNil) mNil))) mNil))) mNil)))
  (mSeq (mAsg 2 true (op2 bAdd (mVar 2) (mLst (mCons (mTup (mCons (mVar 3) (mCons (op2 bAdd (mVar 4) (mTup (mCons (mTup (mCons (mTup mNil) (mCons (mC .none) (mCons (mC (.int 0)) mNil)))) mNil))) mNil))) (mCons (mTup (mCons (mVar 3) (mCons (op2 bAdd (mVar 4) (mTup (mCons (mTup (mCons (mTup mNil) (mCons (mLst mNil) (mCons (mC (.int 0)) mNil)))) mNil))) mNil))) (mCons (mTup (mCons (mVar 3) (mCons (op2 bAdd (mVar 4) (mTup (mCons (op2 bAdd (mVar 1) (mTup (mCons (mC (.int 1)) mNil))) mNil))) mNil))) mNil))))))
  (mSeq (mIf (mTst (op2 bGt (mB fLen (mCons (mVar 3) mNil)) (mC (.int 1)))) (mExpr (mApp 2 (mCons (mTup (mCons (mRev2 (mVar 3)) (mCons (mTup mNil) mNil))) mNil))) mPass)
  (mRet (op2 bAdd (mVar 2) (mIte (mTst (op2 bNe (mVar 3) (mTup mNil))) (mLst (mCons (mTup (mCons (op2 bAdd (mVar 3) (mSl (mVar 3) (some (op1 uNeg (mC (.int 1)))) none)) (mCons (mVar 4) mNil))) mNil)) (mLst mNil)))))))))))))))
def F__law_odd_books : Fun1 := defF 4 m__law_odd_books
def m__law_odd_points : M Fl := (mSeq (mAsg 1 true (mLst (mCons (mC .none) (mCons (mB fList (mCons (mVar 0) mNil)) (mCons (op2 bAdd (mVar 0) (mTup (mCons (mTup (mCons (mC (.str "zz9")) (mCons (mTup (mCons (mC (.int 1)) (mCons (mC (.int 1)) mNil))) mNil))) mNil))) (mCons mDk (mCons (mC (.str "")) (mCons (op2 bAdd (mVar 0) (mTup (mCons (mC .none) mNil))) mNil))))))))
  (mSeq (mIf (mTst (op2 bNe (mVar 0) (mTup mNil))) (mSeq (mAsgT (tgT [(tgN 3), (tgN 4)]) (op2 bIx (mVar 0) (op1 uNeg (mC (.int 1)))))
  (mSeq (mFor (mItV (mLst (mCons (mTup (mCons (mC (.int 2)) (mCons (mC (.int 4)) mNil))) (mCons (mTup (mCons (mC (.int 1)) (mCons (mC (.int 0)) mNil))) (mCons (mC (.int 1)) (mCons (mC .none) (mCons (mLst (mCons (mC (.int 1)) (mCons (mC (.int 1)) mNil))) (mCons (mTup (mCons (mC (.bl true)) (mCons (mC (.int 1)) mNil))) (mCons (mTup (mCons (mC (.int 1)) (mCons (mC (.int 1)) (mCons (mC (.int 1)) mNil)))) mNil))))))))) (tgN 2) (mExpr (mApp 1 (mCons (op2 bAdd (mSl (mVar 0) none (some (op1 uNeg (mC (.int 1))))) (mTup (mCons (mTup (mCons (mVar 3) (mCons (mVar 2) mNil))) mNil))) mNil))))
  (mAsg 1 true (op2 bAdd (mVar 1) (mLst (mCons (mSl (mVar 0) (some (mC (.int 1))) none) (mCons (op2 bAdd (mSl (mVar 0) none (some (op1 uNeg (mC (.int 1))))) (mTup (mCons (mTup (mCons (op2 bAdd (mVar 3) (mC (.str "A"))) (mCons (mVar 4) mNil))) mNil))) (mCons (op2 bAdd (mSl (mVar 0) none (some (op1 uNeg (mC (.int 1))))) (mTup (mCons (mLst (mCons (mVar 3) (mCons (mVar 4) mNil))) mNil))) mNil)))))))) mPass)
  (mRet (op2 bAdd (mVar 1) (mIte (mTst (op2 bGt (mB fLen (mCons (mVar 0) mNil)) (mC (.int 1)))) (mLst (mCons (mRev2 (mVar 0)) mNil)) (mLst mNil))))))
def F__law_odd_points : Fun1 := defF 4 m__law_odd_points
theorem fin_own {args r : List SV} {d : D} : fin args (.ok (.rt (.own d)) r) = match back args r with
    | some l => .ok (.own d) l
    | none => .no := rfl
structure Gd (k w : Nat) (d : D) : Prop where
  fit : fit d = true
  lb : Lb k w d
structure GL (k w n : Nat) (xs : List D) : Prop where
  fit : fitL xs = true
  ls : Ls k w xs
  len : xs.length ≤ n
section
variable {k w w' n n' : Nat} {d : D} {xs ys : List D}
theorem GL.nil : GL k 0 0 [] := ⟨rfl, Ls.nil, Nat.le_refl _⟩
theorem GL.cons (h : Gd k w d) (h2 : GL k w' n xs) : GL k (w + 1 + w') (n + 1) (d :: xs) :=
  ⟨by unfold fitL; rw [h.fit, h2.fit] <;> rfl, Ls.cons h.lb h2.ls, by rw [List.length_cons]; have := h2.len; omega⟩
theorem fitL_app (h1 : fitL xs = true) (h2 : fitL ys = true) : fitL (xs ++ ys) = true := by
  refine fitL_all fun d hd => ?_
  rcases List.mem_append.mp hd with h | h
  · exact fit_mem h1 h
  · exact fit_mem h2 h
theorem GL.app (h : GL k w n xs) (h2 : GL k w' n' ys) : GL k (w + w') (n + n') (xs ++ ys) :=
  ⟨fitL_app h.fit h2.fit, Ls.app h.ls h2.ls, by rw [List.length_append]; have := h.len; have := h2.len; omega⟩
theorem GL.tup (h : GL k w n xs) (hn : n ≤ 1000) : Gd (k + 1) w (.tup xs) :=
  ⟨by unfold J.fit; rw [h.fit, decide_eq_true (show xs.length < sizeLine by rw [sizeLine_eq]; have := h.len; omega)] <;> rfl, Ls.tup h.ls⟩
theorem GL.lst (h : GL k w n xs) : Gd (k + 1) w (.lst xs) := ⟨rfl, Ls.lst h.ls⟩
theorem Gd.up {k' : Nat} (h : Gd k w d) (h1 : k ≤ k') (h2 : w ≤ w') : Gd k' w' d := ⟨h.fit, h.lb.up h1 h2⟩
theorem GL.up {k' : Nat} (h : GL k w n xs) (h1 : k ≤ k') (h2 : w ≤ w') (h3 : n ≤ n') : GL k' w' n' xs := ⟨h.fit, h.ls.up h1 h2, by have := h.len; omega⟩
theorem GL.all (h : ∀ d ∈ xs, Gd k w d) : GL k (xs.length * (w + 1)) xs.length xs := ⟨fitL_all fun d hd => (h d hd).fit, Ls.all fun d hd => (h d hd).lb, Nat.le_refl _⟩
theorem Gd.none : Gd k 0 .none := ⟨rfl, Lb.non⟩
theorem Gd.bl {b : Bool} : Gd k 0 (.bl b) := ⟨rfl, Lb.bl⟩
theorem Gd.int {i : Int} (h : i.natAbs < 10 ^ 12) : Gd k 41 (.int i) := ⟨rfl, Lb.int h⟩
theorem Gd.str {s : Str} (h : PyData.strOk s = true) (hl : s.length ≤ 100) : Gd k 100 (.str s) :=
  ⟨by unfold J.fit; rw [h, decide_eq_true (show s.length < sizeLine by rw [sizeLine_eq]; omega)] <;> rfl, (Lb.str h).up (Nat.le_refl _) hl⟩
end
/-! forms -/
def oddF (xs : List D) : List D := [.none, .lst xs, .tup (xs ++ [.none]), .tup (xs ++ [.tup [.str "zz", .int 0]]), .tup [.tup [.str "A", .int 1]], .tup [.tup [.str "a", .bl true]], .tup [.tup [.str "a", .str "1"]]] ++
  [.tup [.tup [.str "a"]], .tup [.lst [.str "a", .int 1]], .tup [.tup [.str "a", .int 1, .int 1]], .tup [.tup [.int 3, .int 1]], .tup [.tup [.str "b", .int 1], .tup [.str "a", .int 1]], .tup [.tup [.str "a", .int 1], .tup [.str "a", .int 2]]] ++ [.dK [], .str "a", .int 0]
theorem bAdd_tup {xs ys : List D} (h : xs.length + ys.length ≤ 1000) : bAdd (.tup xs) (.tup ys) = some (.val (.tup (xs ++ ys))) := by
  show (if xs.length + ys.length ≤ sizeLine then _ else _) = _
  rw [if_pos (by rw [sizeLine_eq]; omega)]
theorem bAdd_lst {xs ys : List D} (h : xs.length + ys.length ≤ 1000) : bAdd (.lst xs) (.lst ys) = some (.own (.lst (xs ++ ys))) := by
  show (if xs.length + ys.length ≤ sizeLine then _ else _) = _
  rw [if_pos (by rw [sizeLine_eq]; omega)]
theorem odd_forms_eq {xs : List D} (h : xs.length ≤ 100) : ∃ l, F__law_odd_forms [.val (.tup xs)] = .ok (.own (.lst (oddF xs))) l := by
  have key : ∃ a l, F__law_odd_forms [.val (.tup xs)] = .ok a l ∧ a = .own (.lst (oddF xs)) := by
    refine wp_defF ?_
    unfold m__law_odd_forms
    have e1 := bAdd_tup (xs := xs) (ys := [.none]) (by show xs.length + 1 ≤ _; omega)
    have e2 := bAdd_tup (xs := xs) (ys := [.tup [.str "zz", .int 0]]) (by show xs.length + 1 ≤ _; omega)
    simp only [e1, e2, fList, bAdd_lst, List.length_cons, List.length_nil, List.length_append, wp_bnd, wp_rt, wp_mC, wp_mVar, wp_mNil, wp_mCons, wp_op1, wp_op2, wp_mTst, wp_mTru, wp_mAnd, wp_mOr, wp_mNot, wp_mBl, wp_mAndV, wp_mOrV, wp_mNotV, wp_mIte, wp_lk2, wp_mChain, wp_mTup, wp_mLst, wp_mB, wp_mDk, wp_mYes, wp_mPass, wp_mBreak, wp_mCont, nxt, wp_mSeq, wp_mIf, wp_mRet, wp_mExpr, wp_mAsg, wp_mAsgT, wp_mPar, wp_mPut, wp_mApp, wp_mSl, wp_mPartN, wp_mPartS, wp_mRev2, wp_mMt, wp_mCall, wpC_val, wpC_own, wp_mCallR, wp_mItV, wp_mItF, wp_mRng1, wp_mFor, wp_mComp, sm_some, sm_none, sm_ite, sm_map, look_val, look_own, look_bx, looks_nil, looks_cons, toV_val, toV_own, toVs_nil, toVs_cons, List.getElem?_cons_zero, List.getElem?_cons_succ, List.set_cons_zero, List.set_cons_succ, List.map_cons, List.map_nil, List.cons_append, List.nil_append, List.replicate_succ, List.replicate_zero, List.append_nil, truD_bl, items_str, items_tup, items_lst, fLen_tup, fLen_lst, bIx_tup, bIx_lst, tyD_str, tyD_int, tyD_bl, tyD_tup, tyD_lst, isTD_eq, isTn, fin_val, back_val, back_nil, back_pbx, Option.map_some, bxD_box, bxD_pbx, fin_own, if_true, if_false, Bool.false_eq_true]
    rfl
  obtain ⟨a, l, e, rfl⟩ := key
  exact ⟨l, e⟩
theorem pairs_bad {xs : List D} (h : xs.all jPair = false) : pairsOf xs = none := by
  rw [pairsOf_all] at h
  cases e : pairsOf xs with
  | none => rfl
  | some ps => rw [e] at h; cases h
theorem named_bad {xs : List D} (h : xs.all jPair = false) : jNamed (.tup xs) = false := by
  simp only [jNamed, pairs_bad h]
theorem all_app_bad {α : Type} {f : α → Bool} {xs : List α} {x : α} (h : f x = false) : (xs ++ [x]).all f = false := by
  rw [List.all_append, List.all_cons, h] <;> simp
theorem form_bad {d : D} (h : jNamed d = false) : jForm d = false := by
  cases d with
  | tup xs => simp only [jForm, h, Bool.false_and]
  | _ => rfl
section
variable {ns : List Str} {ps : List (Str × Int)}
theorem odd_forms_bad (h : FmOk ns ps) (hns : ∀ s ∈ ns, Nm s) : ∀ v ∈ oddF (ps.map prI), J.fit v = true ∧ jForm v = false := by
  have hf := fm_fit h hns
  obtain ⟨hl, hfl⟩ := isD_tup hf
  intro v hv
  have hlen : (ps.map prI).length ≤ 3 := by rw [List.length_map]; exact h.few
  have ha : ∀ x, J.fit x = true → J.fit (.tup (ps.map prI ++ [x])) = true := fun x hx => by
    refine fit_tup ?_ (by rw [List.length_append, sizeLine_eq]; show _ + 1 < _; omega)
    intro d hd
    rcases List.mem_append.mp hd with h | h
    · exact fit_mem hfl h
    · rw [List.mem_singleton.mp h]; exact hx
  simp only [oddF, List.mem_append, List.mem_cons, List.not_mem_nil, or_false] at hv
  rcases hv with (((rfl | rfl | rfl | rfl | rfl | rfl | rfl) | (rfl | rfl | rfl | rfl | rfl | rfl)) | (rfl | rfl | rfl))
  · exact ⟨rfl, rfl⟩
  · exact ⟨rfl, rfl⟩
  · exact ⟨ha _ rfl, form_bad (named_bad (all_app_bad rfl))⟩
  · refine ⟨ha _ (by decide +kernel), ?_⟩
    have e : ps.map prI ++ [.tup [.str "zz", .int 0]] = (ps ++ [((Str.ofString "zz", (0 : Int)) : Str × Int)]).map prI := by rw [List.map_append] <;> rfl
    rw [e]
    simp only [jForm, fm_pairs]
    have e2 : (List.map prS (ps ++ [((Str.ofString "zz", (0 : Int)) : Str × Int)])).all (fun p => jFac p.2) = false := by
      rw [List.map_append]
      exact all_app_bad (f := fun p : D × D => jFac p.2) (x := prS (Str.ofString "zz", 0)) rfl
    rw [e2, Bool.and_false]
  all_goals exact ⟨by decide +kernel, by decide +kernel⟩
end
/-! books -/
def bk1 (ns : List Str) (rows : List D) (x : D) : D := .tup [.tup (ns.map .str), .tup (rows ++ [x])]
def oddB0 (ns : List Str) (rows : List D) : List D := [.none, .lst [.tup (ns.map .str), .tup rows], .tup [.tup (ns.map .str)], .tup [.lst (ns.map .str), .tup rows], .tup [.tup (ns.map .str), .lst rows], .tup [.tup (ns.map .str), .tup rows, .tup []], .tup (ns.map .str), .dK [], .str ""]
def oddB1 (ns : List Str) (rows : List D) : List D := [.tup [.tup (ns.map .str ++ [.str "A"]), .tup rows], .tup [.tup (ns.map .str ++ [.int 3]), .tup rows], bk1 ns rows .none, bk1 ns rows (.lst [.tup [], .str ">=", .int 0])]
def oddB2 (ns : List Str) (rows : List D) : List D := [bk1 ns rows (.tup [.tup [.tup [.str "nobody0", .int 1]], .str ">", .int 0]), bk1 ns rows (.tup [.tup [], .str "<", .int 0])]
def oddB3 (ns : List Str) (rows : List D) : List D := [bk1 ns rows (.tup [.tup [], .str ">", .str "0"])]
def oddB4 (ns : List Str) (rows : List D) : List D := [bk1 ns rows (.tup [.tup [], .str ">", .bl true]), bk1 ns rows (.tup [.tup [], .str ">"]), bk1 ns rows (.tup [.tup [], .str "far", .int 0])]
def oddB5 (ns : List Str) (rows : List D) : List D := [bk1 ns rows (.tup [.tup [], .str ">=", .tup []]), bk1 ns rows (.tup [.tup [], .str "far", .tup [.tup [.str "nobody0", .int 1]]])]
def oddB6 (ns : List Str) (rows : List D) : List D := [bk1 ns rows (.tup [])]
def oddB7 (ns : List Str) (rows : List D) : List D := [bk1 ns rows (.tup [.tup [], .none, .int 0]), bk1 ns rows (.tup [.tup [], .lst [], .int 0]), bk1 ns rows (.tup [.tup [], .str ">=", .int 0, .int 1])]
def oddB8 (ns : List Str) : List D := if 1 < ns.length then [.tup [.tup (ns.map .str).reverse, .tup []]] else []
def oddB9 (ns : List Str) (rows : List D) : List D := if ns ≠ [] then [.tup [.tup (ns.map .str ++ cut (ns.map .str) (some (-1)) none), .tup rows]] else []
def oddB (ns : List Str) (rows : List D) : List D := ((((((((oddB0 ns rows ++ oddB1 ns rows) ++ oddB2 ns rows) ++ oddB3 ns rows) ++ oddB4 ns rows) ++ oddB5 ns rows) ++ oddB6 ns rows) ++ oddB7 ns rows) ++ oddB8 ns) ++ oddB9 ns rows
theorem bNe_names {ns : List Str} (h : ∀ s ∈ ns, Nm s) : bNe (.tup (ns.map .str)) (.tup []) = some (.val (.bl (decide (ns ≠ [])))) := by
  have h1 := shaped_strs (ss := ns) fun s m => (h s m).ok
  have h2 := shaped_strs (ss := []) fun s m => (by cases m)
  unfold bNe eqD
  simp only [toPy, toPyL_strs, toPyL, Option.map_some, h1]
  rw [if_pos ⟨trivial, h2⟩]
  cases ns with
  | nil => rfl
  | cons a l => rfl
/-- a book with one more row -/
theorem wp_rw {a b : List D} {m : M EV} {P : EV → List SV → Prop} {x0 x1 x2 : SV} (hb : b.length ≤ 100) (f : D) (hm : ∀ Q : EV → List SV → Prop, Q (.val f) [x0, x1, x2, .val (.tup a), .val (.tup b)] → wp m Q [x0, x1, x2, .val (.tup a), .val (.tup b)])
    (hp : P (.val (.tup [.tup a, .tup (b ++ [f])])) [x0, x1, x2, .val (.tup a), .val (.tup b)]) : wp (mTup (mCons (mVar 3) (mCons (op2 bAdd (mVar 4) (mTup (mCons m mNil))) mNil))) P [x0, x1, x2, .val (.tup a), .val (.tup b)] := by
  simp only [wp_bnd, wp_rt, wp_mC, wp_mVar, wp_mNil, wp_mCons, wp_op1, wp_op2, wp_mTst, wp_mTru, wp_mAnd, wp_mOr, wp_mNot, wp_mBl, wp_mAndV, wp_mOrV, wp_mNotV, wp_mIte, wp_lk2, wp_mChain, wp_mTup, wp_mLst, wp_mB, wp_mDk, wp_mYes, wp_mPass, wp_mBreak, wp_mCont, nxt, wp_mSeq, wp_mIf, wp_mRet, wp_mExpr, wp_mAsg, wp_mAsgT, wp_mPar, wp_mPut, wp_mApp, wp_mSl, wp_mPartN, wp_mPartS, wp_mRev2, wp_mMt, wp_mCall, wpC_val, wpC_own, wp_mCallR, wp_mItV, wp_mItF, wp_mRng1, wp_mFor, wp_mComp, sm_some, sm_none, sm_ite, sm_map, look_val, look_own, look_bx, looks_nil, looks_cons, toV_val, toV_own, toVs_nil, toVs_cons, List.getElem?_cons_zero, List.getElem?_cons_succ, List.set_cons_zero, List.set_cons_succ, List.map_cons, List.map_nil, List.cons_append, List.nil_append, List.replicate_succ, List.replicate_zero, List.append_nil, truD_bl, items_str, items_tup, items_lst, fLen_tup, fLen_lst, bIx_tup, bIx_lst, tyD_str, tyD_int, tyD_bl, tyD_tup, tyD_lst, isTD_eq, isTn, fin_val, back_val, back_nil, back_pbx, Option.map_some, bxD_box, bxD_pbx, fin_own, if_true, if_false, Bool.false_eq_true]
  refine hm _ ?_
  simp only [bAdd_tup (xs := b) (ys := [f]) (by show _ + 1 ≤ _; omega), wp_bnd, wp_rt, wp_mC, wp_mVar, wp_mNil, wp_mCons, wp_op1, wp_op2, wp_mTst, wp_mTru, wp_mAnd, wp_mOr, wp_mNot, wp_mBl, wp_mAndV, wp_mOrV, wp_mNotV, wp_mIte, wp_lk2, wp_mChain, wp_mTup, wp_mLst, wp_mB, wp_mDk, wp_mYes, wp_mPass, wp_mBreak, wp_mCont, nxt, wp_mSeq, wp_mIf, wp_mRet, wp_mExpr, wp_mAsg, wp_mAsgT, wp_mPar, wp_mPut, wp_mApp, wp_mSl, wp_mPartN, wp_mPartS, wp_mRev2, wp_mMt, wp_mCall, wpC_val, wpC_own, wp_mCallR, wp_mItV, wp_mItF, wp_mRng1, wp_mFor, wp_mComp, sm_some, sm_none, sm_ite, sm_map, look_val, look_own, look_bx, looks_nil, looks_cons, toV_val, toV_own, toVs_nil, toVs_cons, List.getElem?_cons_zero, List.getElem?_cons_succ, List.set_cons_zero, List.set_cons_succ, List.map_cons, List.map_nil, List.cons_append, List.nil_append, List.replicate_succ, List.replicate_zero, List.append_nil, truD_bl, items_str, items_tup, items_lst, fLen_tup, fLen_lst, bIx_tup, bIx_lst, tyD_str, tyD_int, tyD_bl, tyD_tup, tyD_lst, isTD_eq, isTn, fin_val, back_val, back_nil, back_pbx, Option.map_some, bxD_box, bxD_pbx, fin_own, if_true, if_false, Bool.false_eq_true]
  exact hp
theorem wp_add {a b : List D} {m : M (List EV)} {P : Fl → List SV → Prop} {c : List D} {x0 x1 : SV} (hc : c.length ≤ 100) (ys : List D) (hy : ys.length ≤ 100) (hm : ∀ Q : EV → List SV → Prop, Q (.own (.lst ys)) [x0, x1, .box (.lst c), .val (.tup a), .val (.tup b)] → wp (mLst m) Q [x0, x1, .box (.lst c), .val (.tup a), .val (.tup b)])
    (hp : P .nx [x0, x1, .box (.lst (c ++ ys)), .val (.tup a), .val (.tup b)]) : wp (mAsg 2 true (op2 bAdd (mVar 2) (mLst m))) P [x0, x1, .box (.lst c), .val (.tup a), .val (.tup b)] := by
  rw [wp_mAsg, wp_op2, wp_mVar]
  simp only [List.getElem?_cons_zero, List.getElem?_cons_succ, sm_some]
  refine hm _ ?_
  simp only [bAdd_lst (xs := c) (ys := ys) (by omega), wp_bnd, wp_rt, wp_mC, wp_mVar, wp_mNil, wp_mCons, wp_op1, wp_op2, wp_mTst, wp_mTru, wp_mAnd, wp_mOr, wp_mNot, wp_mBl, wp_mAndV, wp_mOrV, wp_mNotV, wp_mIte, wp_lk2, wp_mChain, wp_mTup, wp_mLst, wp_mB, wp_mDk, wp_mYes, wp_mPass, wp_mBreak, wp_mCont, nxt, wp_mSeq, wp_mIf, wp_mRet, wp_mExpr, wp_mAsg, wp_mAsgT, wp_mPar, wp_mPut, wp_mApp, wp_mSl, wp_mPartN, wp_mPartS, wp_mRev2, wp_mMt, wp_mCall, wpC_val, wpC_own, wp_mCallR, wp_mItV, wp_mItF, wp_mRng1, wp_mFor, wp_mComp, sm_some, sm_none, sm_ite, sm_map, look_val, look_own, look_bx, looks_nil, looks_cons, toV_val, toV_own, toVs_nil, toVs_cons, List.getElem?_cons_zero, List.getElem?_cons_succ, List.set_cons_zero, List.set_cons_succ, List.map_cons, List.map_nil, List.cons_append, List.nil_append, List.replicate_succ, List.replicate_zero, List.append_nil, truD_bl, items_str, items_tup, items_lst, fLen_tup, fLen_lst, bIx_tup, bIx_lst, tyD_str, tyD_int, tyD_bl, tyD_tup, tyD_lst, isTD_eq, isTn, fin_val, back_val, back_nil, back_pbx, Option.map_some, bxD_box, bxD_pbx, fin_own, if_true, if_false, Bool.false_eq_true]
  exact hp
theorem lst_of {r : List SV} {m : M (List EV)} {evs : List EV} {ys : List D} (h : ∀ Q : List EV → List SV → Prop, Q evs r → wp m Q r) (hv : toVs evs r = some (ys, r)) : ∀ Q : EV → List SV → Prop, Q (.own (.lst ys)) r → wp (mLst m) Q r := by
  intro Q hq
  rw [wp_mLst]
  refine h _ ?_
  rw [hv]
  exact hq
theorem wp_rc {a b : List D} {m : M EV} {P : EV → List SV → Prop} {x0 x1 x2 : SV} {f : D} (hb : b.length ≤ 100) (hm : ∀ r, m r = .ok (.val f) r)
    (hp : P (.val (.tup [.tup a, .tup (b ++ [f])])) [x0, x1, x2, .val (.tup a), .val (.tup b)]) : wp (mTup (mCons (mVar 3) (mCons (op2 bAdd (mVar 4) (mTup (mCons m mNil))) mNil))) P [x0, x1, x2, .val (.tup a), .val (.tup b)] :=
  wp_rw hb f (fun Q hq => wp_of (hm _) hq) hp
theorem wp_two {m : M EV} {ms : M (List EV)} {P : List EV → List SV → Prop} {r : List SV} (h : wp m (fun ev r1 => wp ms (fun evs r2 => P (ev :: evs) r2) r1) r) : wp (mCons m ms) P r := by rw [wp_mCons]; exact h
theorem wp_sq {a b : M Fl} {P : Fl → List SV → Prop} {r : List SV} (h : wp a (nxt P b) r) : wp (mSeq a b) P r := by rw [wp_mSeq]; exact h
theorem wp_app1 {a b : List D} {m : M EV} {P : Fl → List SV → Prop} {c : List D} {x0 x1 : SV} (hc : c.length ≤ 100) (f : D) (hm : ∀ Q : EV → List SV → Prop, Q (.val f) [x0, x1, .box (.lst c), .val (.tup a), .val (.tup b)] → wp m Q [x0, x1, .box (.lst c), .val (.tup a), .val (.tup b)])
    (hp : P .nx [x0, x1, .box (.lst (c ++ [f])), .val (.tup a), .val (.tup b)]) : wp (mExpr (mApp 2 (mCons m mNil))) P [x0, x1, .box (.lst c), .val (.tup a), .val (.tup b)] := by
  rw [wp_mExpr, wp_mApp]
  simp only [List.getElem?_cons_zero, List.getElem?_cons_succ, sm_some, bxD_box, isL]
  refine ⟨trivial, hm _ ?_⟩
  simp only [appD, SV.put, sm_ite, wp_bnd, wp_rt, wp_mC, wp_mVar, wp_mNil, wp_mCons, wp_op1, wp_op2, wp_mTst, wp_mTru, wp_mAnd, wp_mOr, wp_mNot, wp_mBl, wp_mAndV, wp_mOrV, wp_mNotV, wp_mIte, wp_lk2, wp_mChain, wp_mTup, wp_mLst, wp_mB, wp_mDk, wp_mYes, wp_mPass, wp_mBreak, wp_mCont, nxt, wp_mSeq, wp_mIf, wp_mRet, wp_mExpr, wp_mAsg, wp_mAsgT, wp_mPar, wp_mPut, wp_mApp, wp_mSl, wp_mPartN, wp_mPartS, wp_mRev2, wp_mMt, wp_mCall, wpC_val, wpC_own, wp_mCallR, wp_mItV, wp_mItF, wp_mRng1, wp_mFor, wp_mComp, sm_some, sm_none, sm_ite, sm_map, look_val, look_own, look_bx, looks_nil, looks_cons, toV_val, toV_own, toVs_nil, toVs_cons, List.getElem?_cons_zero, List.getElem?_cons_succ, List.set_cons_zero, List.set_cons_succ, List.map_cons, List.map_nil, List.cons_append, List.nil_append, List.replicate_succ, List.replicate_zero, List.append_nil, truD_bl, items_str, items_tup, items_lst, fLen_tup, fLen_lst, bIx_tup, bIx_lst, tyD_str, tyD_int, tyD_bl, tyD_tup, tyD_lst, isTD_eq, isTn, fin_val, back_val, back_nil, back_pbx, Option.map_some, bxD_box, bxD_pbx, fin_own, if_true, if_false, Bool.false_eq_true]
  exact ⟨by rw [sizeLine_eq]; omega, hp⟩
theorem odd_books_eq {ns : List Str} {rows : List D} (h : BkOk ns rows) : ∃ l, F__law_odd_books [.val (bkD ns rows)] = .ok (.own (.lst (oddB ns rows))) l := by
  have hr := h.fewr
  have hn := h.few
  have hb : rows.length ≤ 100 := by omega
  have key : ∃ a l, F__law_odd_books [.val (bkD ns rows)] = .ok a l ∧ a = .own (.lst (oddB ns rows)) := by
    have e2 : ∀ x, bAdd (.tup rows) (.tup [x]) = some (.val (.tup (rows ++ [x]))) := fun x => bAdd_tup (by show _ + 1 ≤ _; omega)
    have e4 : bAdd (.tup [.tup [], .str ">=", .int 0]) (.tup [.int 1]) = some (.val (.tup [.tup [], .str ">=", .int 0, .int 1])) := rfl
    refine wp_defF ?_
    unfold m__law_odd_books bkD
    have e1 : ∀ x, bAdd (.tup (ns.map .str)) (.tup [x]) = some (.val (.tup (ns.map .str ++ [x]))) := fun x => bAdd_tup (by rw [List.length_map]; show _ + 1 ≤ _; omega)
    refine wp_sq ?_
    generalize hk : nxt _ _ = Kt
    simp only [tgT, tgL, tgN, wp_bnd, wp_rt, wp_mC, wp_mVar, wp_mNil, wp_mCons, wp_op1, wp_op2, wp_mTst, wp_mTru, wp_mAnd, wp_mOr, wp_mNot, wp_mBl, wp_mAndV, wp_mOrV, wp_mNotV, wp_mIte, wp_lk2, wp_mChain, wp_mTup, wp_mLst, wp_mB, wp_mDk, wp_mYes, wp_mPass, wp_mBreak, wp_mCont, nxt, wp_mSeq, wp_mIf, wp_mRet, wp_mExpr, wp_mAsg, wp_mAsgT, wp_mPar, wp_mPut, wp_mApp, wp_mSl, wp_mPartN, wp_mPartS, wp_mRev2, wp_mMt, wp_mCall, wpC_val, wpC_own, wp_mCallR, wp_mItV, wp_mItF, wp_mRng1, wp_mFor, wp_mComp, sm_some, sm_none, sm_ite, sm_map, look_val, look_own, look_bx, looks_nil, looks_cons, toV_val, toV_own, toVs_nil, toVs_cons, List.getElem?_cons_zero, List.getElem?_cons_succ, List.set_cons_zero, List.set_cons_succ, List.map_cons, List.map_nil, List.cons_append, List.nil_append, List.replicate_succ, List.replicate_zero, List.append_nil, truD_bl, items_str, items_tup, items_lst, fLen_tup, fLen_lst, bIx_tup, bIx_lst, tyD_str, tyD_int, tyD_bl, tyD_tup, tyD_lst, isTD_eq, isTn, fin_val, back_val, back_nil, back_pbx, Option.map_some, bxD_box, bxD_pbx, fin_own, if_true, if_false, Bool.false_eq_true]
    subst hk
    show wp _ _ _
    refine wp_sq ?_
    generalize hk : nxt _ _ = Kt
    simp only [wp_bnd, wp_rt, wp_mC, wp_mVar, wp_mNil, wp_mCons, wp_op1, wp_op2, wp_mTst, wp_mTru, wp_mAnd, wp_mOr, wp_mNot, wp_mBl, wp_mAndV, wp_mOrV, wp_mNotV, wp_mIte, wp_lk2, wp_mChain, wp_mTup, wp_mLst, wp_mB, wp_mDk, wp_mYes, wp_mPass, wp_mBreak, wp_mCont, nxt, wp_mSeq, wp_mIf, wp_mRet, wp_mExpr, wp_mAsg, wp_mAsgT, wp_mPar, wp_mPut, wp_mApp, wp_mSl, wp_mPartN, wp_mPartS, wp_mRev2, wp_mMt, wp_mCall, wpC_val, wpC_own, wp_mCallR, wp_mItV, wp_mItF, wp_mRng1, wp_mFor, wp_mComp, sm_some, sm_none, sm_ite, sm_map, look_val, look_own, look_bx, looks_nil, looks_cons, toV_val, toV_own, toVs_nil, toVs_cons, List.getElem?_cons_zero, List.getElem?_cons_succ, List.set_cons_zero, List.set_cons_succ, List.map_cons, List.map_nil, List.cons_append, List.nil_append, List.replicate_succ, List.replicate_zero, List.append_nil, truD_bl, items_str, items_tup, items_lst, fLen_tup, fLen_lst, bIx_tup, bIx_lst, tyD_str, tyD_int, tyD_bl, tyD_tup, tyD_lst, isTD_eq, isTn, fin_val, back_val, back_nil, back_pbx, Option.map_some, bxD_box, bxD_pbx, fin_own, if_true, if_false, Bool.false_eq_true]
    subst hk
    show wp _ _ _
    refine wp_sq ?_
    generalize hk : nxt _ _ = Kt
    have e0 : bAdd (.tup [.tup (ns.map .str), .tup rows]) (.tup [.tup []]) = some (.val (.tup [.tup (ns.map .str), .tup rows, .tup []])) := rfl
    simp only [fList, e0, wp_bnd, wp_rt, wp_mC, wp_mVar, wp_mNil, wp_mCons, wp_op1, wp_op2, wp_mTst, wp_mTru, wp_mAnd, wp_mOr, wp_mNot, wp_mBl, wp_mAndV, wp_mOrV, wp_mNotV, wp_mIte, wp_lk2, wp_mChain, wp_mTup, wp_mLst, wp_mB, wp_mDk, wp_mYes, wp_mPass, wp_mBreak, wp_mCont, nxt, wp_mSeq, wp_mIf, wp_mRet, wp_mExpr, wp_mAsg, wp_mAsgT, wp_mPar, wp_mPut, wp_mApp, wp_mSl, wp_mPartN, wp_mPartS, wp_mRev2, wp_mMt, wp_mCall, wpC_val, wpC_own, wp_mCallR, wp_mItV, wp_mItF, wp_mRng1, wp_mFor, wp_mComp, sm_some, sm_none, sm_ite, sm_map, look_val, look_own, look_bx, looks_nil, looks_cons, toV_val, toV_own, toVs_nil, toVs_cons, List.getElem?_cons_zero, List.getElem?_cons_succ, List.set_cons_zero, List.set_cons_succ, List.map_cons, List.map_nil, List.cons_append, List.nil_append, List.replicate_succ, List.replicate_zero, List.append_nil, truD_bl, items_str, items_tup, items_lst, fLen_tup, fLen_lst, bIx_tup, bIx_lst, tyD_str, tyD_int, tyD_bl, tyD_tup, tyD_lst, isTD_eq, isTn, fin_val, back_val, back_nil, back_pbx, Option.map_some, bxD_box, bxD_pbx, fin_own, if_true, if_false, Bool.false_eq_true]
    subst hk
    show wp _ _ _
    refine wp_sq ?_
    refine wp_add (c := oddB0 ns rows) (show 9 ≤ 100 by omega) (oddB1 ns rows) (show 4 ≤ 100 by omega) (lst_of (evs := (oddB1 ns rows).map EV.val) (fun Q hq => ?_) rfl) ?_
    · simp only [e1, e2, fList, wp_bnd, wp_rt, wp_mC, wp_mVar, wp_mNil, wp_mCons, wp_op1, wp_op2, wp_mTst, wp_mTru, wp_mAnd, wp_mOr, wp_mNot, wp_mBl, wp_mAndV, wp_mOrV, wp_mNotV, wp_mIte, wp_lk2, wp_mChain, wp_mTup, wp_mLst, wp_mB, wp_mDk, wp_mYes, wp_mPass, wp_mBreak, wp_mCont, nxt, wp_mSeq, wp_mIf, wp_mRet, wp_mExpr, wp_mAsg, wp_mAsgT, wp_mPar, wp_mPut, wp_mApp, wp_mSl, wp_mPartN, wp_mPartS, wp_mRev2, wp_mMt, wp_mCall, wpC_val, wpC_own, wp_mCallR, wp_mItV, wp_mItF, wp_mRng1, wp_mFor, wp_mComp, sm_some, sm_none, sm_ite, sm_map, look_val, look_own, look_bx, looks_nil, looks_cons, toV_val, toV_own, toVs_nil, toVs_cons, List.getElem?_cons_zero, List.getElem?_cons_succ, List.set_cons_zero, List.set_cons_succ, List.map_cons, List.map_nil, List.cons_append, List.nil_append, List.replicate_succ, List.replicate_zero, List.append_nil, truD_bl, items_str, items_tup, items_lst, fLen_tup, fLen_lst, bIx_tup, bIx_lst, tyD_str, tyD_int, tyD_bl, tyD_tup, tyD_lst, isTD_eq, isTn, fin_val, back_val, back_nil, back_pbx, Option.map_some, bxD_box, bxD_pbx, fin_own, if_true, if_false, Bool.false_eq_true]
      exact hq
    show wp _ _ _
    refine wp_sq ?_
    refine wp_add (by show 13 ≤ 100; omega) (oddB2 ns rows) (show 2 ≤ 100 by omega) (lst_of (evs := (oddB2 ns rows).map EV.val) (fun Q hq => ?_) rfl) ?_
    · simp only [e1, e2, fList, wp_bnd, wp_rt, wp_mC, wp_mVar, wp_mNil, wp_mCons, wp_op1, wp_op2, wp_mTst, wp_mTru, wp_mAnd, wp_mOr, wp_mNot, wp_mBl, wp_mAndV, wp_mOrV, wp_mNotV, wp_mIte, wp_lk2, wp_mChain, wp_mTup, wp_mLst, wp_mB, wp_mDk, wp_mYes, wp_mPass, wp_mBreak, wp_mCont, nxt, wp_mSeq, wp_mIf, wp_mRet, wp_mExpr, wp_mAsg, wp_mAsgT, wp_mPar, wp_mPut, wp_mApp, wp_mSl, wp_mPartN, wp_mPartS, wp_mRev2, wp_mMt, wp_mCall, wpC_val, wpC_own, wp_mCallR, wp_mItV, wp_mItF, wp_mRng1, wp_mFor, wp_mComp, sm_some, sm_none, sm_ite, sm_map, look_val, look_own, look_bx, looks_nil, looks_cons, toV_val, toV_own, toVs_nil, toVs_cons, List.getElem?_cons_zero, List.getElem?_cons_succ, List.set_cons_zero, List.set_cons_succ, List.map_cons, List.map_nil, List.cons_append, List.nil_append, List.replicate_succ, List.replicate_zero, List.append_nil, truD_bl, items_str, items_tup, items_lst, fLen_tup, fLen_lst, bIx_tup, bIx_lst, tyD_str, tyD_int, tyD_bl, tyD_tup, tyD_lst, isTD_eq, isTn, fin_val, back_val, back_nil, back_pbx, Option.map_some, bxD_box, bxD_pbx, fin_own, if_true, if_false, Bool.false_eq_true]
      exact hq
    show wp _ _ _
    refine wp_sq ?_
    refine wp_app1 (by show 15 ≤ 100; omega) (bk1 ns rows (.tup [.tup [], .str ">", .str "0"])) (fun Q hq => ?_) ?_
    · simp only [e1, e2, fList, wp_bnd, wp_rt, wp_mC, wp_mVar, wp_mNil, wp_mCons, wp_op1, wp_op2, wp_mTst, wp_mTru, wp_mAnd, wp_mOr, wp_mNot, wp_mBl, wp_mAndV, wp_mOrV, wp_mNotV, wp_mIte, wp_lk2, wp_mChain, wp_mTup, wp_mLst, wp_mB, wp_mDk, wp_mYes, wp_mPass, wp_mBreak, wp_mCont, nxt, wp_mSeq, wp_mIf, wp_mRet, wp_mExpr, wp_mAsg, wp_mAsgT, wp_mPar, wp_mPut, wp_mApp, wp_mSl, wp_mPartN, wp_mPartS, wp_mRev2, wp_mMt, wp_mCall, wpC_val, wpC_own, wp_mCallR, wp_mItV, wp_mItF, wp_mRng1, wp_mFor, wp_mComp, sm_some, sm_none, sm_ite, sm_map, look_val, look_own, look_bx, looks_nil, looks_cons, toV_val, toV_own, toVs_nil, toVs_cons, List.getElem?_cons_zero, List.getElem?_cons_succ, List.set_cons_zero, List.set_cons_succ, List.map_cons, List.map_nil, List.cons_append, List.nil_append, List.replicate_succ, List.replicate_zero, List.append_nil, truD_bl, items_str, items_tup, items_lst, fLen_tup, fLen_lst, bIx_tup, bIx_lst, tyD_str, tyD_int, tyD_bl, tyD_tup, tyD_lst, isTD_eq, isTn, fin_val, back_val, back_nil, back_pbx, Option.map_some, bxD_box, bxD_pbx, fin_own, if_true, if_false, Bool.false_eq_true]
      exact hq
    show wp _ _ _
    refine wp_sq ?_
    refine wp_add (by show 16 ≤ 100; omega) (oddB4 ns rows) (show 3 ≤ 100 by omega) (lst_of (evs := (oddB4 ns rows).map EV.val) (fun Q hq => ?_) rfl) ?_
    · simp only [e1, e2, e4, fList, wp_bnd, wp_rt, wp_mC, wp_mVar, wp_mNil, wp_mCons, wp_op1, wp_op2, wp_mTst, wp_mTru, wp_mAnd, wp_mOr, wp_mNot, wp_mBl, wp_mAndV, wp_mOrV, wp_mNotV, wp_mIte, wp_lk2, wp_mChain, wp_mTup, wp_mLst, wp_mB, wp_mDk, wp_mYes, wp_mPass, wp_mBreak, wp_mCont, nxt, wp_mSeq, wp_mIf, wp_mRet, wp_mExpr, wp_mAsg, wp_mAsgT, wp_mPar, wp_mPut, wp_mApp, wp_mSl, wp_mPartN, wp_mPartS, wp_mRev2, wp_mMt, wp_mCall, wpC_val, wpC_own, wp_mCallR, wp_mItV, wp_mItF, wp_mRng1, wp_mFor, wp_mComp, sm_some, sm_none, sm_ite, sm_map, look_val, look_own, look_bx, looks_nil, looks_cons, toV_val, toV_own, toVs_nil, toVs_cons, List.getElem?_cons_zero, List.getElem?_cons_succ, List.set_cons_zero, List.set_cons_succ, List.map_cons, List.map_nil, List.cons_append, List.nil_append, List.replicate_succ, List.replicate_zero, List.append_nil, truD_bl, items_str, items_tup, items_lst, fLen_tup, fLen_lst, bIx_tup, bIx_lst, tyD_str, tyD_int, tyD_bl, tyD_tup, tyD_lst, isTD_eq, isTn, fin_val, back_val, back_nil, back_pbx, Option.map_some, bxD_box, bxD_pbx, fin_own, if_true, if_false, Bool.false_eq_true]
      exact hq
    show wp _ _ _
    refine wp_sq ?_
    refine wp_add (by show 19 ≤ 100; omega) (oddB5 ns rows) (show 2 ≤ 100 by omega) (lst_of (evs := (oddB5 ns rows).map EV.val) (fun Q hq => ?_) rfl) ?_
    · simp only [e1, e2, e4, fList, wp_bnd, wp_rt, wp_mC, wp_mVar, wp_mNil, wp_mCons, wp_op1, wp_op2, wp_mTst, wp_mTru, wp_mAnd, wp_mOr, wp_mNot, wp_mBl, wp_mAndV, wp_mOrV, wp_mNotV, wp_mIte, wp_lk2, wp_mChain, wp_mTup, wp_mLst, wp_mB, wp_mDk, wp_mYes, wp_mPass, wp_mBreak, wp_mCont, nxt, wp_mSeq, wp_mIf, wp_mRet, wp_mExpr, wp_mAsg, wp_mAsgT, wp_mPar, wp_mPut, wp_mApp, wp_mSl, wp_mPartN, wp_mPartS, wp_mRev2, wp_mMt, wp_mCall, wpC_val, wpC_own, wp_mCallR, wp_mItV, wp_mItF, wp_mRng1, wp_mFor, wp_mComp, sm_some, sm_none, sm_ite, sm_map, look_val, look_own, look_bx, looks_nil, looks_cons, toV_val, toV_own, toVs_nil, toVs_cons, List.getElem?_cons_zero, List.getElem?_cons_succ, List.set_cons_zero, List.set_cons_succ, List.map_cons, List.map_nil, List.cons_append, List.nil_append, List.replicate_succ, List.replicate_zero, List.append_nil, truD_bl, items_str, items_tup, items_lst, fLen_tup, fLen_lst, bIx_tup, bIx_lst, tyD_str, tyD_int, tyD_bl, tyD_tup, tyD_lst, isTD_eq, isTn, fin_val, back_val, back_nil, back_pbx, Option.map_some, bxD_box, bxD_pbx, fin_own, if_true, if_false, Bool.false_eq_true]
      exact hq
    show wp _ _ _
    refine wp_sq ?_
    refine wp_app1 (by show 21 ≤ 100; omega) (bk1 ns rows (.tup [])) (fun Q hq => ?_) ?_
    · simp only [e1, e2, fList, wp_bnd, wp_rt, wp_mC, wp_mVar, wp_mNil, wp_mCons, wp_op1, wp_op2, wp_mTst, wp_mTru, wp_mAnd, wp_mOr, wp_mNot, wp_mBl, wp_mAndV, wp_mOrV, wp_mNotV, wp_mIte, wp_lk2, wp_mChain, wp_mTup, wp_mLst, wp_mB, wp_mDk, wp_mYes, wp_mPass, wp_mBreak, wp_mCont, nxt, wp_mSeq, wp_mIf, wp_mRet, wp_mExpr, wp_mAsg, wp_mAsgT, wp_mPar, wp_mPut, wp_mApp, wp_mSl, wp_mPartN, wp_mPartS, wp_mRev2, wp_mMt, wp_mCall, wpC_val, wpC_own, wp_mCallR, wp_mItV, wp_mItF, wp_mRng1, wp_mFor, wp_mComp, sm_some, sm_none, sm_ite, sm_map, look_val, look_own, look_bx, looks_nil, looks_cons, toV_val, toV_own, toVs_nil, toVs_cons, List.getElem?_cons_zero, List.getElem?_cons_succ, List.set_cons_zero, List.set_cons_succ, List.map_cons, List.map_nil, List.cons_append, List.nil_append, List.replicate_succ, List.replicate_zero, List.append_nil, truD_bl, items_str, items_tup, items_lst, fLen_tup, fLen_lst, bIx_tup, bIx_lst, tyD_str, tyD_int, tyD_bl, tyD_tup, tyD_lst, isTD_eq, isTn, fin_val, back_val, back_nil, back_pbx, Option.map_some, bxD_box, bxD_pbx, fin_own, if_true, if_false, Bool.false_eq_true]
      exact hq
    show wp _ _ _
    refine wp_sq ?_
    refine wp_add (by show 22 ≤ 100; omega) (oddB7 ns rows) (show 3 ≤ 100 by omega) (lst_of (evs := (oddB7 ns rows).map EV.val) (fun Q hq => ?_) rfl) ?_
    · simp only [e1, e2, e4, fList, wp_bnd, wp_rt, wp_mC, wp_mVar, wp_mNil, wp_mCons, wp_op1, wp_op2, wp_mTst, wp_mTru, wp_mAnd, wp_mOr, wp_mNot, wp_mBl, wp_mAndV, wp_mOrV, wp_mNotV, wp_mIte, wp_lk2, wp_mChain, wp_mTup, wp_mLst, wp_mB, wp_mDk, wp_mYes, wp_mPass, wp_mBreak, wp_mCont, nxt, wp_mSeq, wp_mIf, wp_mRet, wp_mExpr, wp_mAsg, wp_mAsgT, wp_mPar, wp_mPut, wp_mApp, wp_mSl, wp_mPartN, wp_mPartS, wp_mRev2, wp_mMt, wp_mCall, wpC_val, wpC_own, wp_mCallR, wp_mItV, wp_mItF, wp_mRng1, wp_mFor, wp_mComp, sm_some, sm_none, sm_ite, sm_map, look_val, look_own, look_bx, looks_nil, looks_cons, toV_val, toV_own, toVs_nil, toVs_cons, List.getElem?_cons_zero, List.getElem?_cons_succ, List.set_cons_zero, List.set_cons_succ, List.map_cons, List.map_nil, List.cons_append, List.nil_append, List.replicate_succ, List.replicate_zero, List.append_nil, truD_bl, items_str, items_tup, items_lst, fLen_tup, fLen_lst, bIx_tup, bIx_lst, tyD_str, tyD_int, tyD_bl, tyD_tup, tyD_lst, isTD_eq, isTn, fin_val, back_val, back_nil, back_pbx, Option.map_some, bxD_box, bxD_pbx, fin_own, if_true, if_false, Bool.false_eq_true]
      exact hq
    show wp _ _ _
    show wp (mSeq _ _) _ [_, _, .box (.lst (((((((oddB0 ns rows ++ oddB1 ns rows) ++ oddB2 ns rows) ++ oddB3 ns rows) ++ oddB4 ns rows) ++ oddB5 ns rows) ++ oddB6 ns rows) ++ oddB7 ns rows)), _, _]
    have h3 : (((((((oddB0 ns rows ++ oddB1 ns rows) ++ oddB2 ns rows) ++ oddB3 ns rows) ++ oddB4 ns rows) ++ oddB5 ns rows) ++ oddB6 ns rows) ++ oddB7 ns rows).length = 25 := rfl
    have hod : oddB ns rows = ((((((((oddB0 ns rows ++ oddB1 ns rows) ++ oddB2 ns rows) ++ oddB3 ns rows) ++ oddB4 ns rows) ++ oddB5 ns rows) ++ oddB6 ns rows) ++ oddB7 ns rows) ++ oddB8 ns) ++ oddB9 ns rows := rfl
    rw [hod]
    generalize ((((((oddB0 ns rows ++ oddB1 ns rows) ++ oddB2 ns rows) ++ oddB3 ns rows) ++ oddB4 ns rows) ++ oddB5 ns rows) ++ oddB6 ns rows) ++ oddB7 ns rows = cc at h3 ⊢
    refine wp_sq ?_
    refine wp_mono (P := fun (fl : Fl) (r : List SV) => fl = Fl.nx ∧ r = [.val (.tup [.tup (ns.map .str), .tup rows]), .val (.tup [.tup [], .str ">=", .int 0]), .box (.lst (cc ++ oddB8 ns)), .val (.tup (ns.map .str)), .val (.tup rows)]) ?_ ?_
    · simp only [bGt_int, List.length_map, wp_bnd, wp_rt, wp_mC, wp_mVar, wp_mNil, wp_mCons, wp_op1, wp_op2, wp_mTst, wp_mTru, wp_mAnd, wp_mOr, wp_mNot, wp_mBl, wp_mAndV, wp_mOrV, wp_mNotV, wp_mIte, wp_lk2, wp_mChain, wp_mTup, wp_mLst, wp_mB, wp_mDk, wp_mYes, wp_mPass, wp_mBreak, wp_mCont, nxt, wp_mSeq, wp_mIf, wp_mRet, wp_mExpr, wp_mAsg, wp_mAsgT, wp_mPar, wp_mPut, wp_mApp, wp_mSl, wp_mPartN, wp_mPartS, wp_mRev2, wp_mMt, wp_mCall, wpC_val, wpC_own, wp_mCallR, wp_mItV, wp_mItF, wp_mRng1, wp_mFor, wp_mComp, sm_some, sm_none, sm_ite, sm_map, look_val, look_own, look_bx, looks_nil, looks_cons, toV_val, toV_own, toVs_nil, toVs_cons, List.getElem?_cons_zero, List.getElem?_cons_succ, List.set_cons_zero, List.set_cons_succ, List.map_cons, List.map_nil, List.cons_append, List.nil_append, List.replicate_succ, List.replicate_zero, List.append_nil, truD_bl, items_str, items_tup, items_lst, fLen_tup, fLen_lst, bIx_tup, bIx_lst, tyD_str, tyD_int, tyD_bl, tyD_tup, tyD_lst, isTD_eq, isTn, fin_val, back_val, back_nil, back_pbx, Option.map_some, bxD_box, bxD_pbx, fin_own, if_true, if_false, Bool.false_eq_true]
      by_cases h1 : 1 < ns.length
      · rw [if_pos (by rw [decide_eq_true_eq]; omega)]
        simp only [isL, rev2D, appD, SV.put, wp_bnd, wp_rt, wp_mC, wp_mVar, wp_mNil, wp_mCons, wp_op1, wp_op2, wp_mTst, wp_mTru, wp_mAnd, wp_mOr, wp_mNot, wp_mBl, wp_mAndV, wp_mOrV, wp_mNotV, wp_mIte, wp_lk2, wp_mChain, wp_mTup, wp_mLst, wp_mB, wp_mDk, wp_mYes, wp_mPass, wp_mBreak, wp_mCont, nxt, wp_mSeq, wp_mIf, wp_mRet, wp_mExpr, wp_mAsg, wp_mAsgT, wp_mPar, wp_mPut, wp_mApp, wp_mSl, wp_mPartN, wp_mPartS, wp_mRev2, wp_mMt, wp_mCall, wpC_val, wpC_own, wp_mCallR, wp_mItV, wp_mItF, wp_mRng1, wp_mFor, wp_mComp, sm_some, sm_none, sm_ite, sm_map, look_val, look_own, look_bx, looks_nil, looks_cons, toV_val, toV_own, toVs_nil, toVs_cons, List.getElem?_cons_zero, List.getElem?_cons_succ, List.set_cons_zero, List.set_cons_succ, List.map_cons, List.map_nil, List.cons_append, List.nil_append, List.replicate_succ, List.replicate_zero, List.append_nil, truD_bl, items_str, items_tup, items_lst, fLen_tup, fLen_lst, bIx_tup, bIx_lst, tyD_str, tyD_int, tyD_bl, tyD_tup, tyD_lst, isTD_eq, isTn, fin_val, back_val, back_nil, back_pbx, Option.map_some, bxD_box, bxD_pbx, fin_own, if_true, if_false, Bool.false_eq_true]
        refine ⟨trivial, by rw [sizeLine_eq]; omega, trivial, ?_⟩
        unfold oddB8
        rw [if_pos h1]
      · rw [if_neg (by rw [decide_eq_true_eq]; omega)]
        unfold oddB8
        rw [if_neg h1, List.append_nil]
        exact ⟨trivial, rfl⟩
    · rintro fl r ⟨rfl, rfl⟩
      show wp _ _ _
      have h5 : (oddB8 ns).length ≤ 1 := by unfold oddB8; split <;> simp
      have e6 : bAdd (.tup (ns.map .str)) (.tup (cut (ns.map .str) (some (-1)) none)) = some (.val (.tup (ns.map .str ++ cut (ns.map .str) (some (-1)) none))) := bAdd_tup (by unfold cut; rw [List.length_take, List.length_drop, List.length_map]; omega)
      simp only [bNe_names h.nms, wp_bnd, wp_rt, wp_mC, wp_mVar, wp_mNil, wp_mCons, wp_op1, wp_op2, wp_mTst, wp_mTru, wp_mAnd, wp_mOr, wp_mNot, wp_mBl, wp_mAndV, wp_mOrV, wp_mNotV, wp_mIte, wp_lk2, wp_mChain, wp_mTup, wp_mLst, wp_mB, wp_mDk, wp_mYes, wp_mPass, wp_mBreak, wp_mCont, nxt, wp_mSeq, wp_mIf, wp_mRet, wp_mExpr, wp_mAsg, wp_mAsgT, wp_mPar, wp_mPut, wp_mApp, wp_mSl, wp_mPartN, wp_mPartS, wp_mRev2, wp_mMt, wp_mCall, wpC_val, wpC_own, wp_mCallR, wp_mItV, wp_mItF, wp_mRng1, wp_mFor, wp_mComp, sm_some, sm_none, sm_ite, sm_map, look_val, look_own, look_bx, looks_nil, looks_cons, toV_val, toV_own, toVs_nil, toVs_cons, List.getElem?_cons_zero, List.getElem?_cons_succ, List.set_cons_zero, List.set_cons_succ, List.map_cons, List.map_nil, List.cons_append, List.nil_append, List.replicate_succ, List.replicate_zero, List.append_nil, truD_bl, items_str, items_tup, items_lst, fLen_tup, fLen_lst, bIx_tup, bIx_lst, tyD_str, tyD_int, tyD_bl, tyD_tup, tyD_lst, isTD_eq, isTn, fin_val, back_val, back_nil, back_pbx, Option.map_some, bxD_box, bxD_pbx, fin_own, if_true, if_false, Bool.false_eq_true]
      by_cases h6 : ns ≠ []
      · rw [if_pos (decide_eq_true h6)]
        simp only [bSl, e6, show uNeg (.int 1) = some (.val (.int (-1))) from rfl, wp_bnd, wp_rt, wp_mC, wp_mVar, wp_mNil, wp_mCons, wp_op1, wp_op2, wp_mTst, wp_mTru, wp_mAnd, wp_mOr, wp_mNot, wp_mBl, wp_mAndV, wp_mOrV, wp_mNotV, wp_mIte, wp_lk2, wp_mChain, wp_mTup, wp_mLst, wp_mB, wp_mDk, wp_mYes, wp_mPass, wp_mBreak, wp_mCont, nxt, wp_mSeq, wp_mIf, wp_mRet, wp_mExpr, wp_mAsg, wp_mAsgT, wp_mPar, wp_mPut, wp_mApp, wp_mSl, wp_mPartN, wp_mPartS, wp_mRev2, wp_mMt, wp_mCall, wpC_val, wpC_own, wp_mCallR, wp_mItV, wp_mItF, wp_mRng1, wp_mFor, wp_mComp, sm_some, sm_none, sm_ite, sm_map, look_val, look_own, look_bx, looks_nil, looks_cons, toV_val, toV_own, toVs_nil, toVs_cons, List.getElem?_cons_zero, List.getElem?_cons_succ, List.set_cons_zero, List.set_cons_succ, List.map_cons, List.map_nil, List.cons_append, List.nil_append, List.replicate_succ, List.replicate_zero, List.append_nil, truD_bl, items_str, items_tup, items_lst, fLen_tup, fLen_lst, bIx_tup, bIx_lst, tyD_str, tyD_int, tyD_bl, tyD_tup, tyD_lst, isTD_eq, isTn, fin_val, back_val, back_nil, back_pbx, Option.map_some, bxD_box, bxD_pbx, fin_own, if_true, if_false, Bool.false_eq_true]
        rw [bAdd_lst (by rw [List.length_append]; show _ + 1 ≤ _; omega)]
        simp only [wp_bnd, wp_rt, wp_mC, wp_mVar, wp_mNil, wp_mCons, wp_op1, wp_op2, wp_mTst, wp_mTru, wp_mAnd, wp_mOr, wp_mNot, wp_mBl, wp_mAndV, wp_mOrV, wp_mNotV, wp_mIte, wp_lk2, wp_mChain, wp_mTup, wp_mLst, wp_mB, wp_mDk, wp_mYes, wp_mPass, wp_mBreak, wp_mCont, nxt, wp_mSeq, wp_mIf, wp_mRet, wp_mExpr, wp_mAsg, wp_mAsgT, wp_mPar, wp_mPut, wp_mApp, wp_mSl, wp_mPartN, wp_mPartS, wp_mRev2, wp_mMt, wp_mCall, wpC_val, wpC_own, wp_mCallR, wp_mItV, wp_mItF, wp_mRng1, wp_mFor, wp_mComp, sm_some, sm_none, sm_ite, sm_map, look_val, look_own, look_bx, looks_nil, looks_cons, toV_val, toV_own, toVs_nil, toVs_cons, List.getElem?_cons_zero, List.getElem?_cons_succ, List.set_cons_zero, List.set_cons_succ, List.map_cons, List.map_nil, List.cons_append, List.nil_append, List.replicate_succ, List.replicate_zero, List.append_nil, truD_bl, items_str, items_tup, items_lst, fLen_tup, fLen_lst, bIx_tup, bIx_lst, tyD_str, tyD_int, tyD_bl, tyD_tup, tyD_lst, isTD_eq, isTn, fin_val, back_val, back_nil, back_pbx, Option.map_some, bxD_box, bxD_pbx, fin_own, if_true, if_false, Bool.false_eq_true]
        unfold oddB9
        rw [if_pos h6]
      · rw [if_neg (by rw [decide_eq_true_eq]; exact h6)]
        rw [bAdd_lst (by rw [List.length_append]; show _ + 0 ≤ _; omega)]
        simp only [wp_bnd, wp_rt, wp_mC, wp_mVar, wp_mNil, wp_mCons, wp_op1, wp_op2, wp_mTst, wp_mTru, wp_mAnd, wp_mOr, wp_mNot, wp_mBl, wp_mAndV, wp_mOrV, wp_mNotV, wp_mIte, wp_lk2, wp_mChain, wp_mTup, wp_mLst, wp_mB, wp_mDk, wp_mYes, wp_mPass, wp_mBreak, wp_mCont, nxt, wp_mSeq, wp_mIf, wp_mRet, wp_mExpr, wp_mAsg, wp_mAsgT, wp_mPar, wp_mPut, wp_mApp, wp_mSl, wp_mPartN, wp_mPartS, wp_mRev2, wp_mMt, wp_mCall, wpC_val, wpC_own, wp_mCallR, wp_mItV, wp_mItF, wp_mRng1, wp_mFor, wp_mComp, sm_some, sm_none, sm_ite, sm_map, look_val, look_own, look_bx, looks_nil, looks_cons, toV_val, toV_own, toVs_nil, toVs_cons, List.getElem?_cons_zero, List.getElem?_cons_succ, List.set_cons_zero, List.set_cons_succ, List.map_cons, List.map_nil, List.cons_append, List.nil_append, List.replicate_succ, List.replicate_zero, List.append_nil, truD_bl, items_str, items_tup, items_lst, fLen_tup, fLen_lst, bIx_tup, bIx_lst, tyD_str, tyD_int, tyD_bl, tyD_tup, tyD_lst, isTD_eq, isTn, fin_val, back_val, back_nil, back_pbx, Option.map_some, bxD_box, bxD_pbx, fin_own, if_true, if_false, Bool.false_eq_true]
        unfold oddB9
        rw [if_neg h6, List.append_nil]
  obtain ⟨a, l, e, rfl⟩ := key
  exact ⟨l, e⟩
end Mi.J
end
section
set_option maxRecDepth 100000
set_option maxHeartbeats 2000000
namespace Mi.J
open PySem PySem.Spec L2
open PyProof.Rows hiding St
/-! what is wrong with a value near a book -/
theorem cut_last {α : Type} {l : List α} {z : α} : cut (l ++ [z]) (some (-1)) none = [z] := by
  unfold cut HT.sIx
  dsimp only
  rw [if_pos (by decide)]
  have e : ((-1 : Int) + ((l ++ [z]).length : Int)).toNat = l.length := by rw [List.length_append]; show ((-1 : Int) + ((l.length + 1 : Nat) : Int)).toNat = _; omega
  rw [e, List.drop_left, List.length_append]
  show List.take (l.length + 1 - l.length) [z] = [z]
  rw [Nat.add_sub_cancel_left] <;> rfl
theorem cut_init {α : Type} {l : List α} {z : α} : cut (l ++ [z]) none (some (-1)) = l := by
  unfold cut HT.sIx
  dsimp only
  rw [if_pos (by decide)]
  have e : ((-1 : Int) + ((l ++ [z]).length : Int)).toNat = l.length := by rw [List.length_append]; show ((-1 : Int) + ((l.length + 1 : Nat) : Int)).toNat = _; omega
  rw [e, List.drop_zero, Nat.sub_zero, List.take_left]
theorem snoc_of {α : Type} {l : List α} (h : l ≠ []) : ∃ (i : List α) (z : α), l = i ++ [z] := ⟨l.dropLast, l.getLast h, (List.dropLast_concat_getLast h).symm⟩
section
variable {ns : List Str} {rows : List D} {k w w' n : Nat}
theorem Gd.cons {d : D} {xs : List D} (h : Gd k w d) (h2 : GL k w' n xs) : GL k (w + 1 + w') (n + 1) (d :: xs) := GL.cons h h2
theorem GL.snoc {xs : List D} {d : D} (h : GL k w n xs) (h2 : Gd k w' d) : GL k (w + (w' + 1)) (n + 1) (xs ++ [d]) := (h.app (h2.cons GL.nil)).up (Nat.le_refl _) (by omega) (by omega)
theorem nms_gd (h : ∀ s ∈ ns, Nm s) : GL 5 (ns.length * 101) ns.length (ns.map .str) := by
  have := GL.all (k := 5) (w := 100) (xs := ns.map D.str) (by
    intro d hd
    obtain ⟨s, hs, rfl⟩ := List.mem_map.mp hd
    exact Gd.str (h s hs).ok (by have := (h s hs).len; omega))
  rw [List.length_map] at this
  exact this
theorem BkOk.gN (h : BkOk ns rows) : GL 5 505 5 (ns.map .str) := (nms_gd h.nms).up (Nat.le_refl _) (by have := h.few; omega) h.few
theorem BkOk.gR (h : BkOk ns rows) : GL 5 2005 5 rows := (GL.all (k := 3) (w := 400) fun d hd => ⟨(h.rws d hd).fit, (h.rws d hd).lb⟩).up (by omega) (by have := h.fewr; omega) h.fewr
theorem GL.two {a b : D} {w1 w2 : Nat} (h1 : Gd k w1 a) (h2 : Gd k w2 b) : Gd (k + 1) (w1 + w2 + 2) (.tup [a, b]) := (GL.tup (h1.cons (h2.cons GL.nil)) (by omega)).up (Nat.le_refl _) (by omega)
theorem BkOk.gB (h : BkOk ns rows) : Gd 7 3000 (bkD ns rows) := (GL.two (h.gN.tup (by omega)) (h.gR.tup (by omega))).up (by omega) (by omega)
theorem BkOk.g1 (h : BkOk ns rows) {x : D} (hx : Gd 5 w x) (hw : w ≤ 1000) : Gd 9 5000 (bk1 ns rows x) := (GL.two (h.gN.tup (by omega)) ((h.gR.snoc hx).tup (by omega))).up (by omega) (by omega)
theorem book_eq {a b : List D} : jBook (.tup [.tup a, .tup b]) = (a.all jName && match strsOf a with
    | some ss => jRis ss && b.all (jRow ss)
    | none => false) := rfl
theorem book_strs {b : List D} : jBook (.tup [.tup (ns.map .str), .tup b]) = ((ns.map D.str).all jName && (jRis ns && b.all (jRow ns))) := by
  rw [book_eq, strsOf_map]
theorem BkOk.book (h : BkOk ns rows) : jBook (bkD ns rows) = true := by
  unfold bkD
  rw [book_strs, h.ris]
  have h1 : (ns.map D.str).all jName = true := by
    rw [List.all_map]; exact List.all_eq_true.mpr fun s hs => (h.nms s hs).name
  have h2 : rows.all (jRow ns) = true := List.all_eq_true.mpr fun r hr => (h.rws r hr).row
  rw [h1, h2] <;> rfl
theorem book_row {x : D} (hx : jRow ns x = false) : jBook (bk1 ns rows x) = false := by
  unfold bk1
  rw [book_strs, all_app_bad hx, Bool.and_false, Bool.and_false]
theorem book_name {xs rs : List D} (h : xs.all jName = false) : jBook (.tup [.tup xs, .tup rs]) = false := by
  rw [book_eq, h, Bool.false_and]
theorem book_ris {rs : List D} (h : jRis ns = false) : jBook (.tup [.tup (ns.map .str), .tup rs]) = false := by
  rw [book_strs, h, Bool.false_and, Bool.and_false]
theorem lt_asymm {a b : Str} (h : ltS a b = true) : ltS b a = false := by
  cases h2 : ltS b a with
  | false => rfl
  | true => exact absurd (ltS_iff.mp h2) (List.not_lt.mpr (List.le_of_lt (ltS_iff.mp h)))
theorem ris_rev (h : jRis ns = true) (hl : 1 < ns.length) : jRis ns.reverse = false := by
  cases h2 : jRis ns.reverse with
  | false => rfl
  | true =>
    have p1 := ris_pair h
    have p2 := List.pairwise_reverse.mp (ris_pair h2)
    match ns, hl, p1, p2 with
    | a :: b :: l, _, p1, p2 =>
      rw [List.pairwise_cons] at p1 p2
      have q1 := p1.1 b (List.mem_cons_self ..)
      have q2 := p2.1 b (List.mem_cons_self ..)
      rw [lt_asymm q1] at q2
      cases q2
theorem ris_last {i : List Str} {z : Str} : jRis (i ++ [z] ++ [z]) = false := by
  cases h2 : jRis (i ++ [z] ++ [z]) with
  | false => rfl
  | true =>
    have p := ris_nodup (ris_pair h2)
    rw [List.append_assoc, List.nodup_append] at p
    have := p.2.1
    simp at this
def rowTail (ns : List Str) (m b : D) : Bool := match m with
  | .str s => if (s == "far") = true then jFormOf ns b else jWords (.str s) && jWhole b
  | _ => false
theorem row_eq {a m b : D} : jRow ns (.tup [a, m, b]) = (jFormOf ns a && rowTail ns m b) := by cases m <;> rfl
theorem row_no {a m b : D} (h : rowTail ns m b = false) : jRow ns (.tup [a, m, b]) = false := by rw [row_eq, h, Bool.and_false]
theorem row_no1 {a m b : D} (h : jFormOf ns a = false) : jRow ns (.tup [a, m, b]) = false := by rw [row_eq, h, Bool.false_and]
theorem tail_plain {s : Str} {b : D} (h : (s == "far") = false) (h2 : (jWords (.str s) && jWhole b) = false) : rowTail ns (.str s) b = false := by
  show (if (s == "far") = true then jFormOf ns b else jWords (.str s) && jWhole b) = false
  rw [if_neg (by rw [h]; decide), h2]
theorem tail_far {b : D} (h : jFormOf ns b = false) : rowTail ns (.str "far") b = false := by
  show (if ((("far" : Str) == ("far" : Str)) = true) then jFormOf ns b else jWords (.str "far") && jWhole b) = false
  rw [if_pos (by decide +kernel), h]
theorem nobody (hns : ∀ s ∈ ns, Nm s) {i : Int} : jFormOf ns (.tup [.tup [.str "nobody0", .int i]]) = false := by
  have h : ((ns.map D.str).any fun y => eqF y (.str "nobody0")) = false := by
    rw [List.any_map, List.any_eq_false]
    intro s hs he
    have e : s = "nobody0" := by
      have : (s == ("nobody0" : Str)) = true := he
      simpa using this
    obtain ⟨c, l, h1, h2, _⟩ := hns s hs
    rw [e] at h1
    have h3 : (("nobody0" : Str).cps.toList).length = 7 := by decide +kernel
    rw [h1, List.length_cons] at h3
    omega
  unfold jFormOf
  have e2 : pairsOf [D.tup [.str "nobody0", .int i]] = some [(.str "nobody0", .int i)] := rfl
  simp only [e2, List.all_cons, h, Bool.false_and, Bool.and_false]
theorem jForm_all {xs : List D} (hx : xs.all jPair = false) : jFormOf ns (.tup xs) = false := by
  unfold jFormOf
  rw [form_bad (named_bad hx), Bool.false_and]
theorem BkOk.odd (h : BkOk ns rows) : ∀ v ∈ oddB ns rows, J.fit v = true ∧ jBook v = false ∧ RepOk v := by
  have gd : ∀ {k w : Nat} {v : D}, Gd k w v → k ≤ 60 → w ≤ 2 ^ 20 → jBook v = false → J.fit v = true ∧ jBook v = false ∧ RepOk v := fun g h1 h2 h3 => ⟨g.fit, h3, g.lb.rep h1 h2⟩
  have g1 : ∀ {w : Nat} {x : D}, Gd 5 w x → w ≤ 1000 → jRow ns x = false → J.fit (bk1 ns rows x) = true ∧ jBook (bk1 ns rows x) = false ∧ RepOk (bk1 ns rows x) := fun hx hw hj => gd (h.g1 hx hw) (by omega) (by omega) (book_row hj)
  have gs : ∀ {k : Nat} (s : String), (Str.ofString s).length ≤ 100 → Gd k 100 (.str (Str.ofString s)) := fun s hs => Gd.str (ok_string s) hs
  have gi : ∀ {k : Nat} {i : Int}, i.natAbs < 10 ^ 12 → Gd k 41 (.int i) := fun hi => Gd.int hi
  have ge : ∀ {k : Nat}, Gd (k + 1) 0 (.tup []) := fun {k} => GL.nil.tup (by omega)
  have gt : ∀ {k w1 w2 w3 : Nat} {a b c : D}, Gd k w1 a → Gd k w2 b → Gd k w3 c → Gd (k + 1) (w1 + w2 + w3 + 3) (.tup [a, b, c]) := fun a b c => (GL.tup (a.cons (b.cons (c.cons GL.nil))) (by omega)).up (Nat.le_refl _) (by omega)
  have gn : Gd 4 146 (.tup [.tup [.str "nobody0", .int 1]]) := (GL.tup ((GL.two (k := 2) (gs "nobody0" (by decide +kernel)) (gi (by decide))).cons GL.nil) (by omega)).up (by omega) (by omega)
  intro v hv
  simp only [oddB, List.mem_append] at hv
  rcases hv with ((((((((hv | hv) | hv) | hv) | hv) | hv) | hv) | hv) | hv) | hv
  · simp only [oddB0, List.mem_cons, List.not_mem_nil, or_false] at hv
    rcases hv with rfl | rfl | rfl | rfl | rfl | rfl | rfl | rfl | rfl
    · exact gd (k := 0) Gd.none (by omega) (by omega) rfl
    · exact gd (GL.lst ((h.gN.tup (by omega)).cons ((h.gR.tup (by omega)).cons GL.nil))) (by omega) (by omega) rfl
    · exact gd (GL.tup ((h.gN.tup (by omega)).cons GL.nil) (by omega)) (by omega) (by omega) rfl
    · exact gd (GL.two h.gN.lst (h.gR.tup (by omega))) (by omega) (by omega) rfl
    · exact gd (GL.two (h.gN.tup (by omega)) h.gR.lst) (by omega) (by omega) rfl
    · exact gd (gt (h.gN.tup (by omega)) (h.gR.tup (by omega)) ge) (by omega) (by omega) rfl
    · refine gd (h.gN.tup (by omega)) (by omega) (by omega) ?_
      match ns with
      | [] => rfl
      | [a] => rfl
      | [a, b] => rfl
      | a :: b :: c :: l => rfl
    · exact ⟨rfl, rfl, rep_dk⟩
    · exact gd (gs (k := 0) "" (by decide +kernel)) (by omega) (by omega) rfl
  · simp only [oddB1, List.mem_cons, List.not_mem_nil, or_false] at hv
    rcases hv with rfl | rfl | rfl | rfl
    · exact gd (GL.two ((h.gN.snoc (gs "A" (by decide +kernel))).tup (by omega)) (h.gR.tup (by omega))) (by omega) (by omega) (book_name (all_app_bad (by decide +kernel)))
    · exact gd (GL.two ((h.gN.snoc (gi (by decide))).tup (by omega)) (h.gR.tup (by omega))) (by omega) (by omega) (book_name (all_app_bad rfl))
    · exact g1 Gd.none (by omega) rfl
    · exact g1 (GL.lst (ge.cons ((gs ">=" (by decide +kernel)).cons ((gi (by decide)).cons GL.nil)))) (by omega) rfl
  · simp only [oddB2, List.mem_cons, List.not_mem_nil, or_false] at hv
    rcases hv with rfl | rfl
    · exact g1 (gt gn (gs ">" (by decide +kernel)) (gi (by decide))) (by omega) (row_no1 (nobody h.nms))
    · exact g1 (gt ge (gs "<" (by decide +kernel)) (gi (by decide))) (by omega) (row_no (tail_plain (by decide +kernel) (by decide +kernel)))
  · simp only [oddB3, List.mem_cons, List.not_mem_nil, or_false] at hv
    subst hv
    exact g1 (gt ge (gs ">" (by decide +kernel)) (gs "0" (by decide +kernel))) (by omega) (row_no (tail_plain (by decide +kernel) (by decide +kernel)))
  · simp only [oddB4, List.mem_cons, List.not_mem_nil, or_false] at hv
    rcases hv with rfl | rfl | rfl
    · exact g1 (gt ge (gs ">" (by decide +kernel)) Gd.bl) (by omega) (row_no (tail_plain (by decide +kernel) (by decide +kernel)))
    · exact g1 (GL.two ge (gs ">" (by decide +kernel))) (by omega) rfl
    · exact g1 (gt ge (gs "far" (by decide +kernel)) (gi (by decide))) (by omega) (row_no (tail_far rfl))
  · simp only [oddB5, List.mem_cons, List.not_mem_nil, or_false] at hv
    rcases hv with rfl | rfl
    · exact g1 (gt ge (gs ">=" (by decide +kernel)) ge) (by omega) (row_no (tail_plain (by decide +kernel) (by decide +kernel)))
    · exact g1 (gt ge (gs "far" (by decide +kernel)) gn) (by omega) (row_no (tail_far (nobody h.nms)))
  · simp only [oddB6, List.mem_cons, List.not_mem_nil, or_false] at hv
    subst hv
    exact g1 ge (by omega) rfl
  · simp only [oddB7, List.mem_cons, List.not_mem_nil, or_false] at hv
    rcases hv with rfl | rfl | rfl
    · exact g1 (gt ge Gd.none (gi (by decide))) (by omega) (row_no rfl)
    · exact g1 (gt ge (GL.nil.lst) (gi (by decide))) (by omega) (row_no rfl)
    · exact g1 (GL.tup (ge.cons ((gs ">=" (by decide +kernel)).cons ((gi (by decide)).cons ((gi (by decide)).cons GL.nil)))) (by omega)) (by omega) rfl
  · unfold oddB8 at hv
    by_cases h1 : 1 < ns.length
    · rw [if_pos h1, List.mem_singleton] at hv
      subst hv
      rw [← List.map_reverse]
      have g := nms_gd (ns := ns.reverse) fun s hs => h.nms s (List.mem_reverse.mp hs)
      rw [List.length_reverse] at g
      have := h.few
      exact gd (GL.two (g.tup (by omega)) ge) (by omega) (by omega) (book_ris (ris_rev h.ris h1))
    · rw [if_neg h1] at hv; cases hv
  · unfold oddB9 at hv
    by_cases h1 : ns ≠ []
    · rw [if_pos h1, List.mem_singleton] at hv
      subst hv
      obtain ⟨i, z, rfl⟩ := snoc_of h1
      rw [List.map_append, List.map_cons, List.map_nil, cut_last]
      have e : List.map D.str i ++ [D.str z] ++ [D.str z] = (i ++ [z] ++ [z]).map .str := by rw [List.map_append, List.map_append] <;> rfl
      rw [e]
      have g := nms_gd (ns := i ++ [z] ++ [z]) fun s hs => h.nms s (by
        rcases List.mem_append.mp hs with h | h
        · exact h
        · exact List.mem_append_right _ h)
      have h5 := h.few
      rw [List.length_append] at g
      have h6 : (i ++ [z]).length + [z].length ≤ 6 := by show _ + 1 ≤ _; omega
      exact gd (GL.two (g.tup (by omega)) (h.gR.tup (by omega))) (by omega) (by omega) (book_ris ris_last)
    · rw [if_neg h1] at hv; cases hv
end
end Mi.J
end
section
set_option maxRecDepth 100000
set_option maxHeartbeats 2000000
namespace Mi.J
open PySem PySem.Spec L2
open PyProof.Rows hiding St
/-! values near a point -/
theorem Lb.shaped {k w : Nat} {d : D} (h : Lb k w d) (hk : k ≤ 64) : ∃ y, toPy d = some y ∧ SeqAt.shaped y = true := by
  obtain ⟨y, e, a, _, _, p, _⟩ := h
  refine ⟨y, e, ?_⟩
  unfold SeqAt.shaped
  rw [a, decide_eq_true (show y.depth ≤ 64 by omega)] <;> rfl
theorem ne_empty {k w : Nat} {xs : List D} (h : Lb k w (.tup xs)) (hk : k ≤ 64) : bNe (.tup xs) (.tup []) = some (.val (.bl (decide (xs ≠ [])))) := by
  obtain ⟨y, e, hs⟩ := h.shaped hk
  have h2 : SeqAt.shaped (.tuple []) = true := rfl
  unfold bNe eqD
  rw [e]
  show (if SeqAt.shaped y = true ∧ SeqAt.shaped (.tuple []) = true then some (PyData.eqv y (.tuple [])) else none).map _ = _
  rw [if_pos ⟨hs, h2⟩]
  have e2 : (toPyL xs).map PyData.tuple = some y := by rw [← e] <;> rfl
  cases xs with
  | nil =>
    cases e2
    rfl
  | cons a l =>
    cases h3 : toPyL (a :: l) with
    | none => rw [h3] at e2; cases e2
    | some ys =>
      rw [h3] at e2
      cases e2
      cases ys with
      | nil =>
        unfold toPyL at h3
        split at h3 <;> cases h3
      | cons z ys => rfl
theorem at1_last {α : Type} {l : List α} {z : α} : at1 (l ++ [z]) (-1) = some z := by
  unfold at1 ixN
  rw [if_neg (by decide)]
  have h : (l ++ [z]).length = l.length + 1 := by rw [List.length_append] <;> rfl
  simp [h]
  rw [if_pos (by omega)]
  have e : ((-1 : Int) + ((l.length : Int) + 1)).toNat = l.length := by omega
  simp [e]
theorem lenA : (Str.ofString "A").length = 1 := by decide +kernel
section
variable {ns : List Str} {ps qs : List (Str × D)}
def ptS (p : Str × D) : D × D := (.str p.1, p.2)
theorem pt_eq : qs.map ptD = (qs.map ptS).map prD := by rw [List.map_map] <;> rfl
theorem pt_pairs : pairsOf (qs.map ptD) = some (qs.map ptS) := by rw [pt_eq, pairsOf_map]
theorem pt_strs : (qs.map ptS).map (·.1) = (qs.map (·.1)).map .str := by rw [List.map_map, List.map_map] <;> rfl
theorem pt_point : jPoint ns (.tup (qs.map ptD)) = (jNamed (.tup (qs.map ptD)) && ((qs.all fun p => jFrac p.2) && (qs.map (·.1) == ns))) := by
  simp only [jPoint, pt_pairs, pt_strs, strsOf_map, List.all_map]
  rfl
theorem pt_names (h : qs.map (·.1) ≠ ns) : jPoint ns (.tup (qs.map ptD)) = false := by
  rw [pt_point, show (qs.map (·.1) == ns) = false by simpa using h, Bool.and_false, Bool.and_false]
theorem pt_frac {l : List (Str × D)} {p : Str × D} (h : jFrac p.2 = false) : jPoint ns (.tup ((l ++ [p]).map ptD)) = false := by
  rw [pt_point, all_app_bad (f := fun p : Str × D => jFrac p.2) h, Bool.false_and, Bool.and_false]
theorem pt_pair {xs : List D} (h : xs.all jPair = false) : jPoint ns (.tup xs) = false := by
  unfold jPoint
  rw [named_bad h, Bool.false_and]
theorem PtOk.point (h : PtOk ns ps) (hns : ∀ s ∈ ns, Nm s) (hr : jRis ns = true) : jPoint ns (.tup (ps.map ptD)) = true := by
  have h2 : (ps.all fun p => jFrac p.2) = true := by
    refine List.all_eq_true.mpr fun p hp => ?_
    obtain ⟨a, b, e, hj, _⟩ := h.frs p hp
    rw [e]; exact hj
  have h3 : jNamed (.tup (ps.map ptD)) = true := by
    simp only [jNamed, pt_pairs, pt_strs, jRisD, strsOf_map, h.nms, hr, Bool.and_true]
    rw [List.all_map]
    refine List.all_eq_true.mpr fun p hp => (hns p.1 ?_).name
    rw [← h.nms]
    exact List.mem_map.mpr ⟨p, hp, rfl⟩
  rw [pt_point, h2, h3, h.nms]
  simp
theorem PtOk.len (h : PtOk ns ps) : ps.length = ns.length := by rw [← h.nms, List.length_map]
theorem PtOk.gd (h : PtOk ns ps) (hns : ∀ s ∈ ns, Nm s) : ∀ d ∈ ps.map ptD, Gd 3 300 d := by
  intro d hd
  obtain ⟨p, hp, rfl⟩ := List.mem_map.mp hd
  obtain ⟨a, b, e, hj, ha, hb⟩ := h.frs p hp
  have hs := hns p.1 (by rw [← h.nms]; exact List.mem_map.mpr ⟨p, hp, rfl⟩)
  have g1 : Gd 2 84 p.2 := by
    rw [e]
    exact (GL.two (k := 1) (Gd.int (by omega)) (Gd.int (by omega))).up (Nat.le_refl _) (by omega)
  exact (GL.two (k := 2) (Gd.str hs.ok (by have := hs.len; omega)) g1).up (Nat.le_refl _) (by omega)
theorem PtOk.gl (h : PtOk ns ps) (hns : ∀ s ∈ ns, Nm s) (hl : ns.length ≤ 5) : GL 3 1505 5 (ps.map ptD) := by
  have hlen := h.len
  refine (GL.all (h.gd hns)).up (Nat.le_refl _) ?_ ?_ <;> rw [List.length_map] <;> omega
theorem odd_points {ns : List Str} {ps : List (Str × D)} (h : PtOk ns ps) (hns : ∀ s ∈ ns, Nm s) (hl : ns.length ≤ 5) (hr : jRis ns = true) : ∃ a l, F__law_odd_points [.val (.tup (ps.map ptD))] = .ok a l ∧ ∃ vs, a = .own (.lst vs) ∧ vs.length ≤ 100 ∧ ∀ v ∈ vs, J.fit v = true ∧ jPoint ns v = false := by
  have hlen := h.len
  have g := h.gl hns hl
  have hxl : (ps.map ptD).length ≤ 5 := g.len
  have e1 : ∀ x, bAdd (.tup (ps.map ptD)) (.tup [x]) = some (.val (.tup (ps.map ptD ++ [x]))) := fun x => bAdd_tup (by show _ + 1 ≤ _; omega)
  have gs : ∀ {k : Nat} (s : String), (Str.ofString s).length ≤ 100 → Gd k 100 (.str (Str.ofString s)) := fun s hs => Gd.str (ok_string s) hs
  have gf : ∀ {xs : List D} {x : D} {k w n : Nat}, GL k w n xs → n ≤ 10 → J.fit x = true → J.fit (.tup (xs ++ [x])) = true := fun hx hn hf => by
    refine fit_tup ?_ (by rw [List.length_append, sizeLine_eq]; have := hx.len; show _ + 1 < _; omega)
    intro d hd
    rcases List.mem_append.mp hd with h | h
    · exact fit_mem hx.fit h
    · rw [List.mem_singleton.mp h]; exact hf
  refine wp_defF ?_
  unfold m__law_odd_points
  refine wp_sq ?_
  generalize hk : nxt _ _ = Kt
  simp only [e1, fList, wp_bnd, wp_rt, wp_mC, wp_mVar, wp_mNil, wp_mCons, wp_op1, wp_op2, wp_mTst, wp_mTru, wp_mAnd, wp_mOr, wp_mNot, wp_mBl, wp_mAndV, wp_mOrV, wp_mNotV, wp_mIte, wp_lk2, wp_mChain, wp_mTup, wp_mLst, wp_mB, wp_mDk, wp_mYes, wp_mPass, wp_mBreak, wp_mCont, nxt, wp_mSeq, wp_mIf, wp_mRet, wp_mExpr, wp_mAsg, wp_mAsgT, wp_mPar, wp_mPut, wp_mApp, wp_mSl, wp_mPartN, wp_mPartS, wp_mRev2, wp_mMt, wp_mCall, wpC_val, wpC_own, wp_mCallR, wp_mItV, wp_mItF, wp_mRng1, wp_mFor, wp_mComp, sm_some, sm_none, sm_ite, sm_map, look_val, look_own, look_bx, looks_nil, looks_cons, toV_val, toV_own, toVs_nil, toVs_cons, List.getElem?_cons_zero, List.getElem?_cons_succ, List.set_cons_zero, List.set_cons_succ, List.map_cons, List.map_nil, List.cons_append, List.nil_append, List.replicate_succ, List.replicate_zero, List.append_nil, truD_bl, items_str, items_tup, items_lst, fLen_tup, fLen_lst, bIx_tup, bIx_lst, tyD_str, tyD_int, tyD_bl, tyD_tup, tyD_lst, isTD_eq, isTn, fin_val, back_val, back_nil, back_pbx, Option.map_some, bxD_box, bxD_pbx, fin_own, if_true, if_false, Bool.false_eq_true]
  subst hk
  show wp _ _ _
  have good0 : ∀ v ∈ [D.none, .lst (ps.map ptD), .tup (ps.map ptD ++ [.tup [.str "zz9", .tup [.int 1, .int 1]]]), .dK [], .str "", .tup (ps.map ptD ++ [.none])], J.fit v = true ∧ jPoint ns v = false := by
    intro v hv
    simp only [List.mem_cons, List.not_mem_nil, or_false] at hv
    rcases hv with rfl | rfl | rfl | rfl | rfl | rfl
    · exact ⟨rfl, rfl⟩
    · exact ⟨rfl, rfl⟩
    · refine ⟨gf g (by omega) (by decide +kernel), ?_⟩
      have e : ps.map ptD ++ [.tup [.str "zz9", .tup [.int 1, .int 1]]] = (ps ++ [((Str.ofString "zz9", D.tup [.int 1, .int 1]) : Str × D)]).map ptD := by rw [List.map_append] <;> rfl
      rw [e]
      refine pt_names fun e => ?_
      have := congrArg List.length e
      rw [List.length_map, List.length_append, hlen] at this
      simp at this
    · exact ⟨rfl, rfl⟩
    · exact ⟨by decide +kernel, rfl⟩
    · exact ⟨gf g (by omega) rfl, pt_pair (all_app_bad rfl)⟩
  refine wp_sq ?_
  refine wp_mono (P := fun (fl : Fl) (r : List SV) => fl = Fl.nx ∧ ∃ (cc : List D) (x2 x3 x4 : SV), r = [.val (.tup (ps.map ptD)), .box (.lst cc), x2, x3, x4] ∧ cc.length ≤ 50 ∧ ∀ v ∈ cc, J.fit v = true ∧ jPoint ns v = false) ?_ ?_
  · simp only [ne_empty (g.tup (by omega)).lb (by omega), wp_mIf, wp_mTst, wp_op2, wp_bnd, wp_mTru, wp_mVar, wp_mTup, wp_mNil, wp_rt, List.getElem?_cons_zero, List.getElem?_cons_succ, sm_some, look_val, toV_val, toVs_nil, truD_bl]
    by_cases h0 : ps = []
    · subst h0
      simp only [List.map_nil, wp_bnd, wp_rt, wp_mC, wp_mVar, wp_mNil, wp_mCons, wp_op1, wp_op2, wp_mTst, wp_mTru, wp_mAnd, wp_mOr, wp_mNot, wp_mBl, wp_mAndV, wp_mOrV, wp_mNotV, wp_mIte, wp_lk2, wp_mChain, wp_mTup, wp_mLst, wp_mB, wp_mDk, wp_mYes, wp_mPass, wp_mBreak, wp_mCont, nxt, wp_mSeq, wp_mIf, wp_mRet, wp_mExpr, wp_mAsg, wp_mAsgT, wp_mPar, wp_mPut, wp_mApp, wp_mSl, wp_mPartN, wp_mPartS, wp_mRev2, wp_mMt, wp_mCall, wpC_val, wpC_own, wp_mCallR, wp_mItV, wp_mItF, wp_mRng1, wp_mFor, wp_mComp, sm_some, sm_none, sm_ite, sm_map, look_val, look_own, look_bx, looks_nil, looks_cons, toV_val, toV_own, toVs_nil, toVs_cons, List.getElem?_cons_zero, List.getElem?_cons_succ, List.set_cons_zero, List.set_cons_succ, List.map_cons, List.map_nil, List.cons_append, List.nil_append, List.replicate_succ, List.replicate_zero, List.append_nil, truD_bl, items_str, items_tup, items_lst, fLen_tup, fLen_lst, bIx_tup, bIx_lst, tyD_str, tyD_int, tyD_bl, tyD_tup, tyD_lst, isTD_eq, isTn, fin_val, back_val, back_nil, back_pbx, Option.map_some, bxD_box, bxD_pbx, fin_own, if_true, if_false, Bool.false_eq_true]
      exact ⟨trivial, _, _, _, _, rfl, by simp, good0⟩
    · obtain ⟨i, p, rfl⟩ := snoc_of h0
      obtain ⟨s, v⟩ := p
      have hx : (i ++ [(s, v)]).map ptD = i.map ptD ++ [.tup [.str s, v]] := by rw [List.map_append] <;> rfl
      rw [hx] at g hxl good0 ⊢
      have hil : (i.map ptD).length ≤ 4 := by rw [List.length_append] at hxl; simp only [List.length_cons, List.length_nil] at hxl; omega
      have gi : GL 3 1505 5 (i.map ptD) := ⟨fitL_all fun d hd => fit_mem g.fit (List.mem_append_left _ hd), ((GL.all fun d hd => h.gd hns d (by rw [hx]; exact List.mem_append_left _ hd)).up (Nat.le_refl _) (by omega) (by omega : _ ≤ 5)).ls, by omega⟩
      have hps : D.tup [.str s, v] ∈ (i ++ [(s, v)]).map ptD := by rw [hx]; exact List.mem_append_right _ (List.mem_singleton.mpr rfl)
      have hsn : Nm s := hns s (by rw [← h.nms]; exact List.mem_map.mpr ⟨(s, v), List.mem_append_right _ (List.mem_singleton.mpr rfl), rfl⟩)
      have hfv : J.fit v = true := fit_mem (isD_tup (h.gd hns _ hps).fit).2 (List.mem_cons_of_mem _ (List.mem_cons_self ..))
      have hfs : J.fit (.str s) = true := hsn.fit
      rw [if_pos (by rw [decide_eq_true_eq]; simp)]
      refine wp_sq ?_
      generalize hk : nxt _ _ = Kt
      simp only [show uNeg (.int 1) = some (.val (.int (-1))) from rfl, at1_last, tgT, tgL, tgN, wp_bnd, wp_rt, wp_mC, wp_mVar, wp_mNil, wp_mCons, wp_op1, wp_op2, wp_mTst, wp_mTru, wp_mAnd, wp_mOr, wp_mNot, wp_mBl, wp_mAndV, wp_mOrV, wp_mNotV, wp_mIte, wp_lk2, wp_mChain, wp_mTup, wp_mLst, wp_mB, wp_mDk, wp_mYes, wp_mPass, wp_mBreak, wp_mCont, nxt, wp_mSeq, wp_mIf, wp_mRet, wp_mExpr, wp_mAsg, wp_mAsgT, wp_mPar, wp_mPut, wp_mApp, wp_mSl, wp_mPartN, wp_mPartS, wp_mRev2, wp_mMt, wp_mCall, wpC_val, wpC_own, wp_mCallR, wp_mItV, wp_mItF, wp_mRng1, wp_mFor, wp_mComp, sm_some, sm_none, sm_ite, sm_map, look_val, look_own, look_bx, looks_nil, looks_cons, toV_val, toV_own, toVs_nil, toVs_cons, List.getElem?_cons_zero, List.getElem?_cons_succ, List.set_cons_zero, List.set_cons_succ, List.map_cons, List.map_nil, List.cons_append, List.nil_append, List.replicate_succ, List.replicate_zero, List.append_nil, truD_bl, items_str, items_tup, items_lst, fLen_tup, fLen_lst, bIx_tup, bIx_lst, tyD_str, tyD_int, tyD_bl, tyD_tup, tyD_lst, isTD_eq, isTn, fin_val, back_val, back_nil, back_pbx, Option.map_some, bxD_box, bxD_pbx, fin_own, if_true, if_false, Bool.false_eq_true]
      subst hk
      show wp _ _ _
      have e3 : ∀ x, bAdd (.tup (i.map ptD)) (.tup [x]) = some (.val (.tup (i.map ptD ++ [x]))) := fun x => bAdd_tup (by show _ + 1 ≤ _; omega)
      refine wp_sq ?_
      refine wp_mono (P := fun (fl : Fl) (r : List SV) => fl = Fl.nx ∧ ∃ (cc : List D) (x2 : SV), r = [.val (.tup (i.map ptD ++ [.tup [.str s, v]])), .box (.lst cc), x2, .val (.str s), .val v] ∧ cc.length ≤ 20 ∧ ∀ v ∈ cc, J.fit v = true ∧ jPoint ns v = false) ?_ ?_
      · simp only [wp_bnd, wp_rt, wp_mC, wp_mVar, wp_mNil, wp_mCons, wp_op1, wp_op2, wp_mTst, wp_mTru, wp_mAnd, wp_mOr, wp_mNot, wp_mBl, wp_mAndV, wp_mOrV, wp_mNotV, wp_mIte, wp_lk2, wp_mChain, wp_mTup, wp_mLst, wp_mB, wp_mDk, wp_mYes, wp_mPass, wp_mBreak, wp_mCont, nxt, wp_mSeq, wp_mIf, wp_mRet, wp_mExpr, wp_mAsg, wp_mAsgT, wp_mPar, wp_mPut, wp_mApp, wp_mSl, wp_mPartN, wp_mPartS, wp_mRev2, wp_mMt, wp_mCall, wpC_val, wpC_own, wp_mCallR, wp_mItV, wp_mItF, wp_mRng1, wp_mFor, wp_mComp, sm_some, sm_none, sm_ite, sm_map, look_val, look_own, look_bx, looks_nil, looks_cons, toV_val, toV_own, toVs_nil, toVs_cons, List.getElem?_cons_zero, List.getElem?_cons_succ, List.set_cons_zero, List.set_cons_succ, List.map_cons, List.map_nil, List.cons_append, List.nil_append, List.replicate_succ, List.replicate_zero, List.append_nil, truD_bl, items_str, items_tup, items_lst, fLen_tup, fLen_lst, bIx_tup, bIx_lst, tyD_str, tyD_int, tyD_bl, tyD_tup, tyD_lst, isTD_eq, isTn, fin_val, back_val, back_nil, back_pbx, Option.map_some, bxD_box, bxD_pbx, fin_own, if_true, if_false, Bool.false_eq_true]
        refine wp_loop (fun ds r => ∃ (cc : List D) (x2 : SV), r = [.val (.tup (i.map ptD ++ [.tup [.str s, v]])), .box (.lst cc), x2, .val (.str s), .val v] ∧ cc.length + ds.length ≤ 13 ∧ (∀ v ∈ cc, J.fit v = true ∧ jPoint ns v = false) ∧ ∀ d ∈ ds, J.fit d = true ∧ jFrac d = false)
          ⟨_, _, rfl, by simp, good0, ?_⟩ ?_ ?_
        · intro d hd
          simp only [List.mem_cons, List.not_mem_nil, or_false] at hd
          rcases hd with rfl | rfl | rfl | rfl | rfl | rfl | rfl <;> exact ⟨rfl, by decide +kernel⟩
        · rintro d ds r ⟨cc, x2, rfl, hc, hgc, hgd⟩
          rw [List.length_cons] at hc
          simp only [tgN, bSl, cut_init, e3, isL, appD, SV.put, show uNeg (.int 1) = some (.val (.int (-1))) from rfl, wp_bnd, wp_rt, wp_mC, wp_mVar, wp_mNil, wp_mCons, wp_op1, wp_op2, wp_mTst, wp_mTru, wp_mAnd, wp_mOr, wp_mNot, wp_mBl, wp_mAndV, wp_mOrV, wp_mNotV, wp_mIte, wp_lk2, wp_mChain, wp_mTup, wp_mLst, wp_mB, wp_mDk, wp_mYes, wp_mPass, wp_mBreak, wp_mCont, nxt, wp_mSeq, wp_mIf, wp_mRet, wp_mExpr, wp_mAsg, wp_mAsgT, wp_mPar, wp_mPut, wp_mApp, wp_mSl, wp_mPartN, wp_mPartS, wp_mRev2, wp_mMt, wp_mCall, wpC_val, wpC_own, wp_mCallR, wp_mItV, wp_mItF, wp_mRng1, wp_mFor, wp_mComp, sm_some, sm_none, sm_ite, sm_map, look_val, look_own, look_bx, looks_nil, looks_cons, toV_val, toV_own, toVs_nil, toVs_cons, List.getElem?_cons_zero, List.getElem?_cons_succ, List.set_cons_zero, List.set_cons_succ, List.map_cons, List.map_nil, List.cons_append, List.nil_append, List.replicate_succ, List.replicate_zero, List.append_nil, truD_bl, items_str, items_tup, items_lst, fLen_tup, fLen_lst, bIx_tup, bIx_lst, tyD_str, tyD_int, tyD_bl, tyD_tup, tyD_lst, isTD_eq, isTn, fin_val, back_val, back_nil, back_pbx, Option.map_some, bxD_box, bxD_pbx, fin_own, if_true, if_false, Bool.false_eq_true]
          refine ⟨trivial, by rw [sizeLine_eq]; omega, cc ++ [.tup (i.map ptD ++ [.tup [.str s, d]])], _, rfl, by rw [List.length_append]; show cc.length + 1 + _ ≤ _; omega, ?_, fun d hd => hgd d (List.mem_cons_of_mem _ hd)⟩
          intro x hx
          rcases List.mem_append.mp hx with h | h
          · exact hgc x h
          · rw [List.mem_singleton.mp h]
            obtain ⟨h1, h2⟩ := hgd d (List.mem_cons_self ..)
            refine ⟨gf gi (by omega) (fit_tup ?_ (by rw [sizeLine_eq]; show 2 < _; omega)), ?_⟩
            · intro y hy
              simp only [List.mem_cons, List.not_mem_nil, or_false] at hy
              rcases hy with rfl | rfl
              · exact hfs
              · exact h1
            · have e : i.map ptD ++ [.tup [.str s, d]] = (i ++ [(s, d)]).map ptD := by rw [List.map_append] <;> rfl
              rw [e]
              exact pt_frac h2
        · rintro r ⟨cc, x2, rfl, hc, hgc, _⟩
          simp only [List.length_nil] at hc
          exact ⟨rfl, cc, x2, rfl, by omega, hgc⟩
      · rintro fl r ⟨rfl, cc, x2, rfl, hc, hgc⟩
        show wp _ _ _
        have e4 : bAdd (.str s) (.str "A") = some (.val (.str (s ++ "A"))) := bAdd_str (by have := hsn.len; rw [sizeLine_eq]; have := lenA; omega)
        have e5 : ∀ ys : List D, ys.length ≤ 5 → bAdd (.lst cc) (.lst ys) = some (.own (.lst (cc ++ ys))) := fun ys hy => bAdd_lst (by omega)
        have e6 : ∀ a b c : D, bAdd (.lst cc) (.lst [a, b, c]) = some (.own (.lst (cc ++ [a, b, c]))) := fun a b c => e5 _ (by show 3 ≤ 5; omega)
        simp only [bSl, cut_init, cut1, e3, e4, e6, show uNeg (.int 1) = some (.val (.int (-1))) from rfl, wp_bnd, wp_rt, wp_mC, wp_mVar, wp_mNil, wp_mCons, wp_op1, wp_op2, wp_mTst, wp_mTru, wp_mAnd, wp_mOr, wp_mNot, wp_mBl, wp_mAndV, wp_mOrV, wp_mNotV, wp_mIte, wp_lk2, wp_mChain, wp_mTup, wp_mLst, wp_mB, wp_mDk, wp_mYes, wp_mPass, wp_mBreak, wp_mCont, nxt, wp_mSeq, wp_mIf, wp_mRet, wp_mExpr, wp_mAsg, wp_mAsgT, wp_mPar, wp_mPut, wp_mApp, wp_mSl, wp_mPartN, wp_mPartS, wp_mRev2, wp_mMt, wp_mCall, wpC_val, wpC_own, wp_mCallR, wp_mItV, wp_mItF, wp_mRng1, wp_mFor, wp_mComp, sm_some, sm_none, sm_ite, sm_map, look_val, look_own, look_bx, looks_nil, looks_cons, toV_val, toV_own, toVs_nil, toVs_cons, List.getElem?_cons_zero, List.getElem?_cons_succ, List.set_cons_zero, List.set_cons_succ, List.map_cons, List.map_nil, List.cons_append, List.nil_append, List.replicate_succ, List.replicate_zero, List.append_nil, truD_bl, items_str, items_tup, items_lst, fLen_tup, fLen_lst, bIx_tup, bIx_lst, tyD_str, tyD_int, tyD_bl, tyD_tup, tyD_lst, isTD_eq, isTn, fin_val, back_val, back_nil, back_pbx, Option.map_some, bxD_box, bxD_pbx, fin_own, if_true, if_false, Bool.false_eq_true]
        refine ⟨trivial, _, _, _, _, rfl, by rw [List.length_append]; show _ + 3 ≤ _; omega, ?_⟩
        intro x hxc
        rcases List.mem_append.mp hxc with h1 | h1
        · exact hgc x h1
        · simp only [List.mem_cons, List.not_mem_nil, or_false] at h1
          rcases h1 with rfl | rfl | rfl
          · refine ⟨fit_tup (fun d hd => fit_mem g.fit (List.mem_of_mem_drop hd)) (by rw [List.length_drop, sizeLine_eq]; omega), ?_⟩
            rw [← hx, ← List.map_drop]
            refine pt_names fun e => ?_
            have := congrArg List.length e
            rw [List.length_map, List.length_drop, hlen] at this
            have h3 : 0 < ns.length := by rw [← hlen, List.length_append]; simp
            omega
          · have hok : PyData.strOk (s ++ ("A" : Str)) = true := ok_app hsn.ok (ok_string "A")
            have hln : (s ++ ("A" : Str)).length ≤ 11 := by rw [app_len]; have := hsn.len; have := lenA; omega
            refine ⟨gf gi (by omega) (fit_tup ?_ (by rw [sizeLine_eq]; show 2 < _; omega)), ?_⟩
            · intro y hy
              simp only [List.mem_cons, List.not_mem_nil, or_false] at hy
              rcases hy with rfl | rfl
              · exact (Gd.str (k := 0) hok (by omega)).fit
              · exact hfv
            · have e : i.map ptD ++ [.tup [.str (s ++ "A"), v]] = (i ++ [(s ++ ("A" : Str), v)]).map ptD := by rw [List.map_append] <;> rfl
              rw [e]
              refine pt_names fun e => ?_
              rw [← h.nms, List.map_append, List.map_append] at e
              have e9 := List.append_cancel_left e
              have e10 : s ++ ("A" : Str) = s := by simpa using e9
              have := congrArg Str.length e10
              rw [app_len] at this
              have : (Str.ofString "A").length = 1 := by decide +kernel
              omega
          · refine ⟨gf gi (by omega) rfl, pt_pair (all_app_bad rfl)⟩
  · rintro fl r ⟨rfl, cc, x2, x3, x4, rfl, hc, hgc⟩
    show wp _ _ _
    simp only [bGt_int, wp_bnd, wp_rt, wp_mC, wp_mVar, wp_mNil, wp_mCons, wp_op1, wp_op2, wp_mTst, wp_mTru, wp_mAnd, wp_mOr, wp_mNot, wp_mBl, wp_mAndV, wp_mOrV, wp_mNotV, wp_mIte, wp_lk2, wp_mChain, wp_mTup, wp_mLst, wp_mB, wp_mDk, wp_mYes, wp_mPass, wp_mBreak, wp_mCont, nxt, wp_mSeq, wp_mIf, wp_mRet, wp_mExpr, wp_mAsg, wp_mAsgT, wp_mPar, wp_mPut, wp_mApp, wp_mSl, wp_mPartN, wp_mPartS, wp_mRev2, wp_mMt, wp_mCall, wpC_val, wpC_own, wp_mCallR, wp_mItV, wp_mItF, wp_mRng1, wp_mFor, wp_mComp, sm_some, sm_none, sm_ite, sm_map, look_val, look_own, look_bx, looks_nil, looks_cons, toV_val, toV_own, toVs_nil, toVs_cons, List.getElem?_cons_zero, List.getElem?_cons_succ, List.set_cons_zero, List.set_cons_succ, List.map_cons, List.map_nil, List.cons_append, List.nil_append, List.replicate_succ, List.replicate_zero, List.append_nil, truD_bl, items_str, items_tup, items_lst, fLen_tup, fLen_lst, bIx_tup, bIx_lst, tyD_str, tyD_int, tyD_bl, tyD_tup, tyD_lst, isTD_eq, isTn, fin_val, back_val, back_nil, back_pbx, Option.map_some, bxD_box, bxD_pbx, fin_own, if_true, if_false, Bool.false_eq_true]
    by_cases h1 : 1 < ps.length
    · rw [if_pos (by rw [decide_eq_true_eq, List.length_map]; omega)]
      have e5 : ∀ y : D, bAdd (.lst cc) (.lst [y]) = some (.own (.lst (cc ++ [y]))) := fun y => bAdd_lst (by show _ + 1 ≤ _; omega)
      simp only [rev2D, e5, wp_bnd, wp_rt, wp_mC, wp_mVar, wp_mNil, wp_mCons, wp_op1, wp_op2, wp_mTst, wp_mTru, wp_mAnd, wp_mOr, wp_mNot, wp_mBl, wp_mAndV, wp_mOrV, wp_mNotV, wp_mIte, wp_lk2, wp_mChain, wp_mTup, wp_mLst, wp_mB, wp_mDk, wp_mYes, wp_mPass, wp_mBreak, wp_mCont, nxt, wp_mSeq, wp_mIf, wp_mRet, wp_mExpr, wp_mAsg, wp_mAsgT, wp_mPar, wp_mPut, wp_mApp, wp_mSl, wp_mPartN, wp_mPartS, wp_mRev2, wp_mMt, wp_mCall, wpC_val, wpC_own, wp_mCallR, wp_mItV, wp_mItF, wp_mRng1, wp_mFor, wp_mComp, sm_some, sm_none, sm_ite, sm_map, look_val, look_own, look_bx, looks_nil, looks_cons, toV_val, toV_own, toVs_nil, toVs_cons, List.getElem?_cons_zero, List.getElem?_cons_succ, List.set_cons_zero, List.set_cons_succ, List.map_cons, List.map_nil, List.cons_append, List.nil_append, List.replicate_succ, List.replicate_zero, List.append_nil, truD_bl, items_str, items_tup, items_lst, fLen_tup, fLen_lst, bIx_tup, bIx_lst, tyD_str, tyD_int, tyD_bl, tyD_tup, tyD_lst, isTD_eq, isTn, fin_val, back_val, back_nil, back_pbx, Option.map_some, bxD_box, bxD_pbx, fin_own, if_true, if_false, Bool.false_eq_true]
      refine ⟨_, rfl, by rw [List.length_append]; show _ + 1 ≤ _; omega, ?_⟩
      intro x hx
      rcases List.mem_append.mp hx with h2 | h2
      · exact hgc x h2
      · rw [List.mem_singleton.mp h2]
        refine ⟨fit_tup (fun d hd => fit_mem g.fit (List.mem_reverse.mp hd)) (by rw [List.length_reverse, sizeLine_eq]; omega), ?_⟩
        rw [← List.map_reverse]
        refine pt_names fun e => ?_
        rw [List.map_reverse, h.nms] at e
        have := ris_rev hr (by omega)
        rw [e, hr] at this
        cases this
    · rw [if_neg (by rw [decide_eq_true_eq, List.length_map]; omega)]
      have e5 : bAdd (.lst cc) (.lst []) = some (.own (.lst (cc ++ []))) := bAdd_lst (by show _ + 0 ≤ _; omega)
      simp only [e5, wp_bnd, wp_rt, wp_mC, wp_mVar, wp_mNil, wp_mCons, wp_op1, wp_op2, wp_mTst, wp_mTru, wp_mAnd, wp_mOr, wp_mNot, wp_mBl, wp_mAndV, wp_mOrV, wp_mNotV, wp_mIte, wp_lk2, wp_mChain, wp_mTup, wp_mLst, wp_mB, wp_mDk, wp_mYes, wp_mPass, wp_mBreak, wp_mCont, nxt, wp_mSeq, wp_mIf, wp_mRet, wp_mExpr, wp_mAsg, wp_mAsgT, wp_mPar, wp_mPut, wp_mApp, wp_mSl, wp_mPartN, wp_mPartS, wp_mRev2, wp_mMt, wp_mCall, wpC_val, wpC_own, wp_mCallR, wp_mItV, wp_mItF, wp_mRng1, wp_mFor, wp_mComp, sm_some, sm_none, sm_ite, sm_map, look_val, look_own, look_bx, looks_nil, looks_cons, toV_val, toV_own, toVs_nil, toVs_cons, List.getElem?_cons_zero, List.getElem?_cons_succ, List.set_cons_zero, List.set_cons_succ, List.map_cons, List.map_nil, List.cons_append, List.nil_append, List.replicate_succ, List.replicate_zero, List.append_nil, truD_bl, items_str, items_tup, items_lst, fLen_tup, fLen_lst, bIx_tup, bIx_lst, tyD_str, tyD_int, tyD_bl, tyD_tup, tyD_lst, isTD_eq, isTn, fin_val, back_val, back_nil, back_pbx, Option.map_some, bxD_box, bxD_pbx, fin_own, if_true, if_false, Bool.false_eq_true]
      exact ⟨_, rfl, by omega, hgc⟩
end
end Mi.J
end
section
set_option maxRecDepth 100000
set_option maxHeartbeats 2000000
namespace Mi.J
open PySem PySem.Spec L2
open PyProof.Rows hiding St
/-! the pen made -/
def mPen (K Q : Int) : M Fl := (mSeq (mAsg 1 false (mC (.int 0)))
  (mSeq (mFor (mItV (mVar 0)) (tgN 2) (mAsg 1 false (op2 bMod (mB fInt (mCons (op2 bAdd (op2 bMul (mVar 1) (mC (.int K))) (mVar 2)) mNil)) (mC (.int Q)))))
  (mRet (mDisp [((mC (.str "cells")), (mB fList (mCons (mVar 0) mNil))), ((mC (.str "at")), (mC (.int 0))), ((mC (.str "digits")), (mC (.int 0))), ((mC (.str "count")), (mC (.int 0))), ((mC (.str "fold")), (mVar 1))]))))
def PenF (F : Fun1) : Prop := ∀ ns : List Int, ∃ d l, F [.val (.scr ns)] = .ok (.own d) l ∧ Pn ns 0 d
theorem pen_of {K Q : Int} (hK : 0 ≤ K ∧ K < 2 ^ 31) (hM : 0 < Q ∧ Q ≤ 2 ^ 31) : PenF (defF 2 (mPen K Q)) := by
  intro ns
  have key : ∃ a l, defF 2 (mPen K Q) [.val (.scr ns)] = .ok a l ∧ ∃ d, a = .own d ∧ Pn ns 0 d := by
    refine wp_defF ?_
    unfold mPen
    refine wp_sq ?_
    generalize hk : nxt _ _ = Kt
    simp only [wp_bnd, wp_rt, wp_mC, wp_mVar, wp_mNil, wp_mCons, wp_op1, wp_op2, wp_mTst, wp_mTru, wp_mAnd, wp_mOr, wp_mNot, wp_mBl, wp_mAndV, wp_mOrV, wp_mNotV, wp_mIte, wp_lk2, wp_mChain, wp_mTup, wp_mLst, wp_mB, wp_mDk, wp_mYes, wp_mPass, wp_mBreak, wp_mCont, nxt, wp_mSeq, wp_mIf, wp_mRet, wp_mExpr, wp_mAsg, wp_mAsgT, wp_mPar, wp_mPut, wp_mApp, wp_mSl, wp_mPartN, wp_mPartS, wp_mRev2, wp_mMt, wp_mCall, wpC_val, wpC_own, wp_mCallR, wp_mItV, wp_mItF, wp_mRng1, wp_mFor, wp_mComp, sm_some, sm_none, sm_ite, sm_map, look_val, look_own, look_bx, looks_nil, looks_cons, toV_val, toV_own, toVs_nil, toVs_cons, List.getElem?_cons_zero, List.getElem?_cons_succ, List.set_cons_zero, List.set_cons_succ, List.map_cons, List.map_nil, List.cons_append, List.nil_append, List.replicate_succ, List.replicate_zero, List.append_nil, truD_bl, items_str, items_tup, items_lst, fLen_tup, fLen_lst, bIx_tup, bIx_lst, tyD_str, tyD_int, tyD_bl, tyD_tup, tyD_lst, isTD_eq, isTn, fin_val, back_val, back_nil, back_pbx, Option.map_some, bxD_box, bxD_pbx, fin_own, if_true, if_false, Bool.false_eq_true]
    subst hk
    show wp _ _ _
    refine wp_sq ?_
    refine wp_mono (P := fun (fl : Fl) (r : List SV) => fl = Fl.nx ∧ ∃ (f : Int) (x2 : SV), r = [.val (.scr ns), .val (.int f), x2] ∧ 0 ≤ f ∧ f < 2 ^ 31) ?_ ?_
    · simp only [show items (.scr ns) = some (ns.map .int) from rfl, wp_bnd, wp_rt, wp_mC, wp_mVar, wp_mNil, wp_mCons, wp_op1, wp_op2, wp_mTst, wp_mTru, wp_mAnd, wp_mOr, wp_mNot, wp_mBl, wp_mAndV, wp_mOrV, wp_mNotV, wp_mIte, wp_lk2, wp_mChain, wp_mTup, wp_mLst, wp_mB, wp_mDk, wp_mYes, wp_mPass, wp_mBreak, wp_mCont, nxt, wp_mSeq, wp_mIf, wp_mRet, wp_mExpr, wp_mAsg, wp_mAsgT, wp_mPar, wp_mPut, wp_mApp, wp_mSl, wp_mPartN, wp_mPartS, wp_mRev2, wp_mMt, wp_mCall, wpC_val, wpC_own, wp_mCallR, wp_mItV, wp_mItF, wp_mRng1, wp_mFor, wp_mComp, sm_some, sm_none, sm_ite, sm_map, look_val, look_own, look_bx, looks_nil, looks_cons, toV_val, toV_own, toVs_nil, toVs_cons, List.getElem?_cons_zero, List.getElem?_cons_succ, List.set_cons_zero, List.set_cons_succ, List.map_cons, List.map_nil, List.cons_append, List.nil_append, List.replicate_succ, List.replicate_zero, List.append_nil, truD_bl, items_str, items_tup, items_lst, fLen_tup, fLen_lst, bIx_tup, bIx_lst, tyD_str, tyD_int, tyD_bl, tyD_tup, tyD_lst, isTD_eq, isTn, fin_val, back_val, back_nil, back_pbx, Option.map_some, bxD_box, bxD_pbx, fin_own, if_true, if_false, Bool.false_eq_true]
      refine wp_loop (fun ds r => ∃ (f : Int) (x2 : SV) (rest : List Int), r = [.val (.scr ns), .val (.int f), x2] ∧ ds = rest.map .int ∧ 0 ≤ f ∧ f < 2 ^ 31) ⟨0, .un, ns, rfl, rfl, by omega, by omega⟩ ?_ ?_
      · rintro d ds r ⟨f, x2, rest, rfl, he, h0, h1⟩
        cases rest with
        | nil => cases he
        | cons z rest =>
          rw [List.map_cons, List.cons.injEq] at he
          obtain ⟨rfl, rfl⟩ := he
          simp only [tgN, bMul_int (okMul_small (i := f) (j := K) (by omega) (by omega)), show ∀ i j : Int, bAdd (.int i) (.int j) = some (.val (.int (i + j))) from fun _ _ => rfl, fInt, bMod_int (show Q ≠ 0 by omega), wp_bnd, wp_rt, wp_mC, wp_mVar, wp_mNil, wp_mCons, wp_op1, wp_op2, wp_mTst, wp_mTru, wp_mAnd, wp_mOr, wp_mNot, wp_mBl, wp_mAndV, wp_mOrV, wp_mNotV, wp_mIte, wp_lk2, wp_mChain, wp_mTup, wp_mLst, wp_mB, wp_mDk, wp_mYes, wp_mPass, wp_mBreak, wp_mCont, nxt, wp_mSeq, wp_mIf, wp_mRet, wp_mExpr, wp_mAsg, wp_mAsgT, wp_mPar, wp_mPut, wp_mApp, wp_mSl, wp_mPartN, wp_mPartS, wp_mRev2, wp_mMt, wp_mCall, wpC_val, wpC_own, wp_mCallR, wp_mItV, wp_mItF, wp_mRng1, wp_mFor, wp_mComp, sm_some, sm_none, sm_ite, sm_map, look_val, look_own, look_bx, looks_nil, looks_cons, toV_val, toV_own, toVs_nil, toVs_cons, List.getElem?_cons_zero, List.getElem?_cons_succ, List.set_cons_zero, List.set_cons_succ, List.map_cons, List.map_nil, List.cons_append, List.nil_append, List.replicate_succ, List.replicate_zero, List.append_nil, truD_bl, items_str, items_tup, items_lst, fLen_tup, fLen_lst, bIx_tup, bIx_lst, tyD_str, tyD_int, tyD_bl, tyD_tup, tyD_lst, isTD_eq, isTn, fin_val, back_val, back_nil, back_pbx, Option.map_some, bxD_box, bxD_pbx, fin_own, if_true, if_false, Bool.false_eq_true]
          refine ⟨_, _, rest, rfl, rfl, ?_, ?_⟩
          · rw [Int.fmod_eq_emod_of_nonneg _ (by omega)]; exact Int.emod_nonneg _ (by omega)
          · have := Int.fmod_lt_of_pos (f * K + z) hM.1
            omega
      · rintro r ⟨f, x2, rest, rfl, he, h0, h1⟩
        exact ⟨rfl, f, x2, rfl, h0, h1⟩
    · rintro fl r ⟨rfl, f, x2, rfl, h0, h1⟩
      unfold nxt
      dsimp only
      refine wp_of (a := Fl.rt (.own (penD ns 0 0 0 f))) (r' := [.val (.scr ns), .val (.int f), x2]) rfl ?_
      exact ⟨_, rfl, 0, 0, 0, f, rfl, by omega, by omega, by omega, h0, h1⟩
  obtain ⟨a, l, e, d, rfl, h⟩ := key
  exact ⟨d, l, e, h⟩
/-! a call that makes a value to be changed -/
theorem wp_lam {lam : M EV} {G : Out → R Fl} {P : EV → List SV → Prop} {r : List SV} {c : Str} {fs : List (Str × D)} {r1 l : List SV} {d : D} (h : lam r = .exc c fs r1) (g : G (.exc c fs) = .ok (.rt (.val d)) l) (p : P (.val d) r1) : wp (mLam lam G) P r := by
  refine wp_of (a := .val d) (r' := r1) ?_ p
  unfold mLam
  rw [h]
  dsimp only
  rw [g] <;> rfl
theorem callV_exc {F : Fun1} {ms : M (List EV)} {r r1 r2 l : List SV} {evs : List EV} {ds : List D} {c : Str} {fs : List (Str × D)} (h : ms r = .ok evs r1) (hv : toVs evs r1 = some (ds, r2)) (hF : F (ds.map .val) = .exc c fs l) : mCall F ms r = .exc c fs r2 := by
  unfold mCall bnd
  rw [h]
  show callV F evs r1 = _
  unfold callV
  rw [hv]
  dsimp only
  rw [hF]
theorem BkOk.fit (h : BkOk ns rows) : J.fit (bkD ns rows) = true := h.gB.fit
end Mi.J
end
section
set_option maxRecDepth 100000
set_option maxHeartbeats 4000000
/-! printed by gen.py -/
namespace K04
open PySem PySem.Spec L2 LamX Mi
open PyProof.Rows hiding St
def top (i : Nat) : Stmt := PySem.Challenge.pw_fargreater_k04_books_judged.main.body.getD i (.Pass ⟨0, 0, 0, 0⟩)
def c_SMALL : D := (.str "abcdefghijklmnopqrstuvwxyz")
def c_SIGNS : D := (.str "abcdefghijklmnopqrstuvwxyz0123456789")
def c_WORDS : D := (.tup [(.str ">="), (.str ">"), (.str "=")])
abbrev s_is_whole : Stmt := top 12
abbrev s_is_name : Stmt := top 13
abbrev s_is_fraction : Stmt := top 15
abbrev s_is_rising : Stmt := top 18
abbrev s_are_named : Stmt := top 19
abbrev s_is_form : Stmt := top 20
abbrev s_is_form_of : Stmt := top 21
abbrev s_is_row : Stmt := top 22
abbrev s_is_book : Stmt := top 23
abbrev s_need_book : Stmt := top 24
abbrev s_is_point_of : Stmt := top 25
abbrev s_is_point : Stmt := top 26
abbrev s__law_pen : Stmt := top 28
abbrev s__law_draw : Stmt := top 29
abbrev s__law_pick : Stmt := top 30
abbrev s__law_gcd : Stmt := top 31
abbrev s__law_fraction : Stmt := top 32
abbrev s__law_number : Stmt := top 33
abbrev s__law_names : Stmt := top 34
abbrev s__law_form : Stmt := top 35
abbrev s__law_row : Stmt := top 36
abbrev s__law_book : Stmt := top 37
abbrev s__law_point : Stmt := top 38
abbrev s__law_odd_forms : Stmt := top 40
abbrev s__law_odd_books : Stmt := top 41
abbrev s__law_odd_points : Stmt := top 42
abbrev s_law : Stmt := top 43
abbrev s__law_refused : Stmt := top 39
def kn : List Str := ["FarError", "BadNumber", "BadName", "NoName", "TakenName", "BadForm", "BadBook", "NotKept"]
def sub (c k : Str) : Bool := decide ((c, k) ∈ ([("FarError", "FarError"), ("BadNumber", "BadNumber"), ("BadNumber", "FarError"), ("BadName", "BadName"), ("BadName", "FarError"), ("NoName", "NoName"), ("NoName", "FarError"), ("TakenName", "TakenName"), ("TakenName", "FarError"), ("BadForm", "BadForm"), ("BadForm", "FarError"), ("BadBook", "BadBook"), ("BadBook", "FarError"), ("NotKept", "NotKept"), ("NotKept", "FarError")] : List (Str × Str)))
def fl (c : Str) : List Str := ((([("FarError", []), ("BadNumber", ["what", "number"]), ("BadName", ["name"]), ("NoName", ["name"]), ("TakenName", ["name"]), ("BadForm", ["form"]), ("BadBook", ["book"]), ("NotKept", ["promise", "witness"])] : List (Str × List Str)).find? fun p => decide (p.1 = c)).map (·.2)).getD []
structure Tx (K : PySem.W.Frag) (mg : Str → Option Value) (TB : List (Addr × Str)) : Prop where
  b_abs : mg "abs" = none
  b_all : mg "all" = none
  b_bool : mg "bool" = none
  b_dict : mg "dict" = none
  b_int : mg "int" = none
  b_isinstance : mg "isinstance" = none
  b_len : mg "len" = none
  b_list : mg "list" = none
  b_range : mg "range" = none
  b_repr : mg "repr" = none
  b_sorted : mg "sorted" = none
  b_str : mg "str" = none
  b_tuple : mg "tuple" = none
  b_zip : mg "zip" = none
  c_SIGNS : GlobE ⟨K, mg, TB⟩ "SIGNS" c_SIGNS
  c_SMALL : GlobE ⟨K, mg, TB⟩ "SMALL" c_SMALL
  c_WORDS : GlobE ⟨K, mg, TB⟩ "WORDS" c_WORDS
  g_gcd : mg "gcd" = some (.builtin "math.gcd")
  err : ErrK K mg sub kn fl
abbrev hs__law_refused : List Hd := [⟨"BadBook", some 1, suRet "BadBook" (fun fs => (tupO (consO (strO "book") (consO (repO (fldO fs "book")) nilO))))⟩, ⟨"BadForm", some 1, suRet "BadForm" (fun fs => (tupO (consO (strO "form") (consO (repO (fldO fs "form")) nilO))))⟩, ⟨"BadName", some 1, suRet "BadName" (fun fs => (tupO (consO (strO "name") (consO (repO (fldO fs "name")) nilO))))⟩, ⟨"NoName", some 1, suRet "NoName" (fun fs => (tupO (consO (strO "none") (consO (repO (fldO fs "name")) nilO))))⟩, ⟨"TakenName", some 1, suRet "TakenName" (fun fs => (tupO (consO (strO "taken") (consO (repO (fldO fs "name")) nilO))))⟩, ⟨"BadNumber", some 1, suRet "BadNumber" (fun fs => (tupO (consO (fldO fs "what") (consO (repO (fldO fs "number")) nilO))))⟩, ⟨"NotKept", some 1, suRet "NotKept" (fun fs => (tupO (consO (fldO fs "promise") (consO (repO (fldO fs "witness")) nilO))))⟩]
abbrev mr__law_refused : M Fl := (mRet (mC .none))
def G__law_refused (o : Out) : R Fl := gF false sub kn hs__law_refused mr__law_refused 2 o
theorem sc__law_refused : FnScope ["call", "e"] ["call"] (defScope s__law_refused) := ⟨rfl, rfl, rfl, by decide +kernel, rfl, by decide +kernel, by decide +kernel⟩
theorem LAM__law_refused {X : Cx} {v0 : List V} {W : WX} {Tb : List (Addr × Str)} (E : ErrK X.K X.mg sub kn fl) (br : X.mg "repr" = none) {g : Addr} {fd : FuncData} (Fg : L2.Fun X.K "_law_refused" "_law_refused" s__law_refused g fd) (hm : X.mg "_law_refused" = some (.ref g)) (hb : Binds X.K fd ["call"] []) {c Pt : Addr} {j m : Nat} {params : Arguments} {body : Expr} {scope : Scope} {lpos p pos : Pos} {lam : M EV}
    (hg : Gl X "_law_refused") (TB : TabB X.base X.mg c Pt) (hcode : X.env.code = .ref c) {qn : Str} (hqn : X.env.qual = qn) (hmT : (Pt, qn ++ "<lambda>") ∈ Tb) (hu : ∀ p ∈ Tb, p.1 = Pt → p.2 = qn ++ "<lambda>") (hr : Room m X.A) (hj : j + 2 ≤ m) (hgd : X.A.guards = some []) (L : LamS X.env.scope scope) (hdef : defaultsOf params X.env = ([], []))
    (hbind : ∀ (q : Str) (cl : List (Str × Addr)) (pm cv ctv : Value), bindArgs (PySem.W.kla_fn "<lambda>" q params body scope cl pm cv ctv) ⟨[], []⟩ = pure [])
    (hbody : ∀ (A : Around) (outer : List Env) (s : Shared) (H : Hp) (E : XK) (f c' : Addr), Room j (A.deeper (lamEnv X scope s.heap.objs.size f c')) → A.guards = some [] → PE (lamCx X A outer s H E scope f c') body (tE ⟨X.K, X.mg, Tb⟩ v0 (fun cls d _ H => E cls d H) lam)) :
    PE X (.Call (.Name "_law_refused" p) [.Lambda params body scope lpos] [] pos) (tE ⟨X.K, X.mg, Tb⟩ v0 W (mLam lam G__law_refused)) := by
  subst hqn
  obtain ⟨oc, od, kV, doc, pm, an, cdv, ct, osl, rfl, lk, hcd⟩ := Fg.ex
  have hR : HdsR ⟨X.K, X.mg, Tb⟩ X.K [] sub kn hs__law_refused _ := (HdsR.one E (h := ⟨"BadBook", some 1, suRet "BadBook" (fun fs => (tupO (consO (strO "book") (consO (repO (fldO fs "book")) nilO))))⟩) (by decide) (HdsR.one E (h := ⟨"BadForm", some 1, suRet "BadForm" (fun fs => (tupO (consO (strO "form") (consO (repO (fldO fs "form")) nilO))))⟩) (by decide) (HdsR.one E (h := ⟨"BadName", some 1, suRet "BadName" (fun fs => (tupO (consO (strO "name") (consO (repO (fldO fs "name")) nilO))))⟩) (by decide) (HdsR.one E (h := ⟨"NoName", some 1, suRet "NoName" (fun fs => (tupO (consO (strO "none") (consO (repO (fldO fs "name")) nilO))))⟩) (by decide) (HdsR.one E (h := ⟨"TakenName", some 1, suRet "TakenName" (fun fs => (tupO (consO (strO "taken") (consO (repO (fldO fs "name")) nilO))))⟩) (by decide) (HdsR.one E (h := ⟨"BadNumber", some 1, suRet "BadNumber" (fun fs => (tupO (consO (fldO fs "what") (consO (repO (fldO fs "number")) nilO))))⟩) (by decide) (HdsR.one E (h := ⟨"NotKept", some 1, suRet "NotKept" (fun fs => (tupO (consO (fldO fs "promise") (consO (repO (fldO fs "witness")) nilO))))⟩) (by decide) .nil)))))))
  refine PE.imp (pe_lamcall3 (Ng := ["call", "e"]) (a := "call") (T := Tb) (k := j) (t := fun E => tE ⟨X.K, X.mg, Tb⟩ v0 (fun cls d _ H => E cls d H) lam) hg hm Fg.kp lk hcd hb sc__law_refused rfl (by first | exact Or.inl rfl | exact Or.inr (Or.inl rfl)) (gives3 (ret := false) (C := ⟨X.K, X.mg, Tb⟩) (mr := mr__law_refused) sc__law_refused.nd (fun _ => rfl) (fun s H hr hgd => ?hh) (fun s H hr hgd => ?hrest)) TB hcode hmT hu (hr.mono hj) hgd L hdef hbind hbody) fun σ H Q h => tLam_of (by decide) hR h
  case hh => exact (.named (i := 1) ⟨rfl, by decide, .inl (E.mgC "BadBook" (by decide))⟩ rfl rfl (fun a oe cls d pn hz hf => su_ret (i := 1) (k := "BadBook") (o := fun fs => (tupO (consO (strO "book") (consO (repO (fldO fs "book")) nilO)))) (E.mgC "BadBook" (by decide)) fun dd fs hc hd => (qx_tup (qx_cons qx_str (qx_cons (qx_repr rfl hgd hr.units rfl br (px_fld (E.xf _ (by decide) _ (E.mgC _ (by decide))).1 ((E.xf _ (by decide) _ (E.mgC _ (by decide))).2 "book" (by decide)) hz hf hc hd rfl (by first | exact Or.inl rfl | exact Or.inr (Or.inl rfl)))) qx_nil)) (lenOS (lenOS lenO0)))) (.named (i := 1) ⟨rfl, by decide, .inl (E.mgC "BadForm" (by decide))⟩ rfl rfl (fun a oe cls d pn hz hf => su_ret (i := 1) (k := "BadForm") (o := fun fs => (tupO (consO (strO "form") (consO (repO (fldO fs "form")) nilO)))) (E.mgC "BadForm" (by decide)) fun dd fs hc hd => (qx_tup (qx_cons qx_str (qx_cons (qx_repr rfl hgd hr.units rfl br (px_fld (E.xf _ (by decide) _ (E.mgC _ (by decide))).1 ((E.xf _ (by decide) _ (E.mgC _ (by decide))).2 "form" (by decide)) hz hf hc hd rfl (by first | exact Or.inl rfl | exact Or.inr (Or.inl rfl)))) qx_nil)) (lenOS (lenOS lenO0)))) (.named (i := 1) ⟨rfl, by decide, .inl (E.mgC "BadName" (by decide))⟩ rfl rfl (fun a oe cls d pn hz hf => su_ret (i := 1) (k := "BadName") (o := fun fs => (tupO (consO (strO "name") (consO (repO (fldO fs "name")) nilO)))) (E.mgC "BadName" (by decide)) fun dd fs hc hd => (qx_tup (qx_cons qx_str (qx_cons (qx_repr rfl hgd hr.units rfl br (px_fld (E.xf _ (by decide) _ (E.mgC _ (by decide))).1 ((E.xf _ (by decide) _ (E.mgC _ (by decide))).2 "name" (by decide)) hz hf hc hd rfl (by first | exact Or.inl rfl | exact Or.inr (Or.inl rfl)))) qx_nil)) (lenOS (lenOS lenO0)))) (.named (i := 1) ⟨rfl, by decide, .inl (E.mgC "NoName" (by decide))⟩ rfl rfl (fun a oe cls d pn hz hf => su_ret (i := 1) (k := "NoName") (o := fun fs => (tupO (consO (strO "none") (consO (repO (fldO fs "name")) nilO)))) (E.mgC "NoName" (by decide)) fun dd fs hc hd => (qx_tup (qx_cons qx_str (qx_cons (qx_repr rfl hgd hr.units rfl br (px_fld (E.xf _ (by decide) _ (E.mgC _ (by decide))).1 ((E.xf _ (by decide) _ (E.mgC _ (by decide))).2 "name" (by decide)) hz hf hc hd rfl (by first | exact Or.inl rfl | exact Or.inr (Or.inl rfl)))) qx_nil)) (lenOS (lenOS lenO0)))) (.named (i := 1) ⟨rfl, by decide, .inl (E.mgC "TakenName" (by decide))⟩ rfl rfl (fun a oe cls d pn hz hf => su_ret (i := 1) (k := "TakenName") (o := fun fs => (tupO (consO (strO "taken") (consO (repO (fldO fs "name")) nilO)))) (E.mgC "TakenName" (by decide)) fun dd fs hc hd => (qx_tup (qx_cons qx_str (qx_cons (qx_repr rfl hgd hr.units rfl br (px_fld (E.xf _ (by decide) _ (E.mgC _ (by decide))).1 ((E.xf _ (by decide) _ (E.mgC _ (by decide))).2 "name" (by decide)) hz hf hc hd rfl (by first | exact Or.inl rfl | exact Or.inr (Or.inl rfl)))) qx_nil)) (lenOS (lenOS lenO0)))) (.named (i := 1) ⟨rfl, by decide, .inl (E.mgC "BadNumber" (by decide))⟩ rfl rfl (fun a oe cls d pn hz hf => su_ret (i := 1) (k := "BadNumber") (o := fun fs => (tupO (consO (fldO fs "what") (consO (repO (fldO fs "number")) nilO)))) (E.mgC "BadNumber" (by decide)) fun dd fs hc hd => (qx_tup (qx_cons (px_fld (E.xf _ (by decide) _ (E.mgC _ (by decide))).1 ((E.xf _ (by decide) _ (E.mgC _ (by decide))).2 "what" (by decide)) hz hf hc hd rfl (by first | exact Or.inl rfl | exact Or.inr (Or.inl rfl))) (qx_cons (qx_repr rfl hgd hr.units rfl br (px_fld (E.xf _ (by decide) _ (E.mgC _ (by decide))).1 ((E.xf _ (by decide) _ (E.mgC _ (by decide))).2 "number" (by decide)) hz hf hc hd rfl (by first | exact Or.inl rfl | exact Or.inr (Or.inl rfl)))) qx_nil)) (lenOS (lenOS lenO0)))) (.named (i := 1) ⟨rfl, by decide, .inl (E.mgC "NotKept" (by decide))⟩ rfl rfl (fun a oe cls d pn hz hf => su_ret (i := 1) (k := "NotKept") (o := fun fs => (tupO (consO (fldO fs "promise") (consO (repO (fldO fs "witness")) nilO)))) (E.mgC "NotKept" (by decide)) fun dd fs hc hd => (qx_tup (qx_cons (px_fld (E.xf _ (by decide) _ (E.mgC _ (by decide))).1 ((E.xf _ (by decide) _ (E.mgC _ (by decide))).2 "promise" (by decide)) hz hf hc hd rfl (by first | exact Or.inl rfl | exact Or.inr (Or.inl rfl))) (qx_cons (qx_repr rfl hgd hr.units rfl br (px_fld (E.xf _ (by decide) _ (E.mgC _ (by decide))).1 ((E.xf _ (by decide) _ (E.mgC _ (by decide))).2 "witness" (by decide)) hz hf hc hd rfl (by first | exact Or.inl rfl | exact Or.inr (Or.inl rfl)))) qx_nil)) (lenOS (lenOS lenO0)))) .nil)))))))
  case hrest => exact (pms_one (pms_ret pm_non))
def m_is_whole : M Fl := (mRet (mAndV (op1 (isTD .int) (mVar 0)) (mNotV (op1 (isTD .bool) (mVar 0)))))
def F_is_whole : Fun1 := defF 0 m_is_whole
def m_is_name : M Fl := (mSeq (mIf (mOr (mNot (mTru (op1 (isTD .str) (mVar 0)))) (mOr (mNot (mTst (mChain bLe bLe (mC (.int 1)) (mB fLen (mCons (mVar 0) mNil)) (mC (.int 12))))) (mTst (op2 bNotIn (op2 bIx (mVar 0) (mC (.int 0))) (mC c_SMALL))))) (mRet (mC (.bl false))) mPass)
  (mRet (mB fAll (mCons (mComp [1] (mItV (mVar 0)) (tgN 1) mYes (op2 bIn (mVar 1) (mC c_SIGNS))) mNil))))
def F_is_name : Fun1 := defF 1 m_is_name
def m_is_fraction : M Fl := (mSeq (mIf (mOr (mNot (mTru (op1 (isTD .tup) (mVar 0)))) (mOr (mTst (op2 bNe (mB fLen (mCons (mVar 0) mNil)) (mC (.int 2)))) (mNot (mTru (mB fAll (mCons (mComp [1] (mItV (mVar 0)) (tgN 1) mYes (mCall F_is_whole (mCons (mVar 1) mNil))) mNil)))))) (mRet (mC (.bl false))) mPass)
  (mRet (mAndV (op2 bGe (op2 bIx (mVar 0) (mC (.int 1))) (mC (.int 1))) (op2 bEq (mB fGcd (mCons (op2 bIx (mVar 0) (mC (.int 0))) (mCons (op2 bIx (mVar 0) (mC (.int 1))) mNil))) (mC (.int 1))))))
def F_is_fraction : Fun1 := defF 1 m_is_fraction
def m_is_rising : M Fl := (mRet (mB fAll (mCons (mComp [1, 2] (mItF zipD (mCons (mVar 0) (mCons (mSl (mVar 0) (some (mC (.int 1))) none) mNil))) (tgT [(tgN 1), (tgN 2)]) mYes (op2 bLt (mVar 1) (mVar 2))) mNil)))
def F_is_rising : Fun1 := defF 2 m_is_rising
def m_are_named : M Fl := (mSeq (mIf (mOr (mNot (mTru (op1 (isTD .tup) (mVar 0)))) (mNot (mTru (mB fAll (mCons (mComp [1] (mItV (mVar 0)) (tgN 1) mYes (mAndV (op1 (isTD .tup) (mVar 1)) (op2 bEq (mB fLen (mCons (mVar 1) mNil)) (mC (.int 2))))) mNil))))) (mRet (mC (.bl false))) mPass)
  (mRet (mAndV (mB fAll (mCons (mComp [1] (mItV (mVar 0)) (tgN 1) mYes (mCall F_is_name (mCons (op2 bIx (mVar 1) (mC (.int 0))) mNil))) mNil)) (mCall F_is_rising (mCons (mComp [1] (mItV (mVar 0)) (tgN 1) mYes (op2 bIx (mVar 1) (mC (.int 0)))) mNil)))))
def F_are_named : Fun1 := defF 1 m_are_named
def m_is_form : M Fl := (mRet (mAndV (mCall F_are_named (mCons (mVar 0) mNil)) (mB fAll (mCons (mComp [1, 2] (mItV (mVar 0)) (tgT [(tgN 1), (tgN 2)]) mYes (mAndV (mCall F_is_whole (mCons (mVar 2) mNil)) (op2 bNe (mVar 2) (mC (.int 0))))) mNil))))
def F_is_form : Fun1 := defF 2 m_is_form
def m_is_form_of : M Fl := (mRet (mAndV (mCall F_is_form (mCons (mVar 1) mNil)) (mB fAll (mCons (mComp [2, 3] (mItV (mVar 1)) (tgT [(tgN 2), (tgN 3)]) mYes (op2 bIn (mVar 2) (mVar 0))) mNil))))
def F_is_form_of : Fun1 := defF 2 m_is_form_of
def m_is_row : M Fl := (mSeq (mIf (mOr (mNot (mTru (op1 (isTD .tup) (mVar 1)))) (mOr (mTst (op2 bNe (mB fLen (mCons (mVar 1) mNil)) (mC (.int 3)))) (mNot (mTru (mCall F_is_form_of (mCons (mVar 0) (mCons (op2 bIx (mVar 1) (mC (.int 0))) mNil))))))) (mRet (mC (.bl false))) mPass)
  (mSeq (mIf (mNot (mTru (op1 (isTD .str) (op2 bIx (mVar 1) (mC (.int 1)))))) (mRet (mC (.bl false))) mPass)
  (mSeq (mIf (mTst (op2 bEq (op2 bIx (mVar 1) (mC (.int 1))) (mC (.str "far")))) (mRet (mCall F_is_form_of (mCons (mVar 0) (mCons (op2 bIx (mVar 1) (mC (.int 2))) mNil)))) mPass)
  (mRet (mAndV (op2 bIn (op2 bIx (mVar 1) (mC (.int 1))) (mC c_WORDS)) (mCall F_is_whole (mCons (op2 bIx (mVar 1) (mC (.int 2))) mNil)))))))
def F_is_row : Fun1 := defF 0 m_is_row
def m_is_book : M Fl := (mSeq (mIf (mOr (mNot (mTru (op1 (isTD .tup) (mVar 0)))) (mTst (op2 bNe (mB fLen (mCons (mVar 0) mNil)) (mC (.int 2))))) (mRet (mC (.bl false))) mPass)
  (mSeq (mAsgT (tgT [(tgN 1), (tgN 2)]) (mVar 0))
  (mSeq (mIf (mOr (mNot (mTru (op1 (isTD .tup) (mVar 1)))) (mNot (mTru (op1 (isTD .tup) (mVar 2))))) (mRet (mC (.bl false))) mPass)
  (mSeq (mIf (mOr (mNot (mTru (mB fAll (mCons (mComp [4] (mItV (mVar 1)) (tgN 4) mYes (mCall F_is_name (mCons (mVar 4) mNil))) mNil)))) (mNot (mTru (mCall F_is_rising (mCons (mVar 1) mNil))))) (mRet (mC (.bl false))) mPass)
  (mRet (mB fAll (mCons (mComp [3] (mItV (mVar 2)) (tgN 3) mYes (mCall F_is_row (mCons (mVar 1) (mCons (mVar 3) mNil)))) mNil)))))))
def F_is_book : Fun1 := defF 4 m_is_book
def m_need_book : M Fl := (mIf (mNot (mTru (mCall F_is_book (mCons (mVar 0) mNil)))) (mRaise "BadBook" ["book"] (mCons (mVar 0) mNil)) mPass)
def F_need_book : Fun1 := defF 0 m_need_book
def m_is_point_of : M Fl := (mSeq (mIf (mOr (mNot (mTru (mCall F_are_named (mCons (mVar 1) mNil)))) (mNot (mTru (mB fAll (mCons (mComp [2, 3] (mItV (mVar 1)) (tgT [(tgN 2), (tgN 3)]) mYes (mCall F_is_fraction (mCons (mVar 3) mNil))) mNil))))) (mRet (mC (.bl false))) mPass)
  (mRet (op2 bEq (mB fTuple (mCons (mComp [2, 3] (mItV (mVar 1)) (tgT [(tgN 2), (tgN 3)]) mYes (mVar 2)) mNil)) (mVar 0))))
def F_is_point_of : Fun1 := defF 2 m_is_point_of
def m_is_point : M Fl := (mSeq (mExpr (mCall F_need_book (mCons (mVar 0) mNil)))
  (mRet (mCall F_is_point_of (mCons (op2 bIx (mVar 0) (mC (.int 0))) (mCons (mVar 1) mNil)))))
def F_is_point : Fun1 := defF 0 m_is_point
def m__law_pen : M Fl := (mSeq (mAsg 1 false (mC (.int 0)))
  (mSeq (mFor (mItV (mVar 0)) (tgN 2) (mAsg 1 false (op2 bMod (mB fInt (mCons (op2 bAdd (op2 bMul (mVar 1) (mC (.int 79))) (mVar 2)) mNil)) (mC (.int 1000000021)))))
  (mRet (mDisp [((mC (.str "cells")), (mB fList (mCons (mVar 0) mNil))), ((mC (.str "at")), (mC (.int 0))), ((mC (.str "digits")), (mC (.int 0))), ((mC (.str "count")), (mC (.int 0))), ((mC (.str "fold")), (mVar 1))]))))
def F__law_pen : Fun1 := defF 2 m__law_pen
def m__law_draw : M Fl := (mSeq (mPut 0 (mC (.str "count")) (op2 bAdd (op2 bIx (mVar 0) (mC (.str "count"))) (mC (.int 1))))
  (mSeq (mIf (mAnd (mTst (op2 bEq (op2 bIx (mVar 0) (mC (.str "digits"))) (mC (.int 0)))) (mTst (op2 bLt (op2 bIx (mVar 0) (mC (.str "at"))) (mB fLen (mCons (op2 bIx (mVar 0) (mC (.str "cells"))) mNil))))) (mSeq (mAsg 3 false (op2 bIx (op2 bIx (mVar 0) (mC (.str "cells"))) (op2 bIx (mVar 0) (mC (.str "at")))))
  (mSeq (mPut 0 (mC (.str "at")) (op2 bAdd (op2 bIx (mVar 0) (mC (.str "at"))) (mC (.int 1))))
  (mIf (mTst (op2 bGe (mVar 3) (op2 bPow (mC (.int 10)) (mC (.int 18))))) (mPut 0 (mC (.str "digits")) (op2 bSub (mVar 3) (op2 bPow (mC (.int 10)) (mC (.int 18))))) (mPut 0 (mC (.str "fold")) (op2 bMod (mB fInt (mCons (op2 bAdd (op2 bMul (op2 bIx (mVar 0) (mC (.str "fold"))) (mC (.int 71993))) (mVar 3)) mNil)) (mC (.int 2147483549))))))) mPass)
  (mSeq (mIf (mTst (op2 bGt (op2 bIx (mVar 0) (mC (.str "digits"))) (mC (.int 0)))) (mSeq (mAsg 4 false (op2 bMod (mB fInt (mCons (op2 bIx (mVar 0) (mC (.str "digits"))) mNil)) (mVar 1)))
  (mSeq (mPut 0 (mC (.str "digits")) (op2 bDiv (op2 bIx (mVar 0) (mC (.str "digits"))) (mVar 1)))
  (mRet (mVar 4)))) mPass)
  (mSeq (mAsg 2 false (op2 bAdd (op2 bAdd (op2 bIx (mVar 0) (mC (.str "fold"))) (op2 bMul (op2 bIx (mVar 0) (mC (.str "count"))) (mC (.int 8369)))) (mC (.int 79))))
  (mRet (op2 bMod (op2 bDiv (mB fInt (mCons (op2 bMod (op2 bPow (mVar 2) (mC (.int 19))) (mC (.int 2305843009213693951))) mNil)) (mC (.int 128))) (mVar 1)))))))
def F__law_draw : Fun1 := defF 3 m__law_draw
def m__law_pick : M Fl := (mRet (op2 bIx (mVar 1) (mCallR F__law_draw 0 (mCons (mVar 0) (mCons (mB fLen (mCons (mVar 1) mNil)) mNil)))))
def F__law_pick : Fun1 := defF 0 m__law_pick
def m__law_gcd : M Fl := (mSeq (mPar [0, 1] [false, false] (mCons (mB fAbs (mCons (mVar 0) mNil)) (mCons (mB fAbs (mCons (mVar 1) mNil)) mNil)))
  (mSeq (mFor (mRng1 (mCons (mC (.int 4000)) mNil)) (tgN 2) (mSeq (mIf (mTst (op2 bEq (mVar 1) (mC (.int 0)))) (mRet (mVar 0)) mPass)
  (mPar [0, 1] [false, false] (mCons (mVar 1) (mCons (op2 bMod (mB fInt (mCons (mVar 0) mNil)) (mVar 1)) mNil)))))
  (mRet (mVar 0))))
def F__law_gcd : Fun1 := defF 1 m__law_gcd
def m__law_fraction : M Fl := (mSeq (mAsg 2 false (mCall F__law_gcd (mCons (mVar 0) (mCons (mVar 1) mNil))))
  (mRet (mTup (mCons (op2 bDiv (mVar 0) (mVar 2)) (mCons (op2 bDiv (mVar 1) (mVar 2)) mNil)))))
def F__law_fraction : Fun1 := defF 1 m__law_fraction
def m__law_number : M Fl := (mRet (op2 bAdd (mC (.int 1)) (mCallR F__law_draw 0 (mCons (mVar 0) (mCons (mCallR F__law_pick 0 (mCons (mVar 0) (mCons (mLst (mCons (mC (.int 3)) (mCons (mC (.int 9)) (mCons (mC (.int 9)) (mCons (mC (.int 40)) (mCons (op2 bPow (mC (.int 10)) (mC (.int 5))) mNil)))))) mNil))) mNil)))))
def F__law_number : Fun1 := defF 0 m__law_number
def m__law_names : M Fl := (mSeq (mPar [4, 5] [false, true] (mCons (mC (.str "abcdefghijklmnopqrstuvwxyz0123456789")) (mCons (mLst mNil) mNil)))
  (mSeq (mFor (mRng1 (mCons (mVar 1) mNil)) (tgN 2) (mSeq (mAsg 6 false (mMt .str fJoin (mC (.str "")) (mCons (mComp [7] (mRng1 (mCons (mCallR F__law_pick 0 (mCons (mVar 0) (mCons (mLst (mCons (mC (.int 0)) (mCons (mC (.int 0)) (mCons (mC (.int 1)) (mCons (mC (.int 3)) (mCons (mC (.int 8)) mNil)))))) mNil))) mNil)) (tgN 7) mYes (op2 bIx (mVar 4) (mCallR F__law_draw 0 (mCons (mVar 0) (mCons (mC (.int 36)) mNil))))) mNil)))
  (mExpr (mApp 5 (mCons (op2 bAdd (op2 bAdd (op2 bIx (mVar 4) (mCallR F__law_draw 0 (mCons (mVar 0) (mCons (mC (.int 26)) mNil)))) (mVar 6)) (mB fStr (mCons (op2 bMod (mVar 2) (mC (.int 10))) mNil))) mNil)))))
  (mSeq (mAsg 3 false (op2 bEq (mB fLen (mCons (mB fDict (mCons (mComp [8] (mItV (mVar 5)) (tgN 8) mYes (mTup (mCons (mVar 8) (mCons (mC (.bl true)) mNil)))) mNil)) mNil)) (mVar 1)))
  (mRet (mIte (mTru (mVar 3)) (mB fSort (mCons (mVar 5) mNil)) (mB fSort (mCons (mComp [2] (mRng1 (mCons (mVar 1) mNil)) (tgN 2) mYes (op2 bAdd (op2 bAdd (mC (.str "n")) (op2 bIx (mVar 4) (mVar 2))) (mC (.str "0")))) mNil)))))))
def F__law_names : Fun1 := defF 7 m__law_names
def m__law_form : M Fl := (mSeq (mAsg 2 true mDk)
  (mSeq (mFor (mRng1 (mCons (mIte (mTst (op2 bGt (mB fLen (mCons (mVar 1) mNil)) (mC (.int 0)))) (mCallR F__law_draw 0 (mCons (mVar 0) (mCons (mC (.int 4)) mNil))) (mC (.int 0))) mNil)) (tgN 3) (mPut 2 (mCallR F__law_pick 0 (mCons (mVar 0) (mCons (mVar 1) mNil))) (mCallR F__law_pick 0 (mCons (mVar 0) (mCons (mLst (mCons (mC (.int 1)) (mCons (mC (.int 1)) (mCons (op1 uNeg (mC (.int 1))) (mCons (mC (.int 2)) (mCons (op1 uNeg (mC (.int 3))) (mCons (mCallR F__law_number 0 (mCons (mVar 0) mNil)) mNil))))))) mNil)))))
  (mRet (mB fTuple (mCons (mComp [4] (mItV (mB fSort (mCons (mVar 2) mNil))) (tgN 4) mYes (mTup (mCons (mVar 4) (mCons (op2 bIx (mVar 2) (mVar 4)) mNil)))) mNil)))))
def F__law_form : Fun1 := defF 3 m__law_form
def m__law_row : M Fl := (mSeq (mIf (mTst (op2 bEq (mCallR F__law_draw 0 (mCons (mVar 0) (mCons (mC (.int 3)) mNil))) (mC (.int 0)))) (mRet (mTup (mCons (mCallR F__law_form 0 (mCons (mVar 0) (mCons (mVar 1) mNil))) (mCons (mC (.str "far")) (mCons (mCallR F__law_form 0 (mCons (mVar 0) (mCons (mVar 1) mNil))) mNil))))) mPass)
  (mRet (mTup (mCons (mCallR F__law_form 0 (mCons (mVar 0) (mCons (mVar 1) mNil))) (mCons (mCallR F__law_pick 0 (mCons (mVar 0) (mCons (mLst (mCons (mC (.str ">=")) (mCons (mC (.str ">")) (mCons (mC (.str "=")) mNil)))) mNil))) (mCons (op2 bSub (mCallR F__law_draw 0 (mCons (mVar 0) (mCons (mC (.int 9)) mNil))) (mC (.int 4))) mNil))))))
def F__law_row : Fun1 := defF 0 m__law_row
def m__law_book : M Fl := (mSeq (mAsg 2 false (mCallR F__law_names 0 (mCons (mVar 0) (mCons (mVar 1) mNil))))
  (mRet (mTup (mCons (mB fTuple (mCons (mVar 2) mNil)) (mCons (mB fTuple (mCons (mComp [3] (mRng1 (mCons (mCallR F__law_draw 0 (mCons (mVar 0) (mCons (mC (.int 6)) mNil))) mNil)) (tgN 3) mYes (mCallR F__law_row 0 (mCons (mVar 0) (mCons (mVar 2) mNil)))) mNil)) mNil)))))
def F__law_book : Fun1 := defF 2 m__law_book
def m__law_point : M Fl := (mSeq (mAsg 2 true (mLst mNil))
  (mSeq (mFor (mItV (mVar 1)) (tgN 3) (mExpr (mApp 2 (mCons (mTup (mCons (mVar 3) (mCons (mCall F__law_fraction (mCons (op2 bSub (mCallR F__law_draw 0 (mCons (mVar 0) (mCons (mC (.int 25)) mNil))) (mC (.int 8))) (mCons (mCallR F__law_pick 0 (mCons (mVar 0) (mCons (mLst (mCons (mC (.int 1)) (mCons (mC (.int 1)) (mCons (mC (.int 1)) (mCons (mC (.int 2)) (mCons (mC (.int 3)) mNil)))))) mNil))) mNil))) mNil))) mNil))))
  (mRet (mB fTuple (mCons (mVar 2) mNil)))))
def F__law_point : Fun1 := defF 2 m__law_point
def m__law_odd_forms : M Fl := (mSeq (mAsg 1 false (mLst (mCons (mC .none) (mCons (mB fList (mCons (mVar 0) mNil)) (mCons (op2 bAdd (mVar 0) (mTup (mCons (mC .none) mNil))) (mCons (op2 bAdd (mVar 0) (mTup (mCons (mTup (mCons (mC (.str "zz")) (mCons (mC (.int 0)) mNil))) mNil))) (mCons (mTup (mCons (mTup (mCons (mC (.str "A")) (mCons (mC (.int 1)) mNil))) mNil)) (mCons (mTup (mCons (mTup (mCons (mC (.str "a")) (mCons (mC (.bl true)) mNil))) mNil)) (mCons (mTup (mCons (mTup (mCons (mC (.str "a")) (mCons (mC (.str "1")) mNil))) mNil)) mNil)))))))))
  (mSeq (mAsg 1 false (op2 bAdd (mVar 1) (mLst (mCons (mTup (mCons (mTup (mCons (mC (.str "a")) mNil)) mNil)) (mCons (mTup (mCons (mLst (mCons (mC (.str "a")) (mCons (mC (.int 1)) mNil))) mNil)) (mCons (mTup (mCons (mTup (mCons (mC (.str "a")) (mCons (mC (.int 1)) (mCons (mC (.int 1)) mNil)))) mNil)) (mCons (mTup (mCons (mTup (mCons (mC (.int 3)) (mCons (mC (.int 1)) mNil))) mNil)) (mCons (mTup (mCons (mTup (mCons (mC (.str "b")) (mCons (mC (.int 1)) mNil))) (mCons (mTup (mCons (mC (.str "a")) (mCons (mC (.int 1)) mNil))) mNil))) (mCons (mTup (mCons (mTup (mCons (mC (.str "a")) (mCons (mC (.int 1)) mNil))) (mCons (mTup (mCons (mC (.str "a")) (mCons (mC (.int 2)) mNil))) mNil))) mNil)))))))))
  (mRet (op2 bAdd (mVar 1) (mLst (mCons mDk (mCons (mC (.str "a")) (mCons (mC (.int 0)) mNil))))))))
def F__law_odd_forms : Fun1 := defF 1 m__law_odd_forms
def m__law_odd_books : M Fl := (mSeq (mAsgT (tgT [(tgN 3), (tgN 4)]) (mVar 0))
  (mSeq (mAsg 1 false (mTup (mCons (mTup mNil) (mCons (mC (.str ">=")) (mCons (mC (.int 0)) mNil)))))
  (mSeq (mAsg 2 true (mLst (mCons (mC .none) (mCons (mB fList (mCons (mVar 0) mNil)) (mCons (mTup (mCons (mVar 3) mNil)) (mCons (mTup (mCons (mB fList (mCons (mVar 3) mNil)) (mCons (mVar 4) mNil))) (mCons (mTup (mCons (mVar 3) (mCons (mB fList (mCons (mVar 4) mNil)) mNil))) (mCons (op2 bAdd (mVar 0) (mTup (mCons (mTup mNil) mNil))) (mCons (mVar 3) (mCons mDk (mCons (mC (.str "")) mNil)))))))))))
  (mSeq (mAsg 2 true (op2 bAdd (mVar 2) (mLst (mCons (mTup (mCons (op2 bAdd (mVar 3) (mTup (mCons (mC (.str "A")) mNil))) (mCons (mVar 4) mNil))) (mCons (mTup (mCons (op2 bAdd (mVar 3) (mTup (mCons (mC (.int 3)) mNil))) (mCons (mVar 4) mNil))) (mCons (mTup (mCons (mVar 3) (mCons (op2 bAdd (mVar 4) (mTup (mCons (mC .none) mNil))) mNil))) (mCons (mTup (mCons (mVar 3) (mCons (op2 bAdd (mVar 4) (mTup (mCons (mB fList (mCons (mVar 1) mNil)) mNil))) mNil))) mNil)))))))
  (mSeq (mAsg 2 true (op2 bAdd (mVar 2) (mLst (mCons (mTup (mCons (mVar 3) (mCons (op2 bAdd (mVar 4) (mTup (mCons (mTup (mCons (mTup (mCons (mTup (mCons (mC (.str "nobody0")) (mCons (mC (.int 1)) mNil))) mNil)) (mCons (mC (.str ">")) (mCons (mC (.int 0)) mNil)))) mNil))) mNil))) (mCons (mTup (mCons (mVar 3) (mCons (op2 bAdd (mVar 4) (mTup (mCons (mTup (mCons (mTup mNil) (mCons (mC (.str "<")) (mCons (mC (.int 0)) mNil)))) mNil))) mNil))) mNil)))))
  (mSeq (mExpr (mApp 2 (mCons (mTup (mCons (mVar 3) (mCons (op2 bAdd (mVar 4) (mTup (mCons (mTup (mCons (mTup mNil) (mCons (mC (.str ">")) (mCons (mC (.str "0")) mNil)))) mNil))) mNil))) mNil)))
  (mSeq (mAsg 2 true (op2 bAdd (mVar 2) (mLst (mCons (mTup (mCons (mVar 3) (mCons (op2 bAdd (mVar 4) (mTup (mCons (mTup (mCons (mTup mNil) (mCons (mC (.str ">")) (mCons (mC (.bl true)) mNil)))) mNil))) mNil))) (mCons (mTup (mCons (mVar 3) (mCons (op2 bAdd (mVar 4) (mTup (mCons (mTup (mCons (mTup mNil) (mCons (mC (.str ">")) mNil))) mNil))) mNil))) (mCons (mTup (mCons (mVar 3) (mCons (op2 bAdd (mVar 4) (mTup (mCons (mTup (mCons (mTup mNil) (mCons (mC (.str "far")) (mCons (mC (.int 0)) mNil)))) mNil))) mNil))) mNil))))))
  (mSeq (mAsg 2 true (op2 bAdd (mVar 2) (mLst (mCons (mTup (mCons (mVar 3) (mCons (op2 bAdd (mVar 4) (mTup (mCons (mTup (mCons (mTup mNil) (mCons (mC (.str ">=")) (mCons (mTup mNil) mNil)))) mNil))) mNil))) (mCons (mTup (mCons (mVar 3) (mCons (op2 bAdd (mVar 4) (mTup (mCons (mTup (mCons (mTup mNil) (mCons (mC (.str "far")) (mCons (mTup (mCons (mTup (mCons (mC (.str "nobody0")) (mCons (mC (.int 1)) mNil))) mNil)) mNil)))) mNil))) mNil))) mNil)))))
  (mSeq (mExpr (mApp 2 (mCons (mTup (mCons (mVar 3) (mCons (op2 bAdd (mVar 4) (mTup (mCons (mTup mNil) mNil))) mNil))) mNil)))
  (mSeq (mAsg 2 true (op2 bAdd (mVar 2) (mLst (mCons (mTup (mCons (mVar 3) (mCons (op2 bAdd (mVar 4) (mTup (mCons (mTup (mCons (mTup mNil) (mCons (mC .none) (mCons (mC (.int 0)) mNil)))) mNil))) mNil))) (mCons (mTup (mCons (mVar 3) (mCons (op2 bAdd (mVar 4) (mTup (mCons (mTup (mCons (mTup mNil) (mCons (mLst mNil) (mCons (mC (.int 0)) mNil)))) mNil))) mNil))) (mCons (mTup (mCons (mVar 3) (mCons (op2 bAdd (mVar 4) (mTup (mCons (op2 bAdd (mVar 1) (mTup (mCons (mC (.int 1)) mNil))) mNil))) mNil))) mNil))))))
  (mSeq (mIf (mTst (op2 bGt (mB fLen (mCons (mVar 3) mNil)) (mC (.int 1)))) (mExpr (mApp 2 (mCons (mTup (mCons (mRev2 (mVar 3)) (mCons (mTup mNil) mNil))) mNil))) mPass)
  (mRet (op2 bAdd (mVar 2) (mIte (mTst (op2 bNe (mVar 3) (mTup mNil))) (mLst (mCons (mTup (mCons (op2 bAdd (mVar 3) (mSl (mVar 3) (some (op1 uNeg (mC (.int 1)))) none)) (mCons (mVar 4) mNil))) mNil)) (mLst mNil)))))))))))))))
def F__law_odd_books : Fun1 := defF 4 m__law_odd_books
def m__law_odd_points : M Fl := (mSeq (mAsg 1 true (mLst (mCons (mC .none) (mCons (mB fList (mCons (mVar 0) mNil)) (mCons (op2 bAdd (mVar 0) (mTup (mCons (mTup (mCons (mC (.str "zz9")) (mCons (mTup (mCons (mC (.int 1)) (mCons (mC (.int 1)) mNil))) mNil))) mNil))) (mCons mDk (mCons (mC (.str "")) (mCons (op2 bAdd (mVar 0) (mTup (mCons (mC .none) mNil))) mNil))))))))
  (mSeq (mIf (mTst (op2 bNe (mVar 0) (mTup mNil))) (mSeq (mAsgT (tgT [(tgN 3), (tgN 4)]) (op2 bIx (mVar 0) (op1 uNeg (mC (.int 1)))))
  (mSeq (mFor (mItV (mLst (mCons (mTup (mCons (mC (.int 2)) (mCons (mC (.int 4)) mNil))) (mCons (mTup (mCons (mC (.int 1)) (mCons (mC (.int 0)) mNil))) (mCons (mC (.int 1)) (mCons (mC .none) (mCons (mLst (mCons (mC (.int 1)) (mCons (mC (.int 1)) mNil))) (mCons (mTup (mCons (mC (.bl true)) (mCons (mC (.int 1)) mNil))) (mCons (mTup (mCons (mC (.int 1)) (mCons (mC (.int 1)) (mCons (mC (.int 1)) mNil)))) mNil))))))))) (tgN 2) (mExpr (mApp 1 (mCons (op2 bAdd (mSl (mVar 0) none (some (op1 uNeg (mC (.int 1))))) (mTup (mCons (mTup (mCons (mVar 3) (mCons (mVar 2) mNil))) mNil))) mNil))))
  (mAsg 1 true (op2 bAdd (mVar 1) (mLst (mCons (mSl (mVar 0) (some (mC (.int 1))) none) (mCons (op2 bAdd (mSl (mVar 0) none (some (op1 uNeg (mC (.int 1))))) (mTup (mCons (mTup (mCons (op2 bAdd (mVar 3) (mC (.str "A"))) (mCons (mVar 4) mNil))) mNil))) (mCons (op2 bAdd (mSl (mVar 0) none (some (op1 uNeg (mC (.int 1))))) (mTup (mCons (mLst (mCons (mVar 3) (mCons (mVar 4) mNil))) mNil))) mNil)))))))) mPass)
  (mRet (op2 bAdd (mVar 1) (mIte (mTst (op2 bGt (mB fLen (mCons (mVar 0) mNil)) (mC (.int 1)))) (mLst (mCons (mRev2 (mVar 0)) mNil)) (mLst mNil))))))
def F__law_odd_points : Fun1 := defF 4 m__law_odd_points
def m_law : M Fl := (mSeq (mAsg 1 true (mCall F__law_pen (mCons (mVar 0) mNil)))
  (mSeq (mFor (mRng1 (mCons (mC (.int 4)) mNil)) (tgN 2) (mSeq (mAsg 3 false (mCallR F__law_book 0 (mCons (mVar 1) (mCons (mCallR F__law_draw 0 (mCons (mVar 1) (mCons (mC (.int 6)) mNil))) mNil))))
  (mSeq (mPar [5, 6] [false, false] (mCons (mCallR F__law_form 0 (mCons (mVar 1) (mCons (op2 bIx (mVar 3) (mC (.int 0))) mNil))) (mCons (mCallR F__law_point 0 (mCons (mVar 1) (mCons (op2 bIx (mVar 3) (mC (.int 0))) mNil))) mNil)))
  (mSeq (mIf (mTst (op2 bNe (mLst (mCons (mCall F_is_book (mCons (mVar 3) mNil)) (mCons (mCall F_is_form (mCons (mVar 5) mNil)) (mCons (mCall F_is_form (mCons (mTup mNil) mNil)) (mCons (mCall F_is_point (mCons (mVar 3) (mCons (mVar 6) mNil))) mNil))))) (op2 bMul (mLst (mCons (mC (.bl true)) mNil)) (mC (.int 4))))) (mRet (mC (.bl false))) mPass)
  (mSeq (mFor (mItV (mCall F__law_odd_forms (mCons (mVar 5) mNil))) (tgN 4) (mIf (mTst (op2 (isD true) (mCall F_is_form (mCons (mVar 4) mNil)) (mC (.bl false)))) (mRet (mC (.bl false))) mPass))
  (mSeq (mFor (mItV (mCall F__law_odd_books (mCons (mVar 3) mNil))) (tgN 4) (mIf (mOr (mTst (op2 (isD true) (mCall F_is_book (mCons (mVar 4) mNil)) (mC (.bl false)))) (mTst (op2 bNe (mLam (mCall F_is_point (mCons (mVar 4) (mCons (mC .none) mNil))) G__law_refused) (mTup (mCons (mC (.str "book")) (mCons (mB fRepr (mCons (mVar 4) mNil)) mNil)))))) (mRet (mC (.bl false))) mPass))
  (mFor (mItV (mCall F__law_odd_points (mCons (mVar 6) mNil))) (tgN 4) (mIf (mTst (op2 (isD true) (mCall F_is_point (mCons (mVar 3) (mCons (mVar 4) mNil))) (mC (.bl false)))) (mRet (mC (.bl false))) mPass))))))))
  (mRet (mAndV (op2 (isD false) (mCall F_is_book (mCons (mTup (mCons (mTup mNil) (mCons (mTup mNil) mNil))) mNil)) (mC (.bl true))) (op2 (isD false) (mCall F_is_point (mCons (mTup (mCons (mTup mNil) (mCons (mTup mNil) mNil))) (mCons (mTup mNil) mNil))) (mC (.bl true)))))))
def F_law : Fun1 := defF 6 m_law
section
variable {P : Program} {w : World} {K : PySem.W.Frag} {mg : Str → Option Value} {base : Heap} {TB : List (Addr × Str)}
theorem sc_is_whole : FnScope ["value"] ["value"] (defScope s_is_whole) := ⟨rfl, rfl, rfl, by decide +kernel, rfl, by decide +kernel, by decide +kernel⟩
theorem ok_is_whole {f : Addr} {fd : FuncData} (F : L2.Fun K "is_whole" "is_whole" s_is_whole f fd) (T : Tx K mg TB) (hm : mg "is_whole" = some (.ref f)) (hb : Binds K fd ["value"] []) : Cal P w K mg base ⟨K, mg, TB⟩ "is_whole" 1 1 F_is_whole := by
  refine Cal.of2 (k := 0) F sc_is_whole rfl rfl hm hb fun cdv A outer s H vs E hr hgd lk => ?_
  exact (pms_one (pms_ret (pme_and (pm_isi .int rfl rfl T.b_isinstance Boot.«isinstance» rfl T.b_int Boot.«int» (vr 0)) (pme_one (pme_not (pm_isi .bool rfl rfl T.b_isinstance Boot.«isinstance» rfl T.b_bool Boot.«bool» (vr 0)))))))
theorem sc_is_name : FnScope ["value", "sign"] ["value"] (defScope s_is_name) := ⟨rfl, rfl, rfl, by decide +kernel, rfl, by decide +kernel, by decide +kernel⟩
theorem ok_is_name {f : Addr} {fd : FuncData} (F : L2.Fun K "is_name" "is_name" s_is_name f fd) (T : Tx K mg TB) (hm : mg "is_name" = some (.ref f)) (hb : Binds K fd ["value"] []) : Cal P w K mg base ⟨K, mg, TB⟩ "is_name" 1 1 F_is_name := by
  refine Cal.of2 (k := 0) F sc_is_name rfl rfl hm hb fun cdv A outer s H vs E hr hgd lk => ?_
  exact (pms_cons (pms_if (pmt_or (pmw_or (pmt_not (pmt_tru rfl (pm_isi .str rfl rfl T.b_isinstance Boot.«isinstance» rfl T.b_str Boot.«str» (vr 0)))) (pmw_or (pmt_not (pmt_chain op_leA op_leA val2_le val2_le pm_int (pm_callB cr_lenA (valN_len rfl) rfl T.b_len Boot.«len» (pm_cons (vr 0) pm_nil)) pm_int)) (pmw_or1 (pmt_cmp (op_notinA (u65 hr)) (val2_notin rfl) (pm_ix rfl (u1 hr) (vr 0) pm_int) (pm_globE rfl T.c_SMALL) (by with_unfolding_all rfl)))))) (pms_one (pms_ret pm_bl)) pms_nil)
    (pms_one (pms_ret (pm_callB (cr_all rfl) valN_all rfl T.b_all Boot.«all» (pm_cons (pm_comp rfl sc_is_name.nd (pmi_any rfl (vr 0)) (own := [("sign", 1)]) (blkOk_by (N := ["value", "sign"]) (sc := defScope s_is_name) (by decide +kernel)) (by decide) (fun _ _ _ _ _ => (pgw_name (i := 1) sc_is_name.nd rfl (by first | exact Or.inl rfl | exact Or.inr rfl))) (fun _ _ _ _ _ => pts_yes) (fun _ _ _ _ _ => (pm_cmp (op_inA (u65 hr)) (val2_in rfl) (vr 1) (pm_globE rfl T.c_SIGNS) (by with_unfolding_all rfl)))) pm_nil)))))
theorem sc_is_fraction : FnScope ["value", "item"] ["value"] (defScope s_is_fraction) := ⟨rfl, rfl, rfl, by decide +kernel, rfl, by decide +kernel, by decide +kernel⟩
theorem ok_is_fraction {f : Addr} {fd : FuncData} (F : L2.Fun K "is_fraction" "is_fraction" s_is_fraction f fd) (T : Tx K mg TB) (hm : mg "is_fraction" = some (.ref f)) (hb : Binds K fd ["value"] []) (k_is_whole : Cal P w K mg base ⟨K, mg, TB⟩ "is_whole" 1 1 F_is_whole) : Cal P w K mg base ⟨K, mg, TB⟩ "is_fraction" 2 1 F_is_fraction := by
  refine Cal.of2 (k := 1) F sc_is_fraction rfl rfl hm hb fun cdv A outer s H vs E hr hgd lk => ?_
  exact (pms_cons (pms_if (pmt_or (pmw_or (pmt_not (pmt_tru rfl (pm_isi .tup rfl rfl T.b_isinstance Boot.«isinstance» rfl T.b_tuple Boot.«tuple» (vr 0)))) (pmw_or (pmt_cmp (op_neD hr.units) (val2_ne rfl) (pm_callB cr_lenA (valN_len rfl) rfl T.b_len Boot.«len» (pm_cons (vr 0) pm_nil)) pm_int (nomark _)) (pmw_or1 (pmt_not (pmt_tru rfl (pm_callB (cr_all rfl) valN_all rfl T.b_all Boot.«all» (pm_cons (pm_comp rfl sc_is_fraction.nd (pmi_any rfl (vr 0)) (own := [("item", 1)]) (blkOk_by (N := ["value", "item"]) (sc := defScope s_is_fraction) (by decide +kernel)) (by decide) (fun _ _ _ _ _ => (pgw_name (i := 1) sc_is_fraction.nd rfl (by first | exact Or.inl rfl | exact Or.inr rfl))) (fun _ _ _ _ _ => pts_yes) (fun _ _ _ _ _ => (pm_callC k_is_whole hr (by decide) hgd rfl L2.takes0 (pm_cons (vr 1) pm_nil) (lenC lenN)))) pm_nil)))))))) (pms_one (pms_ret pm_bl)) pms_nil)
    (pms_one (pms_ret (pme_and (pm_cmp op_geA val2_ge (pm_ix rfl (u1 hr) (vr 0) pm_int) pm_int (nomark _)) (pme_one (pm_cmp (op_eqD hr.units) (val2_eq rfl) (pm_callBfun cr_gcd valN_gcd rfl T.g_gcd (pm_cons (pm_ix rfl (u1 hr) (vr 0) pm_int) (pm_cons (pm_ix rfl (u1 hr) (vr 0) pm_int) pm_nil))) pm_int (nomark _)))))))
theorem sc_is_rising : FnScope ["values", "one", "two"] ["values"] (defScope s_is_rising) := ⟨rfl, rfl, rfl, by decide +kernel, rfl, by decide +kernel, by decide +kernel⟩
theorem ok_is_rising {f : Addr} {fd : FuncData} (F : L2.Fun K "is_rising" "is_rising" s_is_rising f fd) (T : Tx K mg TB) (hm : mg "is_rising" = some (.ref f)) (hb : Binds K fd ["values"] []) : Cal P w K mg base ⟨K, mg, TB⟩ "is_rising" 1 1 F_is_rising := by
  refine Cal.of2 (k := 0) F sc_is_rising rfl rfl hm hb fun cdv A outer s H vs E hr hgd lk => ?_
  exact (pms_one (pms_ret (pm_callB (cr_all rfl) valN_all rfl T.b_all Boot.«all» (pm_cons (pm_comp rfl sc_is_rising.nd (pmi_zip rfl rfl T.b_zip (pm_cons (vr 0) (pm_cons (pm_sl rfl (vr 0) (pom_some pm_int) pom_none) pm_nil))) (own := [("one", 1), ("two", 2)]) (blkOk_by (N := ["values", "one", "two"]) (sc := defScope s_is_rising) (by decide +kernel)) (by decide) (fun _ _ _ _ _ => (pgw_tup rfl rfl (pgw_cons (pgw_name (i := 1) sc_is_rising.nd rfl (by first | exact Or.inl rfl | exact Or.inr rfl)) (pgw_cons (pgw_name (i := 2) sc_is_rising.nd rfl (by first | exact Or.inl rfl | exact Or.inr rfl)) pgw_nil)))) (fun _ _ _ _ _ => pts_yes) (fun _ _ _ _ _ => (pm_cmp op_ltA val2_lt (vr 1) (vr 2) (nomark _)))) pm_nil))))
theorem sc_are_named : FnScope ["value", "pair"] ["value"] (defScope s_are_named) := ⟨rfl, rfl, rfl, by decide +kernel, rfl, by decide +kernel, by decide +kernel⟩
theorem ok_are_named {f : Addr} {fd : FuncData} (F : L2.Fun K "are_named" "are_named" s_are_named f fd) (T : Tx K mg TB) (hm : mg "are_named" = some (.ref f)) (hb : Binds K fd ["value"] []) (k_is_name : Cal P w K mg base ⟨K, mg, TB⟩ "is_name" 1 1 F_is_name) (k_is_rising : Cal P w K mg base ⟨K, mg, TB⟩ "is_rising" 1 1 F_is_rising) : Cal P w K mg base ⟨K, mg, TB⟩ "are_named" 2 1 F_are_named := by
  refine Cal.of2 (k := 1) F sc_are_named rfl rfl hm hb fun cdv A outer s H vs E hr hgd lk => ?_
  exact (pms_cons (pms_if (pmt_or (pmw_or (pmt_not (pmt_tru rfl (pm_isi .tup rfl rfl T.b_isinstance Boot.«isinstance» rfl T.b_tuple Boot.«tuple» (vr 0)))) (pmw_or1 (pmt_not (pmt_tru rfl (pm_callB (cr_all rfl) valN_all rfl T.b_all Boot.«all» (pm_cons (pm_comp rfl sc_are_named.nd (pmi_any rfl (vr 0)) (own := [("pair", 1)]) (blkOk_by (N := ["value", "pair"]) (sc := defScope s_are_named) (by decide +kernel)) (by decide) (fun _ _ _ _ _ => (pgw_name (i := 1) sc_are_named.nd rfl (by first | exact Or.inl rfl | exact Or.inr rfl))) (fun _ _ _ _ _ => pts_yes) (fun _ _ _ _ _ => (pme_and (pm_isi .tup rfl rfl T.b_isinstance Boot.«isinstance» rfl T.b_tuple Boot.«tuple» (vr 1)) (pme_one (pm_cmp (op_eqD hr.units) (val2_eq rfl) (pm_callB cr_lenA (valN_len rfl) rfl T.b_len Boot.«len» (pm_cons (vr 1) pm_nil)) pm_int (nomark _)))))) pm_nil))))))) (pms_one (pms_ret pm_bl)) pms_nil)
    (pms_one (pms_ret (pme_and (pm_callB (cr_all rfl) valN_all rfl T.b_all Boot.«all» (pm_cons (pm_comp rfl sc_are_named.nd (pmi_any rfl (vr 0)) (own := [("pair", 1)]) (blkOk_by (N := ["value", "pair"]) (sc := defScope s_are_named) (by decide +kernel)) (by decide) (fun _ _ _ _ _ => (pgw_name (i := 1) sc_are_named.nd rfl (by first | exact Or.inl rfl | exact Or.inr rfl))) (fun _ _ _ _ _ => pts_yes) (fun _ _ _ _ _ => (pm_callC k_is_name hr (by decide) hgd rfl L2.takes0 (pm_cons (pm_ix rfl (u1 hr) (vr 1) pm_int) pm_nil) (lenC lenN)))) pm_nil)) (pme_one (pm_callC k_is_rising hr (by decide) hgd rfl (takes_of rfl rfl rfl rfl) (pm_cons (pm_comp rfl sc_are_named.nd (pmi_any rfl (vr 0)) (own := [("pair", 1)]) (blkOk_by (N := ["value", "pair"]) (sc := defScope s_are_named) (by decide +kernel)) (by decide) (fun _ _ _ _ _ => (pgw_name (i := 1) sc_are_named.nd rfl (by first | exact Or.inl rfl | exact Or.inr rfl))) (fun _ _ _ _ _ => pts_yes) (fun _ _ _ _ _ => (pm_ix rfl (u1 hr) (vr 1) pm_int))) pm_nil) (lenC lenN)))))))
theorem sc_is_form : FnScope ["value", "name", "factor"] ["value"] (defScope s_is_form) := ⟨rfl, rfl, rfl, by decide +kernel, rfl, by decide +kernel, by decide +kernel⟩
theorem ok_is_form {f : Addr} {fd : FuncData} (F : L2.Fun K "is_form" "is_form" s_is_form f fd) (T : Tx K mg TB) (hm : mg "is_form" = some (.ref f)) (hb : Binds K fd ["value"] []) (k_are_named : Cal P w K mg base ⟨K, mg, TB⟩ "are_named" 2 1 F_are_named) (k_is_whole : Cal P w K mg base ⟨K, mg, TB⟩ "is_whole" 1 1 F_is_whole) : Cal P w K mg base ⟨K, mg, TB⟩ "is_form" 3 1 F_is_form := by
  refine Cal.of2 (k := 2) F sc_is_form rfl rfl hm hb fun cdv A outer s H vs E hr hgd lk => ?_
  exact (pms_one (pms_ret (pme_and (pm_callC k_are_named hr (by decide) hgd rfl (takes_of rfl rfl rfl rfl) (pm_cons (vr 0) pm_nil) (lenC lenN)) (pme_one (pm_callB (cr_all rfl) valN_all rfl T.b_all Boot.«all» (pm_cons (pm_comp rfl sc_is_form.nd (pmi_any rfl (vr 0)) (own := [("name", 1), ("factor", 2)]) (blkOk_by (N := ["value", "name", "factor"]) (sc := defScope s_is_form) (by decide +kernel)) (by decide) (fun _ _ _ _ _ => (pgw_tup rfl rfl (pgw_cons (pgw_name (i := 1) sc_is_form.nd rfl (by first | exact Or.inl rfl | exact Or.inr rfl)) (pgw_cons (pgw_name (i := 2) sc_is_form.nd rfl (by first | exact Or.inl rfl | exact Or.inr rfl)) pgw_nil)))) (fun _ _ _ _ _ => pts_yes) (fun _ _ _ _ _ => (pme_and (pm_callC k_is_whole hr (by decide) hgd rfl L2.takes0 (pm_cons (vr 2) pm_nil) (lenC lenN)) (pme_one (pm_cmp (op_neD hr.units) (val2_ne rfl) (vr 2) pm_int (nomark _)))))) pm_nil))))))
theorem sc_is_form_of : FnScope ["names", "value", "name", "factor"] ["names", "value"] (defScope s_is_form_of) := ⟨rfl, rfl, rfl, by decide +kernel, rfl, by decide +kernel, by decide +kernel⟩
theorem ok_is_form_of {f : Addr} {fd : FuncData} (F : L2.Fun K "is_form_of" "is_form_of" s_is_form_of f fd) (T : Tx K mg TB) (hm : mg "is_form_of" = some (.ref f)) (hb : Binds K fd ["names", "value"] []) (k_is_form : Cal P w K mg base ⟨K, mg, TB⟩ "is_form" 3 1 F_is_form) : Cal P w K mg base ⟨K, mg, TB⟩ "is_form_of" 4 2 F_is_form_of := by
  refine Cal.of2 (k := 3) F sc_is_form_of rfl rfl hm hb fun cdv A outer s H vs E hr hgd lk => ?_
  exact (pms_one (pms_ret (pme_and (pm_callC k_is_form hr (by decide) hgd rfl (takes_of rfl rfl rfl rfl) (pm_cons (vr 1) pm_nil) (lenC lenN)) (pme_one (pm_callB (cr_all rfl) valN_all rfl T.b_all Boot.«all» (pm_cons (pm_comp rfl sc_is_form_of.nd (pmi_any rfl (vr 1)) (own := [("name", 2), ("factor", 3)]) (blkOk_by (N := ["names", "value", "name", "factor"]) (sc := defScope s_is_form_of) (by decide +kernel)) (by decide) (fun _ _ _ _ _ => (pgw_tup rfl rfl (pgw_cons (pgw_name (i := 2) sc_is_form_of.nd rfl (by first | exact Or.inl rfl | exact Or.inr rfl)) (pgw_cons (pgw_name (i := 3) sc_is_form_of.nd rfl (by first | exact Or.inl rfl | exact Or.inr rfl)) pgw_nil)))) (fun _ _ _ _ _ => pts_yes) (fun _ _ _ _ _ => (pm_cmp (op_inA (u65 hr)) (val2_in rfl) (vr 2) (vr 0) (by with_unfolding_all rfl)))) pm_nil))))))
theorem sc_is_row : FnScope ["names", "value"] ["names", "value"] (defScope s_is_row) := ⟨rfl, rfl, rfl, by decide +kernel, rfl, by decide +kernel, by decide +kernel⟩
theorem ok_is_row {f : Addr} {fd : FuncData} (F : L2.Fun K "is_row" "is_row" s_is_row f fd) (T : Tx K mg TB) (hm : mg "is_row" = some (.ref f)) (hb : Binds K fd ["names", "value"] []) (k_is_form_of : Cal P w K mg base ⟨K, mg, TB⟩ "is_form_of" 4 2 F_is_form_of) (k_is_whole : Cal P w K mg base ⟨K, mg, TB⟩ "is_whole" 1 1 F_is_whole) : Cal P w K mg base ⟨K, mg, TB⟩ "is_row" 5 2 F_is_row := by
  refine Cal.of2 (k := 4) F sc_is_row rfl rfl hm hb fun cdv A outer s H vs E hr hgd lk => ?_
  exact (pms_cons (pms_if (pmt_or (pmw_or (pmt_not (pmt_tru rfl (pm_isi .tup rfl rfl T.b_isinstance Boot.«isinstance» rfl T.b_tuple Boot.«tuple» (vr 1)))) (pmw_or (pmt_cmp (op_neD hr.units) (val2_ne rfl) (pm_callB cr_lenA (valN_len rfl) rfl T.b_len Boot.«len» (pm_cons (vr 1) pm_nil)) pm_int (nomark _)) (pmw_or1 (pmt_not (pmt_tru rfl (pm_callC k_is_form_of hr (by decide) hgd rfl (takes_of rfl rfl rfl rfl) (pm_cons (vr 0) (pm_cons (pm_ix rfl (u1 hr) (vr 1) pm_int) pm_nil)) (lenC (lenC lenN))))))))) (pms_one (pms_ret pm_bl)) pms_nil)
    (pms_cons (pms_if (pmt_not (pmt_tru rfl (pm_isi .str rfl rfl T.b_isinstance Boot.«isinstance» rfl T.b_str Boot.«str» (pm_ix rfl (u1 hr) (vr 1) pm_int)))) (pms_one (pms_ret pm_bl)) pms_nil)
    (pms_cons (pms_if (pmt_cmp (op_eqD hr.units) (val2_eq rfl) (pm_ix rfl (u1 hr) (vr 1) pm_int) pm_str (nomark _)) (pms_one (pms_ret (pm_callC k_is_form_of hr (by decide) hgd rfl (takes_of rfl rfl rfl rfl) (pm_cons (vr 0) (pm_cons (pm_ix rfl (u1 hr) (vr 1) pm_int) pm_nil)) (lenC (lenC lenN))))) pms_nil)
    (pms_one (pms_ret (pme_and (pm_cmp (op_inA (u65 hr)) (val2_in rfl) (pm_ix rfl (u1 hr) (vr 1) pm_int) (pm_globE rfl T.c_WORDS) (by with_unfolding_all rfl)) (pme_one (pm_callC k_is_whole hr (by decide) hgd rfl (takes_of rfl rfl rfl rfl) (pm_cons (pm_ix rfl (u1 hr) (vr 1) pm_int) pm_nil) (lenC lenN)))))))))
theorem sc_is_book : FnScope ["value", "names", "rows", "row", "name"] ["value"] (defScope s_is_book) := ⟨rfl, rfl, rfl, by decide +kernel, rfl, by decide +kernel, by decide +kernel⟩
theorem ok_is_book {f : Addr} {fd : FuncData} (F : L2.Fun K "is_book" "is_book" s_is_book f fd) (T : Tx K mg TB) (hm : mg "is_book" = some (.ref f)) (hb : Binds K fd ["value"] []) (k_is_name : Cal P w K mg base ⟨K, mg, TB⟩ "is_name" 1 1 F_is_name) (k_is_rising : Cal P w K mg base ⟨K, mg, TB⟩ "is_rising" 1 1 F_is_rising) (k_is_row : Cal P w K mg base ⟨K, mg, TB⟩ "is_row" 5 2 F_is_row) : Cal P w K mg base ⟨K, mg, TB⟩ "is_book" 6 1 F_is_book := by
  refine Cal.of2 (k := 5) F sc_is_book rfl rfl hm hb fun cdv A outer s H vs E hr hgd lk => ?_
  exact (pms_cons (pms_if (pmt_or (pmw_or (pmt_not (pmt_tru rfl (pm_isi .tup rfl rfl T.b_isinstance Boot.«isinstance» rfl T.b_tuple Boot.«tuple» (vr 0)))) (pmw_or1 (pmt_cmp (op_neD hr.units) (val2_ne rfl) (pm_callB cr_lenA (valN_len rfl) rfl T.b_len Boot.«len» (pm_cons (vr 0) pm_nil)) pm_int (nomark _))))) (pms_one (pms_ret pm_bl)) pms_nil)
    (pms_cons (pms_setT (vr 0) (pmg_tup rfl rfl (pmg_cons (pmg_name (i := 1) sc_is_book.nd rfl (by first | exact Or.inl rfl | exact Or.inr rfl)) (pmg_cons (pmg_name (i := 2) sc_is_book.nd rfl (by first | exact Or.inl rfl | exact Or.inr rfl)) pmg_nil))))
    (pms_cons (pms_if (pmt_or (pmw_or (pmt_not (pmt_tru rfl (pm_isi .tup rfl rfl T.b_isinstance Boot.«isinstance» rfl T.b_tuple Boot.«tuple» (vr 1)))) (pmw_or1 (pmt_not (pmt_tru rfl (pm_isi .tup rfl rfl T.b_isinstance Boot.«isinstance» rfl T.b_tuple Boot.«tuple» (vr 2))))))) (pms_one (pms_ret pm_bl)) pms_nil)
    (pms_cons (pms_if (pmt_or (pmw_or (pmt_not (pmt_tru rfl (pm_callB (cr_all rfl) valN_all rfl T.b_all Boot.«all» (pm_cons (pm_comp rfl sc_is_book.nd (pmi_any rfl (vr 1)) (own := [("name", 4)]) (blkOk_by (N := ["value", "names", "rows", "row", "name"]) (sc := defScope s_is_book) (by decide +kernel)) (by decide) (fun _ _ _ _ _ => (pgw_name (i := 4) sc_is_book.nd rfl (by first | exact Or.inl rfl | exact Or.inr rfl))) (fun _ _ _ _ _ => pts_yes) (fun _ _ _ _ _ => (pm_callC k_is_name hr (by decide) hgd rfl L2.takes0 (pm_cons (vr 4) pm_nil) (lenC lenN)))) pm_nil)))) (pmw_or1 (pmt_not (pmt_tru rfl (pm_callC k_is_rising hr (by decide) hgd rfl (takes_of rfl rfl rfl rfl) (pm_cons (vr 1) pm_nil) (lenC lenN))))))) (pms_one (pms_ret pm_bl)) pms_nil)
    (pms_one (pms_ret (pm_callB (cr_all rfl) valN_all rfl T.b_all Boot.«all» (pm_cons (pm_comp rfl sc_is_book.nd (pmi_any rfl (vr 2)) (own := [("row", 3)]) (blkOk_by (N := ["value", "names", "rows", "row", "name"]) (sc := defScope s_is_book) (by decide +kernel)) (by decide) (fun _ _ _ _ _ => (pgw_name (i := 3) sc_is_book.nd rfl (by first | exact Or.inl rfl | exact Or.inr rfl))) (fun _ _ _ _ _ => pts_yes) (fun _ _ _ _ _ => (pm_callC k_is_row hr (by decide) hgd rfl L2.takes0 (pm_cons (vr 1) (pm_cons (vr 3) pm_nil)) (lenC (lenC lenN))))) pm_nil))))))))
theorem sc_need_book : FnScope ["value"] ["value"] (defScope s_need_book) := ⟨rfl, rfl, rfl, by decide +kernel, rfl, by decide +kernel, by decide +kernel⟩
theorem ok_need_book {f : Addr} {fd : FuncData} (F : L2.Fun K "need_book" "need_book" s_need_book f fd) (T : Tx K mg TB) (hm : mg "need_book" = some (.ref f)) (hb : Binds K fd ["value"] []) (k_is_book : Cal P w K mg base ⟨K, mg, TB⟩ "is_book" 6 1 F_is_book) (o_BadBook : OwnC P w K mg base "BadBook" ["book"]) : Cal P w K mg base ⟨K, mg, TB⟩ "need_book" 7 1 F_need_book := by
  refine Cal.of2 (k := 6) F sc_need_book rfl rfl hm hb fun cdv A outer s H vs E hr hgd lk => ?_
  exact (pms_one (pms_if (pmt_not (pmt_tru rfl (pm_callC k_is_book hr (by decide) hgd rfl (takes_of rfl rfl rfl rfl) (pm_cons (vr 0) pm_nil) (lenC lenN)))) (pms_one (pms_raiseC o_BadBook hr (by decide) rfl rfl (takes_of rfl rfl rfl rfl) (pm_cons (vr 0) pm_nil) (lenC lenN))) pms_nil))
theorem sc_is_point_of : FnScope ["names", "value", "name", "number"] ["names", "value"] (defScope s_is_point_of) := ⟨rfl, rfl, rfl, by decide +kernel, rfl, by decide +kernel, by decide +kernel⟩
theorem ok_is_point_of {f : Addr} {fd : FuncData} (F : L2.Fun K "is_point_of" "is_point_of" s_is_point_of f fd) (T : Tx K mg TB) (hm : mg "is_point_of" = some (.ref f)) (hb : Binds K fd ["names", "value"] []) (k_are_named : Cal P w K mg base ⟨K, mg, TB⟩ "are_named" 2 1 F_are_named) (k_is_fraction : Cal P w K mg base ⟨K, mg, TB⟩ "is_fraction" 2 1 F_is_fraction) : Cal P w K mg base ⟨K, mg, TB⟩ "is_point_of" 3 2 F_is_point_of := by
  refine Cal.of2 (k := 2) F sc_is_point_of rfl rfl hm hb fun cdv A outer s H vs E hr hgd lk => ?_
  exact (pms_cons (pms_if (pmt_or (pmw_or (pmt_not (pmt_tru rfl (pm_callC k_are_named hr (by decide) hgd rfl (takes_of rfl rfl rfl rfl) (pm_cons (vr 1) pm_nil) (lenC lenN)))) (pmw_or1 (pmt_not (pmt_tru rfl (pm_callB (cr_all rfl) valN_all rfl T.b_all Boot.«all» (pm_cons (pm_comp rfl sc_is_point_of.nd (pmi_any rfl (vr 1)) (own := [("name", 2), ("number", 3)]) (blkOk_by (N := ["names", "value", "name", "number"]) (sc := defScope s_is_point_of) (by decide +kernel)) (by decide) (fun _ _ _ _ _ => (pgw_tup rfl rfl (pgw_cons (pgw_name (i := 2) sc_is_point_of.nd rfl (by first | exact Or.inl rfl | exact Or.inr rfl)) (pgw_cons (pgw_name (i := 3) sc_is_point_of.nd rfl (by first | exact Or.inl rfl | exact Or.inr rfl)) pgw_nil)))) (fun _ _ _ _ _ => pts_yes) (fun _ _ _ _ _ => (pm_callC k_is_fraction hr (by decide) hgd rfl L2.takes0 (pm_cons (vr 3) pm_nil) (lenC lenN)))) pm_nil))))))) (pms_one (pms_ret pm_bl)) pms_nil)
    (pms_one (pms_ret (pm_cmp (op_eqD hr.units) (val2_eq rfl) (pm_callTy call_tuple_of (valN_tuple rfl) rfl T.b_tuple Boot.«tuple» (pm_cons (pm_comp rfl sc_is_point_of.nd (pmi_any rfl (vr 1)) (own := [("name", 2), ("number", 3)]) (blkOk_by (N := ["names", "value", "name", "number"]) (sc := defScope s_is_point_of) (by decide +kernel)) (by decide) (fun _ _ _ _ _ => (pgw_tup rfl rfl (pgw_cons (pgw_name (i := 2) sc_is_point_of.nd rfl (by first | exact Or.inl rfl | exact Or.inr rfl)) (pgw_cons (pgw_name (i := 3) sc_is_point_of.nd rfl (by first | exact Or.inl rfl | exact Or.inr rfl)) pgw_nil)))) (fun _ _ _ _ _ => pts_yes) (fun _ _ _ _ _ => (vr 2))) pm_nil)) (vr 0) (nomark _)))))
theorem sc_is_point : FnScope ["book", "value"] ["book", "value"] (defScope s_is_point) := ⟨rfl, rfl, rfl, by decide +kernel, rfl, by decide +kernel, by decide +kernel⟩
theorem ok_is_point {f : Addr} {fd : FuncData} (F : L2.Fun K "is_point" "is_point" s_is_point f fd) (T : Tx K mg TB) (hm : mg "is_point" = some (.ref f)) (hb : Binds K fd ["book", "value"] []) (k_is_point_of : Cal P w K mg base ⟨K, mg, TB⟩ "is_point_of" 3 2 F_is_point_of) (k_need_book : Cal P w K mg base ⟨K, mg, TB⟩ "need_book" 7 1 F_need_book) : Cal P w K mg base ⟨K, mg, TB⟩ "is_point" 8 2 F_is_point := by
  refine Cal.of2 (k := 7) F sc_is_point rfl rfl hm hb fun cdv A outer s H vs E hr hgd lk => ?_
  exact (pms_cons (pms_expr (pm_callC k_need_book hr (by decide) hgd rfl (takes_of rfl rfl rfl rfl) (pm_cons (vr 0) pm_nil) (lenC lenN)))
    (pms_one (pms_ret (pm_callC k_is_point_of hr (by decide) hgd rfl (takes_of rfl rfl rfl rfl) (pm_cons (pm_ix rfl (u1 hr) (vr 0) pm_int) (pm_cons (vr 1) pm_nil)) (lenC (lenC lenN))))))
theorem sc__law_pen : FnScope ["script", "fold", "cell"] ["script"] (defScope s__law_pen) := ⟨rfl, rfl, rfl, by decide +kernel, rfl, by decide +kernel, by decide +kernel⟩
theorem ok__law_pen {f : Addr} {fd : FuncData} (F : L2.Fun K "_law_pen" "_law_pen" s__law_pen f fd) (T : Tx K mg TB) (hm : mg "_law_pen" = some (.ref f)) (hb : Binds K fd ["script"] []) : Cal P w K mg base ⟨K, mg, TB⟩ "_law_pen" 1 1 F__law_pen := by
  refine Cal.of2 (k := 0) F sc__law_pen rfl rfl hm hb fun cdv A outer s H vs E hr hgd lk => ?_
  exact (pms_cons (pms_set (i := 1) false sc__law_pen.nd rfl (by first | exact Or.inl rfl | exact Or.inr rfl) pm_int)
    (pms_cons (pms_for (passes_of rfl) rfl (pmi_any rfl (vr 0)) (pmg_name (i := 2) sc__law_pen.nd rfl (by first | exact Or.inl rfl | exact Or.inr rfl)) (pms_one (pms_set (i := 1) false sc__law_pen.nd rfl (by first | exact Or.inl rfl | exact Or.inr rfl) (pm_bin op_modN val2_mod (pm_callTy call_int1 valN_int rfl T.b_int Boot.«int» (pm_cons (pm_bin op_addA (val2_add rfl) (pm_bin op_mulA val2_mul (vr 1) pm_int) (vr 2)) pm_nil)) pm_int))))
    (pms_one (pms_ret (pm_disp (.cons pm_str (pm_callTy call_list_of (valN_list rfl) rfl T.b_list Boot.«list» (pm_cons (vr 0) pm_nil)) (.cons pm_str pm_int (.cons pm_str pm_int (.cons pm_str pm_int (.cons pm_str (vr 1) .nil))))) (by simp) (by decide))))))
theorem sc__law_draw : FnScope ["pen", "many", "blend", "cell", "digit"] ["pen", "many"] (defScope s__law_draw) := ⟨rfl, rfl, rfl, by decide +kernel, rfl, by decide +kernel, by decide +kernel⟩
theorem ok__law_draw {f : Addr} {fd : FuncData} (F : L2.Fun K "_law_draw" "_law_draw" s__law_draw f fd) (T : Tx K mg TB) (hm : mg "_law_draw" = some (.ref f)) (hb : Binds K fd ["pen", "many"] []) : Cal P w K mg base ⟨K, mg, TB⟩ "_law_draw" 1 2 F__law_draw := by
  refine Cal.of2 (k := 0) F sc__law_draw rfl rfl hm hb fun cdv A outer s H vs E hr hgd lk => ?_
  exact (pms_cons (pms_put (i := 0) (u1 hr) rfl (by first | exact Or.inl rfl | exact Or.inr (Or.inl rfl) | exact Or.inr (Or.inr rfl)) pm_str (pm_bin op_addA (val2_add rfl) (pm_ix rfl (u1 hr) (vr 0) pm_str) pm_int))
    (pms_cons (pms_if (pmt_and (pmw_and (pmt_cmp (op_eqD hr.units) (val2_eq rfl) (pm_ix rfl (u1 hr) (vr 0) pm_str) pm_int (nomark _)) (pmw_and1 (pmt_cmp op_ltA val2_lt (pm_ix rfl (u1 hr) (vr 0) pm_str) (pm_callB cr_lenA (valN_len rfl) rfl T.b_len Boot.«len» (pm_cons (pm_ix rfl (u1 hr) (vr 0) pm_str) pm_nil)) (nomark _))))) (pms_cons (pms_set (i := 3) false sc__law_draw.nd rfl (by first | exact Or.inl rfl | exact Or.inr rfl) (pm_ix rfl (u1 hr) (pm_ix rfl (u1 hr) (vr 0) pm_str) (pm_ix rfl (u1 hr) (vr 0) pm_str)))
    (pms_cons (pms_put (i := 0) (u1 hr) rfl (by first | exact Or.inl rfl | exact Or.inr (Or.inl rfl) | exact Or.inr (Or.inr rfl)) pm_str (pm_bin op_addA (val2_add rfl) (pm_ix rfl (u1 hr) (vr 0) pm_str) pm_int))
    (pms_one (pms_if (pmt_cmp op_geA val2_ge (vr 3) (pm_bin op_pow val2_pow pm_int pm_int) (nomark _)) (pms_one (pms_put (i := 0) (u1 hr) rfl (by first | exact Or.inl rfl | exact Or.inr (Or.inl rfl) | exact Or.inr (Or.inr rfl)) pm_str (pm_bin op_sub val2_sub (vr 3) (pm_bin op_pow val2_pow pm_int pm_int)))) (pms_one (pms_put (i := 0) (u1 hr) rfl (by first | exact Or.inl rfl | exact Or.inr (Or.inl rfl) | exact Or.inr (Or.inr rfl)) pm_str (pm_bin op_modN val2_mod (pm_callTy call_int1 valN_int rfl T.b_int Boot.«int» (pm_cons (pm_bin op_addA (val2_add rfl) (pm_bin op_mulA val2_mul (pm_ix rfl (u1 hr) (vr 0) pm_str) pm_int) (vr 3)) pm_nil)) pm_int))))))) pms_nil)
    (pms_cons (pms_if (pmt_cmp op_gtA val2_gt (pm_ix rfl (u1 hr) (vr 0) pm_str) pm_int (nomark _)) (pms_cons (pms_set (i := 4) false sc__law_draw.nd rfl (by first | exact Or.inl rfl | exact Or.inr rfl) (pm_bin op_modN val2_mod (pm_callTy call_int1 valN_int rfl T.b_int Boot.«int» (pm_cons (pm_ix rfl (u1 hr) (vr 0) pm_str) pm_nil)) (vr 1)))
    (pms_cons (pms_put (i := 0) (u1 hr) rfl (by first | exact Or.inl rfl | exact Or.inr (Or.inl rfl) | exact Or.inr (Or.inr rfl)) pm_str (pm_bin op_fdivX val2_div (pm_ix rfl (u1 hr) (vr 0) pm_str) (vr 1)))
    (pms_one (pms_ret (vr 4))))) pms_nil)
    (pms_cons (pms_set (i := 2) false sc__law_draw.nd rfl (by first | exact Or.inl rfl | exact Or.inr rfl) (pm_bin op_addA (val2_add rfl) (pm_bin op_addA (val2_add rfl) (pm_ix rfl (u1 hr) (vr 0) pm_str) (pm_bin op_mulA val2_mul (pm_ix rfl (u1 hr) (vr 0) pm_str) pm_int)) pm_int))
    (pms_one (pms_ret (pm_bin op_modN val2_mod (pm_bin op_fdivX val2_div (pm_callTy call_int1 valN_int rfl T.b_int Boot.«int» (pm_cons (pm_bin op_modN val2_mod (pm_bin op_pow val2_pow (vr 2) pm_int) pm_int) pm_nil)) pm_int) (vr 1))))))))
theorem sc__law_pick : FnScope ["pen", "some"] ["pen", "some"] (defScope s__law_pick) := ⟨rfl, rfl, rfl, by decide +kernel, rfl, by decide +kernel, by decide +kernel⟩
theorem ok__law_pick {f : Addr} {fd : FuncData} (F : L2.Fun K "_law_pick" "_law_pick" s__law_pick f fd) (T : Tx K mg TB) (hm : mg "_law_pick" = some (.ref f)) (hb : Binds K fd ["pen", "some"] []) (k__law_draw : Cal P w K mg base ⟨K, mg, TB⟩ "_law_draw" 1 2 F__law_draw) : Cal P w K mg base ⟨K, mg, TB⟩ "_law_pick" 2 2 F__law_pick := by
  refine Cal.of2 (k := 1) F sc__law_pick rfl rfl hm hb fun cdv A outer s H vs E hr hgd lk => ?_
  exact (pms_one (pms_ret (pm_ix rfl (u1 hr) (vr 1) (pm_callRC 0 k__law_draw hr (by decide) hgd rfl (takes_of rfl rfl rfl rfl) (pm_cons (vr 0) (pm_cons (pm_callB cr_lenA (valN_len rfl) rfl T.b_len Boot.«len» (pm_cons (vr 1) pm_nil)) pm_nil)) (lenC (lenC lenN))))))
theorem sc__law_gcd : FnScope ["one", "two", "lap"] ["one", "two"] (defScope s__law_gcd) := ⟨rfl, rfl, rfl, by decide +kernel, rfl, by decide +kernel, by decide +kernel⟩
theorem ok__law_gcd {f : Addr} {fd : FuncData} (F : L2.Fun K "_law_gcd" "_law_gcd" s__law_gcd f fd) (T : Tx K mg TB) (hm : mg "_law_gcd" = some (.ref f)) (hb : Binds K fd ["one", "two"] []) : Cal P w K mg base ⟨K, mg, TB⟩ "_law_gcd" 1 2 F__law_gcd := by
  refine Cal.of2 (k := 0) F sc__law_gcd rfl rfl hm hb fun cdv A outer s H vs E hr hgd lk => ?_
  exact (pms_cons (pms_par (i := 0) (j := 1) [false, false] rfl sc__law_gcd.nd rfl rfl (by decide) rfl rfl (pm_cons (pm_callB call_abs valN_abs rfl T.b_abs Boot.«abs» (pm_cons (vr 0) pm_nil)) (pm_cons (pm_callB call_abs valN_abs rfl T.b_abs Boot.«abs» (pm_cons (vr 1) pm_nil)) pm_nil)) (lenC (lenC lenN)) (by rfl))
    (pms_cons (pms_for (passes_of rfl) rfl (pmi_rng1 rfl T.b_range (pm_cons pm_int pm_nil)) (pmg_name (i := 2) sc__law_gcd.nd rfl (by first | exact Or.inl rfl | exact Or.inr rfl)) (pms_cons (pms_if (pmt_cmp (op_eqD hr.units) (val2_eq rfl) (vr 1) pm_int (nomark _)) (pms_one (pms_ret (vr 0))) pms_nil)
    (pms_one (pms_par (i := 0) (j := 1) [false, false] rfl sc__law_gcd.nd rfl rfl (by decide) rfl rfl (pm_cons (vr 1) (pm_cons (pm_bin op_modN val2_mod (pm_callTy call_int1 valN_int rfl T.b_int Boot.«int» (pm_cons (vr 0) pm_nil)) (vr 1)) pm_nil)) (lenC (lenC lenN)) (by rfl)))))
    (pms_one (pms_ret (vr 0)))))
theorem sc__law_fraction : FnScope ["top", "bottom", "shared"] ["top", "bottom"] (defScope s__law_fraction) := ⟨rfl, rfl, rfl, by decide +kernel, rfl, by decide +kernel, by decide +kernel⟩
theorem ok__law_fraction {f : Addr} {fd : FuncData} (F : L2.Fun K "_law_fraction" "_law_fraction" s__law_fraction f fd) (T : Tx K mg TB) (hm : mg "_law_fraction" = some (.ref f)) (hb : Binds K fd ["top", "bottom"] []) (k__law_gcd : Cal P w K mg base ⟨K, mg, TB⟩ "_law_gcd" 1 2 F__law_gcd) : Cal P w K mg base ⟨K, mg, TB⟩ "_law_fraction" 2 2 F__law_fraction := by
  refine Cal.of2 (k := 1) F sc__law_fraction rfl rfl hm hb fun cdv A outer s H vs E hr hgd lk => ?_
  exact (pms_cons (pms_set (i := 2) false sc__law_fraction.nd rfl (by first | exact Or.inl rfl | exact Or.inr rfl) (pm_callC k__law_gcd hr (by decide) hgd rfl (takes_of rfl rfl rfl rfl) (pm_cons (vr 0) (pm_cons (vr 1) pm_nil)) (lenC (lenC lenN))))
    (pms_one (pms_ret (pm_tup (pm_cons (pm_bin op_fdivX val2_div (vr 0) (vr 2)) (pm_cons (pm_bin op_fdivX val2_div (vr 1) (vr 2)) pm_nil)) (lenC (lenC lenN))))))
theorem sc__law_number : FnScope ["pen"] ["pen"] (defScope s__law_number) := ⟨rfl, rfl, rfl, by decide +kernel, rfl, by decide +kernel, by decide +kernel⟩
theorem ok__law_number {f : Addr} {fd : FuncData} (F : L2.Fun K "_law_number" "_law_number" s__law_number f fd) (T : Tx K mg TB) (hm : mg "_law_number" = some (.ref f)) (hb : Binds K fd ["pen"] []) (k__law_draw : Cal P w K mg base ⟨K, mg, TB⟩ "_law_draw" 1 2 F__law_draw) (k__law_pick : Cal P w K mg base ⟨K, mg, TB⟩ "_law_pick" 2 2 F__law_pick) : Cal P w K mg base ⟨K, mg, TB⟩ "_law_number" 3 1 F__law_number := by
  refine Cal.of2 (k := 2) F sc__law_number rfl rfl hm hb fun cdv A outer s H vs E hr hgd lk => ?_
  exact (pms_one (pms_ret (pm_bin op_addA (val2_add rfl) pm_int (pm_callRC 0 k__law_draw hr (by decide) hgd rfl (takes_of rfl rfl rfl rfl) (pm_cons (vr 0) (pm_cons (pm_callRC 0 k__law_pick hr (by decide) hgd rfl (takes_of rfl rfl rfl rfl) (pm_cons (vr 0) (pm_cons (pm_lst (pm_cons pm_int (pm_cons pm_int (pm_cons pm_int (pm_cons pm_int (pm_cons (pm_bin op_pow val2_pow pm_int pm_int) pm_nil))))) (lenC (lenC (lenC (lenC (lenC lenN)))))) pm_nil)) (lenC (lenC lenN))) pm_nil)) (lenC (lenC lenN))))))
theorem sc__law_names : FnScope ["pen", "many", "k", "unlike", "signs", "found", "tail", "j", "name"] ["pen", "many"] (defScope s__law_names) := ⟨rfl, rfl, rfl, by decide +kernel, rfl, by decide +kernel, by decide +kernel⟩
theorem ok__law_names {f : Addr} {fd : FuncData} (F : L2.Fun K "_law_names" "_law_names" s__law_names f fd) (T : Tx K mg TB) (hm : mg "_law_names" = some (.ref f)) (hb : Binds K fd ["pen", "many"] []) (k__law_draw : Cal P w K mg base ⟨K, mg, TB⟩ "_law_draw" 1 2 F__law_draw) (k__law_pick : Cal P w K mg base ⟨K, mg, TB⟩ "_law_pick" 2 2 F__law_pick) : Cal P w K mg base ⟨K, mg, TB⟩ "_law_names" 3 2 F__law_names := by
  refine Cal.of2 (k := 2) F sc__law_names rfl rfl hm hb fun cdv A outer s H vs E hr hgd lk => ?_
  exact (pms_cons (pms_tupN [false, true] rfl rfl sc__law_names.nd (pm_cons pm_str (pm_cons (pm_lst pm_nil lenN) pm_nil)) (lenC (lenC lenN)) (.cons 4 rfl (by first | exact Or.inl rfl | exact Or.inr rfl) (by first | exact .inl rfl | exact .inr rfl) rfl (.cons 5 rfl (by first | exact Or.inl rfl | exact Or.inr rfl) (by first | exact .inl rfl | exact .inr rfl) rfl .nil)) rfl)
    (pms_cons (pms_for (passes_of rfl) rfl (pmi_rng1 rfl T.b_range (pm_cons (vr 1) pm_nil)) (pmg_name (i := 2) sc__law_names.nd rfl (by first | exact Or.inl rfl | exact Or.inr rfl)) (pms_cons (pms_set (i := 6) false sc__law_names.nd rfl (by first | exact Or.inl rfl | exact Or.inr rfl) (pm_mt PySem.F.plainAttrs_str PySem.F.slot_str_join PySem.F.type_str_join mt_join mtV_join tv_str pm_str (pm_cons (pm_comp rfl sc__law_names.nd (pmi_rng1 rfl T.b_range (pm_cons (pm_callRC 0 k__law_pick hr (by decide) hgd rfl (takes_of rfl rfl rfl rfl) (pm_cons (vr 0) (pm_cons (pm_lst (pm_cons pm_int (pm_cons pm_int (pm_cons pm_int (pm_cons pm_int (pm_cons pm_int pm_nil))))) (lenC (lenC (lenC (lenC (lenC lenN)))))) pm_nil)) (lenC (lenC lenN))) pm_nil)) (own := [("j", 7)]) (blkOk_by (N := ["pen", "many", "k", "unlike", "signs", "found", "tail", "j", "name"]) (sc := defScope s__law_names) (by decide +kernel)) (by decide) (fun _ _ _ _ _ => (pgw_name (i := 7) sc__law_names.nd rfl (by first | exact Or.inl rfl | exact Or.inr rfl))) (fun _ _ _ _ _ => pts_yes) (fun _ _ _ _ _ => (pm_ix rfl (u1 hr) (vr 4) (pm_callRC 0 k__law_draw hr (by decide) hgd rfl L2.takes0 (pm_cons (vr 0) (pm_cons pm_int pm_nil)) (lenC (lenC lenN)))))) pm_nil)))
    (pms_one (pms_expr (pm_append (i := 5) rfl (by first | exact Or.inl rfl | exact Or.inr (Or.inl rfl) | exact Or.inr (Or.inr rfl)) (pm_cons (pm_bin op_addA (val2_add rfl) (pm_bin op_addA (val2_add rfl) (pm_ix rfl (u1 hr) (vr 4) (pm_callRC 0 k__law_draw hr (by decide) hgd rfl (takes_of rfl rfl rfl rfl) (pm_cons (vr 0) (pm_cons pm_int pm_nil)) (lenC (lenC lenN)))) (vr 6)) (pm_callTy cr_strA valN_str rfl T.b_str Boot.«str» (pm_cons (pm_bin op_modN val2_mod (vr 2) pm_int) pm_nil))) pm_nil))))))
    (pms_cons (pms_set (i := 3) false sc__law_names.nd rfl (by first | exact Or.inl rfl | exact Or.inr rfl) (pm_cmp (op_eqD hr.units) (val2_eq rfl) (pm_callB cr_lenA (valN_len rfl) rfl T.b_len Boot.«len» (pm_cons (pm_callTy (call_dictP rfl) (valN_dict rfl) rfl T.b_dict Boot.«dict» (pm_cons (pm_comp rfl sc__law_names.nd (pmi_any rfl (vr 5)) (own := [("name", 8)]) (blkOk_by (N := ["pen", "many", "k", "unlike", "signs", "found", "tail", "j", "name"]) (sc := defScope s__law_names) (by decide +kernel)) (by decide) (fun _ _ _ _ _ => (pgw_name (i := 8) sc__law_names.nd rfl (by first | exact Or.inl rfl | exact Or.inr rfl))) (fun _ _ _ _ _ => pts_yes) (fun _ _ _ _ _ => (pm_tup (pm_cons (vr 8) (pm_cons pm_bl pm_nil)) (lenC (lenC lenN))))) pm_nil)) pm_nil)) (vr 1) (nomark _)))
    (pms_one (pms_ret (pme_if (pmt_tru rfl (vr 3)) (pm_callB (cr_sortA rfl) valN_sort rfl T.b_sorted Boot.«sorted» (pm_cons (vr 5) pm_nil)) (pm_callB (cr_sortA rfl) valN_sort rfl T.b_sorted Boot.«sorted» (pm_cons (pm_comp rfl sc__law_names.nd (pmi_rng1 rfl T.b_range (pm_cons (vr 1) pm_nil)) (own := [("k", 2)]) (blkOk_by (N := ["pen", "many", "k", "unlike", "signs", "found", "tail", "j", "name"]) (sc := defScope s__law_names) (by decide +kernel)) (by decide) (fun _ _ _ _ _ => (pgw_name (i := 2) sc__law_names.nd rfl (by first | exact Or.inl rfl | exact Or.inr rfl))) (fun _ _ _ _ _ => pts_yes) (fun _ _ _ _ _ => (pm_bin op_addA (val2_add rfl) (pm_bin op_addA (val2_add rfl) pm_str (pm_ix rfl (u1 hr) (vr 4) (vr 2))) pm_str))) pm_nil))))))))
theorem sc__law_form : FnScope ["pen", "names", "found", "lap", "name"] ["pen", "names"] (defScope s__law_form) := ⟨rfl, rfl, rfl, by decide +kernel, rfl, by decide +kernel, by decide +kernel⟩
theorem ok__law_form {f : Addr} {fd : FuncData} (F : L2.Fun K "_law_form" "_law_form" s__law_form f fd) (T : Tx K mg TB) (hm : mg "_law_form" = some (.ref f)) (hb : Binds K fd ["pen", "names"] []) (k__law_draw : Cal P w K mg base ⟨K, mg, TB⟩ "_law_draw" 1 2 F__law_draw) (k__law_number : Cal P w K mg base ⟨K, mg, TB⟩ "_law_number" 3 1 F__law_number) (k__law_pick : Cal P w K mg base ⟨K, mg, TB⟩ "_law_pick" 2 2 F__law_pick) : Cal P w K mg base ⟨K, mg, TB⟩ "_law_form" 4 2 F__law_form := by
  refine Cal.of2 (k := 3) F sc__law_form rfl rfl hm hb fun cdv A outer s H vs E hr hgd lk => ?_
  exact (pms_cons (pms_set (i := 2) true sc__law_form.nd rfl (by first | exact Or.inl rfl | exact Or.inr rfl) pm_dk)
    (pms_cons (pms_for (passes_of rfl) rfl (pmi_rng1 rfl T.b_range (pm_cons (pme_if (pmt_cmp op_gtA val2_gt (pm_callB cr_lenA (valN_len rfl) rfl T.b_len Boot.«len» (pm_cons (vr 1) pm_nil)) pm_int (nomark _)) (pm_callRC 0 k__law_draw hr (by decide) hgd rfl (takes_of rfl rfl rfl rfl) (pm_cons (vr 0) (pm_cons pm_int pm_nil)) (lenC (lenC lenN))) pm_int) pm_nil)) (pmg_name (i := 3) sc__law_form.nd rfl (by first | exact Or.inl rfl | exact Or.inr rfl)) (pms_one (pms_put (i := 2) (u1 hr) rfl (by first | exact Or.inl rfl | exact Or.inr (Or.inl rfl) | exact Or.inr (Or.inr rfl)) (pm_callRC 0 k__law_pick hr (by decide) hgd rfl (takes_of rfl rfl rfl rfl) (pm_cons (vr 0) (pm_cons (vr 1) pm_nil)) (lenC (lenC lenN))) (pm_callRC 0 k__law_pick hr (by decide) hgd rfl (takes_of rfl rfl rfl rfl) (pm_cons (vr 0) (pm_cons (pm_lst (pm_cons pm_int (pm_cons pm_int (pm_cons (pm_un un_neg val1_neg pm_int) (pm_cons pm_int (pm_cons (pm_un un_neg val1_neg pm_int) (pm_cons (pm_callRC 0 k__law_number hr (by decide) hgd rfl (takes_of rfl rfl rfl rfl) (pm_cons (vr 0) pm_nil) (lenC lenN)) pm_nil)))))) (lenC (lenC (lenC (lenC (lenC (lenC lenN))))))) pm_nil)) (lenC (lenC lenN))))))
    (pms_one (pms_ret (pm_callTy call_tuple_of (valN_tuple rfl) rfl T.b_tuple Boot.«tuple» (pm_cons (pm_comp rfl sc__law_form.nd (pmi_any rfl (pm_callB (cr_sortA rfl) valN_sort rfl T.b_sorted Boot.«sorted» (pm_cons (vr 2) pm_nil))) (own := [("name", 4)]) (blkOk_by (N := ["pen", "names", "found", "lap", "name"]) (sc := defScope s__law_form) (by decide +kernel)) (by decide) (fun _ _ _ _ _ => (pgw_name (i := 4) sc__law_form.nd rfl (by first | exact Or.inl rfl | exact Or.inr rfl))) (fun _ _ _ _ _ => pts_yes) (fun _ _ _ _ _ => (pm_tup (pm_cons (vr 4) (pm_cons (pm_ix rfl (u1 hr) (vr 2) (vr 4)) pm_nil)) (lenC (lenC lenN))))) pm_nil))))))
theorem sc__law_row : FnScope ["pen", "names"] ["pen", "names"] (defScope s__law_row) := ⟨rfl, rfl, rfl, by decide +kernel, rfl, by decide +kernel, by decide +kernel⟩
theorem ok__law_row {f : Addr} {fd : FuncData} (F : L2.Fun K "_law_row" "_law_row" s__law_row f fd) (T : Tx K mg TB) (hm : mg "_law_row" = some (.ref f)) (hb : Binds K fd ["pen", "names"] []) (k__law_draw : Cal P w K mg base ⟨K, mg, TB⟩ "_law_draw" 1 2 F__law_draw) (k__law_form : Cal P w K mg base ⟨K, mg, TB⟩ "_law_form" 4 2 F__law_form) (k__law_pick : Cal P w K mg base ⟨K, mg, TB⟩ "_law_pick" 2 2 F__law_pick) : Cal P w K mg base ⟨K, mg, TB⟩ "_law_row" 5 2 F__law_row := by
  refine Cal.of2 (k := 4) F sc__law_row rfl rfl hm hb fun cdv A outer s H vs E hr hgd lk => ?_
  exact (pms_cons (pms_if (pmt_cmp (op_eqD hr.units) (val2_eq rfl) (pm_callRC 0 k__law_draw hr (by decide) hgd rfl (takes_of rfl rfl rfl rfl) (pm_cons (vr 0) (pm_cons pm_int pm_nil)) (lenC (lenC lenN))) pm_int (nomark _)) (pms_one (pms_ret (pm_tup (pm_cons (pm_callRC 0 k__law_form hr (by decide) hgd rfl (takes_of rfl rfl rfl rfl) (pm_cons (vr 0) (pm_cons (vr 1) pm_nil)) (lenC (lenC lenN))) (pm_cons pm_str (pm_cons (pm_callRC 0 k__law_form hr (by decide) hgd rfl (takes_of rfl rfl rfl rfl) (pm_cons (vr 0) (pm_cons (vr 1) pm_nil)) (lenC (lenC lenN))) pm_nil))) (lenC (lenC (lenC lenN)))))) pms_nil)
    (pms_one (pms_ret (pm_tup (pm_cons (pm_callRC 0 k__law_form hr (by decide) hgd rfl (takes_of rfl rfl rfl rfl) (pm_cons (vr 0) (pm_cons (vr 1) pm_nil)) (lenC (lenC lenN))) (pm_cons (pm_callRC 0 k__law_pick hr (by decide) hgd rfl (takes_of rfl rfl rfl rfl) (pm_cons (vr 0) (pm_cons (pm_lst (pm_cons pm_str (pm_cons pm_str (pm_cons pm_str pm_nil))) (lenC (lenC (lenC lenN)))) pm_nil)) (lenC (lenC lenN))) (pm_cons (pm_bin op_sub val2_sub (pm_callRC 0 k__law_draw hr (by decide) hgd rfl (takes_of rfl rfl rfl rfl) (pm_cons (vr 0) (pm_cons pm_int pm_nil)) (lenC (lenC lenN))) pm_int) pm_nil))) (lenC (lenC (lenC lenN)))))))
theorem sc__law_book : FnScope ["pen", "many", "names", "lap"] ["pen", "many"] (defScope s__law_book) := ⟨rfl, rfl, rfl, by decide +kernel, rfl, by decide +kernel, by decide +kernel⟩
theorem ok__law_book {f : Addr} {fd : FuncData} (F : L2.Fun K "_law_book" "_law_book" s__law_book f fd) (T : Tx K mg TB) (hm : mg "_law_book" = some (.ref f)) (hb : Binds K fd ["pen", "many"] []) (k__law_draw : Cal P w K mg base ⟨K, mg, TB⟩ "_law_draw" 1 2 F__law_draw) (k__law_names : Cal P w K mg base ⟨K, mg, TB⟩ "_law_names" 3 2 F__law_names) (k__law_row : Cal P w K mg base ⟨K, mg, TB⟩ "_law_row" 5 2 F__law_row) : Cal P w K mg base ⟨K, mg, TB⟩ "_law_book" 6 2 F__law_book := by
  refine Cal.of2 (k := 5) F sc__law_book rfl rfl hm hb fun cdv A outer s H vs E hr hgd lk => ?_
  exact (pms_cons (pms_set (i := 2) false sc__law_book.nd rfl (by first | exact Or.inl rfl | exact Or.inr rfl) (pm_callRC 0 k__law_names hr (by decide) hgd rfl (takes_of rfl rfl rfl rfl) (pm_cons (vr 0) (pm_cons (vr 1) pm_nil)) (lenC (lenC lenN))))
    (pms_one (pms_ret (pm_tup (pm_cons (pm_callTy call_tuple_of (valN_tuple rfl) rfl T.b_tuple Boot.«tuple» (pm_cons (vr 2) pm_nil)) (pm_cons (pm_callTy call_tuple_of (valN_tuple rfl) rfl T.b_tuple Boot.«tuple» (pm_cons (pm_comp rfl sc__law_book.nd (pmi_rng1 rfl T.b_range (pm_cons (pm_callRC 0 k__law_draw hr (by decide) hgd rfl (takes_of rfl rfl rfl rfl) (pm_cons (vr 0) (pm_cons pm_int pm_nil)) (lenC (lenC lenN))) pm_nil)) (own := [("lap", 3)]) (blkOk_by (N := ["pen", "many", "names", "lap"]) (sc := defScope s__law_book) (by decide +kernel)) (by decide) (fun _ _ _ _ _ => (pgw_name (i := 3) sc__law_book.nd rfl (by first | exact Or.inl rfl | exact Or.inr rfl))) (fun _ _ _ _ _ => pts_yes) (fun _ _ _ _ _ => (pm_callRC 0 k__law_row hr (by decide) hgd rfl L2.takes0 (pm_cons (vr 0) (pm_cons (vr 2) pm_nil)) (lenC (lenC lenN))))) pm_nil)) pm_nil)) (lenC (lenC lenN))))))
theorem sc__law_point : FnScope ["pen", "names", "found", "name"] ["pen", "names"] (defScope s__law_point) := ⟨rfl, rfl, rfl, by decide +kernel, rfl, by decide +kernel, by decide +kernel⟩
theorem ok__law_point {f : Addr} {fd : FuncData} (F : L2.Fun K "_law_point" "_law_point" s__law_point f fd) (T : Tx K mg TB) (hm : mg "_law_point" = some (.ref f)) (hb : Binds K fd ["pen", "names"] []) (k__law_draw : Cal P w K mg base ⟨K, mg, TB⟩ "_law_draw" 1 2 F__law_draw) (k__law_fraction : Cal P w K mg base ⟨K, mg, TB⟩ "_law_fraction" 2 2 F__law_fraction) (k__law_pick : Cal P w K mg base ⟨K, mg, TB⟩ "_law_pick" 2 2 F__law_pick) : Cal P w K mg base ⟨K, mg, TB⟩ "_law_point" 3 2 F__law_point := by
  refine Cal.of2 (k := 2) F sc__law_point rfl rfl hm hb fun cdv A outer s H vs E hr hgd lk => ?_
  exact (pms_cons (pms_set (i := 2) true sc__law_point.nd rfl (by first | exact Or.inl rfl | exact Or.inr rfl) (pm_lst pm_nil lenN))
    (pms_cons (pms_for (passes_of rfl) rfl (pmi_any rfl (vr 1)) (pmg_name (i := 3) sc__law_point.nd rfl (by first | exact Or.inl rfl | exact Or.inr rfl)) (pms_one (pms_expr (pm_append (i := 2) rfl (by first | exact Or.inl rfl | exact Or.inr (Or.inl rfl) | exact Or.inr (Or.inr rfl)) (pm_cons (pm_tup (pm_cons (vr 3) (pm_cons (pm_callC k__law_fraction hr (by decide) hgd rfl (takes_of rfl rfl rfl rfl) (pm_cons (pm_bin op_sub val2_sub (pm_callRC 0 k__law_draw hr (by decide) hgd rfl (takes_of rfl rfl rfl rfl) (pm_cons (vr 0) (pm_cons pm_int pm_nil)) (lenC (lenC lenN))) pm_int) (pm_cons (pm_callRC 0 k__law_pick hr (by decide) hgd rfl (takes_of rfl rfl rfl rfl) (pm_cons (vr 0) (pm_cons (pm_lst (pm_cons pm_int (pm_cons pm_int (pm_cons pm_int (pm_cons pm_int (pm_cons pm_int pm_nil))))) (lenC (lenC (lenC (lenC (lenC lenN)))))) pm_nil)) (lenC (lenC lenN))) pm_nil)) (lenC (lenC lenN))) pm_nil)) (lenC (lenC lenN))) pm_nil)))))
    (pms_one (pms_ret (pm_callTy call_tuple_of (valN_tuple rfl) rfl T.b_tuple Boot.«tuple» (pm_cons (vr 2) pm_nil))))))
theorem sc__law_odd_forms : FnScope ["form", "some"] ["form"] (defScope s__law_odd_forms) := ⟨rfl, rfl, rfl, by decide +kernel, rfl, by decide +kernel, by decide +kernel⟩
theorem ok__law_odd_forms {f : Addr} {fd : FuncData} (F : L2.Fun K "_law_odd_forms" "_law_odd_forms" s__law_odd_forms f fd) (T : Tx K mg TB) (hm : mg "_law_odd_forms" = some (.ref f)) (hb : Binds K fd ["form"] []) : Cal P w K mg base ⟨K, mg, TB⟩ "_law_odd_forms" 1 1 F__law_odd_forms := by
  refine Cal.of2 (k := 0) F sc__law_odd_forms rfl rfl hm hb fun cdv A outer s H vs E hr hgd lk => ?_
  exact (pms_cons (pms_set (i := 1) false sc__law_odd_forms.nd rfl (by first | exact Or.inl rfl | exact Or.inr rfl) (pm_lst (pm_cons pm_non (pm_cons (pm_callTy call_list_of (valN_list rfl) rfl T.b_list Boot.«list» (pm_cons (vr 0) pm_nil)) (pm_cons (pm_bin op_addA (val2_add rfl) (vr 0) (pm_tup (pm_cons pm_non pm_nil) (lenC lenN))) (pm_cons (pm_bin op_addA (val2_add rfl) (vr 0) (pm_tup (pm_cons (pm_tup (pm_cons pm_str (pm_cons pm_int pm_nil)) (lenC (lenC lenN))) pm_nil) (lenC lenN))) (pm_cons (pm_tup (pm_cons (pm_tup (pm_cons pm_str (pm_cons pm_int pm_nil)) (lenC (lenC lenN))) pm_nil) (lenC lenN)) (pm_cons (pm_tup (pm_cons (pm_tup (pm_cons pm_str (pm_cons pm_bl pm_nil)) (lenC (lenC lenN))) pm_nil) (lenC lenN)) (pm_cons (pm_tup (pm_cons (pm_tup (pm_cons pm_str (pm_cons pm_str pm_nil)) (lenC (lenC lenN))) pm_nil) (lenC lenN)) pm_nil))))))) (lenC (lenC (lenC (lenC (lenC (lenC (lenC lenN)))))))))
    (pms_cons (pms_set (i := 1) false sc__law_odd_forms.nd rfl (by first | exact Or.inl rfl | exact Or.inr rfl) (pm_bin op_addA (val2_add rfl) (vr 1) (pm_lst (pm_cons (pm_tup (pm_cons (pm_tup (pm_cons pm_str pm_nil) (lenC lenN)) pm_nil) (lenC lenN)) (pm_cons (pm_tup (pm_cons (pm_lst (pm_cons pm_str (pm_cons pm_int pm_nil)) (lenC (lenC lenN))) pm_nil) (lenC lenN)) (pm_cons (pm_tup (pm_cons (pm_tup (pm_cons pm_str (pm_cons pm_int (pm_cons pm_int pm_nil))) (lenC (lenC (lenC lenN)))) pm_nil) (lenC lenN)) (pm_cons (pm_tup (pm_cons (pm_tup (pm_cons pm_int (pm_cons pm_int pm_nil)) (lenC (lenC lenN))) pm_nil) (lenC lenN)) (pm_cons (pm_tup (pm_cons (pm_tup (pm_cons pm_str (pm_cons pm_int pm_nil)) (lenC (lenC lenN))) (pm_cons (pm_tup (pm_cons pm_str (pm_cons pm_int pm_nil)) (lenC (lenC lenN))) pm_nil)) (lenC (lenC lenN))) (pm_cons (pm_tup (pm_cons (pm_tup (pm_cons pm_str (pm_cons pm_int pm_nil)) (lenC (lenC lenN))) (pm_cons (pm_tup (pm_cons pm_str (pm_cons pm_int pm_nil)) (lenC (lenC lenN))) pm_nil)) (lenC (lenC lenN))) pm_nil)))))) (lenC (lenC (lenC (lenC (lenC (lenC lenN)))))))))
    (pms_one (pms_ret (pm_bin op_addA (val2_add rfl) (vr 1) (pm_lst (pm_cons pm_dk (pm_cons pm_str (pm_cons pm_int pm_nil))) (lenC (lenC (lenC lenN)))))))))
theorem sc__law_odd_books : FnScope ["book", "fine", "some", "names", "rows"] ["book"] (defScope s__law_odd_books) := ⟨rfl, rfl, rfl, by decide +kernel, rfl, by decide +kernel, by decide +kernel⟩
theorem ok__law_odd_books {f : Addr} {fd : FuncData} (F : L2.Fun K "_law_odd_books" "_law_odd_books" s__law_odd_books f fd) (T : Tx K mg TB) (hm : mg "_law_odd_books" = some (.ref f)) (hb : Binds K fd ["book"] []) : Cal P w K mg base ⟨K, mg, TB⟩ "_law_odd_books" 1 1 F__law_odd_books := by
  refine Cal.of2 (k := 0) F sc__law_odd_books rfl rfl hm hb fun cdv A outer s H vs E hr hgd lk => ?_
  exact (pms_cons (pms_setT (vr 0) (pmg_tup rfl rfl (pmg_cons (pmg_name (i := 3) sc__law_odd_books.nd rfl (by first | exact Or.inl rfl | exact Or.inr rfl)) (pmg_cons (pmg_name (i := 4) sc__law_odd_books.nd rfl (by first | exact Or.inl rfl | exact Or.inr rfl)) pmg_nil))))
    (pms_cons (pms_set (i := 1) false sc__law_odd_books.nd rfl (by first | exact Or.inl rfl | exact Or.inr rfl) (pm_tup (pm_cons (pm_tup pm_nil lenN) (pm_cons pm_str (pm_cons pm_int pm_nil))) (lenC (lenC (lenC lenN)))))
    (pms_cons (pms_set (i := 2) true sc__law_odd_books.nd rfl (by first | exact Or.inl rfl | exact Or.inr rfl) (pm_lst (pm_cons pm_non (pm_cons (pm_callTy call_list_of (valN_list rfl) rfl T.b_list Boot.«list» (pm_cons (vr 0) pm_nil)) (pm_cons (pm_tup (pm_cons (vr 3) pm_nil) (lenC lenN)) (pm_cons (pm_tup (pm_cons (pm_callTy call_list_of (valN_list rfl) rfl T.b_list Boot.«list» (pm_cons (vr 3) pm_nil)) (pm_cons (vr 4) pm_nil)) (lenC (lenC lenN))) (pm_cons (pm_tup (pm_cons (vr 3) (pm_cons (pm_callTy call_list_of (valN_list rfl) rfl T.b_list Boot.«list» (pm_cons (vr 4) pm_nil)) pm_nil)) (lenC (lenC lenN))) (pm_cons (pm_bin op_addA (val2_add rfl) (vr 0) (pm_tup (pm_cons (pm_tup pm_nil lenN) pm_nil) (lenC lenN))) (pm_cons (vr 3) (pm_cons pm_dk (pm_cons pm_str pm_nil))))))))) (lenC (lenC (lenC (lenC (lenC (lenC (lenC (lenC (lenC lenN)))))))))))
    (pms_cons (pms_set (i := 2) true sc__law_odd_books.nd rfl (by first | exact Or.inl rfl | exact Or.inr rfl) (pm_bin op_addA (val2_add rfl) (vr 2) (pm_lst (pm_cons (pm_tup (pm_cons (pm_bin op_addA (val2_add rfl) (vr 3) (pm_tup (pm_cons pm_str pm_nil) (lenC lenN))) (pm_cons (vr 4) pm_nil)) (lenC (lenC lenN))) (pm_cons (pm_tup (pm_cons (pm_bin op_addA (val2_add rfl) (vr 3) (pm_tup (pm_cons pm_int pm_nil) (lenC lenN))) (pm_cons (vr 4) pm_nil)) (lenC (lenC lenN))) (pm_cons (pm_tup (pm_cons (vr 3) (pm_cons (pm_bin op_addA (val2_add rfl) (vr 4) (pm_tup (pm_cons pm_non pm_nil) (lenC lenN))) pm_nil)) (lenC (lenC lenN))) (pm_cons (pm_tup (pm_cons (vr 3) (pm_cons (pm_bin op_addA (val2_add rfl) (vr 4) (pm_tup (pm_cons (pm_callTy call_list_of (valN_list rfl) rfl T.b_list Boot.«list» (pm_cons (vr 1) pm_nil)) pm_nil) (lenC lenN))) pm_nil)) (lenC (lenC lenN))) pm_nil)))) (lenC (lenC (lenC (lenC lenN)))))))
    (pms_cons (pms_set (i := 2) true sc__law_odd_books.nd rfl (by first | exact Or.inl rfl | exact Or.inr rfl) (pm_bin op_addA (val2_add rfl) (vr 2) (pm_lst (pm_cons (pm_tup (pm_cons (vr 3) (pm_cons (pm_bin op_addA (val2_add rfl) (vr 4) (pm_tup (pm_cons (pm_tup (pm_cons (pm_tup (pm_cons (pm_tup (pm_cons pm_str (pm_cons pm_int pm_nil)) (lenC (lenC lenN))) pm_nil) (lenC lenN)) (pm_cons pm_str (pm_cons pm_int pm_nil))) (lenC (lenC (lenC lenN)))) pm_nil) (lenC lenN))) pm_nil)) (lenC (lenC lenN))) (pm_cons (pm_tup (pm_cons (vr 3) (pm_cons (pm_bin op_addA (val2_add rfl) (vr 4) (pm_tup (pm_cons (pm_tup (pm_cons (pm_tup pm_nil lenN) (pm_cons pm_str (pm_cons pm_int pm_nil))) (lenC (lenC (lenC lenN)))) pm_nil) (lenC lenN))) pm_nil)) (lenC (lenC lenN))) pm_nil)) (lenC (lenC lenN)))))
    (pms_cons (pms_expr (pm_append (i := 2) rfl (by first | exact Or.inl rfl | exact Or.inr (Or.inl rfl) | exact Or.inr (Or.inr rfl)) (pm_cons (pm_tup (pm_cons (vr 3) (pm_cons (pm_bin op_addA (val2_add rfl) (vr 4) (pm_tup (pm_cons (pm_tup (pm_cons (pm_tup pm_nil lenN) (pm_cons pm_str (pm_cons pm_str pm_nil))) (lenC (lenC (lenC lenN)))) pm_nil) (lenC lenN))) pm_nil)) (lenC (lenC lenN))) pm_nil)))
    (pms_cons (pms_set (i := 2) true sc__law_odd_books.nd rfl (by first | exact Or.inl rfl | exact Or.inr rfl) (pm_bin op_addA (val2_add rfl) (vr 2) (pm_lst (pm_cons (pm_tup (pm_cons (vr 3) (pm_cons (pm_bin op_addA (val2_add rfl) (vr 4) (pm_tup (pm_cons (pm_tup (pm_cons (pm_tup pm_nil lenN) (pm_cons pm_str (pm_cons pm_bl pm_nil))) (lenC (lenC (lenC lenN)))) pm_nil) (lenC lenN))) pm_nil)) (lenC (lenC lenN))) (pm_cons (pm_tup (pm_cons (vr 3) (pm_cons (pm_bin op_addA (val2_add rfl) (vr 4) (pm_tup (pm_cons (pm_tup (pm_cons (pm_tup pm_nil lenN) (pm_cons pm_str pm_nil)) (lenC (lenC lenN))) pm_nil) (lenC lenN))) pm_nil)) (lenC (lenC lenN))) (pm_cons (pm_tup (pm_cons (vr 3) (pm_cons (pm_bin op_addA (val2_add rfl) (vr 4) (pm_tup (pm_cons (pm_tup (pm_cons (pm_tup pm_nil lenN) (pm_cons pm_str (pm_cons pm_int pm_nil))) (lenC (lenC (lenC lenN)))) pm_nil) (lenC lenN))) pm_nil)) (lenC (lenC lenN))) pm_nil))) (lenC (lenC (lenC lenN))))))
    (pms_cons (pms_set (i := 2) true sc__law_odd_books.nd rfl (by first | exact Or.inl rfl | exact Or.inr rfl) (pm_bin op_addA (val2_add rfl) (vr 2) (pm_lst (pm_cons (pm_tup (pm_cons (vr 3) (pm_cons (pm_bin op_addA (val2_add rfl) (vr 4) (pm_tup (pm_cons (pm_tup (pm_cons (pm_tup pm_nil lenN) (pm_cons pm_str (pm_cons (pm_tup pm_nil lenN) pm_nil))) (lenC (lenC (lenC lenN)))) pm_nil) (lenC lenN))) pm_nil)) (lenC (lenC lenN))) (pm_cons (pm_tup (pm_cons (vr 3) (pm_cons (pm_bin op_addA (val2_add rfl) (vr 4) (pm_tup (pm_cons (pm_tup (pm_cons (pm_tup pm_nil lenN) (pm_cons pm_str (pm_cons (pm_tup (pm_cons (pm_tup (pm_cons pm_str (pm_cons pm_int pm_nil)) (lenC (lenC lenN))) pm_nil) (lenC lenN)) pm_nil))) (lenC (lenC (lenC lenN)))) pm_nil) (lenC lenN))) pm_nil)) (lenC (lenC lenN))) pm_nil)) (lenC (lenC lenN)))))
    (pms_cons (pms_expr (pm_append (i := 2) rfl (by first | exact Or.inl rfl | exact Or.inr (Or.inl rfl) | exact Or.inr (Or.inr rfl)) (pm_cons (pm_tup (pm_cons (vr 3) (pm_cons (pm_bin op_addA (val2_add rfl) (vr 4) (pm_tup (pm_cons (pm_tup pm_nil lenN) pm_nil) (lenC lenN))) pm_nil)) (lenC (lenC lenN))) pm_nil)))
    (pms_cons (pms_set (i := 2) true sc__law_odd_books.nd rfl (by first | exact Or.inl rfl | exact Or.inr rfl) (pm_bin op_addA (val2_add rfl) (vr 2) (pm_lst (pm_cons (pm_tup (pm_cons (vr 3) (pm_cons (pm_bin op_addA (val2_add rfl) (vr 4) (pm_tup (pm_cons (pm_tup (pm_cons (pm_tup pm_nil lenN) (pm_cons pm_non (pm_cons pm_int pm_nil))) (lenC (lenC (lenC lenN)))) pm_nil) (lenC lenN))) pm_nil)) (lenC (lenC lenN))) (pm_cons (pm_tup (pm_cons (vr 3) (pm_cons (pm_bin op_addA (val2_add rfl) (vr 4) (pm_tup (pm_cons (pm_tup (pm_cons (pm_tup pm_nil lenN) (pm_cons (pm_lst pm_nil lenN) (pm_cons pm_int pm_nil))) (lenC (lenC (lenC lenN)))) pm_nil) (lenC lenN))) pm_nil)) (lenC (lenC lenN))) (pm_cons (pm_tup (pm_cons (vr 3) (pm_cons (pm_bin op_addA (val2_add rfl) (vr 4) (pm_tup (pm_cons (pm_bin op_addA (val2_add rfl) (vr 1) (pm_tup (pm_cons pm_int pm_nil) (lenC lenN))) pm_nil) (lenC lenN))) pm_nil)) (lenC (lenC lenN))) pm_nil))) (lenC (lenC (lenC lenN))))))
    (pms_cons (pms_if (pmt_cmp op_gtA val2_gt (pm_callB cr_lenA (valN_len rfl) rfl T.b_len Boot.«len» (pm_cons (vr 3) pm_nil)) pm_int (nomark _)) (pms_one (pms_expr (pm_append (i := 2) rfl (by first | exact Or.inl rfl | exact Or.inr (Or.inl rfl) | exact Or.inr (Or.inr rfl)) (pm_cons (pm_tup (pm_cons (pm_rev2 rfl (vr 3)) (pm_cons (pm_tup pm_nil lenN) pm_nil)) (lenC (lenC lenN))) pm_nil)))) pms_nil)
    (pms_one (pms_ret (pm_bin op_addA (val2_add rfl) (vr 2) (pme_if (pmt_cmp (op_neD hr.units) (val2_ne rfl) (vr 3) (pm_tup pm_nil lenN) (nomark _)) (pm_lst (pm_cons (pm_tup (pm_cons (pm_bin op_addA (val2_add rfl) (vr 3) (pm_sl rfl (vr 3) (pom_some (pm_un un_neg val1_neg pm_int)) pom_none)) (pm_cons (vr 4) pm_nil)) (lenC (lenC lenN))) pm_nil) (lenC lenN)) (pm_lst pm_nil lenN))))))))))))))))
theorem sc__law_odd_points : FnScope ["point", "some", "other", "name", "number"] ["point"] (defScope s__law_odd_points) := ⟨rfl, rfl, rfl, by decide +kernel, rfl, by decide +kernel, by decide +kernel⟩
theorem ok__law_odd_points {f : Addr} {fd : FuncData} (F : L2.Fun K "_law_odd_points" "_law_odd_points" s__law_odd_points f fd) (T : Tx K mg TB) (hm : mg "_law_odd_points" = some (.ref f)) (hb : Binds K fd ["point"] []) : Cal P w K mg base ⟨K, mg, TB⟩ "_law_odd_points" 1 1 F__law_odd_points := by
  refine Cal.of2 (k := 0) F sc__law_odd_points rfl rfl hm hb fun cdv A outer s H vs E hr hgd lk => ?_
  exact (pms_cons (pms_set (i := 1) true sc__law_odd_points.nd rfl (by first | exact Or.inl rfl | exact Or.inr rfl) (pm_lst (pm_cons pm_non (pm_cons (pm_callTy call_list_of (valN_list rfl) rfl T.b_list Boot.«list» (pm_cons (vr 0) pm_nil)) (pm_cons (pm_bin op_addA (val2_add rfl) (vr 0) (pm_tup (pm_cons (pm_tup (pm_cons pm_str (pm_cons (pm_tup (pm_cons pm_int (pm_cons pm_int pm_nil)) (lenC (lenC lenN))) pm_nil)) (lenC (lenC lenN))) pm_nil) (lenC lenN))) (pm_cons pm_dk (pm_cons pm_str (pm_cons (pm_bin op_addA (val2_add rfl) (vr 0) (pm_tup (pm_cons pm_non pm_nil) (lenC lenN))) pm_nil)))))) (lenC (lenC (lenC (lenC (lenC (lenC lenN))))))))
    (pms_cons (pms_if (pmt_cmp (op_neD hr.units) (val2_ne rfl) (vr 0) (pm_tup pm_nil lenN) (nomark _)) (pms_cons (pms_setT (pm_ix rfl (u1 hr) (vr 0) (pm_un un_neg val1_neg pm_int)) (pmg_tup rfl rfl (pmg_cons (pmg_name (i := 3) sc__law_odd_points.nd rfl (by first | exact Or.inl rfl | exact Or.inr rfl)) (pmg_cons (pmg_name (i := 4) sc__law_odd_points.nd rfl (by first | exact Or.inl rfl | exact Or.inr rfl)) pmg_nil))))
    (pms_cons (pms_for (passes_of rfl) rfl (pmi_any rfl (pm_lst (pm_cons (pm_tup (pm_cons pm_int (pm_cons pm_int pm_nil)) (lenC (lenC lenN))) (pm_cons (pm_tup (pm_cons pm_int (pm_cons pm_int pm_nil)) (lenC (lenC lenN))) (pm_cons pm_int (pm_cons pm_non (pm_cons (pm_lst (pm_cons pm_int (pm_cons pm_int pm_nil)) (lenC (lenC lenN))) (pm_cons (pm_tup (pm_cons pm_bl (pm_cons pm_int pm_nil)) (lenC (lenC lenN))) (pm_cons (pm_tup (pm_cons pm_int (pm_cons pm_int (pm_cons pm_int pm_nil))) (lenC (lenC (lenC lenN)))) pm_nil))))))) (lenC (lenC (lenC (lenC (lenC (lenC (lenC lenN))))))))) (pmg_name (i := 2) sc__law_odd_points.nd rfl (by first | exact Or.inl rfl | exact Or.inr rfl)) (pms_one (pms_expr (pm_append (i := 1) rfl (by first | exact Or.inl rfl | exact Or.inr (Or.inl rfl) | exact Or.inr (Or.inr rfl)) (pm_cons (pm_bin op_addA (val2_add rfl) (pm_sl rfl (vr 0) pom_none (pom_some (pm_un un_neg val1_neg pm_int))) (pm_tup (pm_cons (pm_tup (pm_cons (vr 3) (pm_cons (vr 2) pm_nil)) (lenC (lenC lenN))) pm_nil) (lenC lenN))) pm_nil)))))
    (pms_one (pms_set (i := 1) true sc__law_odd_points.nd rfl (by first | exact Or.inl rfl | exact Or.inr rfl) (pm_bin op_addA (val2_add rfl) (vr 1) (pm_lst (pm_cons (pm_sl rfl (vr 0) (pom_some pm_int) pom_none) (pm_cons (pm_bin op_addA (val2_add rfl) (pm_sl rfl (vr 0) pom_none (pom_some (pm_un un_neg val1_neg pm_int))) (pm_tup (pm_cons (pm_tup (pm_cons (pm_bin op_addA (val2_add rfl) (vr 3) pm_str) (pm_cons (vr 4) pm_nil)) (lenC (lenC lenN))) pm_nil) (lenC lenN))) (pm_cons (pm_bin op_addA (val2_add rfl) (pm_sl rfl (vr 0) pom_none (pom_some (pm_un un_neg val1_neg pm_int))) (pm_tup (pm_cons (pm_lst (pm_cons (vr 3) (pm_cons (vr 4) pm_nil)) (lenC (lenC lenN))) pm_nil) (lenC lenN))) pm_nil))) (lenC (lenC (lenC lenN))))))))) pms_nil)
    (pms_one (pms_ret (pm_bin op_addA (val2_add rfl) (vr 1) (pme_if (pmt_cmp op_gtA val2_gt (pm_callB cr_lenA (valN_len rfl) rfl T.b_len Boot.«len» (pm_cons (vr 0) pm_nil)) pm_int (nomark _)) (pm_lst (pm_cons (pm_rev2 rfl (vr 0)) pm_nil) (lenC lenN)) (pm_lst pm_nil lenN)))))))
theorem sc_law : FnScope ["script", "pen", "lap", "book", "value", "form", "point"] ["script"] (defScope s_law) := ⟨rfl, rfl, rfl, by decide +kernel, rfl, by decide +kernel, by decide +kernel⟩
theorem ok_law {f : Addr} {fd : FuncData} (F : L2.Fun K "law" "law" s_law f fd) (T : Tx K mg TB) (k__law_book : Cal P w K mg base ⟨K, mg, TB⟩ "_law_book" 6 2 F__law_book) (k__law_draw : Cal P w K mg base ⟨K, mg, TB⟩ "_law_draw" 1 2 F__law_draw) (k__law_form : Cal P w K mg base ⟨K, mg, TB⟩ "_law_form" 4 2 F__law_form) (k__law_odd_books : Cal P w K mg base ⟨K, mg, TB⟩ "_law_odd_books" 1 1 F__law_odd_books) (k__law_odd_forms : Cal P w K mg base ⟨K, mg, TB⟩ "_law_odd_forms" 1 1 F__law_odd_forms) (k__law_odd_points : Cal P w K mg base ⟨K, mg, TB⟩ "_law_odd_points" 1 1 F__law_odd_points) (k__law_pen : Cal P w K mg base ⟨K, mg, TB⟩ "_law_pen" 1 1 F__law_pen) (k__law_point : Cal P w K mg base ⟨K, mg, TB⟩ "_law_point" 3 2 F__law_point) (k_is_book : Cal P w K mg base ⟨K, mg, TB⟩ "is_book" 6 1 F_is_book) (k_is_form : Cal P w K mg base ⟨K, mg, TB⟩ "is_form" 3 1 F_is_form) (k_is_point : Cal P w K mg base ⟨K, mg, TB⟩ "is_point" 8 2 F_is_point) {g__law_refused : Addr} {fd__law_refused : FuncData} (fn__law_refused : L2.Fun K "_law_refused" "_law_refused" s__law_refused g__law_refused fd__law_refused ∧ mg "_law_refused" = some (.ref g__law_refused) ∧ Binds K fd__law_refused ["call"] []) {lc lP : Addr} (tabL : TabB base mg lc lP) (cdL : ∀ cdv, (∃ oc od kV doc pm an ct osl, K.lookup f = some ⟨oc, od, .func (PySem.W.fnOf "law" "law" (defArgs s_law) (defBody s_law) (defScope s_law) .none kV doc pm an cdv ct), osl⟩) → cdv = .ref lc) (inL : (lP, (("law" : Str) ++ (".<locals>." : Str)) ++ ("<lambda>" : Str)) ∈ TB) (onL : ∀ p ∈ TB, p.1 = lP → p.2 = (("law" : Str) ++ (".<locals>." : Str)) ++ ("<lambda>" : Str)) : FnG P w K mg base 11 f fd ["script"] (spF ⟨K, mg, TB⟩ 1 F_law) := by
  refine FnG.of2 (k := 10) F sc_law rfl rfl fun cdv A outer s H vs E hr hgd lk => ?_
  cases cdL cdv lk
  have tab := And.intro tabL (And.intro (rfl : Value.ref lc = .ref lc) (And.intro inL onL))
  exact (pms_cons (pms_set (i := 1) true sc_law.nd rfl (by first | exact Or.inl rfl | exact Or.inr rfl) (pm_callC k__law_pen hr (by decide) hgd rfl (takes_of rfl rfl rfl rfl) (pm_cons (vr 0) pm_nil) (lenC lenN)))
    (pms_cons (pms_for (passes_of rfl) rfl (pmi_rng1 rfl T.b_range (pm_cons pm_int pm_nil)) (pmg_name (i := 2) sc_law.nd rfl (by first | exact Or.inl rfl | exact Or.inr rfl)) (pms_cons (pms_set (i := 3) false sc_law.nd rfl (by first | exact Or.inl rfl | exact Or.inr rfl) (pm_callRC 0 k__law_book hr (by decide) hgd rfl (takes_of rfl rfl rfl rfl) (pm_cons (vr 1) (pm_cons (pm_callRC 0 k__law_draw hr (by decide) hgd rfl (takes_of rfl rfl rfl rfl) (pm_cons (vr 1) (pm_cons pm_int pm_nil)) (lenC (lenC lenN))) pm_nil)) (lenC (lenC lenN))))
    (pms_cons (pms_par (i := 5) (j := 6) [false, false] rfl sc_law.nd rfl rfl (by decide) rfl rfl (pm_cons (pm_callRC 0 k__law_form hr (by decide) hgd rfl (takes_of rfl rfl rfl rfl) (pm_cons (vr 1) (pm_cons (pm_ix rfl (u1 hr) (vr 3) pm_int) pm_nil)) (lenC (lenC lenN))) (pm_cons (pm_callRC 0 k__law_point hr (by decide) hgd rfl (takes_of rfl rfl rfl rfl) (pm_cons (vr 1) (pm_cons (pm_ix rfl (u1 hr) (vr 3) pm_int) pm_nil)) (lenC (lenC lenN))) pm_nil)) (lenC (lenC lenN)) (by rfl))
    (pms_cons (pms_if (pmt_cmp (op_neD hr.units) (val2_ne rfl) (pm_lst (pm_cons (pm_callC k_is_book hr (by decide) hgd rfl (takes_of rfl rfl rfl rfl) (pm_cons (vr 3) pm_nil) (lenC lenN)) (pm_cons (pm_callC k_is_form hr (by decide) hgd rfl (takes_of rfl rfl rfl rfl) (pm_cons (vr 5) pm_nil) (lenC lenN)) (pm_cons (pm_callC k_is_form hr (by decide) hgd rfl (takes_of rfl rfl rfl rfl) (pm_cons (pm_tup pm_nil lenN) pm_nil) (lenC lenN)) (pm_cons (pm_callC k_is_point hr (by decide) hgd rfl (takes_of rfl rfl rfl rfl) (pm_cons (vr 3) (pm_cons (vr 6) pm_nil)) (lenC (lenC lenN))) pm_nil)))) (lenC (lenC (lenC (lenC lenN))))) (pm_bin op_mulA val2_mul (pm_lst (pm_cons pm_bl pm_nil) (lenC lenN)) pm_int) (nomark _)) (pms_one (pms_ret pm_bl)) pms_nil)
    (pms_cons (pms_for (passes_of rfl) rfl (pmi_any rfl (pm_callC k__law_odd_forms hr (by decide) hgd rfl (takes_of rfl rfl rfl rfl) (pm_cons (vr 5) pm_nil) (lenC lenN))) (pmg_name (i := 4) sc_law.nd rfl (by first | exact Or.inl rfl | exact Or.inr rfl)) (pms_one (pms_if (pmt_cmp op_isnotA (val2_is true) (pm_callC k_is_form hr (by decide) hgd rfl (takes_of rfl rfl rfl rfl) (pm_cons (vr 4) pm_nil) (lenC lenN)) pm_bl (nomark _)) (pms_one (pms_ret pm_bl)) pms_nil)))
    (pms_cons (pms_for (passes_of rfl) rfl (pmi_any rfl (pm_callC k__law_odd_books hr (by decide) hgd rfl (takes_of rfl rfl rfl rfl) (pm_cons (vr 3) pm_nil) (lenC lenN))) (pmg_name (i := 4) sc_law.nd rfl (by first | exact Or.inl rfl | exact Or.inr rfl)) (pms_one (pms_if (pmt_or (pmw_or (pmt_cmp op_isnotA (val2_is true) (pm_callC k_is_book hr (by decide) hgd rfl (takes_of rfl rfl rfl rfl) (pm_cons (vr 4) pm_nil) (lenC lenN)) pm_bl (nomark _)) (pmw_or1 (pmt_cmp (op_neD hr.units) (val2_ne rfl) (LAM__law_refused (j := 8) T.err T.b_repr fn__law_refused.1 fn__law_refused.2.1 fn__law_refused.2.2 rfl tab.1 tab.2.1 (qn := ("law" : Str) ++ (".<locals>." : Str)) rfl tab.2.2.1 tab.2.2.2 hr (by decide) hgd (lamS_by (sc := defScope s_law) (by decide +kernel)) rfl (fun _ _ _ _ _ => rfl) fun A outer s H E f c' hr hgd => (pm_callC k_is_point hr (by decide) hgd rfl (takes_of rfl rfl rfl rfl) (pm_cons (vr 4) (pm_cons pm_non pm_nil)) (lenC (lenC lenN)))) (pm_tup (pm_cons pm_str (pm_cons (pm_callB (cr_repr hgd hr.units) (valN_repr rfl) rfl T.b_repr Boot.«repr» (pm_cons (vr 4) pm_nil)) pm_nil)) (lenC (lenC lenN))) (nomark _))))) (pms_one (pms_ret pm_bl)) pms_nil)))
    (pms_one (pms_for (passes_of rfl) rfl (pmi_any rfl (pm_callC k__law_odd_points hr (by decide) hgd rfl (takes_of rfl rfl rfl rfl) (pm_cons (vr 6) pm_nil) (lenC lenN))) (pmg_name (i := 4) sc_law.nd rfl (by first | exact Or.inl rfl | exact Or.inr rfl)) (pms_one (pms_if (pmt_cmp op_isnotA (val2_is true) (pm_callC k_is_point hr (by decide) hgd rfl (takes_of rfl rfl rfl rfl) (pm_cons (vr 3) (pm_cons (vr 4) pm_nil)) (lenC (lenC lenN))) pm_bl (nomark _)) (pms_one (pms_ret pm_bl)) pms_nil))))))))))
    (pms_one (pms_ret (pme_and (pm_cmp op_isA (val2_is false) (pm_callC k_is_book hr (by decide) hgd rfl (takes_of rfl rfl rfl rfl) (pm_cons (pm_tup (pm_cons (pm_tup pm_nil lenN) (pm_cons (pm_tup pm_nil lenN) pm_nil)) (lenC (lenC lenN))) pm_nil) (lenC lenN)) pm_bl (nomark _)) (pme_one (pm_cmp op_isA (val2_is false) (pm_callC k_is_point hr (by decide) hgd rfl (takes_of rfl rfl rfl rfl) (pm_cons (pm_tup (pm_cons (pm_tup pm_nil lenN) (pm_cons (pm_tup pm_nil lenN) pm_nil)) (lenC (lenC lenN))) (pm_cons (pm_tup pm_nil lenN) pm_nil)) (lenC (lenC lenN))) pm_bl (nomark _))))))))
end
abbrev i_BadBook : Stmt := inClass (top 10) 0
def d_is_whole : He.DefD := ⟨("is_whole", none), "is_whole", "is_whole", defArgs s_is_whole, defBody s_is_whole, defScope s_is_whole, [], []⟩
def d_is_name : He.DefD := ⟨("is_name", none), "is_name", "is_name", defArgs s_is_name, defBody s_is_name, defScope s_is_name, [], []⟩
def d_is_fraction : He.DefD := ⟨("is_fraction", none), "is_fraction", "is_fraction", defArgs s_is_fraction, defBody s_is_fraction, defScope s_is_fraction, [], []⟩
def d_is_rising : He.DefD := ⟨("is_rising", none), "is_rising", "is_rising", defArgs s_is_rising, defBody s_is_rising, defScope s_is_rising, [], []⟩
def d_are_named : He.DefD := ⟨("are_named", none), "are_named", "are_named", defArgs s_are_named, defBody s_are_named, defScope s_are_named, [], []⟩
def d_is_form : He.DefD := ⟨("is_form", none), "is_form", "is_form", defArgs s_is_form, defBody s_is_form, defScope s_is_form, [], []⟩
def d_is_form_of : He.DefD := ⟨("is_form_of", none), "is_form_of", "is_form_of", defArgs s_is_form_of, defBody s_is_form_of, defScope s_is_form_of, [], []⟩
def d_is_row : He.DefD := ⟨("is_row", none), "is_row", "is_row", defArgs s_is_row, defBody s_is_row, defScope s_is_row, [], []⟩
def d_is_book : He.DefD := ⟨("is_book", none), "is_book", "is_book", defArgs s_is_book, defBody s_is_book, defScope s_is_book, [], []⟩
def d_need_book : He.DefD := ⟨("need_book", none), "need_book", "need_book", defArgs s_need_book, defBody s_need_book, defScope s_need_book, [], []⟩
def d_is_point_of : He.DefD := ⟨("is_point_of", none), "is_point_of", "is_point_of", defArgs s_is_point_of, defBody s_is_point_of, defScope s_is_point_of, [], []⟩
def d_is_point : He.DefD := ⟨("is_point", none), "is_point", "is_point", defArgs s_is_point, defBody s_is_point, defScope s_is_point, [], []⟩
def d__law_pen : He.DefD := ⟨("_law_pen", none), "_law_pen", "_law_pen", defArgs s__law_pen, defBody s__law_pen, defScope s__law_pen, [], []⟩
def d__law_draw : He.DefD := ⟨("_law_draw", none), "_law_draw", "_law_draw", defArgs s__law_draw, defBody s__law_draw, defScope s__law_draw, [], []⟩
def d__law_pick : He.DefD := ⟨("_law_pick", none), "_law_pick", "_law_pick", defArgs s__law_pick, defBody s__law_pick, defScope s__law_pick, [], []⟩
def d__law_gcd : He.DefD := ⟨("_law_gcd", none), "_law_gcd", "_law_gcd", defArgs s__law_gcd, defBody s__law_gcd, defScope s__law_gcd, [], []⟩
def d__law_fraction : He.DefD := ⟨("_law_fraction", none), "_law_fraction", "_law_fraction", defArgs s__law_fraction, defBody s__law_fraction, defScope s__law_fraction, [], []⟩
def d__law_number : He.DefD := ⟨("_law_number", none), "_law_number", "_law_number", defArgs s__law_number, defBody s__law_number, defScope s__law_number, [], []⟩
def d__law_names : He.DefD := ⟨("_law_names", none), "_law_names", "_law_names", defArgs s__law_names, defBody s__law_names, defScope s__law_names, [], []⟩
def d__law_form : He.DefD := ⟨("_law_form", none), "_law_form", "_law_form", defArgs s__law_form, defBody s__law_form, defScope s__law_form, [], []⟩
def d__law_row : He.DefD := ⟨("_law_row", none), "_law_row", "_law_row", defArgs s__law_row, defBody s__law_row, defScope s__law_row, [], []⟩
def d__law_book : He.DefD := ⟨("_law_book", none), "_law_book", "_law_book", defArgs s__law_book, defBody s__law_book, defScope s__law_book, [], []⟩
def d__law_point : He.DefD := ⟨("_law_point", none), "_law_point", "_law_point", defArgs s__law_point, defBody s__law_point, defScope s__law_point, [], []⟩
def d__law_odd_forms : He.DefD := ⟨("_law_odd_forms", none), "_law_odd_forms", "_law_odd_forms", defArgs s__law_odd_forms, defBody s__law_odd_forms, defScope s__law_odd_forms, [], []⟩
def d__law_odd_books : He.DefD := ⟨("_law_odd_books", none), "_law_odd_books", "_law_odd_books", defArgs s__law_odd_books, defBody s__law_odd_books, defScope s__law_odd_books, [], []⟩
def d__law_odd_points : He.DefD := ⟨("_law_odd_points", none), "_law_odd_points", "_law_odd_points", defArgs s__law_odd_points, defBody s__law_odd_points, defScope s__law_odd_points, [], []⟩
def d_law : He.DefD := ⟨("law", none), "law", "law", defArgs s_law, defBody s_law, defScope s_law, [], []⟩
def d__law_refused : He.DefD := ⟨("_law_refused", none), "_law_refused", "_law_refused", defArgs s__law_refused, defBody s__law_refused, defScope s__law_refused, [], []⟩
def d_BadBook : He.DefD := ⟨("BadBook", some "__init__"), "__init__", "BadBook.__init__", defArgs i_BadBook, defBody i_BadBook, defScope i_BadBook, [], []⟩
def fn : List He.DefD := [d_is_whole, d_is_name, d_is_fraction, d_is_rising, d_are_named, d_is_form, d_is_form_of, d_is_row, d_is_book, d_need_book, d_is_point_of, d_is_point, d__law_pen, d__law_draw, d__law_pick, d__law_gcd, d__law_fraction, d__law_number, d__law_names, d__law_form, d__law_row, d__law_book, d__law_point, d__law_odd_forms, d__law_odd_books, d__law_odd_points, d_law, d__law_refused, d_BadBook]
def fa : List He.Fa := [.glo "is_whole", .glo "is_name", .glo "is_fraction", .glo "is_rising", .glo "are_named", .glo "is_form", .glo "is_form_of", .glo "is_row", .glo "is_book", .glo "need_book", .glo "is_point_of", .glo "is_point", .glo "_law_pen", .glo "_law_draw", .glo "_law_pick", .glo "_law_gcd", .glo "_law_fraction", .glo "_law_number", .glo "_law_names", .glo "_law_form", .glo "_law_row", .glo "_law_book", .glo "_law_point", .glo "_law_odd_forms", .glo "_law_odd_books", .glo "_law_odd_points", .glo "law", .glo "_law_refused", .free "abs", .free "all", .free "bool", .free "dict", .free "int", .free "isinstance", .free "len", .free "list", .free "range", .free "repr", .free "sorted", .free "str", .free "tuple", .free "zip", .str "SIGNS" "abcdefghijklmnopqrstuvwxyz0123456789", .str "SMALL" "abcdefghijklmnopqrstuvwxyz", .glo "FarError", .glo "BadNumber", .glo "BadName", .glo "NoName", .glo "TakenName", .glo "BadForm", .glo "BadBook", .glo "NotKept"]
def tf : List He.Defn := [("law", none)]
def ex (K : PySem.W.Frag) : Bool := ((tupB K "WORDS" [">=", ">", "="]) && ((bfnB K "gcd" "math.gcd") && ((kn.all fun c => clsB K c (fl c)) && ((exmB K sub kn) && ((iniB K "BadBook") && true)))))
abbrev R : PySem.W.OpenRow := PySem.W.OpenLaw.row PySem.Challenge.rw_fargreater_k04_books_judged
def loose0 : List Str := ["__name__", "SMALL", "SIGNS", "FarError", "BadNumber", "BadName", "NoName", "TakenName", "BadForm", "BadBook", "NotKept", "is_whole", "is_name", "is_fraction", "WORDS", "is_rising", "are_named", "is_form", "is_form_of", "is_row", "is_book", "need_book", "is_point_of", "is_point", "_law_pen", "_law_draw", "_law_pick", "_law_gcd", "_law_fraction", "_law_number"]
def loose1 : List Str := ["_law_names", "_law_form", "_law_row", "_law_book", "_law_point", "_law_refused", "_law_odd_forms", "_law_odd_books", "_law_odd_points"]
def loose : List Str := loose0 ++ loose1
abbrev hk : PySem.W.Hook := He.hookX 6 fa fn [] tf ex
def ob (s : PySem.W.SharedT) : He.AlX := He.obsX 6 fa fn [] tf ex (HandSHeadRun.getT s)
theorem ob_eq (s : PySem.W.SharedT) : ob s = hk.obs s.abs := He.obsX_eq (HandSHeadRun.getT_eq s)
theorem run (w : World) : HandSHeadRun.RunEqI R (PySem.W.view R.prog [0, 43]) hk ob 20000 loose w := by unfold HandSHeadRun.RunEqI; kernel_rfl
theorem facts {P : Program} {w : World} {K : PySem.W.Frag} {h : Heap} {mg : Str → Option Value} {f : Addr} (X : K.In h) (G : h.Ns mainGlobals mg) (hfa : mg ("law" : Str) = some (.ref f)) (c : He.SaysX fa fn [] tf ex w h K) :
    ∃ fd : FuncData, (∀ (s : Shared) (u : Value), BindsTo s fd ⟨[u], []⟩ [("script", u)]) ∧ ∀ base : Heap, K.In base → base.Ns mainGlobals mg → (∀ p ∈ tf, TabB base mg (He.cT K p).1 (He.cT K p).2) →
      FnG P w K mg base 11 f fd ["script"] (spF ⟨K, mg, tf.map fun p => ((He.cT K p).2, (p.1 ++ (".<locals>." : Str)) ++ ("<lambda>" : Str))⟩ 1 F_law) := by
  obtain ⟨fd_is_whole, D_is_whole⟩ := c.t.d.def_ 0 (d := d_is_whole) rfl
  obtain ⟨fd_is_name, D_is_name⟩ := c.t.d.def_ 1 (d := d_is_name) rfl
  obtain ⟨fd_is_fraction, D_is_fraction⟩ := c.t.d.def_ 2 (d := d_is_fraction) rfl
  obtain ⟨fd_is_rising, D_is_rising⟩ := c.t.d.def_ 3 (d := d_is_rising) rfl
  obtain ⟨fd_are_named, D_are_named⟩ := c.t.d.def_ 4 (d := d_are_named) rfl
  obtain ⟨fd_is_form, D_is_form⟩ := c.t.d.def_ 5 (d := d_is_form) rfl
  obtain ⟨fd_is_form_of, D_is_form_of⟩ := c.t.d.def_ 6 (d := d_is_form_of) rfl
  obtain ⟨fd_is_row, D_is_row⟩ := c.t.d.def_ 7 (d := d_is_row) rfl
  obtain ⟨fd_is_book, D_is_book⟩ := c.t.d.def_ 8 (d := d_is_book) rfl
  obtain ⟨fd_need_book, D_need_book⟩ := c.t.d.def_ 9 (d := d_need_book) rfl
  obtain ⟨fd_is_point_of, D_is_point_of⟩ := c.t.d.def_ 10 (d := d_is_point_of) rfl
  obtain ⟨fd_is_point, D_is_point⟩ := c.t.d.def_ 11 (d := d_is_point) rfl
  obtain ⟨fd__law_pen, D__law_pen⟩ := c.t.d.def_ 12 (d := d__law_pen) rfl
  obtain ⟨fd__law_draw, D__law_draw⟩ := c.t.d.def_ 13 (d := d__law_draw) rfl
  obtain ⟨fd__law_pick, D__law_pick⟩ := c.t.d.def_ 14 (d := d__law_pick) rfl
  obtain ⟨fd__law_gcd, D__law_gcd⟩ := c.t.d.def_ 15 (d := d__law_gcd) rfl
  obtain ⟨fd__law_fraction, D__law_fraction⟩ := c.t.d.def_ 16 (d := d__law_fraction) rfl
  obtain ⟨fd__law_number, D__law_number⟩ := c.t.d.def_ 17 (d := d__law_number) rfl
  obtain ⟨fd__law_names, D__law_names⟩ := c.t.d.def_ 18 (d := d__law_names) rfl
  obtain ⟨fd__law_form, D__law_form⟩ := c.t.d.def_ 19 (d := d__law_form) rfl
  obtain ⟨fd__law_row, D__law_row⟩ := c.t.d.def_ 20 (d := d__law_row) rfl
  obtain ⟨fd__law_book, D__law_book⟩ := c.t.d.def_ 21 (d := d__law_book) rfl
  obtain ⟨fd__law_point, D__law_point⟩ := c.t.d.def_ 22 (d := d__law_point) rfl
  obtain ⟨fd__law_odd_forms, D__law_odd_forms⟩ := c.t.d.def_ 23 (d := d__law_odd_forms) rfl
  obtain ⟨fd__law_odd_books, D__law_odd_books⟩ := c.t.d.def_ 24 (d := d__law_odd_books) rfl
  obtain ⟨fd__law_odd_points, D__law_odd_points⟩ := c.t.d.def_ 25 (d := d__law_odd_points) rfl
  obtain ⟨fd_law, D_law⟩ := c.t.d.def_ 26 (d := d_law) rfl
  obtain ⟨fd__law_refused, D__law_refused⟩ := c.t.d.def_ 27 (d := d__law_refused) rfl
  obtain ⟨fd_BadBook, D_BadBook⟩ := c.t.d.def_ 28 (d := d_BadBook) rfl
  have e := hfa.symm.trans (He.glo_ok X G (c.t.d.fact 26 (f := .glo "law") rfl))
  cases e
  have ⟨x_c_WORDS, m_0⟩ := He.ba (show ((tupB K "WORDS" [">=", ">", "="]) && _) = true from c.more)
  have ⟨x_g_gcd, m_1⟩ := He.ba (show ((bfnB K "gcd" "math.gcd") && _) = true from m_0)
  have ⟨x_cls, m_2⟩ := He.ba (show ((kn.all fun c => clsB K c (fl c)) && _) = true from m_1)
  have ⟨x_exm, m_3⟩ := He.ba (show ((exmB K sub kn) && _) = true from m_2)
  have ⟨x_ini_BadBook, m_4⟩ := He.ba (show ((iniB K "BadBook") && _) = true from m_3)
  have g_is_whole : mg "is_whole" = some (.ref (He.ga K "is_whole")) := He.glo_ok X G (c.t.d.fact 0 (f := .glo "is_whole") rfl)
  have bn_is_whole : Binds K fd_is_whole ["value"] [] := D_is_whole.bindsN fun _ _ _ _ _ _ us hl => match us, hl with | [_], _ => rfl
  have f_is_whole : L2.Fun K "is_whole" "is_whole" s_is_whole (He.fAd K ("is_whole", none)) fd_is_whole := fun_of D_is_whole
  have g_is_name : mg "is_name" = some (.ref (He.ga K "is_name")) := He.glo_ok X G (c.t.d.fact 1 (f := .glo "is_name") rfl)
  have bn_is_name : Binds K fd_is_name ["value"] [] := D_is_name.bindsN fun _ _ _ _ _ _ us hl => match us, hl with | [_], _ => rfl
  have f_is_name : L2.Fun K "is_name" "is_name" s_is_name (He.fAd K ("is_name", none)) fd_is_name := fun_of D_is_name
  have g_is_fraction : mg "is_fraction" = some (.ref (He.ga K "is_fraction")) := He.glo_ok X G (c.t.d.fact 2 (f := .glo "is_fraction") rfl)
  have bn_is_fraction : Binds K fd_is_fraction ["value"] [] := D_is_fraction.bindsN fun _ _ _ _ _ _ us hl => match us, hl with | [_], _ => rfl
  have f_is_fraction : L2.Fun K "is_fraction" "is_fraction" s_is_fraction (He.fAd K ("is_fraction", none)) fd_is_fraction := fun_of D_is_fraction
  have g_is_rising : mg "is_rising" = some (.ref (He.ga K "is_rising")) := He.glo_ok X G (c.t.d.fact 3 (f := .glo "is_rising") rfl)
  have bn_is_rising : Binds K fd_is_rising ["values"] [] := D_is_rising.bindsN fun _ _ _ _ _ _ us hl => match us, hl with | [_], _ => rfl
  have f_is_rising : L2.Fun K "is_rising" "is_rising" s_is_rising (He.fAd K ("is_rising", none)) fd_is_rising := fun_of D_is_rising
  have g_are_named : mg "are_named" = some (.ref (He.ga K "are_named")) := He.glo_ok X G (c.t.d.fact 4 (f := .glo "are_named") rfl)
  have bn_are_named : Binds K fd_are_named ["value"] [] := D_are_named.bindsN fun _ _ _ _ _ _ us hl => match us, hl with | [_], _ => rfl
  have f_are_named : L2.Fun K "are_named" "are_named" s_are_named (He.fAd K ("are_named", none)) fd_are_named := fun_of D_are_named
  have g_is_form : mg "is_form" = some (.ref (He.ga K "is_form")) := He.glo_ok X G (c.t.d.fact 5 (f := .glo "is_form") rfl)
  have bn_is_form : Binds K fd_is_form ["value"] [] := D_is_form.bindsN fun _ _ _ _ _ _ us hl => match us, hl with | [_], _ => rfl
  have f_is_form : L2.Fun K "is_form" "is_form" s_is_form (He.fAd K ("is_form", none)) fd_is_form := fun_of D_is_form
  have g_is_form_of : mg "is_form_of" = some (.ref (He.ga K "is_form_of")) := He.glo_ok X G (c.t.d.fact 6 (f := .glo "is_form_of") rfl)
  have bn_is_form_of : Binds K fd_is_form_of ["names", "value"] [] := D_is_form_of.bindsN fun _ _ _ _ _ _ us hl => match us, hl with | [_, _], _ => rfl
  have f_is_form_of : L2.Fun K "is_form_of" "is_form_of" s_is_form_of (He.fAd K ("is_form_of", none)) fd_is_form_of := fun_of D_is_form_of
  have g_is_row : mg "is_row" = some (.ref (He.ga K "is_row")) := He.glo_ok X G (c.t.d.fact 7 (f := .glo "is_row") rfl)
  have bn_is_row : Binds K fd_is_row ["names", "value"] [] := D_is_row.bindsN fun _ _ _ _ _ _ us hl => match us, hl with | [_, _], _ => rfl
  have f_is_row : L2.Fun K "is_row" "is_row" s_is_row (He.fAd K ("is_row", none)) fd_is_row := fun_of D_is_row
  have g_is_book : mg "is_book" = some (.ref (He.ga K "is_book")) := He.glo_ok X G (c.t.d.fact 8 (f := .glo "is_book") rfl)
  have bn_is_book : Binds K fd_is_book ["value"] [] := D_is_book.bindsN fun _ _ _ _ _ _ us hl => match us, hl with | [_], _ => rfl
  have f_is_book : L2.Fun K "is_book" "is_book" s_is_book (He.fAd K ("is_book", none)) fd_is_book := fun_of D_is_book
  have g_need_book : mg "need_book" = some (.ref (He.ga K "need_book")) := He.glo_ok X G (c.t.d.fact 9 (f := .glo "need_book") rfl)
  have bn_need_book : Binds K fd_need_book ["value"] [] := D_need_book.bindsN fun _ _ _ _ _ _ us hl => match us, hl with | [_], _ => rfl
  have f_need_book : L2.Fun K "need_book" "need_book" s_need_book (He.fAd K ("need_book", none)) fd_need_book := fun_of D_need_book
  have g_is_point_of : mg "is_point_of" = some (.ref (He.ga K "is_point_of")) := He.glo_ok X G (c.t.d.fact 10 (f := .glo "is_point_of") rfl)
  have bn_is_point_of : Binds K fd_is_point_of ["names", "value"] [] := D_is_point_of.bindsN fun _ _ _ _ _ _ us hl => match us, hl with | [_, _], _ => rfl
  have f_is_point_of : L2.Fun K "is_point_of" "is_point_of" s_is_point_of (He.fAd K ("is_point_of", none)) fd_is_point_of := fun_of D_is_point_of
  have g_is_point : mg "is_point" = some (.ref (He.ga K "is_point")) := He.glo_ok X G (c.t.d.fact 11 (f := .glo "is_point") rfl)
  have bn_is_point : Binds K fd_is_point ["book", "value"] [] := D_is_point.bindsN fun _ _ _ _ _ _ us hl => match us, hl with | [_, _], _ => rfl
  have f_is_point : L2.Fun K "is_point" "is_point" s_is_point (He.fAd K ("is_point", none)) fd_is_point := fun_of D_is_point
  have g__law_pen : mg "_law_pen" = some (.ref (He.ga K "_law_pen")) := He.glo_ok X G (c.t.d.fact 12 (f := .glo "_law_pen") rfl)
  have bn__law_pen : Binds K fd__law_pen ["script"] [] := D__law_pen.bindsN fun _ _ _ _ _ _ us hl => match us, hl with | [_], _ => rfl
  have f__law_pen : L2.Fun K "_law_pen" "_law_pen" s__law_pen (He.fAd K ("_law_pen", none)) fd__law_pen := fun_of D__law_pen
  have g__law_draw : mg "_law_draw" = some (.ref (He.ga K "_law_draw")) := He.glo_ok X G (c.t.d.fact 13 (f := .glo "_law_draw") rfl)
  have bn__law_draw : Binds K fd__law_draw ["pen", "many"] [] := D__law_draw.bindsN fun _ _ _ _ _ _ us hl => match us, hl with | [_, _], _ => rfl
  have f__law_draw : L2.Fun K "_law_draw" "_law_draw" s__law_draw (He.fAd K ("_law_draw", none)) fd__law_draw := fun_of D__law_draw
  have g__law_pick : mg "_law_pick" = some (.ref (He.ga K "_law_pick")) := He.glo_ok X G (c.t.d.fact 14 (f := .glo "_law_pick") rfl)
  have bn__law_pick : Binds K fd__law_pick ["pen", "some"] [] := D__law_pick.bindsN fun _ _ _ _ _ _ us hl => match us, hl with | [_, _], _ => rfl
  have f__law_pick : L2.Fun K "_law_pick" "_law_pick" s__law_pick (He.fAd K ("_law_pick", none)) fd__law_pick := fun_of D__law_pick
  have g__law_gcd : mg "_law_gcd" = some (.ref (He.ga K "_law_gcd")) := He.glo_ok X G (c.t.d.fact 15 (f := .glo "_law_gcd") rfl)
  have bn__law_gcd : Binds K fd__law_gcd ["one", "two"] [] := D__law_gcd.bindsN fun _ _ _ _ _ _ us hl => match us, hl with | [_, _], _ => rfl
  have f__law_gcd : L2.Fun K "_law_gcd" "_law_gcd" s__law_gcd (He.fAd K ("_law_gcd", none)) fd__law_gcd := fun_of D__law_gcd
  have g__law_fraction : mg "_law_fraction" = some (.ref (He.ga K "_law_fraction")) := He.glo_ok X G (c.t.d.fact 16 (f := .glo "_law_fraction") rfl)
  have bn__law_fraction : Binds K fd__law_fraction ["top", "bottom"] [] := D__law_fraction.bindsN fun _ _ _ _ _ _ us hl => match us, hl with | [_, _], _ => rfl
  have f__law_fraction : L2.Fun K "_law_fraction" "_law_fraction" s__law_fraction (He.fAd K ("_law_fraction", none)) fd__law_fraction := fun_of D__law_fraction
  have g__law_number : mg "_law_number" = some (.ref (He.ga K "_law_number")) := He.glo_ok X G (c.t.d.fact 17 (f := .glo "_law_number") rfl)
  have bn__law_number : Binds K fd__law_number ["pen"] [] := D__law_number.bindsN fun _ _ _ _ _ _ us hl => match us, hl with | [_], _ => rfl
  have f__law_number : L2.Fun K "_law_number" "_law_number" s__law_number (He.fAd K ("_law_number", none)) fd__law_number := fun_of D__law_number
  have g__law_names : mg "_law_names" = some (.ref (He.ga K "_law_names")) := He.glo_ok X G (c.t.d.fact 18 (f := .glo "_law_names") rfl)
  have bn__law_names : Binds K fd__law_names ["pen", "many"] [] := D__law_names.bindsN fun _ _ _ _ _ _ us hl => match us, hl with | [_, _], _ => rfl
  have f__law_names : L2.Fun K "_law_names" "_law_names" s__law_names (He.fAd K ("_law_names", none)) fd__law_names := fun_of D__law_names
  have g__law_form : mg "_law_form" = some (.ref (He.ga K "_law_form")) := He.glo_ok X G (c.t.d.fact 19 (f := .glo "_law_form") rfl)
  have bn__law_form : Binds K fd__law_form ["pen", "names"] [] := D__law_form.bindsN fun _ _ _ _ _ _ us hl => match us, hl with | [_, _], _ => rfl
  have f__law_form : L2.Fun K "_law_form" "_law_form" s__law_form (He.fAd K ("_law_form", none)) fd__law_form := fun_of D__law_form
  have g__law_row : mg "_law_row" = some (.ref (He.ga K "_law_row")) := He.glo_ok X G (c.t.d.fact 20 (f := .glo "_law_row") rfl)
  have bn__law_row : Binds K fd__law_row ["pen", "names"] [] := D__law_row.bindsN fun _ _ _ _ _ _ us hl => match us, hl with | [_, _], _ => rfl
  have f__law_row : L2.Fun K "_law_row" "_law_row" s__law_row (He.fAd K ("_law_row", none)) fd__law_row := fun_of D__law_row
  have g__law_book : mg "_law_book" = some (.ref (He.ga K "_law_book")) := He.glo_ok X G (c.t.d.fact 21 (f := .glo "_law_book") rfl)
  have bn__law_book : Binds K fd__law_book ["pen", "many"] [] := D__law_book.bindsN fun _ _ _ _ _ _ us hl => match us, hl with | [_, _], _ => rfl
  have f__law_book : L2.Fun K "_law_book" "_law_book" s__law_book (He.fAd K ("_law_book", none)) fd__law_book := fun_of D__law_book
  have g__law_point : mg "_law_point" = some (.ref (He.ga K "_law_point")) := He.glo_ok X G (c.t.d.fact 22 (f := .glo "_law_point") rfl)
  have bn__law_point : Binds K fd__law_point ["pen", "names"] [] := D__law_point.bindsN fun _ _ _ _ _ _ us hl => match us, hl with | [_, _], _ => rfl
  have f__law_point : L2.Fun K "_law_point" "_law_point" s__law_point (He.fAd K ("_law_point", none)) fd__law_point := fun_of D__law_point
  have g__law_odd_forms : mg "_law_odd_forms" = some (.ref (He.ga K "_law_odd_forms")) := He.glo_ok X G (c.t.d.fact 23 (f := .glo "_law_odd_forms") rfl)
  have bn__law_odd_forms : Binds K fd__law_odd_forms ["form"] [] := D__law_odd_forms.bindsN fun _ _ _ _ _ _ us hl => match us, hl with | [_], _ => rfl
  have f__law_odd_forms : L2.Fun K "_law_odd_forms" "_law_odd_forms" s__law_odd_forms (He.fAd K ("_law_odd_forms", none)) fd__law_odd_forms := fun_of D__law_odd_forms
  have g__law_odd_books : mg "_law_odd_books" = some (.ref (He.ga K "_law_odd_books")) := He.glo_ok X G (c.t.d.fact 24 (f := .glo "_law_odd_books") rfl)
  have bn__law_odd_books : Binds K fd__law_odd_books ["book"] [] := D__law_odd_books.bindsN fun _ _ _ _ _ _ us hl => match us, hl with | [_], _ => rfl
  have f__law_odd_books : L2.Fun K "_law_odd_books" "_law_odd_books" s__law_odd_books (He.fAd K ("_law_odd_books", none)) fd__law_odd_books := fun_of D__law_odd_books
  have g__law_odd_points : mg "_law_odd_points" = some (.ref (He.ga K "_law_odd_points")) := He.glo_ok X G (c.t.d.fact 25 (f := .glo "_law_odd_points") rfl)
  have bn__law_odd_points : Binds K fd__law_odd_points ["point"] [] := D__law_odd_points.bindsN fun _ _ _ _ _ _ us hl => match us, hl with | [_], _ => rfl
  have f__law_odd_points : L2.Fun K "_law_odd_points" "_law_odd_points" s__law_odd_points (He.fAd K ("_law_odd_points", none)) fd__law_odd_points := fun_of D__law_odd_points
  have g_law : mg "law" = some (.ref (He.ga K "law")) := He.glo_ok X G (c.t.d.fact 26 (f := .glo "law") rfl)
  have bn_law : Binds K fd_law ["script"] [] := D_law.bindsN fun _ _ _ _ _ _ us hl => match us, hl with | [_], _ => rfl
  have f_law : L2.Fun K "law" "law" s_law (He.fAd K ("law", none)) fd_law := fun_of D_law
  have g__law_refused : mg "_law_refused" = some (.ref (He.ga K "_law_refused")) := He.glo_ok X G (c.t.d.fact 27 (f := .glo "_law_refused") rfl)
  have bn__law_refused : Binds K fd__law_refused ["call"] [] := D__law_refused.bindsN fun _ _ _ _ _ _ us hl => match us, hl with | [_], _ => rfl
  have f__law_refused : L2.Fun K "_law_refused" "_law_refused" s__law_refused (He.fAd K ("_law_refused", none)) fd__law_refused := fun_of D__law_refused
  have hgk : ∀ c ∈ kn, mg c = some (.ref (He.ga K c)) := by
    intro c hc
    simp only [kn, List.mem_cons, List.not_mem_nil, or_false] at hc
    rcases hc with rfl | rfl | rfl | rfl | rfl | rfl | rfl | rfl
    · exact He.glo_ok X G (c.t.d.fact 44 (f := .glo "FarError") rfl)
    · exact He.glo_ok X G (c.t.d.fact 45 (f := .glo "BadNumber") rfl)
    · exact He.glo_ok X G (c.t.d.fact 46 (f := .glo "BadName") rfl)
    · exact He.glo_ok X G (c.t.d.fact 47 (f := .glo "NoName") rfl)
    · exact He.glo_ok X G (c.t.d.fact 48 (f := .glo "TakenName") rfl)
    · exact He.glo_ok X G (c.t.d.fact 49 (f := .glo "BadForm") rfl)
    · exact He.glo_ok X G (c.t.d.fact 50 (f := .glo "BadBook") rfl)
    · exact He.glo_ok X G (c.t.d.fact 51 (f := .glo "NotKept") rfl)
  have err := errK_of (fl := fl) hgk x_cls x_exm
  refine ⟨fd_law, fun s u => (D_law.bindsA (ps := ["script"]) (fun _ _ _ _ _ _ us hl => match us, hl with | [_], _ => rfl)) s [u] rfl, fun base hbK hbG hTB => ?_⟩
  have T : Tx K mg (tf.map fun p => ((He.cT K p).2, (p.1 ++ (".<locals>." : Str)) ++ ("<lambda>" : Str))) := ⟨He.free_ok X G (c.t.d.fact 28 (f := .free "abs") rfl), He.free_ok X G (c.t.d.fact 29 (f := .free "all") rfl), He.free_ok X G (c.t.d.fact 30 (f := .free "bool") rfl), He.free_ok X G (c.t.d.fact 31 (f := .free "dict") rfl), He.free_ok X G (c.t.d.fact 32 (f := .free "int") rfl), He.free_ok X G (c.t.d.fact 33 (f := .free "isinstance") rfl), He.free_ok X G (c.t.d.fact 34 (f := .free "len") rfl), He.free_ok X G (c.t.d.fact 35 (f := .free "list") rfl), He.free_ok X G (c.t.d.fact 36 (f := .free "range") rfl), He.free_ok X G (c.t.d.fact 37 (f := .free "repr") rfl), He.free_ok X G (c.t.d.fact 38 (f := .free "sorted") rfl), He.free_ok X G (c.t.d.fact 39 (f := .free "str") rfl), He.free_ok X G (c.t.d.fact 40 (f := .free "tuple") rfl), He.free_ok X G (c.t.d.fact 41 (f := .free "zip") rfl), globStr (He.str_ok X G (c.t.d.fact 42 (f := .str "SIGNS" "abcdefghijklmnopqrstuvwxyz0123456789") rfl)), globStr (He.str_ok X G (c.t.d.fact 43 (f := .str "SMALL" "abcdefghijklmnopqrstuvwxyz") rfl)), tup_ok X G x_c_WORDS, bfn_ok X G x_g_gcd, err⟩
  have o_BadBook : OwnC P w K mg base "BadBook" ["book"] := own1 (clsB_ok (List.all_eq_true.mp x_cls "BadBook" (by decide))).1 (hgk _ (by decide)) x_ini_BadBook ((clsB_ok (List.all_eq_true.mp x_cls _ (by decide))).2.2 "book" (by decide)) (st := i_BadBook) (q := "BadBook.__init__") (fun_of D_BadBook) (N := ["self", "book"]) (show FnScope ["self", "book"] ["self", "book"] (defScope i_BadBook) from ⟨rfl, rfl, rfl, by decide +kernel, rfl, by decide +kernel, by decide +kernel⟩) rfl (D_BadBook.bindsN fun _ _ _ _ _ _ us hl => match us, hl with | [_, _], _ => rfl) (fun _ _ _ _ _ _ => pss_one (ps_ost (pv 0) (pv 1)))
  have k_is_whole : Cal P w K mg base ⟨K, mg, (tf.map fun p => ((He.cT K p).2, (p.1 ++ (".<locals>." : Str)) ++ ("<lambda>" : Str)))⟩ "is_whole" 1 1 F_is_whole := ok_is_whole f_is_whole T g_is_whole bn_is_whole
  have k_is_name : Cal P w K mg base ⟨K, mg, (tf.map fun p => ((He.cT K p).2, (p.1 ++ (".<locals>." : Str)) ++ ("<lambda>" : Str)))⟩ "is_name" 1 1 F_is_name := ok_is_name f_is_name T g_is_name bn_is_name
  have k_is_fraction : Cal P w K mg base ⟨K, mg, (tf.map fun p => ((He.cT K p).2, (p.1 ++ (".<locals>." : Str)) ++ ("<lambda>" : Str)))⟩ "is_fraction" 2 1 F_is_fraction := ok_is_fraction f_is_fraction T g_is_fraction bn_is_fraction k_is_whole
  have k_is_rising : Cal P w K mg base ⟨K, mg, (tf.map fun p => ((He.cT K p).2, (p.1 ++ (".<locals>." : Str)) ++ ("<lambda>" : Str)))⟩ "is_rising" 1 1 F_is_rising := ok_is_rising f_is_rising T g_is_rising bn_is_rising
  have k_are_named : Cal P w K mg base ⟨K, mg, (tf.map fun p => ((He.cT K p).2, (p.1 ++ (".<locals>." : Str)) ++ ("<lambda>" : Str)))⟩ "are_named" 2 1 F_are_named := ok_are_named f_are_named T g_are_named bn_are_named k_is_name k_is_rising
  have k_is_form : Cal P w K mg base ⟨K, mg, (tf.map fun p => ((He.cT K p).2, (p.1 ++ (".<locals>." : Str)) ++ ("<lambda>" : Str)))⟩ "is_form" 3 1 F_is_form := ok_is_form f_is_form T g_is_form bn_is_form k_are_named k_is_whole
  have k_is_form_of : Cal P w K mg base ⟨K, mg, (tf.map fun p => ((He.cT K p).2, (p.1 ++ (".<locals>." : Str)) ++ ("<lambda>" : Str)))⟩ "is_form_of" 4 2 F_is_form_of := ok_is_form_of f_is_form_of T g_is_form_of bn_is_form_of k_is_form
  have k_is_row : Cal P w K mg base ⟨K, mg, (tf.map fun p => ((He.cT K p).2, (p.1 ++ (".<locals>." : Str)) ++ ("<lambda>" : Str)))⟩ "is_row" 5 2 F_is_row := ok_is_row f_is_row T g_is_row bn_is_row k_is_form_of k_is_whole
  have k_is_book : Cal P w K mg base ⟨K, mg, (tf.map fun p => ((He.cT K p).2, (p.1 ++ (".<locals>." : Str)) ++ ("<lambda>" : Str)))⟩ "is_book" 6 1 F_is_book := ok_is_book f_is_book T g_is_book bn_is_book k_is_name k_is_rising k_is_row
  have k_need_book : Cal P w K mg base ⟨K, mg, (tf.map fun p => ((He.cT K p).2, (p.1 ++ (".<locals>." : Str)) ++ ("<lambda>" : Str)))⟩ "need_book" 7 1 F_need_book := ok_need_book f_need_book T g_need_book bn_need_book k_is_book o_BadBook
  have k_is_point_of : Cal P w K mg base ⟨K, mg, (tf.map fun p => ((He.cT K p).2, (p.1 ++ (".<locals>." : Str)) ++ ("<lambda>" : Str)))⟩ "is_point_of" 3 2 F_is_point_of := ok_is_point_of f_is_point_of T g_is_point_of bn_is_point_of k_are_named k_is_fraction
  have k_is_point : Cal P w K mg base ⟨K, mg, (tf.map fun p => ((He.cT K p).2, (p.1 ++ (".<locals>." : Str)) ++ ("<lambda>" : Str)))⟩ "is_point" 8 2 F_is_point := ok_is_point f_is_point T g_is_point bn_is_point k_is_point_of k_need_book
  have k__law_pen : Cal P w K mg base ⟨K, mg, (tf.map fun p => ((He.cT K p).2, (p.1 ++ (".<locals>." : Str)) ++ ("<lambda>" : Str)))⟩ "_law_pen" 1 1 F__law_pen := ok__law_pen f__law_pen T g__law_pen bn__law_pen
  have k__law_draw : Cal P w K mg base ⟨K, mg, (tf.map fun p => ((He.cT K p).2, (p.1 ++ (".<locals>." : Str)) ++ ("<lambda>" : Str)))⟩ "_law_draw" 1 2 F__law_draw := ok__law_draw f__law_draw T g__law_draw bn__law_draw
  have k__law_pick : Cal P w K mg base ⟨K, mg, (tf.map fun p => ((He.cT K p).2, (p.1 ++ (".<locals>." : Str)) ++ ("<lambda>" : Str)))⟩ "_law_pick" 2 2 F__law_pick := ok__law_pick f__law_pick T g__law_pick bn__law_pick k__law_draw
  have k__law_gcd : Cal P w K mg base ⟨K, mg, (tf.map fun p => ((He.cT K p).2, (p.1 ++ (".<locals>." : Str)) ++ ("<lambda>" : Str)))⟩ "_law_gcd" 1 2 F__law_gcd := ok__law_gcd f__law_gcd T g__law_gcd bn__law_gcd
  have k__law_fraction : Cal P w K mg base ⟨K, mg, (tf.map fun p => ((He.cT K p).2, (p.1 ++ (".<locals>." : Str)) ++ ("<lambda>" : Str)))⟩ "_law_fraction" 2 2 F__law_fraction := ok__law_fraction f__law_fraction T g__law_fraction bn__law_fraction k__law_gcd
  have k__law_number : Cal P w K mg base ⟨K, mg, (tf.map fun p => ((He.cT K p).2, (p.1 ++ (".<locals>." : Str)) ++ ("<lambda>" : Str)))⟩ "_law_number" 3 1 F__law_number := ok__law_number f__law_number T g__law_number bn__law_number k__law_draw k__law_pick
  have k__law_names : Cal P w K mg base ⟨K, mg, (tf.map fun p => ((He.cT K p).2, (p.1 ++ (".<locals>." : Str)) ++ ("<lambda>" : Str)))⟩ "_law_names" 3 2 F__law_names := ok__law_names f__law_names T g__law_names bn__law_names k__law_draw k__law_pick
  have k__law_form : Cal P w K mg base ⟨K, mg, (tf.map fun p => ((He.cT K p).2, (p.1 ++ (".<locals>." : Str)) ++ ("<lambda>" : Str)))⟩ "_law_form" 4 2 F__law_form := ok__law_form f__law_form T g__law_form bn__law_form k__law_draw k__law_number k__law_pick
  have k__law_row : Cal P w K mg base ⟨K, mg, (tf.map fun p => ((He.cT K p).2, (p.1 ++ (".<locals>." : Str)) ++ ("<lambda>" : Str)))⟩ "_law_row" 5 2 F__law_row := ok__law_row f__law_row T g__law_row bn__law_row k__law_draw k__law_form k__law_pick
  have k__law_book : Cal P w K mg base ⟨K, mg, (tf.map fun p => ((He.cT K p).2, (p.1 ++ (".<locals>." : Str)) ++ ("<lambda>" : Str)))⟩ "_law_book" 6 2 F__law_book := ok__law_book f__law_book T g__law_book bn__law_book k__law_draw k__law_names k__law_row
  have k__law_point : Cal P w K mg base ⟨K, mg, (tf.map fun p => ((He.cT K p).2, (p.1 ++ (".<locals>." : Str)) ++ ("<lambda>" : Str)))⟩ "_law_point" 3 2 F__law_point := ok__law_point f__law_point T g__law_point bn__law_point k__law_draw k__law_fraction k__law_pick
  have k__law_odd_forms : Cal P w K mg base ⟨K, mg, (tf.map fun p => ((He.cT K p).2, (p.1 ++ (".<locals>." : Str)) ++ ("<lambda>" : Str)))⟩ "_law_odd_forms" 1 1 F__law_odd_forms := ok__law_odd_forms f__law_odd_forms T g__law_odd_forms bn__law_odd_forms
  have k__law_odd_books : Cal P w K mg base ⟨K, mg, (tf.map fun p => ((He.cT K p).2, (p.1 ++ (".<locals>." : Str)) ++ ("<lambda>" : Str)))⟩ "_law_odd_books" 1 1 F__law_odd_books := ok__law_odd_books f__law_odd_books T g__law_odd_books bn__law_odd_books
  have k__law_odd_points : Cal P w K mg base ⟨K, mg, (tf.map fun p => ((He.cT K p).2, (p.1 ++ (".<locals>." : Str)) ++ ("<lambda>" : Str)))⟩ "_law_odd_points" 1 1 F__law_odd_points := ok__law_odd_points f__law_odd_points T g__law_odd_points bn__law_odd_points
  have onL_law : ∀ p ∈ (tf.map fun p => ((He.cT K p).2, (p.1 ++ (".<locals>." : Str)) ++ ("<lambda>" : Str))), p.2 = ((("law" : Str) ++ (".<locals>." : Str)) ++ ("<lambda>" : Str)) := by
    intro p hp
    obtain ⟨q, hq, rfl⟩ := List.mem_map.mp hp
    simp only [tf, List.mem_cons, List.not_mem_nil, or_false] at hq
    subst hq; rfl
  exact ok_law f_law T k__law_book k__law_draw k__law_form k__law_odd_books k__law_odd_forms k__law_odd_points k__law_pen k__law_point k_is_book k_is_form k_is_point ⟨f__law_refused, g__law_refused, bn__law_refused⟩ (hTB ("law", none) (by decide)) (cd_of f_law) (List.mem_map.mpr ⟨("law", none), by decide, rfl⟩) (by intro p hp _; exact onL_law p hp)
end K04
end
section
set_option maxRecDepth 100000
set_option maxHeartbeats 4000000
namespace K04
open PySem PySem.Spec L2 LamX Mi Mi.J
open PyProof.Rows hiding St
theorem q_draw : DrawOk K04.F__law_draw := (draw_of (by decide) (by decide) (by decide) (by decide) (by decide) (by decide) (by decide) : DrawOk (defF 3 (genDraw 71993 2147483549 8369 79 19 2305843009213693951 128)))
theorem q_pick : PickOk K04.F__law_pick := pick_of q_draw
theorem q_number : NumOk K04.F__law_number := number_of q_draw q_pick
theorem q_names : NamesF K04.F__law_names := names_of q_draw q_pick
theorem q_form : FormF K04.F__law_form := form_of q_draw q_pick q_number
theorem q_row : RowF K04.F__law_row := row_of q_draw q_pick q_form
theorem q_book : BookF K04.F__law_book := book_of q_draw q_names q_row
theorem q_bookI (cs : List Int) (n j : Int) (d : D) (h : Pn cs n d) (hn : n < 2 ^ 35) (h0 : 0 ≤ j) (hj : j ≤ 5) : Gv K04.F__law_book d [.int j] fun y d' => ∃ (ns : List Str) (rows : List D), y = bkD ns rows ∧ BkOk ns rows ∧ Pn cs (n + 500) d' := by
  obtain ⟨m, rfl⟩ := Int.eq_ofNat_of_zero_le h0
  obtain ⟨y, d', l, e, ns, rows, h1, _, h2, h3⟩ := q_book cs n m d h hn (by omega)
  exact ⟨y, d', l, e, ns, rows, h1, h2, h3⟩
theorem q_point : PointF K04.F__law_point := point_of q_draw q_pick
theorem q_pen : PenF K04.F__law_pen := (pen_of (by decide) (by decide) : PenF (defF 2 (mPen 79 1000000021)))
theorem q_is_form {d : D} (h : J.fit d = true) : K04.F_is_form [.val d] = .ok (.val (.bl (jForm d))) [.val d] := is_form_eq h
theorem q_is_book {d : D} (h : J.fit d = true) : K04.F_is_book [.val d] = .ok (.val (.bl (jBook d))) [.val d] := is_book_eq h
theorem q_is_point {ns : List Str} {rows : List D} {d : D} (h0 : J.fit (bkD ns rows) = true) (hb : jBook (bkD ns rows) = true) (h : J.fit d = true) : K04.F_is_point [.val (bkD ns rows), .val d] = .ok (.val (.bl (jPoint ns d))) [.val (bkD ns rows), .val d] := is_point_yes h0 hb h
theorem q_is_point_no {b d : D} (h0 : J.fit b = true) (hb : jBook b = false) : K04.F_is_point [.val b, .val d] = .exc "BadBook" [("book", b)] [.val b, .val d] := is_point_no h0 hb
theorem q_odd_forms {xs : List D} (h : xs.length ≤ 100) : ∃ l, K04.F__law_odd_forms [.val (.tup xs)] = .ok (.own (.lst (oddF xs))) l := odd_forms_eq h
theorem q_odd_books {ns : List Str} {rows : List D} (h : BkOk ns rows) : ∃ l, K04.F__law_odd_books [.val (bkD ns rows)] = .ok (.own (.lst (oddB ns rows))) l := odd_books_eq h
theorem q_odd_points {ns : List Str} {ps : List (Str × D)} (h : PtOk ns ps) (hns : ∀ s ∈ ns, Nm s) (hl : ns.length ≤ 5) (hr : jRis ns = true) : ∃ a l, K04.F__law_odd_points [.val (.tup (ps.map ptD))] = .ok a l ∧ ∃ vs, a = .own (.lst vs) ∧ vs.length ≤ 100 ∧ ∀ v ∈ vs, J.fit v = true ∧ jPoint ns v = false := odd_points h hns hl hr
theorem q_refused {v : D} {t : Str} (h : fRepr [v] = some (.val (.str t))) : ∃ l, G__law_refused (.exc "BadBook" [("book", v)]) = .ok (.rt (.val (.tup [.str "book", .str t]))) l := by
  have e1 : ("BadBook" : Str) ∈ kn := by decide +kernel
  have e2 : sub "BadBook" "BadBook" = true := by decide +kernel
  have e3 : fldO [(("book" : Str), v)] "book" = some (.val v) := by
    unfold fldO
    rw [show List.lookup ("book" : Str) [(("book" : Str), v)] = some v from rfl] <;> rfl
  have e4 : tupO (consO (strO "book") (consO (repO (fldO [(("book" : Str), v)] "book")) nilO)) = some (.val (.tup [.str "book", .str t])) := by
    rw [e3]
    show tupO (consO (strO "book") (consO ((fRepr [v])) nilO)) = _
    rw [h] <;> rfl
  refine ⟨[.un, .un], ?_⟩
  unfold G__law_refused gF mSeq bnd
  have e5 : mTry sub kn (tbN false (.exc "BadBook" [("book", v)])) hs__law_refused (List.replicate 2 .un) = .ok (.rt (.val (.tup [.str "book", .str t]))) [.un, .un] := by
    unfold mTry
    show handle sub kn "BadBook" [("book", v)] hs__law_refused [.un, .un] = _
    unfold hs__law_refused handle
    dsimp only
    rw [if_pos e1, if_pos e2]
    unfold suiteF
    rw [if_pos (by rfl)]
    dsimp only
    unfold suRet
    rw [if_pos ⟨rfl, rfl⟩]
    dsimp only
    rw [e4] <;> rfl
  rw [e5] <;> rfl
theorem ne_pair {t : Str} (h : PyData.strOk t = true) : bNe (.tup [.str "book", .str t]) (.tup [.str "book", .str t]) = some (.val (.bl false)) := by
  have hs : SeqAt.shaped (.tuple [.str "book", .str t]) = true := by
    have := shaped_strs (ss := ["book", t]) (by
      intro s hs
      simp only [List.mem_cons, List.not_mem_nil, or_false] at hs
      rcases hs with rfl | rfl
      · exact ok_string "book"
      · exact h)
    exact this
  unfold bNe eqD
  show (if SeqAt.shaped (.tuple [.str "book", .str t]) = true ∧ SeqAt.shaped (.tuple [.str "book", .str t]) = true then some (PyData.eqv (.tuple [.str "book", .str t]) (.tuple [.str "book", .str t])) else none).map _ = _
  rw [if_pos ⟨hs, hs⟩]
  have : PyData.eqv (.tuple [.str "book", .str t]) (.tuple [.str "book", .str t]) = ([("book" : Str), t] == [("book" : Str), t]) := eqv_strs (as := ["book", t]) (bs := ["book", t])
  rw [this]
  simp
theorem lap_book {ns : List Int} {n : Int} {d : D} {x0 x2 x3 x4 x5 x6 : SV} {Kt : Fl → List SV → Prop} (hp : Pn ns n d) (hn : n < 2 ^ 20)
    (k : ∀ (nm : List Str) (rows : List D) (d2 : D), BkOk nm rows → Pn ns (n + 501) d2 → Kt .nx [x0, .box d2, x2, .val (bkD nm rows), x4, x5, x6]) :
    wp (mAsg 3 false (mCallR K04.F__law_book 0 (mCons (mVar 1) (mCons (mCallR K04.F__law_draw 0 (mCons (mVar 1) (mCons (mC (.int 6)) mNil))) mNil)))) Kt [x0, .box d, x2, x3, x4, x5, x6] := by
  simp only [wp_bnd, wp_rt, wp_mC, wp_mVar, wp_mNil, wp_mCons, wp_op1, wp_op2, wp_mTst, wp_mTru, wp_mAnd, wp_mOr, wp_mNot, wp_mBl, wp_mAndV, wp_mOrV, wp_mNotV, wp_mIte, wp_lk2, wp_mChain, wp_mTup, wp_mLst, wp_mB, wp_mDk, wp_mYes, wp_mPass, wp_mBreak, wp_mCont, nxt, wp_mSeq, wp_mIf, wp_mRet, wp_mExpr, wp_mAsg, wp_mAsgT, wp_mPar, wp_mPut, wp_mApp, wp_mSl, wp_mPartN, wp_mPartS, wp_mRev2, wp_mMt, wp_mCall, wpC_val, wpC_own, wp_mCallR, wp_mItV, wp_mItF, wp_mRng1, wp_mFor, wp_mComp, sm_some, sm_none, sm_ite, sm_map, look_val, look_own, look_bx, looks_nil, looks_cons, toV_val, toV_own, toVs_nil, toVs_cons, List.getElem?_cons_zero, List.getElem?_cons_succ, List.set_cons_zero, List.set_cons_succ, List.map_cons, List.map_nil, List.cons_append, List.nil_append, List.replicate_succ, List.replicate_zero, List.append_nil, truD_bl, items_str, items_tup, items_lst, fLen_tup, fLen_lst, bIx_tup, bIx_lst, tyD_str, tyD_int, tyD_bl, tyD_tup, tyD_lst, isTD_eq, isTn, fin_val, back_val, back_nil, back_pbx, Option.map_some, bxD_box, bxD_pbx, fin_own, if_true, if_false, Bool.false_eq_true]
  refine gv_b (i := 1) (d := d) (xs := [.int 6]) rfl rfl (q_draw ns n 6 d hp (by omega) (by omega) (by omega)) ?_
  rintro y d1 ⟨j, rfl, hj0, hj, hp1⟩
  simp only [wp_bnd, wp_rt, wp_mC, wp_mVar, wp_mNil, wp_mCons, wp_op1, wp_op2, wp_mTst, wp_mTru, wp_mAnd, wp_mOr, wp_mNot, wp_mBl, wp_mAndV, wp_mOrV, wp_mNotV, wp_mIte, wp_lk2, wp_mChain, wp_mTup, wp_mLst, wp_mB, wp_mDk, wp_mYes, wp_mPass, wp_mBreak, wp_mCont, nxt, wp_mSeq, wp_mIf, wp_mRet, wp_mExpr, wp_mAsg, wp_mAsgT, wp_mPar, wp_mPut, wp_mApp, wp_mSl, wp_mPartN, wp_mPartS, wp_mRev2, wp_mMt, wp_mCall, wpC_val, wpC_own, wp_mCallR, wp_mItV, wp_mItF, wp_mRng1, wp_mFor, wp_mComp, sm_some, sm_none, sm_ite, sm_map, look_val, look_own, look_bx, looks_nil, looks_cons, toV_val, toV_own, toVs_nil, toVs_cons, List.getElem?_cons_zero, List.getElem?_cons_succ, List.set_cons_zero, List.set_cons_succ, List.map_cons, List.map_nil, List.cons_append, List.nil_append, List.replicate_succ, List.replicate_zero, List.append_nil, truD_bl, items_str, items_tup, items_lst, fLen_tup, fLen_lst, bIx_tup, bIx_lst, tyD_str, tyD_int, tyD_bl, tyD_tup, tyD_lst, isTD_eq, isTn, fin_val, back_val, back_nil, back_pbx, Option.map_some, bxD_box, bxD_pbx, fin_own, if_true, if_false, Bool.false_eq_true]
  refine gv_b (i := 1) (d := d1) (xs := [.int j]) rfl rfl (q_bookI ns (n + 1) j d1 hp1 (by omega) hj0 (by omega)) ?_
  rintro y d2 ⟨nm, rows, rfl, hbk, hp2⟩
  simp only [wp_bnd, wp_rt, wp_mC, wp_mVar, wp_mNil, wp_mCons, wp_op1, wp_op2, wp_mTst, wp_mTru, wp_mAnd, wp_mOr, wp_mNot, wp_mBl, wp_mAndV, wp_mOrV, wp_mNotV, wp_mIte, wp_lk2, wp_mChain, wp_mTup, wp_mLst, wp_mB, wp_mDk, wp_mYes, wp_mPass, wp_mBreak, wp_mCont, nxt, wp_mSeq, wp_mIf, wp_mRet, wp_mExpr, wp_mAsg, wp_mAsgT, wp_mPar, wp_mPut, wp_mApp, wp_mSl, wp_mPartN, wp_mPartS, wp_mRev2, wp_mMt, wp_mCall, wpC_val, wpC_own, wp_mCallR, wp_mItV, wp_mItF, wp_mRng1, wp_mFor, wp_mComp, sm_some, sm_none, sm_ite, sm_map, look_val, look_own, look_bx, looks_nil, looks_cons, toV_val, toV_own, toVs_nil, toVs_cons, List.getElem?_cons_zero, List.getElem?_cons_succ, List.set_cons_zero, List.set_cons_succ, List.map_cons, List.map_nil, List.cons_append, List.nil_append, List.replicate_succ, List.replicate_zero, List.append_nil, truD_bl, items_str, items_tup, items_lst, fLen_tup, fLen_lst, bIx_tup, bIx_lst, tyD_str, tyD_int, tyD_bl, tyD_tup, tyD_lst, isTD_eq, isTn, fin_val, back_val, back_nil, back_pbx, Option.map_some, bxD_box, bxD_pbx, fin_own, if_true, if_false, Bool.false_eq_true]
  exact k nm rows d2 hbk (hp2.up (by omega))
theorem lap_form {ns : List Int} {n : Int} {d : D} {x0 x2 x4 x5 x6 : SV} {nm : List Str} {rows : List D} {Kt : Fl → List SV → Prop} (hp : Pn ns n d) (hn : n < 2 ^ 21) (hl : nm.length ≤ 5)
    (k : ∀ (fs : List (Str × Int)) (ps : List (Str × D)) (d2 : D), FmOk nm fs → PtOk nm ps → Pn ns (n + 40) d2 → Kt .nx [x0, .box d2, x2, .val (bkD nm rows), x4, .val (.tup (fs.map prI)), .val (.tup (ps.map ptD))]) :
    wp (mPar [5, 6] [false, false] (mCons (mCallR K04.F__law_form 0 (mCons (mVar 1) (mCons (op2 bIx (mVar 3) (mC (.int 0))) mNil))) (mCons (mCallR K04.F__law_point 0 (mCons (mVar 1) (mCons (op2 bIx (mVar 3) (mC (.int 0))) mNil))) mNil))) Kt [x0, .box d, x2, .val (bkD nm rows), x4, x5, x6] := by
  have e0 : bIx (bkD nm rows) (.int 0) = some (.val (.tup (nm.map .str))) := rfl
  simp only [e0, wp_bnd, wp_rt, wp_mC, wp_mVar, wp_mNil, wp_mCons, wp_op1, wp_op2, wp_mTst, wp_mTru, wp_mAnd, wp_mOr, wp_mNot, wp_mBl, wp_mAndV, wp_mOrV, wp_mNotV, wp_mIte, wp_lk2, wp_mChain, wp_mTup, wp_mLst, wp_mB, wp_mDk, wp_mYes, wp_mPass, wp_mBreak, wp_mCont, nxt, wp_mSeq, wp_mIf, wp_mRet, wp_mExpr, wp_mAsg, wp_mAsgT, wp_mPar, wp_mPut, wp_mApp, wp_mSl, wp_mPartN, wp_mPartS, wp_mRev2, wp_mMt, wp_mCall, wpC_val, wpC_own, wp_mCallR, wp_mItV, wp_mItF, wp_mRng1, wp_mFor, wp_mComp, sm_some, sm_none, sm_ite, sm_map, look_val, look_own, look_bx, looks_nil, looks_cons, toV_val, toV_own, toVs_nil, toVs_cons, List.getElem?_cons_zero, List.getElem?_cons_succ, List.set_cons_zero, List.set_cons_succ, List.map_cons, List.map_nil, List.cons_append, List.nil_append, List.replicate_succ, List.replicate_zero, List.append_nil, truD_bl, items_str, items_tup, items_lst, fLen_tup, fLen_lst, bIx_tup, bIx_lst, tyD_str, tyD_int, tyD_bl, tyD_tup, tyD_lst, isTD_eq, isTn, fin_val, back_val, back_nil, back_pbx, Option.map_some, bxD_box, bxD_pbx, fin_own, if_true, if_false, Bool.false_eq_true]
  refine gv_b (i := 1) (d := d) (xs := [.tup (nm.map .str)]) rfl rfl (q_form ns _ d nm _ (.inr rfl) hp (by omega) (by omega)) ?_
  rintro y d3 ⟨fs, rfl, hfm, hp3⟩
  simp only [e0, wp_bnd, wp_rt, wp_mC, wp_mVar, wp_mNil, wp_mCons, wp_op1, wp_op2, wp_mTst, wp_mTru, wp_mAnd, wp_mOr, wp_mNot, wp_mBl, wp_mAndV, wp_mOrV, wp_mNotV, wp_mIte, wp_lk2, wp_mChain, wp_mTup, wp_mLst, wp_mB, wp_mDk, wp_mYes, wp_mPass, wp_mBreak, wp_mCont, nxt, wp_mSeq, wp_mIf, wp_mRet, wp_mExpr, wp_mAsg, wp_mAsgT, wp_mPar, wp_mPut, wp_mApp, wp_mSl, wp_mPartN, wp_mPartS, wp_mRev2, wp_mMt, wp_mCall, wpC_val, wpC_own, wp_mCallR, wp_mItV, wp_mItF, wp_mRng1, wp_mFor, wp_mComp, sm_some, sm_none, sm_ite, sm_map, look_val, look_own, look_bx, looks_nil, looks_cons, toV_val, toV_own, toVs_nil, toVs_cons, List.getElem?_cons_zero, List.getElem?_cons_succ, List.set_cons_zero, List.set_cons_succ, List.map_cons, List.map_nil, List.cons_append, List.nil_append, List.replicate_succ, List.replicate_zero, List.append_nil, truD_bl, items_str, items_tup, items_lst, fLen_tup, fLen_lst, bIx_tup, bIx_lst, tyD_str, tyD_int, tyD_bl, tyD_tup, tyD_lst, isTD_eq, isTn, fin_val, back_val, back_nil, back_pbx, Option.map_some, bxD_box, bxD_pbx, fin_own, if_true, if_false, Bool.false_eq_true]
  refine gv_b (i := 1) (d := d3) (xs := [.tup (nm.map .str)]) rfl rfl (q_point ns _ d3 nm hp3 (by omega) (by omega)) ?_
  rintro y d4 ⟨ps, rfl, hpt, hp4⟩
  simp only [wp_bnd, wp_rt, wp_mC, wp_mVar, wp_mNil, wp_mCons, wp_op1, wp_op2, wp_mTst, wp_mTru, wp_mAnd, wp_mOr, wp_mNot, wp_mBl, wp_mAndV, wp_mOrV, wp_mNotV, wp_mIte, wp_lk2, wp_mChain, wp_mTup, wp_mLst, wp_mB, wp_mDk, wp_mYes, wp_mPass, wp_mBreak, wp_mCont, nxt, wp_mSeq, wp_mIf, wp_mRet, wp_mExpr, wp_mAsg, wp_mAsgT, wp_mPar, wp_mPut, wp_mApp, wp_mSl, wp_mPartN, wp_mPartS, wp_mRev2, wp_mMt, wp_mCall, wpC_val, wpC_own, wp_mCallR, wp_mItV, wp_mItF, wp_mRng1, wp_mFor, wp_mComp, sm_some, sm_none, sm_ite, sm_map, look_val, look_own, look_bx, looks_nil, looks_cons, toV_val, toV_own, toVs_nil, toVs_cons, List.getElem?_cons_zero, List.getElem?_cons_succ, List.set_cons_zero, List.set_cons_succ, List.map_cons, List.map_nil, List.cons_append, List.nil_append, List.replicate_succ, List.replicate_zero, List.append_nil, truD_bl, items_str, items_tup, items_lst, fLen_tup, fLen_lst, bIx_tup, bIx_lst, tyD_str, tyD_int, tyD_bl, tyD_tup, tyD_lst, isTD_eq, isTn, fin_val, back_val, back_nil, back_pbx, Option.map_some, bxD_box, bxD_pbx, fin_own, if_true, if_false, Bool.false_eq_true]
  exact k fs ps d4 hfm hpt (hp4.up (by omega))
theorem isN (b : Bool) : isD true (.bl b) (.bl false) = some (.val (.bl b)) := by cases b <;> rfl
theorem law_plain (ns : List Int) : ∃ r, K04.F_law [.val (.scr ns)] = .ok (.val (.bl true)) r := by
  have key : ∃ a l, K04.F_law [.val (.scr ns)] = .ok a l ∧ a = .val (.bl true) := by
    refine wp_defF ?_
    unfold K04.m_law
    obtain ⟨d0, l0, e0, hp0⟩ := q_pen ns
    refine wp_sq ?_
    generalize hk : nxt _ _ = Kt
    simp only [e0, wp_bnd, wp_rt, wp_mC, wp_mVar, wp_mNil, wp_mCons, wp_op1, wp_op2, wp_mTst, wp_mTru, wp_mAnd, wp_mOr, wp_mNot, wp_mBl, wp_mAndV, wp_mOrV, wp_mNotV, wp_mIte, wp_lk2, wp_mChain, wp_mTup, wp_mLst, wp_mB, wp_mDk, wp_mYes, wp_mPass, wp_mBreak, wp_mCont, nxt, wp_mSeq, wp_mIf, wp_mRet, wp_mExpr, wp_mAsg, wp_mAsgT, wp_mPar, wp_mPut, wp_mApp, wp_mSl, wp_mPartN, wp_mPartS, wp_mRev2, wp_mMt, wp_mCall, wpC_val, wpC_own, wp_mCallR, wp_mItV, wp_mItF, wp_mRng1, wp_mFor, wp_mComp, sm_some, sm_none, sm_ite, sm_map, look_val, look_own, look_bx, looks_nil, looks_cons, toV_val, toV_own, toVs_nil, toVs_cons, List.getElem?_cons_zero, List.getElem?_cons_succ, List.set_cons_zero, List.set_cons_succ, List.map_cons, List.map_nil, List.cons_append, List.nil_append, List.replicate_succ, List.replicate_zero, List.append_nil, truD_bl, items_str, items_tup, items_lst, fLen_tup, fLen_lst, bIx_tup, bIx_lst, tyD_str, tyD_int, tyD_bl, tyD_tup, tyD_lst, isTD_eq, isTn, fin_val, back_val, back_nil, back_pbx, Option.map_some, bxD_box, bxD_pbx, fin_own, if_true, if_false, Bool.false_eq_true]
    subst hk
    show wp _ _ _
    refine wp_sq ?_
    refine wp_mono (P := fun (fl : Fl) (r : List SV) => fl = Fl.nx ∧ ∃ (d : D) (x2 x3 x4 x5 x6 : SV), r = [.val (.scr ns), .box d, x2, x3, x4, x5, x6]) ?_ ?_
    · rw [wp_mFor]
      simp only [wp_mRng1, wp_mC, look_val, sm_some]
      refine ⟨by decide, ?_⟩
      refine wp_loop (fun ds r => ∃ (d : D) (x2 x3 x4 x5 x6 : SV), r = [.val (.scr ns), .box d, x2, x3, x4, x5, x6] ∧ Pn ns (1000 * (4 - (ds.length : Int))) d) ⟨d0, .un, .un, .un, .un, .un, rfl, hp0.up (by rw [show (rng 0 4).length = 4 from rfl]; omega)⟩ ?_ ?_
      · rintro lap ds r ⟨d, x2, x3, x4, x5, x6, rfl, hp⟩
        rw [List.length_cons] at hp
        generalize hn : (1000 * (4 - ((ds.length + 1 : Nat) : Int))) = n at hp
        have hn2 : n < 2 ^ 20 := by omega
        have hn3 : 1000 * (4 - (ds.length : Int)) = n + 1000 := by omega
        rw [hn3]
        clear hn hn3
        simp only [tgN, sm_some, List.length_cons, List.length_nil, List.set_cons_zero, List.set_cons_succ]
        refine wp_sq ?_
        refine lap_book hp hn2 fun nm rows d2 hbk hp2 => ?_
        have hnf := hbk.few
        have hfb : J.fit (bkD nm rows) = true := hbk.fit
        have hjb := hbk.book
        show wp (mSeq _ _) _ _
        refine wp_sq ?_
        refine lap_form hp2 (by omega) hnf fun fs ps d4 hfm hpt hp4 => ?_
        show wp (mSeq _ _) _ _
        have hpg := (hpt.gl hbk.nms hnf).tup (by omega)
        have hfp := hpg.fit
        have hff := fm_fit hfm hbk.nms
        have a1 : K04.F_is_book [.val (bkD nm rows)] = .ok (.val (.bl true)) [.val (bkD nm rows)] := by rw [q_is_book hfb, hjb]
        have a2 : K04.F_is_form [.val (.tup (fs.map prI))] = .ok (.val (.bl true)) [.val (.tup (fs.map prI))] := by rw [q_is_form hff, fm_form hfm hbk.nms]
        have a3 : K04.F_is_form [.val (.tup [])] = .ok (.val (.bl true)) [.val (.tup [])] := q_is_form rfl
        have a4 : K04.F_is_point [.val (bkD nm rows), .val (.tup (ps.map ptD))] = .ok (.val (.bl true)) [.val (bkD nm rows), .val (.tup (ps.map ptD))] := by rw [q_is_point hfb hjb hfp, hpt.point hbk.nms hbk.ris]
        have a5 : bMul (.lst [.bl true]) (.int 4) = some (.own (.lst [.bl true, .bl true, .bl true, .bl true])) := rfl
        have a6 : bNe (.lst [.bl true, .bl true, .bl true, .bl true]) (.lst [.bl true, .bl true, .bl true, .bl true]) = some (.val (.bl false)) := rfl
        refine wp_sq ?_
        generalize hk : nxt _ _ = Kt
        simp only [a1, a2, a3, a4, a5, a6, wp_bnd, wp_rt, wp_mC, wp_mVar, wp_mNil, wp_mCons, wp_op1, wp_op2, wp_mTst, wp_mTru, wp_mAnd, wp_mOr, wp_mNot, wp_mBl, wp_mAndV, wp_mOrV, wp_mNotV, wp_mIte, wp_lk2, wp_mChain, wp_mTup, wp_mLst, wp_mB, wp_mDk, wp_mYes, wp_mPass, wp_mBreak, wp_mCont, nxt, wp_mSeq, wp_mIf, wp_mRet, wp_mExpr, wp_mAsg, wp_mAsgT, wp_mPar, wp_mPut, wp_mApp, wp_mSl, wp_mPartN, wp_mPartS, wp_mRev2, wp_mMt, wp_mCall, wpC_val, wpC_own, wp_mCallR, wp_mItV, wp_mItF, wp_mRng1, wp_mFor, wp_mComp, sm_some, sm_none, sm_ite, sm_map, look_val, look_own, look_bx, looks_nil, looks_cons, toV_val, toV_own, toVs_nil, toVs_cons, List.getElem?_cons_zero, List.getElem?_cons_succ, List.set_cons_zero, List.set_cons_succ, List.map_cons, List.map_nil, List.cons_append, List.nil_append, List.replicate_succ, List.replicate_zero, List.append_nil, truD_bl, items_str, items_tup, items_lst, fLen_tup, fLen_lst, bIx_tup, bIx_lst, tyD_str, tyD_int, tyD_bl, tyD_tup, tyD_lst, isTD_eq, isTn, fin_val, back_val, back_nil, back_pbx, Option.map_some, bxD_box, bxD_pbx, fin_own, if_true, if_false, Bool.false_eq_true]
        subst hk
        show wp (mSeq _ _) _ _
        obtain ⟨l1, of1⟩ := q_odd_forms (xs := fs.map prI) (by rw [List.length_map]; have := hfm.few; omega)
        refine wp_sq ?_
        refine wp_mono (P := fun (fl : Fl) (r : List SV) => fl = Fl.nx ∧ ∃ x4 : SV, r = [.val (.scr ns), .box d4, .val lap, .val (bkD nm rows), x4, .val (.tup (fs.map prI)), .val (.tup (ps.map ptD))]) ?_ ?_
        · simp only [of1, wp_bnd, wp_rt, wp_mC, wp_mVar, wp_mNil, wp_mCons, wp_op1, wp_op2, wp_mTst, wp_mTru, wp_mAnd, wp_mOr, wp_mNot, wp_mBl, wp_mAndV, wp_mOrV, wp_mNotV, wp_mIte, wp_lk2, wp_mChain, wp_mTup, wp_mLst, wp_mB, wp_mDk, wp_mYes, wp_mPass, wp_mBreak, wp_mCont, nxt, wp_mSeq, wp_mIf, wp_mRet, wp_mExpr, wp_mAsg, wp_mAsgT, wp_mPar, wp_mPut, wp_mApp, wp_mSl, wp_mPartN, wp_mPartS, wp_mRev2, wp_mMt, wp_mCall, wpC_val, wpC_own, wp_mCallR, wp_mItV, wp_mItF, wp_mRng1, wp_mFor, wp_mComp, sm_some, sm_none, sm_ite, sm_map, look_val, look_own, look_bx, looks_nil, looks_cons, toV_val, toV_own, toVs_nil, toVs_cons, List.getElem?_cons_zero, List.getElem?_cons_succ, List.set_cons_zero, List.set_cons_succ, List.map_cons, List.map_nil, List.cons_append, List.nil_append, List.replicate_succ, List.replicate_zero, List.append_nil, truD_bl, items_str, items_tup, items_lst, fLen_tup, fLen_lst, bIx_tup, bIx_lst, tyD_str, tyD_int, tyD_bl, tyD_tup, tyD_lst, isTD_eq, isTn, fin_val, back_val, back_nil, back_pbx, Option.map_some, bxD_box, bxD_pbx, fin_own, if_true, if_false, Bool.false_eq_true]
          refine wp_loop (fun ds r => (∃ x4 : SV, r = [.val (.scr ns), .box d4, .val lap, .val (bkD nm rows), x4, .val (.tup (fs.map prI)), .val (.tup (ps.map ptD))]) ∧ ∀ v ∈ ds, J.fit v = true ∧ jForm v = false) ⟨⟨_, rfl⟩, odd_forms_bad hfm hbk.nms⟩ ?_ ?_
          · rintro v ds r ⟨⟨x4, rfl⟩, hv⟩
            obtain ⟨v1, v2⟩ := hv v (List.mem_cons_self ..)
            have e1 : K04.F_is_form [.val v] = .ok (.val (.bl false)) [.val v] := by rw [q_is_form v1, v2]
            simp only [tgN, e1, isN, wp_bnd, wp_rt, wp_mC, wp_mVar, wp_mNil, wp_mCons, wp_op1, wp_op2, wp_mTst, wp_mTru, wp_mAnd, wp_mOr, wp_mNot, wp_mBl, wp_mAndV, wp_mOrV, wp_mNotV, wp_mIte, wp_lk2, wp_mChain, wp_mTup, wp_mLst, wp_mB, wp_mDk, wp_mYes, wp_mPass, wp_mBreak, wp_mCont, nxt, wp_mSeq, wp_mIf, wp_mRet, wp_mExpr, wp_mAsg, wp_mAsgT, wp_mPar, wp_mPut, wp_mApp, wp_mSl, wp_mPartN, wp_mPartS, wp_mRev2, wp_mMt, wp_mCall, wpC_val, wpC_own, wp_mCallR, wp_mItV, wp_mItF, wp_mRng1, wp_mFor, wp_mComp, sm_some, sm_none, sm_ite, sm_map, look_val, look_own, look_bx, looks_nil, looks_cons, toV_val, toV_own, toVs_nil, toVs_cons, List.getElem?_cons_zero, List.getElem?_cons_succ, List.set_cons_zero, List.set_cons_succ, List.map_cons, List.map_nil, List.cons_append, List.nil_append, List.replicate_succ, List.replicate_zero, List.append_nil, truD_bl, items_str, items_tup, items_lst, fLen_tup, fLen_lst, bIx_tup, bIx_lst, tyD_str, tyD_int, tyD_bl, tyD_tup, tyD_lst, isTD_eq, isTn, fin_val, back_val, back_nil, back_pbx, Option.map_some, bxD_box, bxD_pbx, fin_own, if_true, if_false, Bool.false_eq_true]
            exact ⟨⟨_, rfl⟩, fun v hm => hv v (List.mem_cons_of_mem _ hm)⟩
          · rintro r ⟨⟨x4, rfl⟩, hv⟩
            exact ⟨rfl, _, rfl⟩
        rintro fl r ⟨rfl, x4, rfl⟩
        show wp (mSeq _ _) _ _
        obtain ⟨l2, of2⟩ := q_odd_books hbk
        refine wp_sq ?_
        refine wp_mono (P := fun (fl : Fl) (r : List SV) => fl = Fl.nx ∧ ∃ x4 : SV, r = [.val (.scr ns), .box d4, .val lap, .val (bkD nm rows), x4, .val (.tup (fs.map prI)), .val (.tup (ps.map ptD))]) ?_ ?_
        · simp only [of2, wp_bnd, wp_rt, wp_mC, wp_mVar, wp_mNil, wp_mCons, wp_op1, wp_op2, wp_mTst, wp_mTru, wp_mAnd, wp_mOr, wp_mNot, wp_mBl, wp_mAndV, wp_mOrV, wp_mNotV, wp_mIte, wp_lk2, wp_mChain, wp_mTup, wp_mLst, wp_mB, wp_mDk, wp_mYes, wp_mPass, wp_mBreak, wp_mCont, nxt, wp_mSeq, wp_mIf, wp_mRet, wp_mExpr, wp_mAsg, wp_mAsgT, wp_mPar, wp_mPut, wp_mApp, wp_mSl, wp_mPartN, wp_mPartS, wp_mRev2, wp_mMt, wp_mCall, wpC_val, wpC_own, wp_mCallR, wp_mItV, wp_mItF, wp_mRng1, wp_mFor, wp_mComp, sm_some, sm_none, sm_ite, sm_map, look_val, look_own, look_bx, looks_nil, looks_cons, toV_val, toV_own, toVs_nil, toVs_cons, List.getElem?_cons_zero, List.getElem?_cons_succ, List.set_cons_zero, List.set_cons_succ, List.map_cons, List.map_nil, List.cons_append, List.nil_append, List.replicate_succ, List.replicate_zero, List.append_nil, truD_bl, items_str, items_tup, items_lst, fLen_tup, fLen_lst, bIx_tup, bIx_lst, tyD_str, tyD_int, tyD_bl, tyD_tup, tyD_lst, isTD_eq, isTn, fin_val, back_val, back_nil, back_pbx, Option.map_some, bxD_box, bxD_pbx, fin_own, if_true, if_false, Bool.false_eq_true]
          refine wp_loop (fun ds r => (∃ x4 : SV, r = [.val (.scr ns), .box d4, .val lap, .val (bkD nm rows), x4, .val (.tup (fs.map prI)), .val (.tup (ps.map ptD))]) ∧ ∀ v ∈ ds, J.fit v = true ∧ jBook v = false ∧ RepOk v) ⟨⟨_, rfl⟩, hbk.odd⟩ ?_ ?_
          · rintro v ds r ⟨⟨x4, rfl⟩, hv⟩
            obtain ⟨v1, v2, t, v3, v4⟩ := hv v (List.mem_cons_self ..)
            have e1 : K04.F_is_book [.val v] = .ok (.val (.bl false)) [.val v] := by rw [q_is_book v1, v2]
            have e2 : K04.F_is_point [.val v, .val .none] = .exc "BadBook" [("book", v)] [.val v, .val .none] := q_is_point_no v1 v2
            obtain ⟨l3, e3⟩ := q_refused v3
            have e4 : mCall K04.F_is_point (mCons (mVar 4) (mCons (mC .none) mNil)) [.val (.scr ns), .box d4, .val lap, .val (bkD nm rows), .val v, .val (.tup (fs.map prI)), .val (.tup (ps.map ptD))] = .exc "BadBook" [("book", v)] [.val (.scr ns), .box d4, .val lap, .val (bkD nm rows), .val v, .val (.tup (fs.map prI)), .val (.tup (ps.map ptD))] := callV_exc (evs := [.val v, .val .none]) (ds := [v, .none]) rfl rfl e2
            simp only [tgN, e1, isN, wp_bnd, wp_rt, wp_mC, wp_mVar, wp_mNil, wp_mCons, wp_op1, wp_op2, wp_mTst, wp_mTru, wp_mAnd, wp_mOr, wp_mNot, wp_mBl, wp_mAndV, wp_mOrV, wp_mNotV, wp_mIte, wp_lk2, wp_mChain, wp_mTup, wp_mLst, wp_mB, wp_mDk, wp_mYes, wp_mPass, wp_mBreak, wp_mCont, nxt, wp_mSeq, wp_mIf, wp_mRet, wp_mExpr, wp_mAsg, wp_mAsgT, wp_mPar, wp_mPut, wp_mApp, wp_mSl, wp_mPartN, wp_mPartS, wp_mRev2, wp_mMt, wp_mCall, wpC_val, wpC_own, wp_mCallR, wp_mItV, wp_mItF, wp_mRng1, wp_mFor, wp_mComp, sm_some, sm_none, sm_ite, sm_map, look_val, look_own, look_bx, looks_nil, looks_cons, toV_val, toV_own, toVs_nil, toVs_cons, List.getElem?_cons_zero, List.getElem?_cons_succ, List.set_cons_zero, List.set_cons_succ, List.map_cons, List.map_nil, List.cons_append, List.nil_append, List.replicate_succ, List.replicate_zero, List.append_nil, truD_bl, items_str, items_tup, items_lst, fLen_tup, fLen_lst, bIx_tup, bIx_lst, tyD_str, tyD_int, tyD_bl, tyD_tup, tyD_lst, isTD_eq, isTn, fin_val, back_val, back_nil, back_pbx, Option.map_some, bxD_box, bxD_pbx, fin_own, if_true, if_false, Bool.false_eq_true]
            refine wp_lam e4 e3 ?_
            simp only [v3, ne_pair v4, wp_bnd, wp_rt, wp_mC, wp_mVar, wp_mNil, wp_mCons, wp_op1, wp_op2, wp_mTst, wp_mTru, wp_mAnd, wp_mOr, wp_mNot, wp_mBl, wp_mAndV, wp_mOrV, wp_mNotV, wp_mIte, wp_lk2, wp_mChain, wp_mTup, wp_mLst, wp_mB, wp_mDk, wp_mYes, wp_mPass, wp_mBreak, wp_mCont, nxt, wp_mSeq, wp_mIf, wp_mRet, wp_mExpr, wp_mAsg, wp_mAsgT, wp_mPar, wp_mPut, wp_mApp, wp_mSl, wp_mPartN, wp_mPartS, wp_mRev2, wp_mMt, wp_mCall, wpC_val, wpC_own, wp_mCallR, wp_mItV, wp_mItF, wp_mRng1, wp_mFor, wp_mComp, sm_some, sm_none, sm_ite, sm_map, look_val, look_own, look_bx, looks_nil, looks_cons, toV_val, toV_own, toVs_nil, toVs_cons, List.getElem?_cons_zero, List.getElem?_cons_succ, List.set_cons_zero, List.set_cons_succ, List.map_cons, List.map_nil, List.cons_append, List.nil_append, List.replicate_succ, List.replicate_zero, List.append_nil, truD_bl, items_str, items_tup, items_lst, fLen_tup, fLen_lst, bIx_tup, bIx_lst, tyD_str, tyD_int, tyD_bl, tyD_tup, tyD_lst, isTD_eq, isTn, fin_val, back_val, back_nil, back_pbx, Option.map_some, bxD_box, bxD_pbx, fin_own, if_true, if_false, Bool.false_eq_true]
            exact ⟨⟨_, rfl⟩, fun v hm => hv v (List.mem_cons_of_mem _ hm)⟩
          · rintro r ⟨⟨x4, rfl⟩, hv⟩
            exact ⟨rfl, _, rfl⟩
        rintro fl r ⟨rfl, x4, rfl⟩
        show wp (mFor _ _ _) _ _
        obtain ⟨a, l3, of3, vs, rfl, hvl, hvs⟩ := q_odd_points hpt hbk.nms hnf hbk.ris
        simp only [of3, wp_bnd, wp_rt, wp_mC, wp_mVar, wp_mNil, wp_mCons, wp_op1, wp_op2, wp_mTst, wp_mTru, wp_mAnd, wp_mOr, wp_mNot, wp_mBl, wp_mAndV, wp_mOrV, wp_mNotV, wp_mIte, wp_lk2, wp_mChain, wp_mTup, wp_mLst, wp_mB, wp_mDk, wp_mYes, wp_mPass, wp_mBreak, wp_mCont, nxt, wp_mSeq, wp_mIf, wp_mRet, wp_mExpr, wp_mAsg, wp_mAsgT, wp_mPar, wp_mPut, wp_mApp, wp_mSl, wp_mPartN, wp_mPartS, wp_mRev2, wp_mMt, wp_mCall, wpC_val, wpC_own, wp_mCallR, wp_mItV, wp_mItF, wp_mRng1, wp_mFor, wp_mComp, sm_some, sm_none, sm_ite, sm_map, look_val, look_own, look_bx, looks_nil, looks_cons, toV_val, toV_own, toVs_nil, toVs_cons, List.getElem?_cons_zero, List.getElem?_cons_succ, List.set_cons_zero, List.set_cons_succ, List.map_cons, List.map_nil, List.cons_append, List.nil_append, List.replicate_succ, List.replicate_zero, List.append_nil, truD_bl, items_str, items_tup, items_lst, fLen_tup, fLen_lst, bIx_tup, bIx_lst, tyD_str, tyD_int, tyD_bl, tyD_tup, tyD_lst, isTD_eq, isTn, fin_val, back_val, back_nil, back_pbx, Option.map_some, bxD_box, bxD_pbx, fin_own, if_true, if_false, Bool.false_eq_true]
        refine wp_loop (fun ds r => (∃ x4 : SV, r = [.val (.scr ns), .box d4, .val lap, .val (bkD nm rows), x4, .val (.tup (fs.map prI)), .val (.tup (ps.map ptD))]) ∧ ∀ v ∈ ds, J.fit v = true ∧ jPoint nm v = false) ⟨⟨_, rfl⟩, hvs⟩ ?_ ?_
        · rintro v ds r ⟨⟨x4, rfl⟩, hv⟩
          obtain ⟨v1, v2⟩ := hv v (List.mem_cons_self ..)
          have e1 : K04.F_is_point [.val (bkD nm rows), .val v] = .ok (.val (.bl false)) [.val (bkD nm rows), .val v] := by rw [q_is_point hfb hjb v1, v2]
          simp only [tgN, e1, isN, wp_bnd, wp_rt, wp_mC, wp_mVar, wp_mNil, wp_mCons, wp_op1, wp_op2, wp_mTst, wp_mTru, wp_mAnd, wp_mOr, wp_mNot, wp_mBl, wp_mAndV, wp_mOrV, wp_mNotV, wp_mIte, wp_lk2, wp_mChain, wp_mTup, wp_mLst, wp_mB, wp_mDk, wp_mYes, wp_mPass, wp_mBreak, wp_mCont, nxt, wp_mSeq, wp_mIf, wp_mRet, wp_mExpr, wp_mAsg, wp_mAsgT, wp_mPar, wp_mPut, wp_mApp, wp_mSl, wp_mPartN, wp_mPartS, wp_mRev2, wp_mMt, wp_mCall, wpC_val, wpC_own, wp_mCallR, wp_mItV, wp_mItF, wp_mRng1, wp_mFor, wp_mComp, sm_some, sm_none, sm_ite, sm_map, look_val, look_own, look_bx, looks_nil, looks_cons, toV_val, toV_own, toVs_nil, toVs_cons, List.getElem?_cons_zero, List.getElem?_cons_succ, List.set_cons_zero, List.set_cons_succ, List.map_cons, List.map_nil, List.cons_append, List.nil_append, List.replicate_succ, List.replicate_zero, List.append_nil, truD_bl, items_str, items_tup, items_lst, fLen_tup, fLen_lst, bIx_tup, bIx_lst, tyD_str, tyD_int, tyD_bl, tyD_tup, tyD_lst, isTD_eq, isTn, fin_val, back_val, back_nil, back_pbx, Option.map_some, bxD_box, bxD_pbx, fin_own, if_true, if_false, Bool.false_eq_true]
          exact ⟨⟨_, rfl⟩, fun v hm => hv v (List.mem_cons_of_mem _ hm)⟩
        · rintro r ⟨⟨x4, rfl⟩, hv⟩
          exact ⟨d4, _, _, _, _, _, rfl, hp4.up (by omega)⟩
      · rintro r ⟨d, x2, x3, x4, x5, x6, rfl, _⟩
        exact ⟨rfl, d, x2, x3, x4, x5, x6, rfl⟩
    · rintro fl r ⟨rfl, d, x2, x3, x4, x5, x6, rfl⟩
      unfold nxt
      dsimp only
      have a1 : K04.F_is_book [.val (.tup [.tup [], .tup []])] = .ok (.val (.bl true)) [.val (.tup [.tup [], .tup []])] := q_is_book rfl
      have a2 : K04.F_is_point [.val (.tup [.tup [], .tup []]), .val (.tup [])] = .ok (.val (.bl true)) [.val (.tup [.tup [], .tup []]), .val (.tup [])] := q_is_point (ns := []) (rows := []) rfl rfl rfl
      have a3 : isD false (.bl true) (.bl true) = some (.val (.bl true)) := rfl
      simp only [a1, a2, a3, wp_bnd, wp_rt, wp_mC, wp_mVar, wp_mNil, wp_mCons, wp_op1, wp_op2, wp_mTst, wp_mTru, wp_mAnd, wp_mOr, wp_mNot, wp_mBl, wp_mAndV, wp_mOrV, wp_mNotV, wp_mIte, wp_lk2, wp_mChain, wp_mTup, wp_mLst, wp_mB, wp_mDk, wp_mYes, wp_mPass, wp_mBreak, wp_mCont, nxt, wp_mSeq, wp_mIf, wp_mRet, wp_mExpr, wp_mAsg, wp_mAsgT, wp_mPar, wp_mPut, wp_mApp, wp_mSl, wp_mPartN, wp_mPartS, wp_mRev2, wp_mMt, wp_mCall, wpC_val, wpC_own, wp_mCallR, wp_mItV, wp_mItF, wp_mRng1, wp_mFor, wp_mComp, sm_some, sm_none, sm_ite, sm_map, look_val, look_own, look_bx, looks_nil, looks_cons, toV_val, toV_own, toVs_nil, toVs_cons, List.getElem?_cons_zero, List.getElem?_cons_succ, List.set_cons_zero, List.set_cons_succ, List.map_cons, List.map_nil, List.cons_append, List.nil_append, List.replicate_succ, List.replicate_zero, List.append_nil, truD_bl, items_str, items_tup, items_lst, fLen_tup, fLen_lst, bIx_tup, bIx_lst, tyD_str, tyD_int, tyD_bl, tyD_tup, tyD_lst, isTD_eq, isTn, fin_val, back_val, back_nil, back_pbx, Option.map_some, bxD_box, bxD_pbx, fin_own, if_true, if_false, Bool.false_eq_true]
  obtain ⟨a, l, e, rfl⟩ := key
  exact ⟨l, e⟩
end K04
end
section
set_option maxRecDepth 100000
set_option maxHeartbeats 0
open PySem PySem.W PySem.Calls PyProof.Rows
theorem PySem.Challenge.cw_fargreater_k04_books_judged_holds : PySem.Challenge.rw_fargreater_k04_books_judged.Holds := by
  w_on; o_law
  refine HandSHeadRun.head_imp (r := OpenLaw.row PySem.Challenge.rw_fargreater_k04_books_judged) (q := view (OpenLaw.row PySem.Challenge.rw_fargreater_k04_books_judged).prog [0, 43]) (H := K04.hk) (ob := K04.ob) (M := 20000) (loose := K04.loose) (d := HandSHeadRun.topDef (OpenLaw.row PySem.Challenge.rw_fargreater_k04_books_judged).prog 43) (kwd := [])
    K04.ob_eq K04.run (by kernel_rfl) (by kernel_rfl) (by kernel_rfl) (by rfl) (by first | assumption | decide +kernel) (by decide +kernel) ⟨rfl, rfl, rfl, rfl, rfl, by decide +kernel⟩ ?hw ?hc
  case hw => w_witness2
  case hc =>
    refine Mi.walk_ofGE (l := PySem.Challenge.rw_fargreater_k04_books_judged) (n := 63) (k := 11) (x := "script") K04.F_law rfl (by decide) (by kernel_rfl) ⟨rfl, by decide, by decide⟩ ?F (fun ns _ _ => K04.law_plain ns)
    intro w mg fa h Y G hmg0
    obtain ⟨K, KX, c⟩ := Y
    have hmg : mg ("law" : PySem.Str) = some (.ref fa) := by
      have e : (HandSHeadRun.topDef (OpenLaw.row PySem.Challenge.rw_fargreater_k04_books_judged).prog 43).name = ("law" : PySem.Str) := by kernel_rfl
      rw [← e]
      exact hmg0
    obtain ⟨fd, hb, hF⟩ := K04.facts (P := (PySem.Challenge.rw_fargreater_k04_books_judged).prog) (w := w) KX G hmg c
    refine ⟨K, KX, fd, K04.tf.map (He.cT K), fun _ => ("law" ++ (".<locals>." : PySem.Str)) ++ ("<lambda>" : PySem.Str), ?_, ?_, ?_, hb, fun base X2 G2 hT => ?_⟩
    · intro p hp
      obtain ⟨t, ht, rfl⟩ := List.mem_map.mp hp
      exact c.empty t ht
    · intro p hp
      obtain ⟨t, ht, rfl⟩ := List.mem_map.mp hp
      exact c.out t ht
    · intro p hp
      obtain ⟨t, ht, rfl⟩ := List.mem_map.mp hp
      exact PySem.W.codeHd_of_K KX (c.hd t ht)
    · exact hF base X2 G2 fun t ht => hT _ (List.mem_map.mpr ⟨t, ht, rfl⟩)
end
