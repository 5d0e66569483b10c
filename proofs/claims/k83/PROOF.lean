import PyProof.Rows.All
import Wide.All
import OpenK.AllK
import Wide.FinOn
import HandS.ForMost
import HandS.Exc
import HandS.Nested
import HandS.Comp
import HandS.ExcOwn
import HandS.CallSlots
import HandS.WordsExc
import HandS.Property
import HandS.TupAny
import HandS.TupMul
import HandS.TupLe
import HandS.Text
import HandS.Zip
import HandS.Iter
import HandS.IsInst
import HandS.List
import HandS.WordsDict
import HandS.TupLen
import HandS.Small
import HandS.Style
import HandS.FStr
import HandS.Strs
import HandS.SortRule
import HandS.Conv
import HandS.More
import HandS.OwnEq
import HandS.Lambda
import HandS.EndTab
import HandS.HeadWalk
import HandS.HeadHook4
import HandS.HeadNt
import HandS.Head2
import HandS.HeadEnd
import Wide.Once
import PySem.Challenge.RW_rainbowways_k83_whole_texts_of_webs
set_option Elab.async false
set_option linter.all false
section
set_option Elab.async false
set_option linter.all false
set_option maxRecDepth 100000
namespace DL
open PySem PySem.Spec L2

/-- data, as a Python value that is not changed any more -/
inductive D where
  | non | bl (b : Bool) | int (i : Int) | str (x : Str) | ty (n : String) | loc (l : Nat)
  | tup (ds : List D) | lst (ds : List D) | ktup (ds : List D) | klst (ds : List D)
  | dic (ks : List Key) (vs : List D) | dicT (ks : List (List Key)) (vs : List D)
  | obj (c : Nat) (fs : List Str) (vs : List D)
  | fn (i : Nat) (vs : List D)

/-- a lambda of the text: its words -/
structure Lam where
  name : Str
  qual : Str
  params : Arguments
  body : Expr
  scope : Scope
  fr : List Str

/-- what is fixed while a body runs -/
structure Wd where
  K : PySem.W.Frag
  cls : Nat → Addr
  ecls : Nat → Value
  T : List NdefX.NTab
  lam : Nat → Option Lam
  Z : Addr → Option V

/-- the function object of a lambda: its captured cells cl, its code object c -/
def LamO (f : Addr) (L : Lam) (cl : List (Str × Addr)) (c : Addr) : HO := .ext fun h => ∃ (od : Option Addr) (sl : Array (Option Value)) (pm ctv : Value), h.get? f = some (⟨.type "function", od, .func (PySem.W.kla_fn L.name L.qual L.params L.body L.scope cl pm (.ref c) ctv), sl⟩ : Obj)
/-- its captured cells, known by Z to hold ws -/
structure CapD (Z : Addr → Option V) (L : Lam) (cl : List (Str × Addr)) (ws : List V) : Prop where
  at_ : L.fr.map (fun y => (cl.lookup y).bind Z) = ws.map some
  only : ∀ y c, cl.lookup y = some c → y ∈ L.fr
  inj : ∀ x y c, cl.lookup x = some c → cl.lookup y = some c → x = y
mutual
def Rep (W : Wd) (A : Addr → Prop) (μ : List Addr) (H : Hp) : D → V → Prop
  | .non, v => v = .non
  | .bl b, v => v = .bl b
  | .int i, v => v = .int i
  | .str x, v => v = .str x
  | .ty n, v => v = .ty n
  | .loc l, v => ∃ a, μ[l]? = some a ∧ v = .ref a
  | .tup ds, v => ∃ a xs, v = .ref a ∧ (¬ A a ∧ H a = some (.tup xs)) ∧ ds.length ≤ sizeLine ∧ Reps W A μ H ds xs
  | .ktup ds, v => ∃ a xs, v = .ref a ∧ SqT W.K (fun _ => none) a xs ∧ ds.length ≤ sizeLine ∧ Reps W A μ H ds xs
  | .klst ds, v => ∃ a xs, v = .ref a ∧ ((¬ A a ∧ Rd H a (.lst xs)) ∨ SqL W.K (fun _ => none) a xs) ∧ ds.length ≤ sizeLine ∧ Reps W A μ H ds xs
  | .lst ds, v => ∃ a xs, v = .ref a ∧ (¬ A a ∧ Rd H a (.lst xs)) ∧ ds.length ≤ sizeLine ∧ Reps W A μ H ds xs
  | .dic ks vs, v => ∃ a kvs, v = .ref a ∧ (¬ A a ∧ H a = some (.dK kvs)) ∧ kvs.map (·.1) = ks ∧ Reps W A μ H vs (kvs.map (·.2))
  | .dicT ks vs, v => ∃ a kvs, v = .ref a ∧ (¬ A a ∧ H a = some (.dT kvs)) ∧ kvs.map (·.1) = ks ∧ Reps W A μ H vs (kvs.map (·.2))
  | .obj c fs vs, v => ∃ a dx fvs, v = .ref a ∧ (¬ A a ∧ H a = some (.ins (W.cls c) dx fvs)) ∧ fvs.map (·.1) = fs ∧ Reps W A μ H vs (fvs.map (·.2))
  | .fn i vs, v => ∃ f c cl L ws, v = .ref f ∧ W.lam i = some L ∧ ¬ A f ∧ ¬ A c ∧ H f = some (LamO f L cl c) ∧ H c = some (LamX.CodeO c L.qual) ∧ CapD W.Z L cl ws ∧ Reps W A μ H vs ws
def Reps (W : Wd) (A : Addr → Prop) (μ : List Addr) (H : Hp) : List D → List V → Prop
  | [], xs => xs = []
  | d :: ds, xs => ∃ v vs, xs = v :: vs ∧ Rep W A μ H d v ∧ Reps W A μ H ds vs
end
end DL
end
section
set_option Elab.async false
set_option linter.all false
set_option maxRecDepth 100000
namespace DL
open PySem PySem.Spec L2

/-! ### states, results -/
inductive Sl where | no | d (x : D) | own (x : D)
structure Stt where
  sl : List Sl
  ob : List D
inductive Res (α : Type) where
  | ok (a : α) (S : Stt)
  | exn (c : Nat) (p : Option (List Str × List D)) (S : Stt)
  | stuck
abbrev M (α : Type) := Stt → Res α
def M.ret {α : Type} (a : α) : M α := fun S => .ok a S
def M.bnd {α β : Type} (f : M α) (k : α → M β) : M β := fun S => match f S with
  | .ok a S' => k a S'
  | .exn c p S' => .exn c p S'
  | .stuck => .stuck
def M.fail {α : Type} : M α := fun _ => .stuck
instance : Monad M where
  pure := M.ret
  bind := M.bnd
def ofO {α : Type} : Option α → M α
  | some a => M.ret a
  | none => M.fail

/-! ### the addresses that may change, those that data keep off -/
def Ch (μ : List Addr) (O : Nat → Option Addr) (a : Addr) : Prop := a ∈ μ ∨ ∃ i, O i = some a
def Av (A0 : Addr → Prop) (μ : List Addr) (O : Nat → Option Addr) (a : Addr) : Prop := A0 a ∨ Ch μ O a

structure Step (C : Addr → Prop) (μ μ' : List Addr) (H H' : Hp) : Prop where
  ext : ∃ r, μ' = μ ++ r
  new : ∀ a ∈ μ', a ∉ μ → H a = none
  keep : ∀ a o, H a = some o → ¬ C a → (∀ ps, o ≠ .tbl ps) → H' a = some o
  alive : ∀ a, H' a = none → H a = none
theorem Step.refl (C : Addr → Prop) (μ : List Addr) (H : Hp) : Step C μ μ H H := ⟨⟨[], by simp⟩, fun a h n => absurd h n, fun _ _ h _ _ => h, fun _ h => h⟩
theorem Step.trans {C C' : Addr → Prop} {μ μ1 μ2 : List Addr} {H H1 H2 : Hp} (a : Step C μ μ1 H H1) (b : Step C' μ1 μ2 H1 H2) (hc : ∀ x, C' x → C x ∨ H x = none) : Step C μ μ2 H H2 := by
  refine ⟨?_, fun x h n => ?_, fun x o h n t => ?_, fun x h => a.alive x (b.alive x h)⟩
  · obtain ⟨r, e⟩ := a.ext
    obtain ⟨r', e'⟩ := b.ext
    exact ⟨r ++ r', by rw [e', e, List.append_assoc]⟩
  · by_cases h1 : x ∈ μ1
    · exact a.new x h1 n
    · exact a.alive x (b.new x h h1)
  · refine b.keep x o (a.keep x o h n t) (fun z => ?_) t
    rcases hc x z with z | z
    · exact n z
    · rw [z] at h; cases h
theorem Step.ch {μ μ1 μ2 : List Addr} {O : Nat → Option Addr} {H H1 H2 : Hp} (a : Step (Ch μ O) μ μ1 H H1) (b : Step (Ch μ1 O) μ1 μ2 H1 H2) : Step (Ch μ O) μ μ2 H H2 := a.trans b fun x z => by
  rcases z with z | z
  · by_cases h : x ∈ μ
    · exact .inl (.inl h)
    · exact .inr (a.new x z h)
  · exact .inl (.inr z)

/-! ### what a representation leans on -/
structure Le (A A' : Addr → Prop) (μ μ' : List Addr) (H H' : Hp) : Prop where
  at_ : ∀ (l : Nat) (a : Addr), μ[l]? = some a → μ'[l]? = some a
  keep : ∀ a o, H a = some o → ¬ A a → (∀ ps, o ≠ .tbl ps) → H' a = some o ∧ ¬ A' a
mutual
theorem Rep.le {W : Wd} {A A' : Addr → Prop} {μ μ' : List Addr} {H H' : Hp} (e : Le A A' μ μ' H H') : ∀ (d : D) (v : V), Rep W A μ H d v → Rep W A' μ' H' d v
  | .non, v, h => by simpa only [Rep] using h
  | .bl b, v, h => by simpa only [Rep] using h
  | .int b, v, h => by simpa only [Rep] using h
  | .str b, v, h => by simpa only [Rep] using h
  | .ty b, v, h => by simpa only [Rep] using h
  | .loc l, v, h => by
    simp only [Rep] at h ⊢
    obtain ⟨a, h1, h2⟩ := h
    exact ⟨a, e.at_ _ _ h1, h2⟩
  | .tup ds, v, h => by
    simp only [Rep] at h ⊢
    obtain ⟨a, xs, h1, ⟨n, h2⟩, h3, h4⟩ := h
    obtain ⟨z1, z2⟩ := e.keep _ _ h2 n (fun _ z => by cases z)
    exact ⟨a, xs, h1, ⟨z2, z1⟩, h3, Reps.le e _ _ h4⟩
  | .ktup ds, v, h => by
    simp only [Rep] at h ⊢
    obtain ⟨a, xs, h1, h2, h3, h4⟩ := h
    exact ⟨a, xs, h1, h2, h3, Reps.le e _ _ h4⟩
  | .klst ds, v, h => by
    simp only [Rep] at h ⊢
    obtain ⟨a, xs, h1, h2, h3, h4⟩ := h
    refine ⟨a, xs, h1, ?_, h3, Reps.le e _ _ h4⟩
    rcases h2 with ⟨n, h2 | ⟨o, h2⟩⟩ | h2
    · obtain ⟨z1, z2⟩ := e.keep _ _ h2 n (fun _ z => by cases z)
      exact .inl ⟨z2, .inl z1⟩
    · obtain ⟨z1, z2⟩ := e.keep _ _ h2 n (fun _ z => by cases z)
      exact .inl ⟨z2, .inr ⟨o, z1⟩⟩
    · exact .inr h2
  | .lst ds, v, h => by
    simp only [Rep] at h ⊢
    obtain ⟨a, xs, h1, ⟨n, h2⟩, h3, h4⟩ := h
    refine ⟨a, xs, h1, ?_, h3, Reps.le e _ _ h4⟩
    rcases h2 with h2 | ⟨o, h2⟩
    · obtain ⟨z1, z2⟩ := e.keep _ _ h2 n (fun _ z => by cases z)
      exact ⟨z2, .inl z1⟩
    · obtain ⟨z1, z2⟩ := e.keep _ _ h2 n (fun _ z => by cases z)
      exact ⟨z2, .inr ⟨o, z1⟩⟩
  | .dic ks vs, v, h => by
    simp only [Rep] at h ⊢
    obtain ⟨a, xs, h1, ⟨n, h2⟩, h3, h4⟩ := h
    obtain ⟨z1, z2⟩ := e.keep _ _ h2 n (fun _ z => by cases z)
    exact ⟨a, xs, h1, ⟨z2, z1⟩, h3, Reps.le e _ _ h4⟩
  | .dicT ks vs, v, h => by
    simp only [Rep] at h ⊢
    obtain ⟨a, xs, h1, ⟨n, h2⟩, h3, h4⟩ := h
    obtain ⟨z1, z2⟩ := e.keep _ _ h2 n (fun _ z => by cases z)
    exact ⟨a, xs, h1, ⟨z2, z1⟩, h3, Reps.le e _ _ h4⟩
  | .obj c fs vs, v, h => by
    simp only [Rep] at h ⊢
    obtain ⟨a, dx, xs, h1, ⟨n, h2⟩, h3, h4⟩ := h
    obtain ⟨z1, z2⟩ := e.keep _ _ h2 n (fun _ z => by cases z)
    exact ⟨a, dx, xs, h1, ⟨z2, z1⟩, h3, Reps.le e _ _ h4⟩
  | .fn i vs, v, h => by
    simp only [Rep] at h ⊢
    obtain ⟨f, c, cl, L, ws, h1, h2, n1, n2, h3, h4, h5, h6⟩ := h
    obtain ⟨z1, z2⟩ := e.keep _ _ h3 n1 (fun _ z => by cases z)
    obtain ⟨z3, z4⟩ := e.keep _ _ h4 n2 (fun _ z => by cases z)
    exact ⟨f, c, cl, L, ws, h1, h2, z2, z4, z1, z3, h5, Reps.le e _ _ h6⟩
theorem Reps.le {W : Wd} {A A' : Addr → Prop} {μ μ' : List Addr} {H H' : Hp} (e : Le A A' μ μ' H H') : ∀ (ds : List D) (vs : List V), Reps W A μ H ds vs → Reps W A' μ' H' ds vs
  | [], vs, h => by simpa only [Reps] using h
  | d :: ds, vs, h => by
    simp only [Reps] at h ⊢
    obtain ⟨v, r, h1, h2, h3⟩ := h
    exact ⟨v, r, h1, Rep.le e _ _ h2, Reps.le e _ _ h3⟩
end

/-- what may be changed -/
def Own (W : Wd) (A : Addr → Prop) (μ : List Addr) (H : Hp) (d : D) (a : Addr) : Prop := match d with
  | .lst ds => ∃ xs, H a = some (.lst xs) ∧ ds.length ≤ sizeLine ∧ Reps W A μ H ds xs
  | .dic ks vs => ∃ kvs, H a = some (.dK kvs) ∧ kvs.map (·.1) = ks ∧ Reps W A μ H vs (kvs.map (·.2))
  | .dicT ks vs => ∃ kvs, H a = some (.dT kvs) ∧ kvs.map (·.1) = ks ∧ Reps W A μ H vs (kvs.map (·.2))
  | .obj c fs vs => ∃ dx fvs, H a = some (.ins (W.cls c) dx fvs) ∧ fvs.map (·.1) = fs ∧ Reps W A μ H vs (fvs.map (·.2))
  | _ => False
/-- the object itself stands as it was -/
theorem Own.le {W : Wd} {A A' : Addr → Prop} {μ μ' : List Addr} {H H' : Hp} {d : D} {a : Addr} (e : Le A A' μ μ' H H') (ha : H' a = H a) (h : Own W A μ H d a) : Own W A' μ' H' d a := by
  cases d with
  | lst ds => obtain ⟨xs, h1, h2, h3⟩ := h; exact ⟨xs, ha.trans h1, h2, Reps.le e _ _ h3⟩
  | dic ks vs => obtain ⟨xs, h1, h2, h3⟩ := h; exact ⟨xs, ha.trans h1, h2, Reps.le e _ _ h3⟩
  | dicT ks vs => obtain ⟨xs, h1, h2, h3⟩ := h; exact ⟨xs, ha.trans h1, h2, Reps.le e _ _ h3⟩
  | obj c fs vs => obtain ⟨dx, xs, h1, h2, h3⟩ := h; exact ⟨dx, xs, ha.trans h1, h2, Reps.le e _ _ h3⟩
  | _ => exact h.elim
theorem Own.there {W : Wd} {A : Addr → Prop} {μ : List Addr} {H : Hp} {d : D} {a : Addr} (h : Own W A μ H d a) : ∃ o, H a = some o ∧ Mut (some o) := by
  cases d with
  | lst ds => obtain ⟨xs, h1, _⟩ := h; exact ⟨_, h1, trivial⟩
  | dic ks vs => obtain ⟨xs, h1, _⟩ := h; exact ⟨_, h1, trivial⟩
  | dicT ks vs => obtain ⟨xs, h1, _⟩ := h; exact ⟨_, h1, trivial⟩
  | obj c fs vs => obtain ⟨dx, xs, h1, _⟩ := h; exact ⟨_, h1, trivial⟩
  | _ => exact h.elim
/-- it is handed out as data -/
theorem Own.rep {W : Wd} {A : Addr → Prop} {μ : List Addr} {H : Hp} {d : D} {a : Addr} (h : Own W A μ H d a) (n : ¬ A a) : Rep W A μ H d (.ref a) := by
  cases d with
  | lst ds => obtain ⟨xs, h1, h2, h3⟩ := h; simp only [Rep]; exact ⟨a, xs, rfl, ⟨n, .inl h1⟩, h2, h3⟩
  | dic ks vs => obtain ⟨xs, h1, h2, h3⟩ := h; simp only [Rep]; exact ⟨a, xs, rfl, ⟨n, h1⟩, h2, h3⟩
  | dicT ks vs => obtain ⟨xs, h1, h2, h3⟩ := h; simp only [Rep]; exact ⟨a, xs, rfl, ⟨n, h1⟩, h2, h3⟩
  | obj c fs vs => obtain ⟨dx, xs, h1, h2, h3⟩ := h; simp only [Rep]; exact ⟨a, dx, xs, rfl, ⟨n, h1⟩, h2, h3⟩
  | _ => exact h.elim

/-- there, and of a kind that is changed -/
def MutD : HO → Prop
  | .lst _ => True
  | .dK _ => True
  | .dT _ => True
  | .ins _ _ _ => True
  | _ => False
def Mt (H : Hp) (a : Addr) : Prop := ∃ o, H a = some o ∧ MutD o
theorem Own.mt {W : Wd} {A : Addr → Prop} {μ : List Addr} {H : Hp} {d : D} {a : Addr} (h : Own W A μ H d a) : Mt H a := by
  cases d with
  | lst ds => obtain ⟨xs, h1, _⟩ := h; exact ⟨_, h1, trivial⟩
  | dic ks vs => obtain ⟨xs, h1, _⟩ := h; exact ⟨_, h1, trivial⟩
  | dicT ks vs => obtain ⟨xs, h1, _⟩ := h; exact ⟨_, h1, trivial⟩
  | obj c fs vs => obtain ⟨dx, xs, h1, _⟩ := h; exact ⟨_, h1, trivial⟩
  | _ => exact h.elim
theorem Mt.tbl {H : Hp} {a : Addr} {ps : Array Value} (h : Mt H a) (e : H a = some (.tbl ps)) : False := by
  obtain ⟨o, e', m⟩ := h
  rw [e] at e'; cases e'
  exact m
theorem Mt.ext {H : Hp} {a : Addr} {q : Heap → Prop} (h : Mt H a) (e : H a = some (.ext q)) : False := by
  obtain ⟨o, e', m⟩ := h
  rw [e] at e'; cases e'
  exact m
theorem Mt.ne {H : Hp} {a : Addr} (h : Mt H a) : H a ≠ none := by
  obtain ⟨o, e, _⟩ := h
  rw [e]
  exact fun z => by cases z
theorem Mt.tup {H : Hp} {a : Addr} {xs : List V} (h : Mt H a) (e : H a = some (.tup xs)) : False := by
  obtain ⟨o, e', m⟩ := h
  rw [e] at e'; cases e'
  exact m
def SlOk (W : Wd) (A : Addr → Prop) (μ : List Addr) (O : Nat → Option Addr) (H : Hp) (i : Nat) : Option Sl → Option (Option V) → Prop
  | some (.d x), s => ∃ v, s = some (some v) ∧ Rep W A μ H x v
  | some (.own x), s => ∃ a, O i = some a ∧ s = some (some (.ref a)) ∧ Own W A μ H x a
  | _, _ => True

structure RepS (W : Wd) (A0 : Addr → Prop) (μ : List Addr) (O : Nat → Option Addr) (H : Hp) (σ : St) (S : Stt) : Prop where
  sl : ∀ i : Nat, SlOk W (Av A0 μ O) μ O H i (S.sl[i]?) (σ[i]?)
  oinj : ∀ i j a, O i = some a → O j = some a → i = j
  otr : ∀ i a, O i = some a → ¬ A0 a ∧ a ∉ μ ∧ Mt H a
  obl : S.ob.length = μ.length
  obs : ∀ (l : Nat) (d : D) (a : Addr), S.ob[l]? = some d → μ[l]? = some a → Own W (Av A0 μ O) μ H d a
  nd : μ.Nodup
  atr : ∀ a, A0 a → Mt H a
  tab : NdefX.TabsN W.T H
  len : S.sl.length = σ.length

/-! ### readings -/
abbrev Rl (β α : Type) := (Addr → Prop) → (Nat → Option Addr) → List Addr → Hp → α → β → Prop
def rlD (W : Wd) : Rl V D := fun A0 O μ H d v => Rep W (Av A0 μ O) μ H d v
def rlA (W : Wd) : Rl (List V) (List D) := fun A0 O μ H d v => Reps W (Av A0 μ O) μ H d v
def rlB : Rl Bool Bool := fun _ _ _ _ b c => b = c
/-- where an exception goes -/
def ExnP (W : Wd) (Wx : WX) (A0 : Addr → Prop) (μ : List Addr) (O : Nat → Option Addr) (H : Hp) (σ : St) (c : Nat) (p : Option (List Str × List D)) (S' : Stt) : Prop := match p with
  | none => ∀ H' μ', Step (Ch μ O) μ μ' H H' → RepS W A0 μ' O H' σ S' → Wx (W.ecls c) none σ H'
  | some (fs, ds) => ∀ H' μ' dd xs, Step (Ch μ O) μ μ' H H' → RepS W A0 μ' O H' σ S' → fs.length = xs.length → H' dd = some (.xd (fs.zip xs)) → Reps W (Av A0 μ' O) μ' H' ds xs → Wx (W.ecls c) (some dd) σ H'
def PostG {α β : Type} (W : Wd) (Wx : WX) (rl : Rl β α) (A0 : Addr → Prop) (μ : List Addr) (O : Nat → Option Addr) (H : Hp) (σ : St) (r : Res α) (Q : β → Hp → Prop) : Prop := match r with
  | .ok d S' => ∀ v H' μ', Step (Ch μ O) μ μ' H H' → RepS W A0 μ' O H' σ S' → rl A0 O μ' H' d v → Q v H'
  | .exn c p S' => ExnP W Wx A0 μ O H σ c p S'
  | .stuck => False
def tG {α β : Type} (W : Wd) (Wx : WX) (rl : Rl β α) (f : M α) (σ : St) (H : Hp) (Q : β → Hp → Prop) : Prop := ∃ A0 μ O S, RepS W A0 μ O H σ S ∧ PostG W Wx rl A0 μ O H σ (f S) Q
abbrev tD (W : Wd) (Wx : WX) (f : M D) : TE := tG W Wx (rlD W) f
abbrev tDA (W : Wd) (Wx : WX) (f : M (List D)) : TA := tG W Wx (rlA W) f
abbrev tDB (W : Wd) (Wx : WX) (f : M Bool) : TT := tG W Wx rlB f

section
variable {W : Wd} {Wx : WX} {A0 : Addr → Prop} {μ μ1 μ' : List Addr} {O : Nat → Option Addr} {H H1 H' : Hp} {σ : St} {S S' : Stt}
theorem ExnP.step {c : Nat} {p : Option (List Str × List D)} (st : Step (Ch μ O) μ μ1 H H1) (h : ExnP W Wx A0 μ O H σ c p S') : ExnP W Wx A0 μ1 O H1 σ c p S' := by
  cases p with
  | none => exact fun H' μ' st' => h H' μ' (st.ch st')
  | some q => exact fun H' μ' dd xs st' => h H' μ' dd xs (st.ch st')
theorem PostG.step {α β : Type} {rl : Rl β α} {r : Res α} {Q : β → Hp → Prop} (st : Step (Ch μ O) μ μ1 H H1) (h : PostG W Wx rl A0 μ O H σ r Q) : PostG W Wx rl A0 μ1 O H1 σ r Q := by
  cases r with
  | ok d S' => exact fun v H' μ' st' => h v H' μ' (st.ch st')
  | exn c p S' => exact ExnP.step st h
  | stuck => exact h
theorem tG_bind {α β γ δ : Type} {rl : Rl β α} {rl' : Rl δ γ} {f : M α} {k : α → M γ} {Q : δ → Hp → Prop} (h : tG W Wx rl' (M.bnd f k) σ H Q) :
    tG W Wx rl f σ H (fun v H1 => ∃ A0 μ1 O S1 a, RepS W A0 μ1 O H1 σ S1 ∧ rl A0 O μ1 H1 a v ∧ PostG W Wx rl' A0 μ1 O H1 σ (k a S1) Q) := by
  obtain ⟨A0, μ, O, S, rs, p⟩ := h
  refine ⟨A0, μ, O, S, rs, ?_⟩
  unfold M.bnd at p
  cases e : f S with
  | ok a S1 =>
    rw [e] at p
    exact fun v H1 μ1 st rs1 r1 => ⟨A0, μ1, O, S1, a, rs1, r1, PostG.step st p⟩
  | exn c q S1 => rw [e] at p; exact p
  | stuck => rw [e] at p; exact p
theorem tG_ret {α β : Type} {rl : Rl β α} {a : α} {v : β} {Q : β → Hp → Prop} (rs : RepS W A0 μ O H σ S) (p : PostG W Wx rl A0 μ O H σ (M.ret a S) Q) (r : rl A0 O μ H a v) : Q v H :=
  p v H μ (Step.refl _ _ _) rs r
theorem Step.le (st : Step (Ch μ O) μ μ' H H') (rs : RepS W A0 μ O H σ S) : Le (Av A0 μ O) (Av A0 μ' O) μ μ' H H' := by
  refine ⟨fun l a h => ?_, fun a o h n t => ⟨st.keep a o h (fun z => n (.inr z)) t, fun z => ?_⟩⟩
  · obtain ⟨r, e⟩ := st.ext
    rw [e, List.getElem?_append_left (List.getElem?_eq_some_iff.mp h).1]
    exact h
  · rcases z with z | z | z
    · exact n (.inl z)
    · by_cases q : a ∈ μ
      · exact n (.inr (.inl q))
      · rw [st.new a z q] at h; cases h
    · exact n (.inr (.inr z))
theorem Rep.step {d : D} {v : V} (h : Rep W (Av A0 μ O) μ H d v) (st : Step (Ch μ O) μ μ' H H') (rs : RepS W A0 μ O H σ S) : Rep W (Av A0 μ' O) μ' H' d v := Rep.le (st.le rs) _ _ h
theorem Reps.step {d : List D} {v : List V} (h : Reps W (Av A0 μ O) μ H d v) (st : Step (Ch μ O) μ μ' H H') (rs : RepS W A0 μ O H σ S) : Reps W (Av A0 μ' O) μ' H' d v := Reps.le (st.le rs) _ _ h
end
theorem PE.imp {X : Cx} {e : Expr} {t t' : TE} (h : PE X e t) (i : ∀ σ H Q, t' σ H Q → t σ H Q) : PE X e t' := ⟨fun pins s σ H Q I hq => h.run pins s σ H Q I (i σ H Q hq)⟩
theorem PT.imp {X : Cx} {e : Expr} {t t' : TT} (h : PT X e t) (i : ∀ σ H Q, t' σ H Q → t σ H Q) : PT X e t' := ⟨fun pins s σ H Q I hq => h.run pins s σ H Q I (i σ H Q hq)⟩
theorem PW.imp {X : Cx} {e : Expr} {t t' : TT} (h : PW X e t) (i : ∀ σ H Q, t' σ H Q → t σ H Q) : PW X e t' := ⟨fun w pins s σ H Q I hq => h.run w pins s σ H Q I (i σ H Q hq)⟩
theorem PA.imp {X : Cx} {e : List Expr} {t t' : TA} (h : PA X e t) (i : ∀ σ H Q, t' σ H Q → t σ H Q) : PA X e t' := ⟨fun pos pins s σ H Q I hq => h.run pos pins s σ H Q I (i σ H Q hq)⟩
theorem PS.imp {X : Cx} {e : Stmt} {t t' : TS} (h : PS X e t) (i : ∀ D σ H, t' D σ H → t D σ H) : PS X e t' := ⟨fun pins s σ H D I hq => h.run pins s σ H D I (i D σ H hq)⟩
theorem PSs.imp {X : Cx} {e : List Stmt} {t t' : TS} (h : PSs X e t) (i : ∀ D σ H, t' D σ H → t D σ H) : PSs X e t' := ⟨fun pins s σ H D I hq => h.run pins s σ H D I (i D σ H hq)⟩
end DL
end
section
set_option Elab.async false
set_option linter.all false
set_option maxRecDepth 100000
namespace DL
open PySem PySem.Spec L2

section
variable {W : Wd} {Wx : WX} {A0 : Addr → Prop} {μ μ1 μ' : List Addr} {O : Nat → Option Addr} {H H1 H' : Hp} {σ : St} {S S' : Stt}

theorem PostG.mono {α β : Type} {rl : Rl β α} {r : Res α} {Q Q' : β → Hp → Prop} (h : PostG W Wx rl A0 μ O H σ r Q) (i : ∀ v H', Q v H' → Q' v H') : PostG W Wx rl A0 μ O H σ r Q' := by
  cases r with
  | ok d S' => exact fun v H' μ' st rs r => i _ _ (h v H' μ' st rs r)
  | exn c p S' => exact h
  | stuck => exact h
theorem tG_mono {α β : Type} {rl : Rl β α} {f : M α} {Q Q' : β → Hp → Prop} (h : tG W Wx rl f σ H Q) (i : ∀ v H', Q v H' → Q' v H') : tG W Wx rl f σ H Q' := by
  obtain ⟨A0, μ, O, S, rs, p⟩ := h
  exact ⟨A0, μ, O, S, rs, p.mono i⟩
/-- facts that stay -/
def Keeps (W : Wd) (A0 : Addr → Prop) (O : Nat → Option Addr) (σ : St) (P : List Addr → Hp → Prop) : Prop := ∀ μ μ' H H' S, RepS W A0 μ O H σ S → Step (Ch μ O) μ μ' H H' → P μ H → P μ' H'
theorem tG_bindK {α β γ δ : Type} {rl : Rl β α} {rl' : Rl δ γ} {f : M α} {k : α → M γ} {Q : δ → Hp → Prop} {P : List Addr → Hp → Prop} (kp : Keeps W A0 O σ P) (rs : RepS W A0 μ O H σ S) (hp : P μ H) (p : PostG W Wx rl' A0 μ O H σ ((M.bnd f k) S) Q) :
    tG W Wx rl f σ H (fun v H1 => ∃ μ1 S1 a, RepS W A0 μ1 O H1 σ S1 ∧ P μ1 H1 ∧ rl A0 O μ1 H1 a v ∧ PostG W Wx rl' A0 μ1 O H1 σ (k a S1) Q) := by
  refine ⟨A0, μ, O, S, rs, ?_⟩
  unfold M.bnd at p
  cases e : f S with
  | ok a S1 =>
    rw [e] at p
    exact fun v H1 μ1 st rs1 r1 => ⟨μ1, S1, a, rs1, kp _ _ _ _ _ rs st hp, r1, PostG.step st p⟩
  | exn c q S1 => rw [e] at p; exact p
  | stuck => rw [e] at p; exact p
theorem keeps_rep {d : D} {v : V} : Keeps W A0 O σ (fun μ H => Rep W (Av A0 μ O) μ H d v) := fun _ _ _ _ _ rs st h => Rep.step h st rs
theorem keeps_reps {d : List D} {v : List V} : Keeps W A0 O σ (fun μ H => Reps W (Av A0 μ O) μ H d v) := fun _ _ _ _ _ rs st h => Reps.step h st rs
theorem keeps_and {P P' : List Addr → Hp → Prop} (a : Keeps W A0 O σ P) (b : Keeps W A0 O σ P') : Keeps W A0 O σ (fun μ H => P μ H ∧ P' μ H) := fun _ _ _ _ _ rs st h => ⟨a _ _ _ _ _ rs st h.1, b _ _ _ _ _ rs st h.2⟩
theorem keeps_true : Keeps W A0 O σ (fun _ _ => True) := fun _ _ _ _ _ _ _ _ => trivial
end

/-! ### names, constants -/
def vget (i : Nat) : M D := fun S => match S.sl[i]? with
  | some (.d x) => .ok x S
  | _ => .stuck
/-- a name read where its value does not get away -/
def vgetR (i : Nat) : M D := fun S => match S.sl[i]? with
  | some (.d x) => .ok x S
  | some (.own x) => .ok x S
  | _ => .stuck
/-- readable: data, or what this frame owns -/
def Rdb (W : Wd) (A0 : Addr → Prop) (O : Nat → Option Addr) (μ : List Addr) (H : Hp) (d : D) (v : V) : Prop := Rep W (Av A0 μ O) μ H d v ∨ ∃ i a, O i = some a ∧ v = .ref a ∧ Own W (Av A0 μ O) μ H d a
def rlR (W : Wd) : Rl V D := fun A0 O μ H d v => Rdb W A0 O μ H d v
abbrev tR (W : Wd) (Wx : WX) (f : M D) : TE := tG W Wx (rlR W) f
section
variable {W : Wd} {Wx : WX} {A0 : Addr → Prop} {X : Cx} {μ : List Addr} {O : Nat → Option Addr} {H : Hp} {σ : St} {S : Stt}
theorem de_var {i : Nat} {e : Expr} (h : PE X e (tVar i)) : PE X e (tD W Wx (vget i)) := PE.imp h fun σ H Q ⟨A0, μ, O, S, rs, p⟩ => by
  unfold vget at p
  have hi := rs.sl i
  cases e : S.sl[i]? with
  | none => rw [e] at p; exact p.elim
  | some s =>
    rw [e] at p hi
    cases s with
    | no => exact p.elim
    | d x =>
      obtain ⟨v, hv, r⟩ := hi
      exact ⟨v, hv, p v H μ (Step.refl _ _ _) rs r⟩
    | own x => exact p.elim
theorem de_varR {i : Nat} {e : Expr} (h : PE X e (tVar i)) : PE X e (tR W Wx (vgetR i)) := PE.imp h fun σ H Q ⟨A0, μ, O, S, rs, p⟩ => by
  unfold vgetR at p
  have hi := rs.sl i
  cases e : S.sl[i]? with
  | none => rw [e] at p; exact p.elim
  | some s =>
    rw [e] at p hi
    cases s with
    | no => exact p.elim
    | d x =>
      obtain ⟨v, hv, r⟩ := hi
      exact ⟨v, hv, p v H μ (Step.refl _ _ _) rs (.inl r)⟩
    | own x =>
      obtain ⟨a, ho, hv, r⟩ := hi
      exact ⟨_, hv, p _ H μ (Step.refl _ _ _) rs (.inr ⟨i, a, ho, rfl, r⟩)⟩
/-- data are readable -/
theorem de_R {e : Expr} {f : M D} (h : PE X e (tD W Wx f)) : PE X e (tR W Wx f) := PE.imp h fun σ H Q ⟨A0, μ, O, S, rs, p⟩ => ⟨A0, μ, O, S, rs, by
  cases e : f S with
  | ok d S' => rw [e] at p; exact fun v H' μ' st rs' r => p v H' μ' st rs' (.inl r)
  | exn c q S' => rw [e] at p; exact p
  | stuck => rw [e] at p; exact p⟩
/-- a scalar as data -/
inductive Sc : V → D → Prop where
  | non : Sc .non .non
  | bl (b : Bool) : Sc (.bl b) (.bl b)
  | int (i : Int) : Sc (.int i) (.int i)
  | str (x : Str) : Sc (.str x) (.str x)
  | ty (n : String) : Sc (.ty n) (.ty n)
theorem Sc.rep {v : V} {d : D} {A : Addr → Prop} (s : Sc v d) : Rep W A μ H d v := by cases s <;> simp only [Rep]
theorem de_sc {e : Expr} {v : V} {d : D} (h : PE X e (tC v)) (s : Sc v d) : PE X e (tD W Wx (M.ret d)) := PE.imp h fun σ H Q ⟨A0, μ, O, S, rs, p⟩ => tG_ret (rl := rlD W) rs p s.rep
theorem de_int {i j pos} : PE X (.Constant (.int i) j pos) (tD W Wx (M.ret (.int i))) := de_sc pe_int (.int i)
theorem de_bl {b j pos} : PE X (.Constant (.bool b) j pos) (tD W Wx (M.ret (.bl b))) := de_sc pe_bl (.bl b)
theorem de_non {j pos} : PE X (.Constant .none j pos) (tD W Wx (M.ret .non)) := de_sc pe_non .non
theorem de_str {x j pos} : PE X (.Constant (.str x) j pos) (tD W Wx (M.ret (.str x))) := de_sc pe_str (.str x)
/-- a constant of the written part -/
def KRep (K : PySem.W.Frag) (d : D) (v : V) : Prop := ∀ (W : Wd) (A : Addr → Prop) (μ : List Addr) (H : Hp), W.K = K → Rep W A μ H d v
theorem de_K {e : Expr} {v : V} {d : D} (h : PE X e (tC v)) (s : KRep W.K d v) : PE X e (tD W Wx (M.ret d)) := PE.imp h fun σ H Q ⟨A0, μ, O, S, rs, p⟩ => tG_ret (rl := rlD W) rs p (s _ _ _ _ rfl)
end

/-! ### two-place operations -/
/-- an operation by values, told of data: the first one data, the second one readable -/
def rD (W : Wd) (Wx : WX) (op : D → D → M D) : R2 := fun x y H Q => ∃ σ A0 μ O S dx dy, RepS W A0 μ O H σ S ∧ Rep W (Av A0 μ O) μ H dx x ∧ Rdb W A0 O μ H dy y ∧ PostG W Wx (rlD W) A0 μ O H σ (op dx dy S) Q
def op2 (f g : M D) (op : D → D → M D) : M D := M.bnd f fun x => M.bnd g fun y => op x y
section
variable {W : Wd} {Wx : WX} {A0 : Addr → Prop} {X : Cx} {a b c : Expr} {f g : M D} {op : D → D → M D} {pos : Pos}
theorem op2_imp {σ : St} {H : Hp} {Q : VK} (h : tD W Wx (op2 f g op) σ H Q) : tOp (rD W Wx op) (tD W Wx f) (tR W Wx g) σ H Q := by
  refine tG_mono (tG_bind (rl := rlD W) h) fun v H1 ⟨A0, μ1, O, S1, x, rs1, r1, p1⟩ => ?_
  refine tG_mono (tG_bindK (rl := rlR W) keeps_rep rs1 r1 p1) fun w H2 ⟨μ2, S2, y, rs2, r2, ry, p2⟩ => ?_
  exact ⟨σ, A0, μ2, O, S2, x, y, rs2, r2, ry, p2⟩
theorem de_op {o : Operator} (ho : OpR X (binaryOp o) (rD W Wx op)) (ha : PE X a (tD W Wx f)) (hb : PE X b (tR W Wx g)) : PE X (.BinOp a o b pos) (tD W Wx (op2 f g op)) := PE.imp (pe_op ho ha hb) fun σ H Q h => op2_imp h
theorem de_cmp {o : CmpOp} (ho : OpR X (compareOp o) (rD W Wx op)) (ha : PE X a (tD W Wx f)) (hb : PE X b (tR W Wx g)) (hm : behindInMarks o b = false) : PE X (.Compare a [o] [b] pos) (tD W Wx (op2 f g op)) := PE.imp (pe_cmpR ho ha hb hm) fun σ H Q h => op2_imp h
/-- a value that is a truth, as a test -/
def tru : D → M Bool
  | .bl b => M.ret b
  | .non => M.ret false
  | .int i => M.ret (i != 0)
  | .str x => if x.length ≤ sizeLine then M.ret (x.length != 0) else M.fail
  | .tup ds => M.ret (!ds.isEmpty)
  | .lst ds => M.ret (!ds.isEmpty)
  | _ => M.fail
def bool1 : D → M Bool
  | .bl b => M.ret b
  | _ => M.fail
theorem bool1_imp {σ : St} {H : Hp} {Q : Bool → Hp → Prop} (h : tDB W Wx (M.bnd f bool1) σ H Q) : tD W Wx f σ H (fun x H' => ∃ k, x = .bl k ∧ Q k H') := by
  refine tG_mono (tG_bind (rl := rlD W) h) fun v H1 ⟨A0, μ1, O, S1, x, rs1, r1, p1⟩ => ?_
  cases x with
  | bl k =>
    have e : v = .bl k := by simpa only [rlD, Rep] using r1
    exact ⟨k, e, tG_ret (rl := rlB) rs1 p1 rfl⟩
  | _ => exact p1.elim
theorem dt_cmp {o : CmpOp} (ho : OpR X (compareOp o) (rD W Wx op)) (ha : PE X a (tD W Wx f)) (hb : PE X b (tR W Wx g)) (hm : behindInMarks o b = false) : PT X (.Compare a [o] [b] pos) (tDB W Wx (M.bnd (op2 f g op) bool1)) :=
  PT.imp (pt_cmpR ho ha hb hm) fun σ H Q h => op2_imp' h
where
  op2_imp' {σ : St} {H : Hp} {Q : Bool → Hp → Prop} (h : tDB W Wx (M.bnd (op2 f g op) bool1) σ H Q) : tTest (tOp (rD W Wx op) (tD W Wx f) (tR W Wx g)) σ H Q := op2_imp (bool1_imp h)
end
section
variable {W : Wd} {Wx : WX} {A0 : Addr → Prop} {X : Cx} {a b c : Expr} {f g : M D} {p q : M Bool} {pos : Pos} {rest : List Expr}
theorem rdb_list {μ : List Addr} {O : Nat → Option Addr} {H : Hp} {ds : List D} {v : V} (h : Rdb W A0 O μ H (.lst ds) v) : ∃ a xs, v = .ref a ∧ Rd H a (.lst xs) ∧ ds.length ≤ sizeLine ∧ Reps W (Av A0 μ O) μ H ds xs := by
  rcases h with h | ⟨i, a, _, e, xs, h1, h2, h3⟩
  · simp only [Rep] at h
    obtain ⟨a, xs, e, ⟨_, h1⟩, h2, h3⟩ := h
    exact ⟨a, xs, e, h1, h2, h3⟩
  · exact ⟨a, xs, e, .inl h1, h2, h3⟩
theorem reps_length {A : Addr → Prop} {μ : List Addr} {H : Hp} : ∀ {ds : List D} {xs : List V}, Reps W A μ H ds xs → xs.length = ds.length
  | [], xs, h => by simp only [Reps] at h; subst h; rfl
  | d :: ds, xs, h => by
    simp only [Reps] at h
    obtain ⟨v, vs, e, _, h2⟩ := h
    subst e
    simp [reps_length h2]
theorem rep_tupH {A : Addr → Prop} {μ : List Addr} {H : Hp} {ds : List D} {v : V} (h : Rep W A μ H (.tup ds) v) : ∃ a xs, v = .ref a ∧ H a = some (.tup xs) ∧ ds.length ≤ sizeLine ∧ Reps W A μ H ds xs := by
  simp only [Rep] at h
  obtain ⟨a, xs, e, ⟨_, h1⟩, h2, h3⟩ := h
  exact ⟨a, xs, e, h1, h2, h3⟩
theorem rep_tup {A : Addr → Prop} {μ : List Addr} {H : Hp} {ds : List D} {v : V} (h : Rep W A μ H (.tup ds) v) : ∃ a xs, v = .ref a ∧ SqT W.K H a xs ∧ ds.length ≤ sizeLine ∧ Reps W A μ H ds xs := by
  obtain ⟨a, xs, e, h1, h2, h3⟩ := rep_tupH h
  exact ⟨a, xs, e, .inl (.inl h1), h2, h3⟩
theorem rep_ktup {A : Addr → Prop} {μ : List Addr} {H : Hp} {ds : List D} {v : V} (h : Rep W A μ H (.ktup ds) v) : ∃ a xs, v = .ref a ∧ SqT W.K H a xs ∧ ds.length ≤ sizeLine ∧ Reps W A μ H ds xs := by
  simp only [Rep] at h
  obtain ⟨a, xs, e, h1, h2, h3⟩ := h
  refine ⟨a, xs, e, ?_, h2, h3⟩
  rcases h1 with (z | ⟨_, z⟩) | z
  · cases z
  · cases z
  · exact .inr z
theorem rep_klst {A : Addr → Prop} {μ : List Addr} {H : Hp} {ds : List D} {v : V} (h : Rep W A μ H (.klst ds) v) : ∃ a xs, v = .ref a ∧ SqL W.K H a xs ∧ ds.length ≤ sizeLine ∧ Reps W A μ H ds xs := by
  simp only [Rep] at h
  obtain ⟨a, xs, e, h1, h2, h3⟩ := h
  refine ⟨a, xs, e, ?_, h2, h3⟩
  rcases h1 with ⟨_, z⟩ | (z | ⟨_, z⟩) | z
  · exact .inl z
  · cases z
  · cases z
  · exact .inr z
theorem rdb_klst {μ : List Addr} {O : Nat → Option Addr} {H : Hp} {ds : List D} {v : V} (h : Rdb W A0 O μ H (.klst ds) v) : ∃ a xs, v = .ref a ∧ SqL W.K H a xs ∧ ds.length ≤ sizeLine ∧ Reps W (Av A0 μ O) μ H ds xs := by
  rcases h with h | ⟨i, a, _, e, h1⟩
  · exact rep_klst h
  · exact h1.elim
theorem rdb_ktup {μ : List Addr} {O : Nat → Option Addr} {H : Hp} {ds : List D} {v : V} (h : Rdb W A0 O μ H (.ktup ds) v) : ∃ a xs, v = .ref a ∧ SqT W.K H a xs ∧ ds.length ≤ sizeLine ∧ Reps W (Av A0 μ O) μ H ds xs := by
  rcases h with h | ⟨i, a, _, e, h1⟩
  · exact rep_ktup h
  · exact h1.elim
theorem rdb_tup {μ : List Addr} {O : Nat → Option Addr} {H : Hp} {ds : List D} {v : V} (h : Rdb W A0 O μ H (.tup ds) v) : ∃ a xs, v = .ref a ∧ SqT W.K H a xs ∧ ds.length ≤ sizeLine ∧ Reps W (Av A0 μ O) μ H ds xs := by
  rcases h with h | ⟨i, a, _, e, h1⟩
  · exact rep_tup h
  · exact h1.elim
theorem isEmpty_eq {A : Addr → Prop} {μ : List Addr} {H : Hp} {ds : List D} {xs : List V} (h : Reps W A μ H ds xs) : xs.isEmpty = ds.isEmpty := by
  have := reps_length h
  cases ds <;> cases xs <;> simp_all
/-- the truth of a readable value -/
theorem dt_truth (hK : X.K = W.K) (ha : PE X a (tR W Wx f)) (he : ∀ whole, isTrue a X.env whole = (do let v ← whole; standAt a.pos; holding [v] (truthy v))) : PT X a (tDB W Wx (M.bnd f tru)) := by
  refine PT.imp (pt_truth ha he) fun σ H Q h => ?_
  refine tG_mono (tG_bind (rl := rlR W) h) fun v H1 ⟨A0, μ1, O, S1, x, rs1, r1, p1⟩ => ?_
  rw [hK]
  cases x with
  | bl k =>
    have e : v = .bl k := by rcases r1 with r1 | ⟨_, _, _, _, z⟩; simpa only [Rep] using r1; exact z.elim
    subst e
    exact ⟨k, rfl, tG_ret (rl := rlB) rs1 p1 rfl⟩
  | non =>
    have e : v = .non := by rcases r1 with r1 | ⟨_, _, _, _, z⟩; simpa only [Rep] using r1; exact z.elim
    subst e
    exact ⟨false, rfl, tG_ret (rl := rlB) rs1 p1 rfl⟩
  | int i =>
    have e : v = .int i := by rcases r1 with r1 | ⟨_, _, _, _, z⟩; simpa only [Rep] using r1; exact z.elim
    subst e
    exact ⟨_, rfl, tG_ret (rl := rlB) rs1 p1 rfl⟩
  | str x =>
    have e : v = .str x := by rcases r1 with r1 | ⟨_, _, _, _, z⟩; simpa only [Rep] using r1; exact z.elim
    subst e
    by_cases hz : x.length ≤ sizeLine
    · have p1 : PostG W Wx rlB A0 μ1 O H1 σ ((if x.length ≤ sizeLine then M.ret (x.length != 0) else M.fail) S1) Q := p1
      rw [if_pos hz] at p1
      refine ⟨_, ⟨hz, rfl⟩, ?_⟩
      have e2 : ((x.length : Int) != 0) = (x.length != 0) := by
        cases h : x.length <;> simp
        omega
      rw [e2]
      exact tG_ret (rl := rlB) rs1 p1 rfl
    · have p1 : PostG W Wx rlB A0 μ1 O H1 σ ((if x.length ≤ sizeLine then M.ret (x.length != 0) else M.fail) S1) Q := p1
      rw [if_neg hz] at p1
      exact p1.elim
  | tup ds =>
    obtain ⟨a, xs, e, h1, h2, h3⟩ := rdb_tup r1
    subst e
    refine ⟨_, .inr (.inl ⟨xs, h1, rfl⟩), ?_⟩
    rw [isEmpty_eq h3]
    exact tG_ret (rl := rlB) rs1 p1 rfl
  | lst ds =>
    obtain ⟨a, xs, e, h1, h2, h3⟩ := rdb_list r1
    subst e
    refine ⟨_, .inl ⟨xs, .inl h1, rfl⟩, ?_⟩
    rw [isEmpty_eq h3]
    exact tG_ret (rl := rlB) rs1 p1 rfl
  | _ => exact p1.elim

/-! ### and, or, not, if -/
def andB (p q : M Bool) : M Bool := M.bnd p fun c => if c = true then q else M.ret false
def orB (p q : M Bool) : M Bool := M.bnd p fun c => if c = true then M.ret true else q
def notB (p : M Bool) : M Bool := M.bnd p fun c => M.ret (!c)
theorem dw_and1 (ha : PT X a (tDB W Wx p)) : PW X (.BoolOp .And [a] pos) (tDB W Wx p) := pw_and1 ha
theorem dw_or1 (ha : PT X a (tDB W Wx p)) : PW X (.BoolOp .Or [a] pos) (tDB W Wx p) := pw_or1 ha
theorem dw_and (ha : PT X a (tDB W Wx p)) (hb : PW X (.BoolOp .And (b :: rest) pos) (tDB W Wx q)) : PW X (.BoolOp .And (a :: b :: rest) pos) (tDB W Wx (andB p q)) :=
  PW.imp (pw_and ha hb) fun σ H Q h => tG_mono (tG_bind (rl := rlB) h) fun v H1 ⟨A0, μ1, O, S1, x, rs1, r1, p1⟩ => by
    have e : v = x := Eq.symm r1
    subst e
    cases v with
    | true => exact ⟨A0, μ1, O, S1, rs1, p1⟩
    | false => exact tG_ret (rl := rlB) rs1 p1 rfl
theorem dw_or (ha : PT X a (tDB W Wx p)) (hb : PW X (.BoolOp .Or (b :: rest) pos) (tDB W Wx q)) : PW X (.BoolOp .Or (a :: b :: rest) pos) (tDB W Wx (orB p q)) :=
  PW.imp (pw_or ha hb) fun σ H Q h => tG_mono (tG_bind (rl := rlB) h) fun v H1 ⟨A0, μ1, O, S1, x, rs1, r1, p1⟩ => by
    have e : v = x := Eq.symm r1
    subst e
    cases v with
    | false => exact ⟨A0, μ1, O, S1, rs1, p1⟩
    | true => exact tG_ret (rl := rlB) rs1 p1 rfl
theorem dt_not (ha : PT X a (tDB W Wx p)) : PT X (.UnaryOp .Not a pos) (tDB W Wx (notB p)) :=
  PT.imp (pt_not ha) fun σ H Q h => tG_mono (tG_bind (rl := rlB) h) fun v H1 ⟨A0, μ1, O, S1, x, rs1, r1, p1⟩ => by
    have e : v = x := Eq.symm r1
    subst e
    exact tG_ret (rl := rlB) rs1 p1 rfl
/-- as values -/
def andV (f g : M D) : M D := M.bnd f fun x => match x with
  | .bl true => g
  | .bl false => M.ret (.bl false)
  | _ => M.fail
def orV (f g : M D) : M D := M.bnd f fun x => match x with
  | .bl false => g
  | .bl true => M.ret (.bl true)
  | _ => M.fail
def notV (f : M D) : M D := M.bnd f fun x => match x with
  | .bl b => M.ret (.bl (!b))
  | _ => M.fail
theorem de_one {op} (h : PE X a (tD W Wx f)) : PE X (.BoolOp op [a] pos) (tD W Wx f) := pe_one h
theorem de_and (ha : PE X a (tD W Wx f)) (hb : PE X (.BoolOp .And (b :: rest) pos) (tD W Wx g)) : PE X (.BoolOp .And (a :: b :: rest) pos) (tD W Wx (andV f g)) :=
  PE.imp (pe_and ha hb) fun σ H Q h => tG_mono (tG_bind (rl := rlD W) h) fun v H1 ⟨A0, μ1, O, S1, x, rs1, r1, p1⟩ => by
    cases x with
    | bl c =>
      have e : v = .bl c := by simpa only [rlD, Rep] using r1
      refine ⟨c, e, ?_⟩
      cases c with
      | true => exact ⟨A0, μ1, O, S1, rs1, p1⟩
      | false => exact tG_ret (rl := rlD W) rs1 p1 (Sc.bl false).rep
    | _ => exact p1.elim
theorem de_or (ha : PE X a (tD W Wx f)) (hb : PE X (.BoolOp .Or (b :: rest) pos) (tD W Wx g)) : PE X (.BoolOp .Or (a :: b :: rest) pos) (tD W Wx (orV f g)) :=
  PE.imp (pe_or ha hb) fun σ H Q h => tG_mono (tG_bind (rl := rlD W) h) fun v H1 ⟨A0, μ1, O, S1, x, rs1, r1, p1⟩ => by
    cases x with
    | bl c =>
      have e : v = .bl c := by simpa only [rlD, Rep] using r1
      refine ⟨c, e, ?_⟩
      cases c with
      | false => exact ⟨A0, μ1, O, S1, rs1, p1⟩
      | true => exact tG_ret (rl := rlD W) rs1 p1 (Sc.bl true).rep
    | _ => exact p1.elim
theorem de_not (ha : PE X a (tD W Wx f)) : PE X (.UnaryOp .Not a pos) (tD W Wx (notV f)) :=
  PE.imp (pe_not ha) fun σ H Q h => tG_mono (tG_bind (rl := rlD W) h) fun v H1 ⟨A0, μ1, O, S1, x, rs1, r1, p1⟩ => by
    cases x with
    | bl c =>
      have e : v = .bl c := by simpa only [rlD, Rep] using r1
      exact ⟨c, e, tG_ret (rl := rlD W) rs1 p1 (Sc.bl _).rep⟩
    | _ => exact p1.elim
def ifV {α : Type} (p : M Bool) (f g : M α) : M α := M.bnd p fun c => if c = true then f else g
theorem de_if (hc : PT X c (tDB W Wx p)) (ha : PE X a (tD W Wx f)) (hb : PE X b (tD W Wx g)) : PE X (.IfExp c a b pos) (tD W Wx (ifV p f g)) :=
  PE.imp (pe_ifExp hc ha hb) fun σ H Q h => tG_mono (tG_bind (rl := rlB) h) fun v H1 ⟨A0, μ1, O, S1, x, rs1, r1, p1⟩ => by
    have e : v = x := Eq.symm r1
    subst e
    cases v with
    | true => exact ⟨A0, μ1, O, S1, rs1, p1⟩
    | false => exact ⟨A0, μ1, O, S1, rs1, p1⟩
end
end DL
end
section
set_option Elab.async false
set_option linter.all false
set_option maxRecDepth 100000
namespace DL
open PySem PySem.Spec L2

/-! ### heaps that only grow -/
section
variable {W : Wd} {Wx : WX} {A0 A1 : Addr → Prop} {μ μ1 μ' : List Addr} {O O' : Nat → Option Addr} {H H1 H' : Hp} {σ σ' : St} {S S' : Stt}
theorem Le.same (e : ∀ b o, H b = some o → H' b = some o) {A A' : Addr → Prop} (h : ∀ a, A' a → A a) : Le A A' μ μ H H' := ⟨fun _ _ h => h, fun a o hh n _ => ⟨e a o hh, fun z => n (h a z)⟩⟩
theorem SlOk.imp {A A' : Addr → Prop} {i : Nat} {x : Option Sl} {s : Option (Option V)} (h : SlOk W A μ O H i x s) (l : Le A A' μ μ' H H') (ho : ∀ a, O i = some a → O' i = some a ∧ ((∃ o, H a = some o ∧ Mut (some o)) → H' a = H a)) : SlOk W A' μ' O' H' i x s := by
  cases x with
  | none => trivial
  | some x =>
    cases x with
    | no => trivial
    | d x => obtain ⟨v, e, r⟩ := h; exact ⟨v, e, Rep.le l _ _ r⟩
    | own x =>
      obtain ⟨a, e1, e2, r⟩ := h
      exact ⟨a, (ho a e1).1, e2, Own.le l ((ho a e1).2 r.there) r⟩
theorem RepS.same (rs : RepS W A0 μ O H σ S) (e : ∀ b o, H b = some o → H' b = some o) : RepS W A0 μ O H' σ S := by
  have l : Le (Av A0 μ O) (Av A0 μ O) μ μ H H' := Le.same e fun _ h => h
  have al : ∀ a, Mt H a → H' a = H a := fun a ⟨o, q, _⟩ => by rw [e a o q, q]
  have nn : ∀ a, Mt H a → Mt H' a := fun a ⟨o, q, m⟩ => ⟨o, e a o q, m⟩
  refine ⟨fun i => (rs.sl i).imp l fun a h => ⟨h, fun _ => al a (rs.otr i a h).2.2⟩, rs.oinj, fun i a h => ?_, rs.obl, fun k d a h1 h2 => ?_, rs.nd, fun a h => nn a (rs.atr a h), rs.tab.ext e, rs.len⟩
  · obtain ⟨h1, h2, h3⟩ := rs.otr i a h
    exact ⟨h1, h2, nn a h3⟩
  · have o := rs.obs k d a h1 h2
    exact o.le l (al a o.mt)
theorem Step.same {C : Addr → Prop} (e : ∀ b o, H b = some o → H' b = some o) : Step C μ μ H H' := ⟨⟨[], by simp⟩, fun a h n => absurd h n, fun a o h _ _ => e a o h, fun a h => by
  cases q : H a with
  | none => rfl
  | some o => rw [e a o q] at h; cases h⟩
theorem upd_keep {p : Addr} {o : HO} (h : H p = none) : ∀ b u, H b = some u → upd H p o b = some u := fun b u e => by rw [upd_ne (ne_of_none e h)]; exact e
/-- nothing that may change is at a new place -/
theorem RepS.fresh (rs : RepS W A0 μ O H σ S) {p : Addr} (h : H p = none) : ¬ Av A0 μ O p := fun z => by
  rcases z with z | z | ⟨i, z⟩
  · exact (rs.atr p z).ne h
  · obtain ⟨l, hl⟩ := List.mem_iff_getElem?.mp z
    have hll : l < μ.length := (List.getElem?_eq_some_iff.mp hl).1
    rw [← rs.obl] at hll
    obtain ⟨o, e, _⟩ := (rs.obs l _ p (List.getElem?_eq_getElem hll) hl).there
    rw [h] at e; cases e
  · exact (rs.otr i p z).2.2.ne h
/-- fewer addresses kept off -/
theorem RepS.fewer (rs : RepS W A0 μ O H σ S) (h : ∀ a, A1 a → A0 a) : RepS W A1 μ O H σ S := by
  have l : Le (Av A0 μ O) (Av A1 μ O) μ μ H H := Le.same (fun _ _ h => h) fun a z => z.imp (h a) id
  refine ⟨fun i => (rs.sl i).imp l fun a h => ⟨h, fun _ => rfl⟩, rs.oinj, fun i a e => ?_, rs.obl, fun k d a h1 h2 => (rs.obs k d a h1 h2).le l rfl, rs.nd, fun a z => rs.atr a (h a z), rs.tab, rs.len⟩
  obtain ⟨h1, h2, h3⟩ := rs.otr i a e
  exact ⟨fun z => h1 (h a z), h2, h3⟩
end

/-! ### values just made -/
def plus (A0 : Addr → Prop) (a : Addr) : Addr → Prop := fun x => A0 x ∨ x = a
def PostF (W : Wd) (Wx : WX) (A0 : Addr → Prop) (μ : List Addr) (O : Nat → Option Addr) (H : Hp) (σ : St) (r : Res D) (Q : VK) : Prop := match r with
  | .ok d S' => ∀ a H' μ', Step (Ch μ O) μ μ' H H' → H a = none → ¬ Av A0 μ' O a → RepS W (plus A0 a) μ' O H' σ S' → Own W (Av (plus A0 a) μ' O) μ' H' d a → Q (.ref a) H'
  | .exn c p S' => ExnP W Wx A0 μ O H σ c p S'
  | .stuck => False
def tF (W : Wd) (Wx : WX) (f : M D) : TE := fun σ H Q => ∃ A0 μ O S, RepS W A0 μ O H σ S ∧ PostF W Wx A0 μ O H σ (f S) Q
section
variable {W : Wd} {Wx : WX} {X : Cx} {A0 A1 : Addr → Prop} {μ μ1 μ' : List Addr} {O O' : Nat → Option Addr} {H H1 H' : Hp} {σ σ' : St} {S S' : Stt} {e : Expr} {es : List Expr} {f : M D} {pos : Pos}
/-- they are data, too -/
theorem de_F (h : PE X e (tF W Wx f)) : PE X e (tD W Wx f) := PE.imp h fun σ H Q ⟨A0, μ, O, S, rs, p⟩ => ⟨A0, μ, O, S, rs, by
  cases e : f S with
  | ok d S' =>
    rw [e] at p
    exact fun a H' μ' st _ na rs' ow => p _ H' μ' st (rs'.fewer fun x h => .inl h) (Own.rep (ow.le (Le.same (fun _ _ h => h) fun x z => z.imp .inl id) rfl) na)
  | exn c q S' => rw [e] at p; exact p
  | stuck => rw [e] at p; exact p⟩
/-- a new object is laid: its content's data are told at the heap ahead -/
theorem fresh_own {p : Addr} {o : HO} {d : D} (rs : RepS W A0 μ O H σ S) (hp : H p = none) (ow : ∀ A, (∀ a u, H a = some u → ¬ Av A0 μ O a → ¬ A a) → Own W A μ (upd H p o) d p) :
    ¬ Av A0 μ O p ∧ RepS W (plus A0 p) μ O (upd H p o) σ S ∧ Own W (Av (plus A0 p) μ O) μ (upd H p o) d p := by
  have nf := rs.fresh hp
  have keep := upd_keep (o := o) hp
  have l : Le (Av A0 μ O) (Av (plus A0 p) μ O) μ μ H (upd H p o) := ⟨fun _ _ h => h, fun a u hh n _ => ⟨keep a u hh, fun z => by
    rcases z with (z | z) | z
    · exact n (.inl z)
    · subst z; rw [hp] at hh; cases hh
    · exact n (.inr z)⟩⟩
  have al : ∀ a, Mt H a → upd H p o a = H a := fun a ⟨u, q, _⟩ => by rw [keep a u q, q]
  have nn : ∀ a, Mt H a → Mt (upd H p o) a := fun a ⟨u, q, m⟩ => ⟨u, keep a u q, m⟩
  refine ⟨nf, ⟨fun i => (rs.sl i).imp l fun a h => ⟨h, fun _ => al a (rs.otr i a h).2.2⟩, rs.oinj, fun i a h => ?_, rs.obl, fun k d a h1 h2 => ?_, rs.nd, fun a h => ?_, rs.tab.ext keep, rs.len⟩, ow _ fun a u hh n z => (l.keep a u hh n (fun ps q => ?_)).2 z⟩
  · obtain ⟨h1, h2, h3⟩ := rs.otr i a h
    refine ⟨fun z => ?_, h2, nn a h3⟩
    rcases z with z | z
    · exact h1 z
    · subst z; exact h3.ne hp
  · have o := rs.obs k d a h1 h2
    exact o.le l (al a o.mt)
  · rcases h with h | h
    · exact nn a (rs.atr a h)
    · subst h; exact (ow (fun _ => False) fun _ _ _ _ z => z).mt
  · rcases z with (z | z) | z
    · exact n (.inl z)
    · subst z; rw [hp] at hh; cases hh
    · exact n (.inr z)

/-! ### argument lists -/
def seqM : List (M D) → M (List D)
  | [] => M.ret []
  | f :: fs => M.bnd f fun x => M.bnd (seqM fs) fun xs => M.ret (x :: xs)
theorem seqM_length : ∀ {fs : List (M D)} {S S' : Stt} {ds : List D}, seqM fs S = .ok ds S' → ds.length = fs.length
  | [], S, S', ds, h => by
    unfold seqM M.ret at h
    cases h
    rfl
  | f :: fs, S, S', ds, h => by
    unfold seqM M.bnd at h
    cases e : f S with
    | ok a S1 =>
      rw [e] at h
      dsimp only at h
      cases e2 : seqM fs S1 with
      | ok xs S2 =>
        rw [e2] at h
        dsimp only [M.ret] at h
        cases h
        simp [seqM_length e2]
      | exn c q S2 => rw [e2] at h; cases h
      | stuck => rw [e2] at h; cases h
    | exn c q S2 => rw [e] at h; cases h
    | stuck => rw [e] at h; cases h
theorem reps_nil {A : Addr → Prop} : Reps W A μ H [] [] := by simp only [Reps]
theorem reps_cons {A : Addr → Prop} {d : D} {ds : List D} {v : V} {vs : List V} (h1 : Rep W A μ H d v) (h2 : Reps W A μ H ds vs) : Reps W A μ H (d :: ds) (v :: vs) := by simp only [Reps]; exact ⟨v, vs, rfl, h1, h2⟩
theorem da_nil : PA X [] (tDA W Wx (seqM [])) := PA.imp pa_nil fun σ H Q ⟨A0, μ, O, S, rs, p⟩ => tG_ret (rl := rlA W) rs p reps_nil
theorem da_cons {fs : List (M D)} (ha : PE X e (tD W Wx f)) (hr : PA X es (tDA W Wx (seqM fs))) (hs : starEach (e :: es) X.env = (false, eval e X.env) :: starEach es X.env := by rfl) : PA X (e :: es) (tDA W Wx (seqM (f :: fs))) :=
  PA.imp (pa_cons ha hr hs) fun σ H Q h => tG_mono (tG_bind (rl := rlD W) h) fun v H1 ⟨A0, μ1, O, S1, x, rs1, r1, p1⟩ => by
    refine tG_mono (tG_bindK (rl := rlA W) keeps_rep rs1 r1 p1) fun w H2 ⟨μ2, S2, y, rs2, r2, ry, p2⟩ => ?_
    exact tG_ret (rl := rlA W) rs2 p2 (reps_cons r2 ry)
/-- (a, b, ..) -/
def tupE (fs : List (M D)) : M D := M.bnd (seqM fs) fun ds => M.ret (.tup ds)
def lstE (fs : List (M D)) : M D := M.bnd (seqM fs) fun ds => M.ret (.lst ds)
theorem small_le {n : Nat} (h : n ≤ 1000) : n ≤ sizeLine := by rw [sizeLine_eq]; omega
/-- what seqM hands on has its length -/
theorem seq_imp {α β : Type} {rl : Rl β α} {fs : List (M D)} {k : List D → M α} {Q : β → Hp → Prop} (h : tG W Wx rl (M.bnd (seqM fs) k) σ H Q) :
    tDA W Wx (seqM fs) σ H (fun vs H1 => ∃ A0 μ1 O S1 ds, RepS W A0 μ1 O H1 σ S1 ∧ Reps W (Av A0 μ1 O) μ1 H1 ds vs ∧ ds.length = fs.length ∧ PostG W Wx rl A0 μ1 O H1 σ (k ds S1) Q) := by
  obtain ⟨A0, μ, O, S, rs, p⟩ := h
  refine ⟨A0, μ, O, S, rs, ?_⟩
  unfold M.bnd at p
  cases e : seqM fs S with
  | ok a S1 =>
    rw [e] at p
    exact fun v H1 μ1 st rs1 r1 => ⟨A0, μ1, O, S1, a, rs1, r1, seqM_length e, PostG.step st p⟩
  | exn c q S1 => rw [e] at p; exact p
  | stuck => rw [e] at p; exact p
theorem rep_tup_new {p : Addr} {ds : List D} {vs : List V} (rs : RepS W A0 μ O H σ S) (r : Reps W (Av A0 μ O) μ H ds vs) (hz : ds.length ≤ sizeLine) (hp : H p = none) : Rep W (Av A0 μ O) μ (upd H p (.tup vs)) (.tup ds) (.ref p) := by
  simp only [Rep]
  exact ⟨p, vs, rfl, ⟨rs.fresh hp, upd_same⟩, hz, Reps.le (Le.same (upd_keep hp) fun _ h => h) _ _ r⟩
theorem de_tup {fs : List (M D)} {k : Nat} (h : PA X es (tDA W Wx (seqM fs))) (hz : fs.length ≤ 1000 := by decide) : PE X (.Tuple es k pos) (tD W Wx (tupE fs)) :=
  PE.imp (pe_tup h) fun σ H Q h => tG_mono (seq_imp h) fun vs H1 ⟨A0, μ1, O, S1, ds, rs1, r1, hl, p1⟩ => by
    have hz' : ds.length ≤ sizeLine := by rw [hl]; exact small_le hz
    refine ⟨by rw [reps_length r1]; exact hz', fun p hp => ?_⟩
    exact p1 _ _ _ (Step.same (upd_keep hp)) (rs1.same (upd_keep hp)) (rep_tup_new rs1 r1 hz' hp)
theorem PostF.step {r : Res D} {Q : VK} (st : Step (Ch μ O) μ μ1 H H1) (h : PostF W Wx A0 μ O H σ r Q) : PostF W Wx A0 μ1 O H1 σ r Q := by
  cases r with
  | ok d S' => exact fun a H' μ' st' n => h a H' μ' (st.ch st') (st.alive a n)
  | exn c p S' => exact ExnP.step st h
  | stuck => exact h
theorem tF_bind {α β : Type} {rl : Rl β α} {f : M α} {k : α → M D} {Q : VK} (h : tF W Wx (M.bnd f k) σ H Q) :
    tG W Wx rl f σ H (fun v H1 => ∃ A0 μ1 O S1 a, RepS W A0 μ1 O H1 σ S1 ∧ rl A0 O μ1 H1 a v ∧ PostF W Wx A0 μ1 O H1 σ (k a S1) Q) := by
  obtain ⟨A0, μ, O, S, rs, p⟩ := h
  refine ⟨A0, μ, O, S, rs, ?_⟩
  unfold M.bnd at p
  cases e : f S with
  | ok a S1 =>
    rw [e] at p
    exact fun v H1 μ1 st rs1 r1 => ⟨A0, μ1, O, S1, a, rs1, r1, PostF.step st p⟩
  | exn c q S1 => rw [e] at p; exact p
  | stuck => rw [e] at p; exact p
theorem tF_bindK {α β : Type} {rl : Rl β α} {f : M α} {k : α → M D} {Q : VK} {P : List Addr → Hp → Prop} (kp : Keeps W A0 O σ P) (rs : RepS W A0 μ O H σ S) (hp : P μ H) (p : PostF W Wx A0 μ O H σ ((M.bnd f k) S) Q) :
    tG W Wx rl f σ H (fun v H1 => ∃ μ1 S1 a, RepS W A0 μ1 O H1 σ S1 ∧ P μ1 H1 ∧ rl A0 O μ1 H1 a v ∧ PostF W Wx A0 μ1 O H1 σ (k a S1) Q) := by
  refine ⟨A0, μ, O, S, rs, ?_⟩
  unfold M.bnd at p
  cases e : f S with
  | ok a S1 =>
    rw [e] at p
    exact fun v H1 μ1 st rs1 r1 => ⟨μ1, S1, a, rs1, kp _ _ _ _ _ rs st hp, r1, PostF.step st p⟩
  | exn c q S1 => rw [e] at p; exact p
  | stuck => rw [e] at p; exact p
/-- a new list of known data is laid -/
theorem lay_lst {p : Addr} {ds : List D} {vs : List V} {Q : VK} (rs : RepS W A0 μ O H σ S) (r : Reps W (Av A0 μ O) μ H ds vs) (hz : ds.length ≤ sizeLine) (hp : H p = none) (q : PostF W Wx A0 μ O H σ (M.ret (.lst ds) S) Q) : Q (.ref p) (upd H p (.lst vs)) := by
  obtain ⟨n, rs', ow⟩ := fresh_own (o := .lst vs) (d := .lst ds) rs hp fun A hA => ⟨vs, upd_same, hz, Reps.le ⟨fun _ _ h => h, fun a u h n _ => ⟨upd_keep hp a u h, hA a u h n⟩⟩ _ _ r⟩
  exact q p _ μ (Step.same (upd_keep hp)) hp n rs' ow
theorem df_lst {fs : List (M D)} (h : PA X es (tDA W Wx (seqM fs))) (hz : fs.length ≤ 1000 := by decide) : PE X (.List es pos) (tF W Wx (lstE fs)) :=
  PE.imp (pe_lst h) fun σ H Q h => by
    obtain ⟨A0, μ, O, S, rs, p⟩ := h
    refine ⟨A0, μ, O, S, rs, ?_⟩
    unfold lstE M.bnd at p
    cases e : seqM fs S with
    | ok ds S1 =>
      rw [e] at p
      intro vs H1 μ1 st rs1 r1
      have hz' : ds.length ≤ sizeLine := by rw [seqM_length e]; exact small_le hz
      exact ⟨by rw [reps_length r1]; exact hz', fun q hq => lay_lst rs1 r1 hz' hq (PostF.step st p)⟩
    | exn c q S1 => rw [e] at p; exact p
    | stuck => rw [e] at p; exact p
end
end DL
end
section
set_option Elab.async false
set_option linter.all false
set_option maxRecDepth 100000
namespace DL
open PySem PySem.Spec L2

inductive Fl where | nx | bk | ct | rt (d : D)
structure StepS (μ : List Addr) (O : Nat → Option Addr) (μ' : List Addr) (O' : Nat → Option Addr) (H H' : Hp) : Prop where
  st : Step (Ch μ O) μ μ' H H'
  on : ∀ i a, O' i = some a → (∃ j, O j = some a) ∨ H a = none
theorem StepS.refl (μ : List Addr) (O : Nat → Option Addr) (H : Hp) : StepS μ O μ O H H := ⟨Step.refl _ _ _, fun i a h => .inl ⟨i, h⟩⟩
theorem StepS.of {μ μ' : List Addr} {O : Nat → Option Addr} {H H' : Hp} (st : Step (Ch μ O) μ μ' H H') : StepS μ O μ' O H H' := ⟨st, fun i a h => .inl ⟨i, h⟩⟩
theorem StepS.trans {μ μ1 μ2 : List Addr} {O O1 O2 : Nat → Option Addr} {H H1 H2 : Hp} (a : StepS μ O μ1 O1 H H1) (b : StepS μ1 O1 μ2 O2 H1 H2) : StepS μ O μ2 O2 H H2 := by
  refine ⟨a.st.trans b.st fun x z => ?_, fun i x h => ?_⟩
  · rcases z with z | ⟨i, z⟩
    · by_cases h : x ∈ μ
      · exact .inl (.inl h)
      · exact .inr (a.st.new x z h)
    · rcases a.on i x z with h | h
      · exact .inl (.inr h)
      · exact .inr h
  · rcases b.on i x h with ⟨j, h⟩ | h
    · exact a.on j x h
    · exact .inr (a.st.alive x h)
section
variable {W : Wd} {Wx : WX} {X : Cx} {A0 A1 : Addr → Prop} {μ μ1 μ' : List Addr} {O O1 O' : Nat → Option Addr} {H H1 H' : Hp} {σ σ' : St} {S S' : Stt}
theorem StepS.le (st : StepS μ O μ' O' H H') : Le (Av A0 μ O) (Av A0 μ' O') μ μ' H H' := by
  refine ⟨fun l a h => ?_, fun a o h n t => ⟨st.st.keep a o h (fun z => n (.inr z)) t, fun z => ?_⟩⟩
  · obtain ⟨r, e⟩ := st.st.ext
    rw [e, List.getElem?_append_left (List.getElem?_eq_some_iff.mp h).1]
    exact h
  · rcases z with z | z | ⟨i, z⟩
    · exact n (.inl z)
    · by_cases q : a ∈ μ
      · exact n (.inr (.inl q))
      · rw [st.st.new a z q] at h; cases h
    · rcases st.on i a z with q | q
      · exact n (.inr (.inr q))
      · rw [q] at h; cases h
abbrev FK := Fl → List Addr → (Nat → Option Addr) → St → Hp → Stt → Prop
def ExnS (W : Wd) (Wx : WX) (A0 : Addr → Prop) (μ : List Addr) (O : Nat → Option Addr) (H : Hp) (c : Nat) (p : Option (List Str × List D)) (S' : Stt) : Prop := match p with
  | none => ∀ σ' H' μ' O', StepS μ O μ' O' H H' → RepS W A0 μ' O' H' σ' S' → Wx (W.ecls c) none σ' H'
  | some (fs, ds) => ∀ σ' H' μ' O' dd xs, StepS μ O μ' O' H H' → RepS W A0 μ' O' H' σ' S' → fs.length = xs.length → H' dd = some (.xd (fs.zip xs)) → Reps W (Av A0 μ' O') μ' H' ds xs → Wx (W.ecls c) (some dd) σ' H'
def PostS (W : Wd) (Wx : WX) (A0 : Addr → Prop) (μ : List Addr) (O : Nat → Option Addr) (H : Hp) (r : Res Fl) (F : FK) : Prop := match r with
  | .ok fl S' => ∀ σ' H' μ' O', StepS μ O μ' O' H H' → RepS W A0 μ' O' H' σ' S' → F fl μ' O' σ' H' S'
  | .exn c p S' => ExnS W Wx A0 μ O H c p S'
  | .stuck => False
/-- the ends of a statement, told of data -/
def FD (W : Wd) (A0 : Addr → Prop) (D : Ends) : FK := fun fl μ' O' σ' H' _ => match fl with
  | .nx => D.nx σ' H'
  | .bk => D.bk σ' H'
  | .ct => D.ct σ' H'
  | .rt d => ∀ v, Rep W (fun a => A0 a ∨ a ∈ μ') μ' H' d v → D.rt v H'
def tS (W : Wd) (Wx : WX) (f : M Fl) : TS := fun D σ H => ∃ A0 μ O S, RepS W A0 μ O H σ S ∧ PostS W Wx A0 μ O H (f S) (FD W A0 D)
theorem ExnS.step {c : Nat} {p : Option (List Str × List D)} (st : StepS μ O μ1 O1 H H1) (h : ExnS W Wx A0 μ O H c p S') : ExnS W Wx A0 μ1 O1 H1 c p S' := by
  cases p with
  | none => exact fun σ' H' μ' O' st' => h σ' H' μ' O' (st.trans st')
  | some q => exact fun σ' H' μ' O' dd xs st' => h σ' H' μ' O' dd xs (st.trans st')
theorem ExnS.exnP {c : Nat} {p : Option (List Str × List D)} (h : ExnS W Wx A0 μ O H c p S') : ExnP W Wx A0 μ O H σ c p S' := by
  cases p with
  | none => exact fun H' μ' st' rs => h σ H' μ' O (.of st') rs
  | some q => exact fun H' μ' dd xs st' rs => h σ H' μ' O dd xs (.of st') rs
theorem PostS.step {r : Res Fl} {F : FK} (st : StepS μ O μ1 O1 H H1) (h : PostS W Wx A0 μ O H r F) : PostS W Wx A0 μ1 O1 H1 r F := by
  cases r with
  | ok d S' => exact fun σ' H' μ' O' st' => h σ' H' μ' O' (st.trans st')
  | exn c p S' => exact ExnS.step st h
  | stuck => exact h
theorem PostS.mono {r : Res Fl} {F F' : FK} (h : PostS W Wx A0 μ O H r F) (i : ∀ fl μ' O' σ' H' S', F fl μ' O' σ' H' S' → F' fl μ' O' σ' H' S') : PostS W Wx A0 μ O H r F' := by
  cases r with
  | ok d S' => exact fun σ' H' μ' O' st rs => i _ _ _ _ _ _ (h σ' H' μ' O' st rs)
  | exn c p S' => exact h
  | stuck => exact h
/-- like mono, what is known told -/
theorem PostS.mono' {r : Res Fl} {F F' : FK} (h : PostS W Wx A0 μ O H r F) (i : ∀ fl μ' O' σ' H' S', StepS μ O μ' O' H H' → RepS W A0 μ' O' H' σ' S' → F fl μ' O' σ' H' S' → F' fl μ' O' σ' H' S') : PostS W Wx A0 μ O H r F' := by
  cases r with
  | ok d S' => exact fun σ' H' μ' O' st rs => i _ _ _ _ _ _ st rs (h σ' H' μ' O' st rs)
  | exn c p S' => exact h
  | stuck => exact h
theorem PostS.bind {f : M Fl} {k : Fl → M Fl} {F : FK} (h : PostS W Wx A0 μ O H ((M.bnd f k) S) F) :
    PostS W Wx A0 μ O H (f S) (fun fl μ1 O1 σ1 H1 S1 => PostS W Wx A0 μ1 O1 H1 (k fl S1) F) := by
  unfold M.bnd at h
  cases e : f S with
  | ok a S1 =>
    rw [e] at h
    exact fun σ' H' μ' O' st rs => PostS.step st h
  | exn c q S1 => rw [e] at h; exact h
  | stuck => rw [e] at h; exact h
/-- an expression ahead of the rest of a statement -/
theorem PostS.bindE {α β : Type} {rl : Rl β α} {f : M α} {k : α → M Fl} {F : FK} (rs : RepS W A0 μ O H σ S) (h : PostS W Wx A0 μ O H ((M.bnd f k) S) F) :
    tG W Wx rl f σ H (fun v H1 => ∃ μ1 S1 a, Step (Ch μ O) μ μ1 H H1 ∧ RepS W A0 μ1 O H1 σ S1 ∧ rl A0 O μ1 H1 a v ∧ PostS W Wx A0 μ1 O H1 (k a S1) F) := by
  refine ⟨A0, μ, O, S, rs, ?_⟩
  unfold M.bnd at h
  cases e : f S with
  | ok a S1 =>
    rw [e] at h
    exact fun v H1 μ1 st rs1 r1 => ⟨μ1, S1, a, st, rs1, r1, PostS.step (.of st) h⟩
  | exn c q S1 => rw [e] at h; exact ExnS.exnP h
  | stuck => rw [e] at h; exact h
theorem PostS.ret {fl : Fl} {F : FK} (rs : RepS W A0 μ O H σ S) (h : PostS W Wx A0 μ O H (M.ret fl S) F) : F fl μ O σ H S := h σ H μ O (StepS.refl _ _ _) rs
end

/-! ### blocks and small statements -/
def skip : M Fl := M.ret .nx
def seqS (f g : M Fl) : M Fl := M.bnd f fun fl => match fl with
  | .nx => g
  | fl => M.ret fl
section
variable {W : Wd} {Wx : WX} {X : Cx} {st : Stmt} {rest : List Stmt} {f g : M Fl} {u : M D} {e : Expr} {pos : Pos}
theorem dss_nil : PSs X [] (tS W Wx skip) := PSs.imp pss_nil fun D σ H ⟨A0, μ, O, S, rs, p⟩ => PostS.ret rs p
theorem dss_one (h : PS X st (tS W Wx f)) : PSs X [st] (tS W Wx f) := pss_one h
theorem dss_cons (h1 : PS X st (tS W Wx f)) (h2 : PSs X rest (tS W Wx g)) : PSs X (st :: rest) (tS W Wx (seqS f g)) := PSs.imp (pss_cons h1 h2) fun D σ H ⟨A0, μ, O, S, rs, p⟩ => by
  refine ⟨A0, μ, O, S, rs, ?_⟩
  refine (PostS.bind p).mono' fun fl μ1 O1 σ1 H1 S1 st rs1 q => ?_
  cases fl with
  | nx => exact ⟨A0, μ1, O1, S1, rs1, q⟩
  | bk => exact PostS.ret (F := FD W A0 D) rs1 q
  | ct => exact PostS.ret (F := FD W A0 D) rs1 q
  | rt d => exact PostS.ret (F := FD W A0 D) rs1 q
theorem ds_pass : PS X (.Pass pos) (tS W Wx skip) := PS.imp ps_pass fun D σ H ⟨A0, μ, O, S, rs, p⟩ => PostS.ret rs p
theorem ds_break : PS X (.Break pos) (tS W Wx (M.ret .bk)) := PS.imp ps_break fun D σ H ⟨A0, μ, O, S, rs, p⟩ => PostS.ret (F := FD W A0 D) rs p
theorem ds_continue : PS X (.Continue pos) (tS W Wx (M.ret .ct)) := PS.imp ps_continue fun D σ H ⟨A0, μ, O, S, rs, p⟩ => PostS.ret (F := FD W A0 D) rs p
def exprS (u : M D) : M Fl := M.bnd u fun _ => M.ret .nx
theorem ds_expr (h : PE X e (tD W Wx u)) (hs : swapsWith e none pos.line X.env = pure false := by rfl) : PS X (.Expr e pos) (tS W Wx (exprS u)) := PS.imp (ps_expr h hs) fun D σ H ⟨A0, μ, O, S, rs, p⟩ =>
  tG_mono (PostS.bindE (rl := rlD W) rs p) fun v H1 ⟨μ1, S1, a, st, rs1, r1, q⟩ => PostS.ret (F := FD W A0 D) rs1 q
def retS (u : M D) : M Fl := M.bnd u fun d => M.ret (.rt d)
/-- a value given back: data, or what this frame owns -/
theorem ds_ret (h : PE X e (tR W Wx u)) : PS X (.Return (some e) pos) (tS W Wx (retS u)) := PS.imp (ps_ret h) fun D σ H ⟨A0, μ, O, S, rs, p⟩ =>
  tG_mono (PostS.bindE (rl := rlR W) rs p) fun v H1 ⟨μ1, S1, a, st, rs1, r1, q⟩ => by
    have z : ∀ v, Rep W (fun a => A0 a ∨ a ∈ μ1) μ1 H1 a v → D.rt v H1 := PostS.ret (F := FD W A0 D) rs1 q
    refine z v ?_
    have l : Le (Av A0 μ1 O) (fun a => A0 a ∨ a ∈ μ1) μ1 μ1 H1 H1 := Le.same (fun _ _ h => h) fun x z => z.imp id .inl
    rcases r1 with r1 | ⟨i, b, ho, e, ow⟩
    · exact Rep.le l _ _ r1
    · subst e
      exact Own.rep (ow.le l rfl) fun z => z.elim (rs1.otr i b ho).1 (rs1.otr i b ho).2.1
theorem ds_retN : PS X (.Return none pos) (tS W Wx (M.ret (.rt .non))) := PS.imp ps_retN fun D σ H ⟨A0, μ, O, S, rs, p⟩ => by
  have z : ∀ v, Rep W (fun a => A0 a ∨ a ∈ μ) μ H .non v → D.rt v H := PostS.ret (F := FD W A0 D) rs p
  exact z _ Sc.non.rep
theorem ds_if {c : Expr} {a b : List Stmt} {p : M Bool} (hc : PT X c (tDB W Wx p)) (ha : PSs X a (tS W Wx f)) (hb : PSs X b (tS W Wx g)) : PS X (.If c a b pos) (tS W Wx (ifV p f g)) := PS.imp (ps_if hc ha hb) fun D σ H ⟨A0, μ, O, S, rs, q⟩ =>
  tG_mono (PostS.bindE (rl := rlB) rs q) fun v H1 ⟨μ1, S1, x, st, rs1, r1, q⟩ => by
    have e : v = x := Eq.symm r1
    subst e
    cases v with
    | true => exact ⟨A0, μ1, O, S1, rs1, q⟩
    | false => exact ⟨A0, μ1, O, S1, rs1, q⟩
/-- code that is never come to -/
theorem ds_never : PS X st (tS W Wx M.fail) := PS.imp ps_never fun D σ H ⟨A0, μ, O, S, rs, p⟩ => p
theorem dss_never {sts : List Stmt} : PSs X sts (tS W Wx M.fail) := PSs.imp pss_never fun D σ H ⟨A0, μ, O, S, rs, p⟩ => p
end

/-! ### targets -/
/-- a store: no exception leaves it -/
abbrev MT := Stt → Option Stt
def PostT (W : Wd) (A0 : Addr → Prop) (μ : List Addr) (O : Nat → Option Addr) (H : Hp) (r : Option Stt) (Q : List Addr → St → Hp → Stt → Prop) : Prop := match r with
  | some S' => ∀ σ' H' μ', Step (Ch μ O) μ μ' H H' → RepS W A0 μ' O H' σ' S' → Q μ' σ' H' S'
  | none => False
/-- R: what a store does to the slots, at most -/
def tTr (W : Wd) (R : St → St → Prop) (f : D → MT) : TG := fun v σ H Q => ∃ A0 μ O S d, RepS W A0 μ O H σ S ∧ Rep W (Av A0 μ O) μ H d v ∧ PostT W A0 μ O H (f d S) (fun _ σ' H' _ => R σ σ' → Q σ' H')
abbrev RT : St → St → Prop := fun _ _ => True
abbrev tT (W : Wd) (f : D → MT) : TG := tTr W RT f
structure RR (R : St → St → Prop) : Prop where
  refl : ∀ a, R a a
  trans : ∀ a b c, R a b → R b c → R a c
theorem RR.T : RR RT := ⟨fun _ => trivial, fun _ _ _ _ _ => trivial⟩
def RW (vs : List Nat) : St → St → Prop := fun σ σ' => wipe σ' vs = wipe σ vs
theorem RR.W (vs : List Nat) : RR (RW vs) := ⟨fun _ => rfl, fun _ _ _ h1 h2 => Eq.trans h2 h1⟩
theorem wipe_get {σ : St} {j : Nat} : ∀ {vs : List Nat}, (wipe σ vs)[j]? = if j ∈ vs then (σ[j]?).map (fun _ => none) else σ[j]?
  | [] => by simp [wipe]
  | v :: vs => by
    unfold wipe
    have ih := @wipe_get σ j vs
    by_cases h : v = j
    · subst h
      rw [if_pos List.mem_cons_self]
      by_cases hl : v < σ.length
      · rw [List.getElem?_set_self (by rw [wipe_length]; exact hl), List.getElem?_eq_getElem hl]; rfl
      · rw [List.getElem?_eq_none (by simp [wipe_length]; omega), List.getElem?_eq_none (by omega)]; rfl
    · rw [List.getElem?_set_ne h, ih]
      have : (j ∈ v :: vs) ↔ j ∈ vs := by simp [Ne.symm h]
      by_cases h2 : j ∈ vs
      · rw [if_pos h2, if_pos (this.mpr h2)]
      · rw [if_neg h2, if_neg (fun z => h2 (this.mp z))]
theorem rw_set {vs : List Nat} {i : Nat} (h : i ∈ vs) (σ : St) (v : Option V) : RW vs σ (σ.set i v) := by
  refine List.ext_getElem? fun j => ?_
  rw [wipe_get, wipe_get]
  by_cases hj : j ∈ vs
  · rw [if_pos hj, if_pos hj]
    by_cases e : i = j
    · subst e
      by_cases hl : i < σ.length
      · rw [List.getElem?_set_self hl, List.getElem?_eq_getElem hl]; rfl
      · rw [List.getElem?_eq_none (by simpa using hl), List.getElem?_eq_none (by simpa using hl)]
    · rw [List.getElem?_set_ne e]
  · rw [if_neg hj, if_neg hj, List.getElem?_set_ne (fun e : i = j => hj (by rw [← e]; exact h))]
def setN (i : Nat) (d : D) : MT := fun S => some { S with sl := S.sl.set i (.d d) }
section
variable {W : Wd} {Wx : WX} {X : Cx} {A0 A1 : Addr → Prop} {μ μ1 μ' : List Addr} {O O1 O' : Nat → Option Addr} {H H1 H' : Hp} {σ σ' : St} {S S' : Stt} {pos : Pos}
theorem RepS.setd {i : Nat} {d : D} {v : V} (rs : RepS W A0 μ O H σ S) (r : Rep W (Av A0 μ O) μ H d v) : RepS W A0 μ O H (σ.set i (some v)) { S with sl := S.sl.set i (.d d) } := by
  refine ⟨fun j => ?_, rs.oinj, rs.otr, rs.obl, rs.obs, rs.nd, rs.atr, rs.tab, by simp [rs.len]⟩
  by_cases h : i = j
  · subst h
    show SlOk W (Av A0 μ O) μ O H i ((S.sl.set i (.d d))[i]?) ((σ.set i (some v))[i]?)
    by_cases hl : i < S.sl.length
    · rw [List.getElem?_set_self hl, List.getElem?_set_self (by rw [← rs.len]; exact hl)]
      exact ⟨v, rfl, r⟩
    · rw [List.getElem?_eq_none (by simpa using hl)]
      trivial
  · show SlOk W (Av A0 μ O) μ O H j ((S.sl.set i (.d d))[j]?) ((σ.set i (some v))[j]?)
    rw [List.getElem?_set_ne h, List.getElem?_set_ne h]
    exact rs.sl j
theorem dg_name {R : St → St → Prop} {i : Nat} {x : Str} (hN : X.N.Nodup) (hi : X.N[i]? = some x) (hx : Loc X.env.scope x) (hf : X.fn x = true ∨ X.env.scope.names.lookup x = some .local := by first | exact .inl rfl | exact .inr rfl | assumption)
    (hR : ∀ σ v, R σ (σ.set i (some v)) := by first | exact fun _ _ => True.intro | exact fun σ v => rw_set (by decide) σ (some v)) : PG X (.Name x pos) (tTr W R (setN i)) := by
  refine ⟨fun pins s σ H v u Q I r h => ?_⟩
  obtain ⟨A0, μ, O, S, d, rs, rd, p⟩ := h
  exact (pg_name hN hi hx hf).run pins s σ H v u Q I r (p _ _ _ (Step.refl _ _ _) (rs.setd rd) (hR _ _))
def tgs : List (D → MT) → List D → MT
  | [], [] => fun S => some S
  | t :: ts, d :: ds => fun S => (t d S).bind (tgs ts ds)
  | _, _ => fun _ => none
def tgT (ts : List (D → MT)) : D → MT
  | .tup ds => tgs ts ds
  | _ => fun _ => none
theorem tgs_length : ∀ {ts : List (D → MT)} {ds : List D} {S S' : Stt}, tgs ts ds S = some S' → ts.length = ds.length
  | [], [], _, _, _ => rfl
  | [], _ :: _, _, _, h => nomatch h
  | _ :: _, [], _, _, h => nomatch h
  | t :: ts, d :: ds, S, S', h => by
    have h : (t d S).bind (tgs ts ds) = some S' := h
    obtain ⟨S1, _, h2⟩ := Option.bind_eq_some_iff.mp h
    simp [tgs_length h2]
theorem PostT.bind {f : MT} {k : MT} {Q : List Addr → St → Hp → Stt → Prop} (h : PostT W A0 μ O H ((f S).bind k) Q) :
    PostT W A0 μ O H (f S) (fun μ1 σ1 H1 S1 => PostT W A0 μ1 O H1 (k S1) Q) := by
  cases e : f S with
  | some S1 =>
    rw [e] at h
    intro σ1 H1 μ1 st rs1
    have h : PostT W A0 μ O H (k S1) Q := h
    cases e2 : k S1 with
    | some S2 =>
      rw [e2] at h
      exact fun σ' H' μ' st' rs => h σ' H' μ' (st.ch st') rs
    | none => rw [e2] at h; exact h
  | none => rw [e] at h; exact h
theorem PostT.mono' {r : Option Stt} {Q Q' : List Addr → St → Hp → Stt → Prop} (h : PostT W A0 μ O H r Q) (i : ∀ μ' σ' H' S', Step (Ch μ O) μ μ' H H' → RepS W A0 μ' O H' σ' S' → Q μ' σ' H' S' → Q' μ' σ' H' S') : PostT W A0 μ O H r Q' := by
  cases r with
  | some S' => exact fun σ' H' μ' st rs => i _ _ _ _ st rs (h σ' H' μ' st rs)
  | none => exact h
def tTs (W : Wd) (R : St → St → Prop) (fs : List (D → MT)) : TGs := fun vs σ H Q => ∃ A0 μ O S ds, RepS W A0 μ O H σ S ∧ Reps W (Av A0 μ O) μ H ds vs ∧ PostT W A0 μ O H (tgs fs ds S) (fun _ σ' H' _ => R σ σ' → Q σ' H')
theorem dgs_nil {R : St → St → Prop} (hR : RR R := by first | exact RR.T | exact RR.W _) : PGs X [] (tTs W R []) := by
  refine ⟨fun pins s σ H vs us Q I r h => ?_⟩
  obtain ⟨A0, μ, O, S, ds, rs, rd, p⟩ := h
  cases ds with
  | nil =>
    simp only [Reps] at rd
    exact pgs_nil.run pins s σ H vs us Q I r ⟨rd, p _ _ _ (Step.refl _ _ _) rs (hR.refl _)⟩
  | cons d ds => exact p.elim
theorem dgs_cons {R : St → St → Prop} {e : Expr} {es : List Expr} {t : D → MT} {ts : List (D → MT)} (h1 : PG X e (tTr W R t)) (h2 : PGs X es (tTs W R ts))
    (hs : (assignEach (e :: es) X.env).map (·.2) = assign e X.env :: (assignEach es X.env).map (·.2) := by rfl) (hR : RR R := by first | exact RR.T | exact RR.W _) : PGs X (e :: es) (tTs W R (t :: ts)) := by
  refine ⟨fun pins s σ H vs us Q I r h => ?_⟩
  obtain ⟨A0, μ, O, S, ds, rs, rd, p⟩ := h
  cases ds with
  | nil => exact p.elim
  | cons d ds =>
    simp only [Reps] at rd
    obtain ⟨v, vs', e, r1, r2⟩ := rd
    subst e
    refine (pgs_cons h1 h2 hs).run pins s σ H _ us Q I r ⟨v, vs', rfl, A0, μ, O, S, d, rs, r1, ?_⟩
    exact (PostT.bind p).mono' fun μ1 σ1 H1 S1 st rs1 q z => ⟨A0, μ1, O, S1, ds, rs1, Reps.step r2 st rs, q.mono' fun _ _ _ _ _ _ q z' => q (hR.trans _ _ _ z z')⟩
theorem dg_tup {R : St → St → Prop} {es : List Expr} {k : Nat} {ts : List (D → MT)} (hK : X.K = W.K) (hc : X.calm = true) (h : PGs X es (tTs W R ts))
    (hn : (assignEach es X.env).length = ts.length := by rfl) (hst : (assignEach es X.env).findIdx? (·.1) = none := by rfl) : PG X (.Tuple es k pos) (tTr W R (tgT ts)) := by
  refine ⟨fun pins s σ H v u Q I r hw => ?_⟩
  obtain ⟨A0, μ, O, S, d, rs, rd, p⟩ := hw
  cases d with
  | tup ds =>
    obtain ⟨a, xs, e, h1, h2, h3⟩ := rep_tup rd
    refine (pg_tup hc h hn hst).run pins s σ H v u Q I r ⟨a, xs, e, by rw [hK]; exact h1, ?_, A0, μ, O, S, ds, rs, h3, p⟩
    rw [reps_length h3]
    have p : PostT W A0 μ O H (tgs ts ds S) (fun _ σ' H' _ => R σ σ' → Q σ' H') := p
    cases e : tgs ts ds S with
    | some S' => exact (tgs_length e).symm
    | none => rw [e] at p; exact p.elim
  | _ => exact p.elim
/-- target = value -/
def asgS (u : M D) (t : D → MT) : M Fl := M.bnd u fun d S => match t d S with
  | some S' => .ok .nx S'
  | none => .stuck
theorem ds_asg {tg e : Expr} {u : M D} {t : D → MT} (he : PE X e (tD W Wx u)) (hg : PG X tg (tT W t)) (hs : swapsWithSole [tg] e pos.line X.env = pure false := by rfl) (hw : swappedStores [tg] e X.env = pure none := by rfl)
    (h1 : (assignEach [tg] X.env).map (·.2) = [assign tg X.env] := by rfl) : PS X (.Assign [tg] e pos) (tS W Wx (asgS u t)) := PS.imp (ps_asg he hg hs hw h1) fun D σ H ⟨A0, μ, O, S, rs, p⟩ =>
  tG_mono (PostS.bindE (rl := rlD W) rs p) fun v H1 ⟨μ1, S1, d, st, rs1, r1, q⟩ => by
    refine ⟨A0, μ1, O, S1, d, rs1, r1, ?_⟩
    cases e : t d S1 with
    | some S2 =>
      rw [e] at q
      exact fun σ' H' μ' st' rs' _ => q σ' H' μ' O (.of st') rs'
    | none => rw [e] at q; exact q
end
end DL
end
section
set_option Elab.async false
set_option linter.all false
set_option maxRecDepth 100000
namespace DL
open PySem PySem.Spec L2

/-! ### what this frame owns -/
def updO (O : Nat → Option Addr) (i : Nat) (a : Addr) : Nat → Option Addr := fun j => if j = i then some a else O j
def setO (i : Nat) (u : M D) : M Fl := M.bnd u fun d S => .ok .nx { S with sl := S.sl.set i (.own d) }
section
variable {W : Wd} {Wx : WX} {X : Cx} {A0 A1 : Addr → Prop} {μ μ1 μ' : List Addr} {O O1 O' : Nat → Option Addr} {H H1 H' : Hp} {σ σ' : St} {S S' : Stt} {pos : Pos}
theorem RepS.seto {i : Nat} {d : D} {a : Addr} (rs : RepS W (plus A0 a) μ O H σ S) (na : ¬ Av A0 μ O a) (ow : Own W (Av (plus A0 a) μ O) μ H d a) :
    RepS W A0 μ (updO O i a) H (σ.set i (some (.ref a))) { S with sl := S.sl.set i (.own d) } := by
  have sub : ∀ x, Av A0 μ (updO O i a) x → Av (plus A0 a) μ O x := fun x z => by
    rcases z with z | z | ⟨j, z⟩
    · exact .inl (.inl z)
    · exact .inr (.inl z)
    · unfold updO at z
      split at z
      · cases z; exact .inl (.inr rfl)
      · exact .inr (.inr ⟨j, z⟩)
  have l : Le (Av (plus A0 a) μ O) (Av A0 μ (updO O i a)) μ μ H H := Le.same (fun _ _ h => h) sub
  refine ⟨fun j => ?_, fun j k b h1 h2 => ?_, fun j b h => ?_, rs.obl, fun k d a h1 h2 => (rs.obs k d a h1 h2).le l rfl, rs.nd, fun b h => rs.atr b (.inl h), rs.tab, by simp [rs.len]⟩
  · by_cases h : i = j
    · subst h
      show SlOk W _ μ _ H i ((S.sl.set i (.own d))[i]?) ((σ.set i (some (V.ref a)))[i]?)
      by_cases hl : i < S.sl.length
      · rw [List.getElem?_set_self hl, List.getElem?_set_self (by rw [← rs.len]; exact hl)]
        exact ⟨a, by unfold updO; rw [if_pos rfl], rfl, ow.le l rfl⟩
      · rw [List.getElem?_eq_none (by simpa using hl)]
        trivial
    · show SlOk W _ μ _ H j ((S.sl.set i (.own d))[j]?) ((σ.set i (some (V.ref a)))[j]?)
      rw [List.getElem?_set_ne h, List.getElem?_set_ne h]
      exact (rs.sl j).imp l fun b hb => ⟨by unfold updO; rw [if_neg (Ne.symm h)]; exact hb, fun _ => rfl⟩
  · unfold updO at h1 h2
    split at h1
    · cases h1
      split at h2
      · rename_i e1 e2; rw [e1, e2]
      · exact absurd (.inr (.inr ⟨k, h2⟩)) na
    · split at h2
      · cases h2
        exact absurd (.inr (.inr ⟨j, h1⟩)) na
      · exact rs.oinj j k b h1 h2
  · unfold updO at h
    split at h
    · cases h
      exact ⟨fun z => na (.inl z), fun z => na (.inr (.inl z)), rs.atr a (.inr rfl)⟩
    · obtain ⟨h1, h2, h3⟩ := rs.otr j b h
      exact ⟨fun z => h1 (.inl z), h2, h3⟩
theorem updO_on {i : Nat} {a : Addr} (h : H a = none) : ∀ j b, updO O i a j = some b → (∃ k, O k = some b) ∨ H b = none := fun j b z => by
  unfold updO at z
  split at z
  · cases z; exact .inr h
  · exact .inl ⟨j, z⟩
/-- x = a value just made, x a name that this frame changes -/
theorem ds_own {i : Nat} {x : Str} {e : Expr} {u : M D} {pos' : Pos} (hN : X.N.Nodup) (hi : X.N[i]? = some x) (hx : Loc X.env.scope x) (he : PE X e (tF W Wx u)) (hs : swapsWith e (some (.Name x pos')) pos.line X.env = pure false := by rfl)
    (hf : X.fn x = true ∨ X.env.scope.names.lookup x = some .local := by first | exact .inl rfl | exact .inr rfl | assumption) :
    PS X (.Assign [.Name x pos'] e pos) (tS W Wx (setO i u)) := PS.imp (ps_set hN hi hx he hs hf) fun D σ H ⟨A0, μ, O, S, rs, p⟩ => by
  refine ⟨A0, μ, O, S, rs, ?_⟩
  unfold setO M.bnd at p
  cases e : u S with
  | ok d S1 =>
    rw [e] at p
    exact fun a H' μ' st hn na rs' ow => p _ H' μ' (updO O i a) ⟨st, updO_on hn⟩ (rs'.seto na ow)
  | exn c q S1 => rw [e] at p; exact ExnS.exnP p
  | stuck => rw [e] at p; exact p
end

/-! ### while -/
def whileM : Nat → M Bool → M Fl → M Fl
  | 0, _, _ => M.fail
  | n + 1, c, b => M.bnd c fun t => if t = true then M.bnd b fun fl => (match fl with
      | .nx => whileM n c b
      | .ct => whileM n c b
      | .bk => M.ret .nx
      | .rt v => M.ret (.rt v)) else M.ret .nx
section
variable {W : Wd} {Wx : WX} {X : Cx} {pos : Pos}
theorem ds_while {n : Nat} {c : Expr} {body : List Stmt} {p : M Bool} {f : M Fl} (hp : PassesOwn (model X.prog X.w) X.A X.env X.xe) (hc : PT X c (tDB W Wx p)) (hb : PSs X body (tS W Wx f)) : PS X (.While c body [] pos) (tS W Wx (whileM n p f)) :=
  PS.imp (ps_while hp hc hb) fun D σ H h => by
    refine ⟨fun m σ H => ∃ A0 μ O S, RepS W A0 μ O H σ S ∧ PostS W Wx A0 μ O H (whileM m p f S) (FD W A0 D), ⟨n, h⟩, ?_⟩
    rintro m σ H ⟨A0, μ, O, S, rs, q⟩
    cases m with
    | zero => exact q.elim
    | succ m =>
      refine tG_mono (PostS.bindE (rl := rlB) rs q) fun v H1 ⟨μ1, S1, x, st, rs1, r1, q⟩ => ?_
      have e : v = x := Eq.symm r1
      subst e
      cases v with
      | true =>
        rw [if_pos rfl]
        refine ⟨fun σ' H' => ∃ A0 μ O S, RepS W A0 μ O H' σ' S ∧ PostS W Wx A0 μ O H' (whileM m p f S) (FD W A0 D), fun σ' H' z => ⟨m, Nat.lt_succ_self _, z⟩, A0, μ1, O, S1, rs1, ?_⟩
        refine (PostS.bind (f := f) q).mono' fun fl μ2 O2 σ2 H2 S2 st rs2 q => ?_
        cases fl with
        | nx => exact ⟨A0, μ2, O2, S2, rs2, q⟩
        | ct => exact ⟨A0, μ2, O2, S2, rs2, q⟩
        | bk => exact PostS.ret (F := FD W A0 D) rs2 q
        | rt d => exact PostS.ret (F := FD W A0 D) rs2 q
      | false =>
        rw [if_neg Bool.false_ne_true]
        exact PostS.ret (F := FD W A0 D) rs1 q
end

/-! ### what is walked -/
/-- the walked thing J gives the data ds one after another, from (μ0, O0, H0) on -/
def ItD (W : Wd) (A0 : Addr → Prop) (μ0 : List Addr) (O0 : Nat → Option Addr) (H0 : Hp) (J : It) (ds : List D) : Prop :=
  ∀ (A1 : Addr → Prop) (σ : St) (S : Stt) (μ : List Addr) (O : Nat → Option Addr) (H : Hp), (∀ a, A1 a → A0 a ∨ H0 a = none) → StepS μ0 O0 μ O H0 H → RepS W A1 μ O H σ S →
    (∀ i d, ds[i]? = some d → J.go i H ∧ ∀ x H', J.yld i H x H' → (∀ b o, H b = some o → H' b = some o) ∧ Rep W (Av A1 μ O) μ H' d x) ∧ J.stop ds.length H
/-- more addresses kept off -/
theorem StepS.le1 {A0 A1 : Addr → Prop} {μ μ' : List Addr} {O O' : Nat → Option Addr} {H H' : Hp} (st : StepS μ O μ' O' H H') (h : ∀ a, A1 a → A0 a ∨ H a = none) : Le (Av A0 μ O) (Av A1 μ' O') μ μ' H H' := by
  have l := st.le (A0 := A0)
  refine ⟨l.at_, fun a o e n t => ⟨(l.keep a o e n t).1, fun z => ?_⟩⟩
  rcases z with z | z
  · rcases h a z with q | q
    · exact n (.inl q)
    · rw [q] at e; cases e
  · exact (l.keep a o e n t).2 (.inr z)
def PostI (W : Wd) (Wx : WX) (A0 : Addr → Prop) (μ : List Addr) (O : Nat → Option Addr) (H : Hp) (σ : St) (r : Res (List D)) (R : It → Hp → Prop) : Prop := match r with
  | .ok ds S' => ∀ J H' μ', Step (Ch μ O) μ μ' H H' → RepS W A0 μ' O H' σ S' → ItD W A0 μ' O H' J ds → R J H'
  | .exn c p S' => ExnP W Wx A0 μ O H σ c p S'
  | .stuck => False
def tI (W : Wd) (Wx : WX) (f : M (List D)) : TI := fun σ H R => ∃ A0 μ O S, RepS W A0 μ O H σ S ∧ PostI W Wx A0 μ O H σ (f S) R
theorem PI.imp {X : Cx} {tg e : Expr} {t t' : TI} (h : PI X tg e t) (i : ∀ σ H R, t' σ H R → t σ H R) : PI X tg e t' := ⟨fun pins s σ H R I hq => h.run pins s σ H R I (i σ H R hq)⟩
def forM (t : D → MT) (b : M Fl) : List D → M Fl
  | [] => M.ret .nx
  | d :: ds => fun S => match t d S with
    | none => .stuck
    | some S1 => (M.bnd b fun fl => match fl with
      | .nx => forM t b ds
      | .ct => forM t b ds
      | .bk => M.ret .nx
      | .rt v => M.ret (.rt v)) S1
def forS (f : M (List D)) (t : D → MT) (b : M Fl) : M Fl := M.bnd f fun ds => forM t b ds
section
variable {W : Wd} {Wx : WX} {X : Cx} {A0 A1 : Addr → Prop} {μ μ1 μ' : List Addr} {O O1 O' : Nat → Option Addr} {H H1 H' : Hp} {σ σ' : St} {S S' : Stt} {pos : Pos}
theorem PostI.step {r : Res (List D)} {R : It → Hp → Prop} (st : Step (Ch μ O) μ μ1 H H1) (h : PostI W Wx A0 μ O H σ r R) : PostI W Wx A0 μ1 O H1 σ r R := by
  cases r with
  | ok d S' => exact fun J H' μ' st' => h J H' μ' (st.ch st')
  | exn c p S' => exact ExnP.step st h
  | stuck => exact h
/-- an iterable by a reading of what it walks -/
theorem tI_bind {α β : Type} {rl : Rl β α} {f : M α} {k : α → M (List D)} {R : It → Hp → Prop} (h : tI W Wx (M.bnd f k) σ H R) :
    tG W Wx rl f σ H (fun v H1 => ∃ A0 μ1 O S1 a, RepS W A0 μ1 O H1 σ S1 ∧ rl A0 O μ1 H1 a v ∧ PostI W Wx A0 μ1 O H1 σ (k a S1) R) := by
  obtain ⟨A0, μ, O, S, rs, p⟩ := h
  refine ⟨A0, μ, O, S, rs, ?_⟩
  unfold M.bnd at p
  cases e : f S with
  | ok a S1 =>
    rw [e] at p
    exact fun v H1 μ1 st rs1 r1 => ⟨A0, μ1, O, S1, a, rs1, r1, PostI.step st p⟩
  | exn c q S1 => rw [e] at p; exact p
  | stuck => rw [e] at p; exact p
theorem ds_for {tg iter : Expr} {body : List Stmt} {f : M (List D)} {t : D → MT} {b : M Fl} (hp : PassesOwn (model X.prog X.w) X.A X.env X.xe) (hc : X.calm = true) (hi : PI X tg iter (tI W Wx f)) (hg : PG X tg (tT W t)) (hb : PSs X body (tS W Wx b))
    (hs : ∀ x, foldedSetIterable iter X.env x = pure x := by intro _; rfl) : PS X (.For tg iter body [] pos) (tS W Wx (forS f t b)) :=
  PS.imp (ps_for hp hc hi hg hb hs) fun D σ H ⟨A0, μ, O, S, rs, p⟩ => by
    refine ⟨A0, μ, O, S, rs, ?_⟩
    unfold forS M.bnd at p
    cases e : f S with
    | exn c q S1 => rw [e] at p; exact ExnS.exnP p
    | stuck => rw [e] at p; exact p
    | ok ds S0 =>
      rw [e] at p
      intro J H0 μ0 st0 rs0 it
      have p0 : PostS W Wx A0 μ0 O H0 (forM t b ds S0) (FD W A0 D) := PostS.step (.of st0) p
      refine ⟨fun i m σ H => m = ds.length - i ∧ i ≤ ds.length ∧ ∃ μ O' S, StepS μ0 O μ O' H0 H ∧ RepS W A0 μ O' H σ S ∧ PostS W Wx A0 μ O' H (forM t b (ds.drop i) S) (FD W A0 D), ⟨ds.length, by simp, Nat.zero_le _, μ0, O, S0, StepS.refl _ _ _, rs0, by simpa using p0⟩, ?_⟩
      rintro i m σ H ⟨rfl, hi, μ, O', S, st, rs, p⟩
      obtain ⟨it1, it2⟩ := it A0 σ S μ O' H (fun _ z => .inl z) st rs
      by_cases hlt : i < ds.length
      · have hd : ds.drop i = ds[i] :: ds.drop (i + 1) := List.drop_eq_getElem_cons hlt
        rw [hd] at p
        obtain ⟨g1, g2⟩ := it1 i ds[i] (List.getElem?_eq_getElem hlt)
        refine .inr ⟨g1, fun σ' H' => ∃ μ O' S, StepS μ0 O μ O' H0 H' ∧ RepS W A0 μ O' H' σ' S ∧ PostS W Wx A0 μ O' H' (forM t b (ds.drop (i + 1)) S) (FD W A0 D), fun σ' H' z => ⟨ds.length - (i + 1), by omega, rfl, hlt, z⟩, fun x H' y => ?_⟩
        obtain ⟨e1, r⟩ := g2 x H' y
        have rs' := rs.same e1
        have p' : PostS W Wx A0 μ O' H' (forM t b (ds[i] :: ds.drop (i + 1)) S) (FD W A0 D) := PostS.step (.of (Step.same e1)) p
        refine ⟨A0, μ, O', S, ds[i], rs', r, ?_⟩
        unfold forM at p'
        cases e2 : t ds[i] S with
        | none => rw [e2] at p'; exact p'
        | some S2 =>
          rw [e2] at p'
          intro σ2 H2 μ2 st2 rs2 _
          refine ⟨A0, μ2, O', S2, rs2, ?_⟩
          refine (PostS.bind (f := b) (PostS.step (.of st2) p')).mono' fun fl μ3 O3 σ3 H3 S3 st3 rs3 q => ?_
          have sta : StepS μ0 O μ3 O3 H0 H3 := (st.trans (.of (Step.same e1))).trans ((StepS.of st2).trans st3)
          cases fl with
          | nx => exact ⟨μ3, O3, S3, sta, rs3, q⟩
          | ct => exact ⟨μ3, O3, S3, sta, rs3, q⟩
          | bk => exact PostS.ret (F := FD W A0 D) rs3 q
          | rt d => exact PostS.ret (F := FD W A0 D) rs3 q
      · have e : i = ds.length := by omega
        subst e
        rw [List.drop_length] at p
        exact .inl ⟨it2, PostS.ret (F := FD W A0 D) rs p⟩
end
end DL
end
section
set_option Elab.async false
set_option linter.all false
set_option maxRecDepth 100000
namespace DL
open PySem PySem.Spec L2

abbrev O0 : Nat → Option Addr := fun _ => none
abbrev Wd.withZ (W : Wd) (Z : Addr → Option V) : Wd := { W with Z := Z }
/-- a def: from data and objects to a datum and objects -/
abbrev Fn := List D → List D → Res D
/-- what a def's exceptions come to -/
abbrev wE (E : XK) : WX := fun cls d _ H => E cls d H
def spD (W : Wd) (F : Fn) : Sp := fun vs H Q E => ∃ Z A0 μ ds ob, RepS (W.withZ Z) A0 μ O0 H [] ⟨[], ob⟩ ∧ Reps (W.withZ Z) (Av A0 μ O0) μ H ds vs ∧ PostG (W.withZ Z) (wE E) (rlD (W.withZ Z)) A0 μ O0 H [] (F ds ob) Q

/-- the facts of a context -/
structure CtxOk (X : Cx) (W : Wd) (Wx : WX) (k : Nat) : Prop where
  K : X.K = W.K
  calm : X.calm = true
  nd : X.N.Nodup
  room : Room k X.A
  pass : PassesOwn (model X.prog X.w) X.A X.env X.xe
  takes : Takes X Wx
/-- a def of the module, called by its name -/
def GFn (P : Program) (w : World) (K : PySem.W.Frag) (mg : Str → Option Value) (base : Heap) (k : Nat) (x : Str) (ps : List Str) (W : Wd) (F : Fn) : Prop :=
  ∃ f fd, mg x = some (.ref f) ∧ PySem.W.keepIn K (.ref f) = true ∧ Binds K fd ps [] ∧ FnOk P w K mg base (L2.CX P w) k f fd ps (spD W F)
/-- behind a call -/
def after (S : Stt) : Res D → Res D
  | .ok d S' => .ok d { S with ob := S'.ob }
  | .exn c p S' => .exn c p { S with ob := S'.ob }
  | .stuck => .stuck
def callF (F : Fn) (ds : List D) : M D := fun S => after S (F ds S.ob)
def callE (F : Fn) (fs : List (M D)) : M D := M.bnd (seqM fs) (callF F)
section
variable {W : Wd} {Wx : WX} {X : Cx} {A0 A1 : Addr → Prop} {μ μ1 μ' : List Addr} {O O1 O' : Nat → Option Addr} {H H1 H' : Hp} {σ σ' : St} {S S' : Stt} {pos : Pos}
/-- a callee's view: the frame's own things are kept off -/
theorem RepS.enter (rs : RepS W A0 μ O H σ S) : RepS W (fun a => A0 a ∨ ∃ i, O i = some a) μ O0 H [] ⟨[], S.ob⟩ := by
  have sub : ∀ a, Av (fun a => A0 a ∨ ∃ i, O i = some a) μ O0 a → Av A0 μ O a := fun a z => by
    rcases z with (z | z) | z | ⟨i, z⟩
    · exact .inl z
    · exact .inr (.inr z)
    · exact .inr (.inl z)
    · cases z
  refine ⟨fun i => by simp [SlOk], fun i j a h => (nomatch h), fun i a h => (nomatch h), rs.obl, fun k d a h1 h2 => (rs.obs k d a h1 h2).le (Le.same (fun _ _ h => h) sub) rfl, rs.nd, fun a h => ?_, rs.tab, rfl⟩
  rcases h with h | ⟨i, h⟩
  · exact rs.atr a h
  · exact (rs.otr i a h).2.2
theorem av_enter {a : Addr} : Av (fun a => A0 a ∨ ∃ i, O i = some a) μ O0 a ↔ Av A0 μ O a := by
  constructor
  · intro z
    rcases z with (z | z) | z | ⟨i, z⟩
    · exact .inl z
    · exact .inr (.inr z)
    · exact .inr (.inl z)
    · cases z
  · intro z
    rcases z with z | z | z
    · exact .inl (.inl z)
    · exact .inr (.inl z)
    · exact .inl (.inr z)
theorem av_enter_eq : Av (fun a => A0 a ∨ ∃ i, O i = some a) μ O0 = Av A0 μ O := funext fun _ => propext av_enter
/-- the frame's own things stand while a callee ran -/
theorem RepS.leave (rs : RepS W A0 μ O H σ S) (st : Step (Ch μ O0) μ μ' H H') (rs' : RepS W (fun a => A0 a ∨ ∃ i, O i = some a) μ' O0 H' [] S') :
    Step (Ch μ O) μ μ' H H' ∧ RepS W A0 μ' O H' σ { S with ob := S'.ob } := by
  have ch0 : ∀ {a}, Ch μ O0 a → Ch μ O a := fun {a} z => by
    rcases z with z | ⟨i, z⟩
    · exact .inl z
    · cases z
  have nO : ∀ i a, O i = some a → ¬ Ch μ O0 a := fun i a h z => by
    rcases z with z | ⟨j, z⟩
    · exact (rs.otr i a h).2.1 z
    · cases z
  have st' : Step (Ch μ O) μ μ' H H' := ⟨st.ext, st.new, fun a o h n t => st.keep a o h (fun z => n (ch0 z)) t, st.alive⟩
  have l := st'.le rs
  refine ⟨st', { sl := fun i => ?_, oinj := rs.oinj, otr := fun i a h => ?_, obl := rs'.obl, obs := fun k d a h1 h2 => ?_, nd := rs'.nd, atr := fun a h => rs'.atr a (.inl h), tab := rs'.tab, len := rs.len }⟩
  · refine (rs.sl i).imp l fun a h => ⟨h, fun ⟨o, e, m⟩ => ?_⟩
    rw [e]
    exact st.keep a o e (nO i a h) fun ps z => by subst z; exact m
  · obtain ⟨h1, h2, h3⟩ := rs.otr i a h
    exact ⟨h1, fun z => h3.ne (st.new a z h2), rs'.atr a (.inr ⟨i, h⟩)⟩
  · have o := rs'.obs k d a h1 h2
    rw [av_enter_eq] at o
    exact o
theorem leave_rep {d : D} {v : V} (r : Rep W (Av (fun a => A0 a ∨ ∃ i, O i = some a) μ O0) μ H d v) : Rep W (Av A0 μ O) μ H d v := by rw [av_enter_eq] at r; exact r
theorem leave_reps {d : List D} {v : List V} (r : Reps W (Av (fun a => A0 a ∨ ∃ i, O i = some a) μ O0) μ H d v) : Reps W (Av A0 μ O) μ H d v := by rw [av_enter_eq] at r; exact r
/-- a promise met from within a frame -/
theorem spD_of {F : Fn} {ds : List D} {vs : List V} {Q : VK} (rs : RepS W A0 μ O H σ S) (r : Reps W (Av A0 μ O) μ H ds vs) (p : PostG W Wx (rlD W) A0 μ O H σ (callF F ds S) Q) : spD W F vs H Q (WE Wx σ) := by
  refine ⟨W.Z, fun a => A0 a ∨ ∃ i, O i = some a, μ, ds, S.ob, rs.enter, ?_, ?_⟩
  · show Reps W (Av (fun a => A0 a ∨ ∃ i, O i = some a) μ O0) μ H ds vs
    rw [av_enter_eq]
    exact r
  · show PostG W (wE (WE Wx σ)) (rlD W) (fun a => A0 a ∨ ∃ i, O i = some a) μ O0 H [] (F ds S.ob) Q
    unfold callF at p
    cases e : F ds S.ob with
    | ok d S' =>
      rw [e] at p
      intro v H' μ' st rs' r'
      obtain ⟨st1, rs1⟩ := rs.leave st rs'
      exact p v H' μ' st1 rs1 (leave_rep r')
    | exn c q S' =>
      rw [e] at p
      cases q with
      | none =>
        intro H' μ' st rs'
        obtain ⟨st1, rs1⟩ := rs.leave st rs'
        exact p H' μ' st1 rs1
      | some z =>
        intro H' μ' dd xs st rs' hl hd r'
        obtain ⟨st1, rs1⟩ := rs.leave st rs'
        exact p H' μ' dd xs st1 rs1 hl hd (leave_reps r')
    | stuck => rw [e] at p; exact p
/-- f(e, ..) -/
theorem de_call {x : Str} {ps : List Str} {F : Fn} {fs : List (M D)} {f : M D} {j k : Nat} {e : Expr} {es : List Expr} {p : Pos} (C : CtxOk X W Wx j) (G : GFn X.prog X.w X.K X.mg X.base k x ps W F) (hk : k ≤ j) (hg : Gl X x) (ha : PA X (e :: es) (tDA W Wx (seqM (f :: fs))))
    (hdb : (x == ("__debug__" : Str)) = false := by decide) (he : starEach (e :: es) X.env = (false, eval e X.env) :: starEach es X.env := by rfl) (hpl : (backTo pos (starEach es X.env)).any (·.1) = false := by rfl) :
    PE X (.Call (.Name x p) (e :: es) [] pos) (tD W Wx (callE F (f :: fs))) := by
  obtain ⟨g, fd, hm, hkp, hb, ok⟩ := G
  refine PE.imp (pe_callS (E := WE Wx) ok (C.room.mono hk) hg hm hkp hb (fun σ => passAt C.takes σ) ha hdb he hpl) fun σ H Q h => ?_
  refine tG_mono (tG_bind (rl := rlA W) h) fun vs H1 ⟨A0, μ1, O, S1, ds, rs1, r1, p1⟩ => ?_
  exact spD_of rs1 r1 p1
end

/-! ### a def by its body -/
/-- n: how many slots, m: how many parameters -/
def fnM (n m : Nat) (b : M Fl) : Fn := fun ds ob => if ds.length = m then (match b ⟨ds.map .d ++ List.replicate (n - m) .no, ob⟩ with
  | .ok (.rt d) S => .ok d ⟨[], S.ob⟩
  | .ok .nx S => .ok .non ⟨[], S.ob⟩
  | .ok _ _ => .stuck
  | .exn c p S => .exn c p ⟨[], S.ob⟩
  | .stuck => .stuck) else .stuck
section
variable {W : Wd} {Wx : WX} {A0 A1 : Addr → Prop} {μ μ1 μ' : List Addr} {O O1 O' : Nat → Option Addr} {H H1 H' : Hp} {σ σ' : St} {S S' : Stt}
theorem reps_get {A : Addr → Prop} : ∀ {ds : List D} {vs : List V} {i : Nat} {d : D}, Reps W A μ H ds vs → ds[i]? = some d → ∃ v, vs[i]? = some v ∧ Rep W A μ H d v
  | [], _, _, _, _, h => by simp at h
  | d :: ds, vs, 0, x, r, h => by
    simp only [Reps] at r
    obtain ⟨v, vs', e, r1, r2⟩ := r
    simp at h
    subst h; subst e
    exact ⟨v, rfl, r1⟩
  | d :: ds, vs, i + 1, x, r, h => by
    simp only [Reps] at r
    obtain ⟨v, vs', e, r1, r2⟩ := r
    subst e
    obtain ⟨w, h1, h2⟩ := reps_get (i := i) r2 (by simpa using h)
    exact ⟨w, by simpa using h1, h2⟩
theorem repS_start {N : List Str} {ds : List D} {vs : List V} {ob : List D} (rs : RepS W A0 μ O0 H [] ⟨[], ob⟩) (r : Reps W (Av A0 μ O0) μ H ds vs) :
    RepS W A0 μ O0 H (L2.start N vs) ⟨ds.map .d ++ List.replicate (N.length - ds.length) Sl.no, ob⟩ := by
  have hl := reps_length r
  refine ⟨fun i => ?_, rs.oinj, rs.otr, rs.obl, rs.obs, rs.nd, rs.atr, rs.tab, ?_⟩
  · show SlOk W (Av A0 μ O0) μ O0 H i ((ds.map .d ++ List.replicate (N.length - ds.length) Sl.no)[i]?) ((L2.start N vs)[i]?)
    by_cases h : i < ds.length
    · have e : (ds.map Sl.d ++ List.replicate (N.length - ds.length) Sl.no)[i]? = some (.d ds[i]) := by
        rw [List.getElem?_append_left (by simpa using h), List.getElem?_map, List.getElem?_eq_getElem h]
        rfl
      rw [e]
      obtain ⟨v, hv, rv⟩ := reps_get r (List.getElem?_eq_getElem h)
      refine ⟨v, ?_, rv⟩
      unfold L2.start
      rw [List.getElem?_append_left (by simp; omega), List.getElem?_map, hv]
      rfl
    · cases e : (ds.map Sl.d ++ List.replicate (N.length - ds.length) Sl.no)[i]? with
      | none => trivial
      | some x =>
        rw [List.getElem?_append_right (by simpa using h), List.getElem?_replicate] at e
        split at e
        · cases e; trivial
        · cases e
  · show (ds.map Sl.d ++ List.replicate (N.length - ds.length) Sl.no).length = (L2.start N vs).length
    unfold L2.start
    simp [hl]
theorem RepS.drop (rs : RepS W A0 μ O H σ S) : RepS W A0 μ O0 H [] ⟨[], S.ob⟩ := rs.enter.fewer fun _ h => .inl h
theorem av0 : Av A0 μ O0 = fun a => A0 a ∨ a ∈ μ := funext fun a => propext (by
  constructor
  · intro z
    rcases z with z | z | ⟨i, z⟩
    · exact .inl z
    · exact .inr z
    · cases z
  · intro z
    rcases z with z | z
    · exact .inl z
    · exact .inr (.inl z))
/-- THE RULE for a def -/
theorem fn_D {P : Program} {w : World} {K : PySem.W.Frag} {mg : Str → Option Value} {base : Heap} {x qual : Str} {st : Stmt} {f : Addr} {fd : FuncData} {N ps : List Str} {k : Nat} {b : M Fl} (hK : K = W.K) (F : Fun K x qual st f fd) (Sc : FnScope N ps (defScope st))
    (hb : ∀ (cdv : Value) (A : Around) (outer : List Env) (s : Shared) (H : Hp) (E : XK) (Z : Addr → Option V), CtxOk (cxOf (L2.CX P w) P w K mg base N qual (defScope st) f cdv A outer s H E) (W.withZ Z) (wE E) k →
      PSs (cxOf (L2.CX P w) P w K mg base N qual (defScope st) f cdv A outer s H E) (defBody st) (tS (W.withZ Z) (wE E) b)) :
    FnOk P w K mg base (L2.CX P w) (k + 1) f fd ps (spD W (fnM N.length ps.length b)) := by
  have hlen : ∀ vs H Q E, spD W (fnM N.length ps.length b) vs H Q E → vs.length = ps.length := fun vs H Q E h => by
    obtain ⟨Z, A0, μ, ds, ob, rs, r, p⟩ := h
    rw [reps_length r]
    unfold fnM at p
    by_cases e : ds.length = ps.length
    · exact e
    · rw [if_neg e] at p
      exact p.elim
  refine F.okX Sc hlen fun cdv A outer s H vs Q E hr h => ?_
  have hvl := hlen vs H Q E h
  obtain ⟨Z, A0, μ, ds, ob, rs, r, p⟩ := h
  refine ⟨_, hb cdv A outer s H E Z ⟨hK, rfl, Sc.nd, hr, passes_of rfl, takes_of rfl rfl rfl rfl⟩, A0, μ, O0, _, repS_start (N := N) rs r, ?_⟩
  have hdl : ds.length = ps.length := by rw [← reps_length r]; exact hvl
  unfold fnM at p
  rw [if_pos hdl, ← hdl] at p
  cases e : b ⟨ds.map .d ++ List.replicate (N.length - ds.length) Sl.no, ob⟩ with
  | ok fl S1 =>
    rw [e] at p
    intro σ' H' μ' O' st rs'
    have stp : Step (Ch μ O0) μ μ' H H' := st.st
    have av := av0 (A0 := A0) (μ := μ')
    cases fl with
    | rt d => exact fun v rv => p v H' μ' stp rs'.drop (by show Rep (W.withZ Z) (Av A0 μ' O0) μ' H' d v; rw [av]; exact rv)
    | nx => exact p .non H' μ' stp rs'.drop DL.Sc.non.rep
    | bk => exact p.elim
    | ct => exact p.elim
  | exn c q S1 =>
    rw [e] at p
    cases q with
    | none => exact fun σ' H' μ' O' st rs' => p H' μ' st.st rs'.drop
    | some z =>
      intro σ' H' μ' O' dd xs st rs' hl hd r'
      refine p H' μ' dd xs st.st rs'.drop hl hd (Reps.le (Le.same (fun _ _ h => h) fun a z => ?_) _ _ r')
      rcases z with z | z | ⟨i, z⟩
      · exact .inl z
      · exact .inr (.inl z)
      · cases z
  | stuck => rw [e] at p; exact p
end
end DL
end
section
set_option Elab.async false
set_option linter.all false
set_option maxRecDepth 100000
namespace DL
open PySem PySem.Spec L2

/-! ### equality -/
def zipEq (f : D → D → Option Bool) : List D → List D → Option Bool
  | [], [] => some true
  | x :: xs, y :: ys => (f x y).bind fun a => (zipEq f xs ys).map fun b => a && b
  | _, _ => some false
/-- == of plain data, nested at most n deep -/
def eqF : Nat → D → D → Option Bool
  | _, .non, .non => some true
  | _, .non, .bl _ => some false
  | _, .non, .int _ => some false
  | _, .non, .str _ => some false
  | _, .non, .tup _ => some false
  | _, .non, .lst _ => some false
  | _, .bl _, .non => some false
  | _, .bl a, .bl b => some (a == b)
  | _, .bl a, .int b => some ((if a then 1 else 0) == b)
  | _, .bl _, .str _ => some false
  | _, .bl _, .tup _ => some false
  | _, .bl _, .lst _ => some false
  | _, .int _, .non => some false
  | _, .int a, .bl b => some (a == (if b then 1 else 0))
  | _, .int a, .int b => some (a == b)
  | _, .int _, .str _ => some false
  | _, .int _, .tup _ => some false
  | _, .int _, .lst _ => some false
  | _, .str _, .non => some false
  | _, .str _, .bl _ => some false
  | _, .str _, .int _ => some false
  | _, .str a, .str b => some (a == b)
  | _, .str _, .tup _ => some false
  | _, .str _, .lst _ => some false
  | _, .tup _, .non => some false
  | _, .tup _, .bl _ => some false
  | _, .tup _, .int _ => some false
  | _, .tup _, .str _ => some false
  | _, .tup _, .lst _ => some false
  | _, .lst _, .non => some false
  | _, .lst _, .bl _ => some false
  | _, .lst _, .int _ => some false
  | _, .lst _, .str _ => some false
  | _, .lst _, .tup _ => some false
  | n + 1, .tup xs, .tup ys => zipEq (eqF n) xs ys
  | n + 1, .lst xs, .lst ys => zipEq (eqF n) xs ys
  | _, _, _ => none

theorem zipEq_len {f : D → D → Option Bool} : ∀ {xs ys : List D}, xs.length ≠ ys.length → ∀ {b}, zipEq f xs ys = some b → b = false
  | [], [], h, _, _ => absurd rfl h
  | x :: xs, y :: ys, h, b, e => by
    unfold zipEq at e
    obtain ⟨a, _, e⟩ := Option.bind_eq_some_iff.mp e
    obtain ⟨c, e1, e⟩ := Option.map_eq_some_iff.mp e
    have := zipEq_len (fun z => h (by simp [z])) e1
    subst this
    simpa using e.symm
  | [], y :: ys, _, b, e => by cases e; rfl
  | x :: xs, [], _, b, e => by cases e; rfl
theorem zipEq_refl {f : D → D → Option Bool} : ∀ {xs : List D} {b}, (∀ x ∈ xs, ∀ b, f x x = some b → b = true) → zipEq f xs xs = some b → b = true
  | [], b, _, e => by cases e; rfl
  | x :: xs, b, h, e => by
    unfold zipEq at e
    obtain ⟨a, e0, e⟩ := Option.bind_eq_some_iff.mp e
    obtain ⟨c, e1, e⟩ := Option.map_eq_some_iff.mp e
    rw [h x (by simp) a e0, zipEq_refl (fun y hy => h y (by simp [hy])) e1] at e
    exact e.symm
theorem eqF_refl : ∀ (n : Nat) (d : D) (b : Bool), eqF n d d = some b → b = true := by
  intro n
  induction n with
  | zero => intro d b h; cases d <;> simp [eqF] at h <;> exact h
  | succ n ih =>
    intro d b h
    cases d with
    | tup xs => exact zipEq_refl (fun x _ b h => ih x b h) h
    | lst xs => exact zipEq_refl (fun x _ b h => ih x b h) h
    | _ => simp [eqF] at h <;> exact h
/-- the places' answers -/
def pairAt (f : D → D → Option Bool) (xs ys : List D) (j : Nat) : Bool := (f (xs.getD j .non) (ys.getD j .non)).getD false
theorem zipEq_all {f : D → D → Option Bool} : ∀ {xs ys : List D} {b}, zipEq f xs ys = some b →
    ((List.range (min xs.length ys.length)).all (pairAt f xs ys) && xs.length == ys.length) = b ∧ ∀ (j : Nat) (h1 : j < xs.length) (h2 : j < ys.length), f xs[j] ys[j] = some (pairAt f xs ys j)
  | [], [], b, e => by cases e; exact ⟨rfl, fun j h => absurd h (Nat.not_lt_zero _)⟩
  | [], y :: ys, b, e => by cases e; exact ⟨by simp, fun j h => absurd h (Nat.not_lt_zero _)⟩
  | x :: xs, [], b, e => by cases e; exact ⟨by simp, fun j _ h => absurd h (Nat.not_lt_zero _)⟩
  | x :: xs, y :: ys, b, e => by
    unfold zipEq at e
    obtain ⟨a, e0, e⟩ := Option.bind_eq_some_iff.mp e
    obtain ⟨c, e1, e⟩ := Option.map_eq_some_iff.mp e
    obtain ⟨h1, h2⟩ := zipEq_all e1
    constructor
    · have m : min (x :: xs).length (y :: ys).length = min xs.length ys.length + 1 := by simp only [List.length_cons]; omega
      have p0 : pairAt f (x :: xs) (y :: ys) 0 = a := by simp [pairAt, e0]
      have ps : ∀ j, pairAt f (x :: xs) (y :: ys) (j + 1) = pairAt f xs ys j := fun j => by simp [pairAt]
      have l : ((x :: xs).length == (y :: ys).length) = (xs.length == ys.length) := by simp
      rw [m, List.range_succ_eq_map, List.all_cons, List.all_map, p0, l, Bool.and_assoc, ← e, ← h1]
      congr 2
    · intro j j1 j2
      cases j with
      | zero => simp [pairAt, e0]
      | succ j =>
        have := h2 j (by simpa using j1) (by simpa using j2)
        simpa [pairAt] using this
end DL
end
section
set_option Elab.async false
set_option linter.all false
set_option maxRecDepth 100000
namespace DL
open PySem PySem.Spec L2
section
variable {W : Wd} {Wx : WX} {X : Cx} {A A' : Addr → Prop} {μ μ' : List Addr} {O : Nat → Option Addr} {H : Hp} {σ : St} {s : Shared} {pins : List (Addr × Obj)}

/-- a list, a tuple as it stands -/
theorem lst_at (I : Inv X pins σ H s) {a : Addr} {ds : List D} {xs : List V} (h : Rd H a (.lst xs)) (r : Reps W A μ H ds xs) : ∃ its : List Value, Vals xs its ∧ s.heap.IsList a its.toArray ∧ its.length = ds.length := by
  obtain ⟨its, rv, pl, _⟩ := I.list (X := X) (.inl h)
  exact ⟨its, rv, pl.isList, by rw [← rv.length, reps_length r]⟩
theorem tup_at (I : Inv X pins σ H s) (hK : X.K = W.K) {a : Addr} {ds : List D} {xs : List V} (h : SqT W.K H a xs) (r : Reps W A μ H ds xs) : ∃ its : List Value, Vals xs its ∧ s.heap.IsTuple a its.toArray ∧ its.length = ds.length := by
  obtain ⟨its, rv, pl, _⟩ := I.tuple (X := X) (by rw [hK]; exact h)
  exact ⟨its, rv, pl, by rw [← rv.length, reps_length r]⟩
theorem rep_lst {ds : List D} {v : V} (h : Rep W A μ H (.lst ds) v) : ∃ a xs, v = .ref a ∧ Rd H a (.lst xs) ∧ ds.length ≤ sizeLine ∧ Reps W A μ H ds xs := by
  simp only [Rep] at h
  obtain ⟨a, xs, e, ⟨_, h1⟩, h2, h3⟩ := h
  exact ⟨a, xs, e, h1, h2, h3⟩
theorem not_both (I : Inv X pins σ H s) (hK : X.K = W.K) {a : Addr} {ds es : List D} {xs ys : List V} (h : SqT W.K H a xs) (r : Reps W A μ H ds xs) (h' : Rd H a (.lst ys)) (r' : Reps W A' μ' H es ys) : False := by
  obtain ⟨_, _, ⟨o, e1, c1, _⟩, _⟩ := tup_at I hK h r
  obtain ⟨_, _, ⟨o', e2, c2, _⟩, _⟩ := lst_at I h' r'
  rw [e1] at e2
  cases e2
  rw [c1] at c2
  injection c2 with z
  exact absurd z (by decide)
theorem pair_same {f : D → D → Option Bool} : ∀ {ds es : List D} {xs : List V} {us : List Value} {b}, Vals xs us → (∀ d e b x u, RelV x u → f d e = some b → Rep W A μ H d x → Rep W A' μ' H e x → b = true) → zipEq f ds es = some b → Reps W A μ H ds xs → Reps W A' μ' H es xs → b = true
  | [], [], _, _, _, _, _, e, _, _ => by cases e; rfl
  | [], y :: ys, xs, us, b, rv, hf, e, r, r' => by
    simp only [Reps] at r r'
    obtain ⟨v, vs, e1, _⟩ := r'
    rw [r] at e1; cases e1
  | x :: xs, [], _, us, b, rv, hf, e, r, r' => by
    simp only [Reps] at r r'
    obtain ⟨v, vs, e1, _⟩ := r
    rw [r'] at e1; cases e1
  | d :: ds, e :: es, xs, us, b, rv, hf, h, r, r' => by
    simp only [Reps] at r r'
    obtain ⟨v, vs, e1, r1, r2⟩ := r
    obtain ⟨v', vs', e1', r1', r2'⟩ := r'
    rw [e1] at e1'
    cases e1'
    subst e1
    cases rv with
    | cons rv0 rvs =>
    unfold zipEq at h
    obtain ⟨a, e0, h⟩ := Option.bind_eq_some_iff.mp h
    obtain ⟨c, e2, h⟩ := Option.map_eq_some_iff.mp h
    rw [hf d e a v _ rv0 e0 r1 r1', pair_same rvs hf e2 r2 r2'] at h
    exact h.symm
inductive Vw (s : Shared) : D → Value → Prop
  | non : Vw s .non .none
  | bl (b : Bool) : Vw s (.bl b) (.bool b)
  | int (i : Int) (t : Tok) : Vw s (.int i) (.int i t)
  | str (x : Str) (t : Tok) : Vw s (.str x) (.str x t)
  | tup {ds : List D} {a : Addr} {its : Array Value} : s.heap.IsTuple a its → Vw s (.tup ds) (.ref a)
  | lst {ds : List D} {a : Addr} {its : Array Value} : s.heap.IsList a its → Vw s (.lst ds) (.ref a)
  | oth {d : D} {v : Value} : (∀ n e, eqF n d e = none ∧ eqF n e d = none) → Vw s d v
theorem vw_of (I : Inv X pins σ H s) (hK : X.K = W.K) {d : D} {x : V} {u : Value} (r : Rep W A μ H d x) (ru : RelV x u) : Vw s d u := by
  cases d with
  | non => simp only [Rep] at r; subst r; cases ru; exact .non
  | bl b => simp only [Rep] at r; subst r; cases ru; exact .bl b
  | int i => simp only [Rep] at r; subst r; obtain ⟨t, rfl⟩ := ru; exact .int i t
  | str i => simp only [Rep] at r; subst r; obtain ⟨t, rfl⟩ := ru; exact .str i t
  | tup ds =>
    obtain ⟨_, _, e1, h1, _, q1⟩ := rep_tup r
    subst e1
    cases ru
    obtain ⟨_, _, pl, _⟩ := tup_at I hK h1 q1
    exact .tup pl
  | lst ds =>
    obtain ⟨_, _, e1, h1, _, q1⟩ := rep_lst r
    subst e1
    cases ru
    obtain ⟨_, _, pl, _⟩ := lst_at I h1 q1
    exact .lst pl
  | _ => exact .oth fun n e => by constructor <;> (cases n <;> cases e <;> rfl)
theorem rep_same (I : Inv X pins σ H s) (hK : X.K = W.K) : ∀ (n : Nat) (d e : D) (b : Bool) (x : V) (u : Value), RelV x u → eqF n d e = some b → Rep W A μ H d x → Rep W A' μ' H e x → b = true := by
  intro n
  have sc : ∀ (n : Nat) (d e : D) (b : Bool) (x : V) (u : Value), RelV x u → eqF n d e = some b → Rep W A μ H d x → Rep W A' μ' H e x → (∀ xs ys, d = .tup xs → e = .tup ys → b = true) → (∀ xs ys, d = .lst xs → e = .lst ys → b = true) → b = true := by
    intro n d e b x u ru h r r' ht hl
    have v1 := vw_of I hK r ru
    have v2 := vw_of I hK r' ru
    cases v1 with
    | oth z => rw [(z n e).1] at h; cases h
    | non => cases v2 with
      | non => simp only [eqF, Option.some.injEq] at h; exact h.symm
      | oth z => rw [(z n _).2] at h; cases h
    | bl => cases v2 with
      | bl => simp only [eqF, Option.some.injEq] at h; rw [← h]; simp
      | oth z => rw [(z n _).2] at h; cases h
    | int => cases v2 with
      | int => simp only [eqF, Option.some.injEq] at h; rw [← h]; simp
      | oth z => rw [(z n _).2] at h; cases h
    | str => cases v2 with
      | str => simp only [eqF, Option.some.injEq] at h; rw [← h]; simp
      | oth z => rw [(z n _).2] at h; cases h
    | tup p1 => cases v2 with
      | tup => exact ht _ _ rfl rfl
      | lst p2 =>
        obtain ⟨_, _, e1, h1, _, q1⟩ := rep_tup r
        obtain ⟨_, _, e2, h2, _, q2⟩ := rep_lst r'
        rw [e1] at e2; cases e2
        exact (not_both I hK h1 q1 h2 q2).elim
      | oth z => rw [(z n _).2] at h; cases h
    | lst p1 => cases v2 with
      | lst => exact hl _ _ rfl rfl
      | tup p2 =>
        obtain ⟨_, _, e1, h1, _, q1⟩ := rep_tup r'
        obtain ⟨_, _, e2, h2, _, q2⟩ := rep_lst r
        rw [e1] at e2; cases e2
        exact (not_both I hK h1 q1 h2 q2).elim
      | oth z => rw [(z n _).2] at h; cases h
  induction n with
  | zero =>
    intro d e b x u ru h r r'
    exact sc 0 d e b x u ru h r r' (fun xs ys e1 e2 => by subst e1; subst e2; simp [eqF] at h) (fun xs ys e1 e2 => by subst e1; subst e2; simp [eqF] at h)
  | succ n ih =>
    intro d e b x u ru h r r'
    have ih' : ∀ (d e : D) (b : Bool) (x : V), (∃ u, RelV x u) → eqF n d e = some b → Rep W A μ H d x → Rep W A' μ' H e x → b = true := fun d e b x ⟨u, ru⟩ => ih d e b x u ru
    refine sc _ d e b x u ru h r r' (fun xs ys e1 e2 => ?_) (fun xs ys e1 e2 => ?_)
    · subst e1; subst e2
      obtain ⟨_, _, e1, h1, _, q1⟩ := rep_tup r
      obtain ⟨_, _, e2, h2, _, q2⟩ := rep_tup r'
      rw [e1] at e2; cases e2
      have ex := I.tuple_inj (hK.symm ▸ h1) (hK.symm ▸ h2)
      rw [ex] at q1
      obtain ⟨its, rv, _, _⟩ := tup_at I hK h2 q2
      exact pair_same (f := eqF n) rv (fun d e b x u ru h => ih d e b x u ru h) (show zipEq (eqF n) _ _ = some b from h) q1 q2
    · subst e1; subst e2
      obtain ⟨_, _, e1, h1, _, q1⟩ := rep_lst r
      obtain ⟨_, _, e2, h2, _, q2⟩ := rep_lst r'
      rw [e1] at e2; cases e2
      have ex := I.list_inj (X := X) (.inl h1) (.inl h2)
      rw [ex] at q1
      obtain ⟨its, rv, _, _⟩ := lst_at I h2 q2
      exact pair_same (f := eqF n) rv (fun d e b x u ru h => ih d e b x u ru h) (show zipEq (eqF n) _ _ = some b from h) q1 q2
theorem pairs_at {f : D → D → Option Bool} {Ar : Around} (hf : ∀ d e b x y u v, f d e = some b → Rep W A μ H d x → Rep W A' μ' H e y → RelV x u → RelV y v → SeqAt.EqAt Ar s u v b)
    {ds es : List D} {xs ys : List V} {its jts : List Value} {b : Bool} (h : zipEq f ds es = some b) (r : Reps W A μ H ds xs) (r' : Reps W A' μ' H es ys) (rv : Vals xs its) (rv' : Vals ys jts) :
    ∀ (j : Nat) (h1 : j < its.toArray.size) (h2 : j < jts.toArray.size), SeqAt.EqAt Ar s its.toArray[j] jts.toArray[j] (pairAt f ds es j) := by
  intro j h1 h2
  have l1 : its.length = ds.length := by rw [← rv.length, reps_length r]
  have l2 : jts.length = es.length := by rw [← rv'.length, reps_length r']
  have j1 : j < ds.length := by simp at h1; omega
  have j2 : j < es.length := by simp at h2; omega
  obtain ⟨x, hx, rx⟩ := reps_get r (List.getElem?_eq_getElem j1)
  obtain ⟨y, hy, ry⟩ := reps_get r' (List.getElem?_eq_getElem j2)
  obtain ⟨u, hu, ru⟩ := rv.get hx
  obtain ⟨v, hv, rv2⟩ := rv'.get hy
  have e1 : its.toArray[j] = u := by
    have : its[j]? = some its[j] := List.getElem?_eq_getElem (by simpa using h1)
    rw [hu] at this
    simpa using (Option.some.inj this).symm
  have e2 : jts.toArray[j] = v := by
    have : jts[j]? = some jts[j] := List.getElem?_eq_getElem (by simpa using h2)
    rw [hv] at this
    simpa using (Option.some.inj this).symm
  rw [e1, e2]
  exact hf _ _ _ _ _ _ _ ((zipEq_all h).2 j j1 j2) rx ry ru rv2
/-- all pairs but two tuples, two lists -/
theorem eq_sc {Ar : Around} (hu : Ar.units < cLine) {n : Nat} {d e : D} {b : Bool} {u v : Value} (v1 : Vw s d u) (v2 : Vw s e v) (h : eqF n d e = some b) (ht : ∀ xs ys, d = .tup xs → e = .tup ys → SeqAt.EqAt Ar s u v b) (hl : ∀ xs ys, d = .lst xs → e = .lst ys → SeqAt.EqAt Ar s u v b) : SeqAt.EqAt Ar s u v b := by
  cases v1 with
  | oth z => rw [(z n e).1] at h; cases h
  | non => cases v2 with
    | oth z => rw [(z n _).2] at h; cases h
    | non => simp only [eqF, Option.some.injEq] at h; subst h; exact SeqAt.EqAt.same _
    | bl => simp only [eqF, Option.some.injEq] at h; subst h; exact SeqAt.EqAt.none_bool _
    | int => simp only [eqF, Option.some.injEq] at h; subst h; exact SeqAt.EqAt.none_int _ _
    | str => simp only [eqF, Option.some.injEq] at h; subst h; exact SeqAt.EqAt.none_str _ _
    | tup p => simp only [eqF, Option.some.injEq] at h; subst h; exact SeqAt.EqAt.none_tuple p hu
    | lst p => simp only [eqF, Option.some.injEq] at h; subst h; exact SeqAt.EqAt.none_list p hu
  | bl => cases v2 with
    | oth z => rw [(z n _).2] at h; cases h
    | non => simp only [eqF, Option.some.injEq] at h; subst h; exact SeqAt.EqAt.bool_none _
    | bl => simp only [eqF, Option.some.injEq] at h; subst h; exact SeqAt.EqAt.bool_bool _ _
    | int => simp only [eqF, Option.some.injEq] at h; subst h; exact SeqAt.EqAt.bool_int _ _ _
    | str => simp only [eqF, Option.some.injEq] at h; subst h; exact SeqAt.EqAt.bool_str _ _ _
    | tup p => simp only [eqF, Option.some.injEq] at h; subst h; exact SeqAt.EqAt.bool_tuple _ p hu
    | lst p => simp only [eqF, Option.some.injEq] at h; subst h; exact SeqAt.EqAt.bool_list _ p hu
  | int => cases v2 with
    | oth z => rw [(z n _).2] at h; cases h
    | non => simp only [eqF, Option.some.injEq] at h; subst h; exact SeqAt.EqAt.int_none _ _
    | bl => simp only [eqF, Option.some.injEq] at h; subst h; exact SeqAt.EqAt.int_bool _ _ _
    | int => simp only [eqF, Option.some.injEq] at h; subst h; exact SeqAt.EqAt.int_int _ _ _ _
    | str => simp only [eqF, Option.some.injEq] at h; subst h; exact SeqAt.EqAt.int_str _ _ _ _
    | tup p => simp only [eqF, Option.some.injEq] at h; subst h; exact SeqAt.EqAt.int_tuple _ _ p hu
    | lst p => simp only [eqF, Option.some.injEq] at h; subst h; exact SeqAt.EqAt.int_list _ _ p hu
  | str => cases v2 with
    | oth z => rw [(z n _).2] at h; cases h
    | non => simp only [eqF, Option.some.injEq] at h; subst h; exact SeqAt.EqAt.str_none _ _
    | bl => simp only [eqF, Option.some.injEq] at h; subst h; exact SeqAt.EqAt.str_bool _ _ _
    | int => simp only [eqF, Option.some.injEq] at h; subst h; exact SeqAt.EqAt.str_int _ _ _ _
    | str => simp only [eqF, Option.some.injEq] at h; subst h; exact SeqAt.EqAt.str_str _ _ _ _
    | tup p => simp only [eqF, Option.some.injEq] at h; subst h; exact SeqAt.EqAt.str_tuple _ _ p hu
    | lst p => simp only [eqF, Option.some.injEq] at h; subst h; exact SeqAt.EqAt.str_list _ _ p hu
  | tup q => cases v2 with
    | oth z => rw [(z n _).2] at h; cases h
    | non => simp only [eqF, Option.some.injEq] at h; subst h; exact SeqAt.EqAt.tuple_none q hu
    | bl => simp only [eqF, Option.some.injEq] at h; subst h; exact SeqAt.EqAt.tuple_bool _ q hu
    | int => simp only [eqF, Option.some.injEq] at h; subst h; exact SeqAt.EqAt.tuple_int _ _ q hu
    | str => simp only [eqF, Option.some.injEq] at h; subst h; exact SeqAt.EqAt.tuple_str _ _ q hu
    | tup p => exact ht _ _ rfl rfl
    | lst p => simp only [eqF, Option.some.injEq] at h; subst h; exact SeqAt.EqAt.tuple_list q p hu
  | lst q => cases v2 with
    | oth z => rw [(z n _).2] at h; cases h
    | non => simp only [eqF, Option.some.injEq] at h; subst h; exact SeqAt.EqAt.list_none q hu
    | bl => simp only [eqF, Option.some.injEq] at h; subst h; exact SeqAt.EqAt.list_bool _ q hu
    | int => simp only [eqF, Option.some.injEq] at h; subst h; exact SeqAt.EqAt.list_int _ _ q hu
    | str => simp only [eqF, Option.some.injEq] at h; subst h; exact SeqAt.EqAt.list_str _ _ q hu
    | tup p => simp only [eqF, Option.some.injEq] at h; subst h; exact SeqAt.EqAt.list_tuple q p hu
    | lst p => exact hl _ _ rfl rfl
theorem eqAt_D (I : Inv X pins σ H s) (hK : X.K = W.K) : ∀ (n : Nat) (Ar : Around), Ar.units + n < cLine → ∀ (d e : D) (b : Bool) (x y : V) (u v : Value), eqF n d e = some b → Rep W A μ H d x → Rep W A' μ' H e y → RelV x u → RelV y v → SeqAt.EqAt Ar s u v b := by
  intro n
  induction n with
  | zero =>
    intro Ar hu d e b x y u v h r r' ru rv
    exact eq_sc (by omega) (vw_of I hK r ru) (vw_of I hK r' rv) h (fun xs ys e1 e2 => by subst e1; subst e2; simp [eqF] at h) (fun xs ys e1 e2 => by subst e1; subst e2; simp [eqF] at h)
  | succ n ih =>
    intro Ar hu d e b x y u v h r r' ru rv
    have hin : Ar.in1.units + n < cLine := by show Ar.units + 1 + n < cLine; omega
    refine eq_sc (by omega) (vw_of I hK r ru) (vw_of I hK r' rv) h (fun xs ys e1 e2 => ?_) (fun xs ys e1 e2 => ?_)
    · subst e1; subst e2
      obtain ⟨a1, _, e1, h1, _, q1⟩ := rep_tup r
      obtain ⟨a2, _, e2, h2, _, q2⟩ := rep_tup r'
      obtain ⟨its, rv1, pl1, l1⟩ := tup_at I hK h1 q1
      obtain ⟨jts, rv2, pl2, l2⟩ := tup_at I hK h2 q2
      by_cases hll : a1 = a2
      · subst hll
        rw [e1] at ru; rw [e2] at rv
        rw [rep_same I hK (n + 1) _ _ b x u (by rw [e1]; exact ru) h r (by rw [e1, ← e2]; exact r')]
        cases ru; cases rv
        exact SeqAt.EqAt.same _
      · rw [e1] at ru; rw [e2] at rv
        cases ru; cases rv
        refine SeqAt.EqAt.of_refs hll ?_
        rw [← (zipEq_all (f := eqF n) h).1]
        have := SeqAt.RcAt.tuples pl1 pl2 (show Ar.units < cLine by omega) (pairs_at (ih Ar.in1 hin) h q1 q2 rv1 rv2)
        simpa [l1, l2] using this
    · subst e1; subst e2
      obtain ⟨a1, _, e1, h1, _, q1⟩ := rep_lst r
      obtain ⟨a2, _, e2, h2, _, q2⟩ := rep_lst r'
      obtain ⟨its, rv1, pl1, l1⟩ := lst_at I h1 q1
      obtain ⟨jts, rv2, pl2, l2⟩ := lst_at I h2 q2
      by_cases hll : a1 = a2
      · subst hll
        rw [e1] at ru; rw [e2] at rv
        rw [rep_same I hK (n + 1) _ _ b x u (by rw [e1]; exact ru) h r (by rw [e1, ← e2]; exact r')]
        cases ru; cases rv
        exact SeqAt.EqAt.same _
      · rw [e1] at ru; rw [e2] at rv
        cases ru; cases rv
        refine SeqAt.EqAt.of_refs hll ?_
        by_cases hz : xs.length = ys.length
        · rw [← (zipEq_all (f := eqF n) h).1]
          have := SeqAt.RcAt.lists pl1 pl2 (by simp; omega) (show Ar.units < cLine by omega) (pairs_at (ih Ar.in1 hin) h q1 q2 rv1 rv2)
          simpa [l1, hz] using this
        · rw [zipEq_len hz h]
          exact SeqAt.RcAt.lists_lengths pl1 pl2 (by simp; omega) (show Ar.units < cLine by omega)
end
end DL
end
section
set_option Elab.async false
set_option linter.all false
set_option maxRecDepth 100000
namespace DL
open PySem PySem.Spec L2
section
variable {W : Wd} {Wx : WX} {X : Cx} {A A' : Addr → Prop} {μ μ' : List Addr} {O : Nat → Option Addr} {H : Hp} {σ : St} {s : Shared} {pins : List (Addr × Obj)}
/-- all pairs but two tuples, two lists -/
theorem rc_sc {Ar : Around} (hu : Ar.units < cLine) {n : Nat} {d e : D} {b : Bool} {u v : Value} (v1 : Vw s d u) (v2 : Vw s e v) (h : eqF n d e = some b) (ht : ∀ xs ys, d = .tup xs → e = .tup ys → SeqAt.RcAt Ar s u v b) (hl : ∀ xs ys, d = .lst xs → e = .lst ys → SeqAt.RcAt Ar s u v b) : SeqAt.RcAt Ar s u v b := by
  cases v1 with
  | oth z => rw [(z n e).1] at h; cases h
  | non => cases v2 with
    | oth z => rw [(z n _).2] at h; cases h
    | non => simp only [eqF, Option.some.injEq] at h; subst h; exact SeqAt.RcAt.none_none
    | bl => simp only [eqF, Option.some.injEq] at h; subst h; exact SeqAt.RcAt.none_bool _
    | int => simp only [eqF, Option.some.injEq] at h; subst h; exact SeqAt.RcAt.none_int _ _
    | str => simp only [eqF, Option.some.injEq] at h; subst h; exact SeqAt.RcAt.none_str _ _
    | tup p => simp only [eqF, Option.some.injEq] at h; subst h; exact SeqAt.RcAt.none_tuple p hu
    | lst p => simp only [eqF, Option.some.injEq] at h; subst h; exact SeqAt.RcAt.none_list p hu
  | bl => cases v2 with
    | oth z => rw [(z n _).2] at h; cases h
    | non => simp only [eqF, Option.some.injEq] at h; subst h; exact SeqAt.RcAt.bool_none _
    | bl => simp only [eqF, Option.some.injEq] at h; subst h; exact SeqAt.RcAt.bool_bool _ _
    | int => simp only [eqF, Option.some.injEq] at h; subst h; exact SeqAt.RcAt.bool_int _ _ _
    | str => simp only [eqF, Option.some.injEq] at h; subst h; exact SeqAt.RcAt.bool_str _ _ _
    | tup p => simp only [eqF, Option.some.injEq] at h; subst h; exact SeqAt.RcAt.bool_tuple _ p hu
    | lst p => simp only [eqF, Option.some.injEq] at h; subst h; exact SeqAt.RcAt.bool_list _ p hu
  | int => cases v2 with
    | oth z => rw [(z n _).2] at h; cases h
    | non => simp only [eqF, Option.some.injEq] at h; subst h; exact SeqAt.RcAt.int_none _ _
    | bl => simp only [eqF, Option.some.injEq] at h; subst h; exact SeqAt.RcAt.int_bool _ _ _
    | int => simp only [eqF, Option.some.injEq] at h; subst h; exact SeqAt.RcAt.int_int _ _ _ _
    | str => simp only [eqF, Option.some.injEq] at h; subst h; exact SeqAt.RcAt.int_str _ _ _ _
    | tup p => simp only [eqF, Option.some.injEq] at h; subst h; exact SeqAt.RcAt.int_tuple _ _ p hu
    | lst p => simp only [eqF, Option.some.injEq] at h; subst h; exact SeqAt.RcAt.int_list _ _ p hu
  | str => cases v2 with
    | oth z => rw [(z n _).2] at h; cases h
    | non => simp only [eqF, Option.some.injEq] at h; subst h; exact SeqAt.RcAt.str_none _ _
    | bl => simp only [eqF, Option.some.injEq] at h; subst h; exact SeqAt.RcAt.str_bool _ _ _
    | int => simp only [eqF, Option.some.injEq] at h; subst h; exact SeqAt.RcAt.str_int _ _ _ _
    | str => simp only [eqF, Option.some.injEq] at h; subst h; exact SeqAt.RcAt.str_str _ _ _ _
    | tup p => simp only [eqF, Option.some.injEq] at h; subst h; exact SeqAt.RcAt.str_tuple _ _ p hu
    | lst p => simp only [eqF, Option.some.injEq] at h; subst h; exact SeqAt.RcAt.str_list _ _ p hu
  | tup q => cases v2 with
    | oth z => rw [(z n _).2] at h; cases h
    | non => simp only [eqF, Option.some.injEq] at h; subst h; exact SeqAt.RcAt.tuple_none q hu
    | bl => simp only [eqF, Option.some.injEq] at h; subst h; exact SeqAt.RcAt.tuple_bool _ q hu
    | int => simp only [eqF, Option.some.injEq] at h; subst h; exact SeqAt.RcAt.tuple_int _ _ q hu
    | str => simp only [eqF, Option.some.injEq] at h; subst h; exact SeqAt.RcAt.tuple_str _ _ q hu
    | tup p => exact ht _ _ rfl rfl
    | lst p => simp only [eqF, Option.some.injEq] at h; subst h; exact SeqAt.RcAt.tuple_list q p hu
  | lst q => cases v2 with
    | oth z => rw [(z n _).2] at h; cases h
    | non => simp only [eqF, Option.some.injEq] at h; subst h; exact SeqAt.RcAt.list_none q hu
    | bl => simp only [eqF, Option.some.injEq] at h; subst h; exact SeqAt.RcAt.list_bool _ q hu
    | int => simp only [eqF, Option.some.injEq] at h; subst h; exact SeqAt.RcAt.list_int _ _ q hu
    | str => simp only [eqF, Option.some.injEq] at h; subst h; exact SeqAt.RcAt.list_str _ _ q hu
    | tup p => simp only [eqF, Option.some.injEq] at h; subst h; exact SeqAt.RcAt.list_tuple q p hu
    | lst p => exact hl _ _ rfl rfl
/-- all pairs but two tuples, two lists -/
theorem ne_sc {Ar : Around} (hu : Ar.units < cLine) {n : Nat} {d e : D} {b : Bool} {u v : Value} (v1 : Vw s d u) (v2 : Vw s e v) (h : eqF n d e = some b) (ht : ∀ xs ys, d = .tup xs → e = .tup ys → SeqAt.RcNeAt Ar s u v (!b)) (hl : ∀ xs ys, d = .lst xs → e = .lst ys → SeqAt.RcNeAt Ar s u v (!b)) : SeqAt.RcNeAt Ar s u v (!b) := by
  cases v1 with
  | oth z => rw [(z n e).1] at h; cases h
  | non => cases v2 with
    | oth z => rw [(z n _).2] at h; cases h
    | non => simp only [eqF, Option.some.injEq] at h; subst h; exact SeqAt.RcNeAt.none_none
    | bl => simp only [eqF, Option.some.injEq] at h; subst h; exact SeqAt.RcNeAt.none_bool _
    | int => simp only [eqF, Option.some.injEq] at h; subst h; exact SeqAt.RcNeAt.none_int _ _
    | str => simp only [eqF, Option.some.injEq] at h; subst h; exact SeqAt.RcNeAt.none_str _ _
    | tup p => simp only [eqF, Option.some.injEq] at h; subst h; exact SeqAt.RcNeAt.none_tuple p hu
    | lst p => simp only [eqF, Option.some.injEq] at h; subst h; exact SeqAt.RcNeAt.none_list p hu
  | bl => cases v2 with
    | oth z => rw [(z n _).2] at h; cases h
    | non => simp only [eqF, Option.some.injEq] at h; subst h; exact SeqAt.RcNeAt.bool_none _
    | bl => simp only [eqF, Option.some.injEq] at h; subst h; exact SeqAt.RcNeAt.bool_bool _ _
    | int => simp only [eqF, Option.some.injEq] at h; subst h; exact SeqAt.RcNeAt.bool_int _ _ _
    | str => simp only [eqF, Option.some.injEq] at h; subst h; exact SeqAt.RcNeAt.bool_str _ _ _
    | tup p => simp only [eqF, Option.some.injEq] at h; subst h; exact SeqAt.RcNeAt.bool_tuple _ p hu
    | lst p => simp only [eqF, Option.some.injEq] at h; subst h; exact SeqAt.RcNeAt.bool_list _ p hu
  | int => cases v2 with
    | oth z => rw [(z n _).2] at h; cases h
    | non => simp only [eqF, Option.some.injEq] at h; subst h; exact SeqAt.RcNeAt.int_none _ _
    | bl => simp only [eqF, Option.some.injEq] at h; subst h; exact SeqAt.RcNeAt.int_bool _ _ _
    | int => simp only [eqF, Option.some.injEq] at h; subst h; exact SeqAt.RcNeAt.int_int _ _ _ _
    | str => simp only [eqF, Option.some.injEq] at h; subst h; exact SeqAt.RcNeAt.int_str _ _ _ _
    | tup p => simp only [eqF, Option.some.injEq] at h; subst h; exact SeqAt.RcNeAt.int_tuple _ _ p hu
    | lst p => simp only [eqF, Option.some.injEq] at h; subst h; exact SeqAt.RcNeAt.int_list _ _ p hu
  | str => cases v2 with
    | oth z => rw [(z n _).2] at h; cases h
    | non => simp only [eqF, Option.some.injEq] at h; subst h; exact SeqAt.RcNeAt.str_none _ _
    | bl => simp only [eqF, Option.some.injEq] at h; subst h; exact SeqAt.RcNeAt.str_bool _ _ _
    | int => simp only [eqF, Option.some.injEq] at h; subst h; exact SeqAt.RcNeAt.str_int _ _ _ _
    | str => simp only [eqF, Option.some.injEq] at h; subst h; exact SeqAt.RcNeAt.str_str _ _ _ _
    | tup p => simp only [eqF, Option.some.injEq] at h; subst h; exact SeqAt.RcNeAt.str_tuple _ _ p hu
    | lst p => simp only [eqF, Option.some.injEq] at h; subst h; exact SeqAt.RcNeAt.str_list _ _ p hu
  | tup q => cases v2 with
    | oth z => rw [(z n _).2] at h; cases h
    | non => simp only [eqF, Option.some.injEq] at h; subst h; exact SeqAt.RcNeAt.tuple_none q hu
    | bl => simp only [eqF, Option.some.injEq] at h; subst h; exact SeqAt.RcNeAt.tuple_bool _ q hu
    | int => simp only [eqF, Option.some.injEq] at h; subst h; exact SeqAt.RcNeAt.tuple_int _ _ q hu
    | str => simp only [eqF, Option.some.injEq] at h; subst h; exact SeqAt.RcNeAt.tuple_str _ _ q hu
    | tup p => exact ht _ _ rfl rfl
    | lst p => simp only [eqF, Option.some.injEq] at h; subst h; exact SeqAt.RcNeAt.tuple_list q p hu
  | lst q => cases v2 with
    | oth z => rw [(z n _).2] at h; cases h
    | non => simp only [eqF, Option.some.injEq] at h; subst h; exact SeqAt.RcNeAt.list_none q hu
    | bl => simp only [eqF, Option.some.injEq] at h; subst h; exact SeqAt.RcNeAt.list_bool _ q hu
    | int => simp only [eqF, Option.some.injEq] at h; subst h; exact SeqAt.RcNeAt.list_int _ _ q hu
    | str => simp only [eqF, Option.some.injEq] at h; subst h; exact SeqAt.RcNeAt.list_str _ _ q hu
    | tup p => simp only [eqF, Option.some.injEq] at h; subst h; exact SeqAt.RcNeAt.list_tuple q p hu
    | lst p => exact hl _ _ rfl rfl
theorem rcAt_D (I : Inv X pins σ H s) (hK : X.K = W.K) {n : Nat} {Ar : Around} (hu : Ar.units + n < cLine) {d e : D} {b : Bool} {x y : V} {u v : Value} (h : eqF n d e = some b) (r : Rep W A μ H d x) (r' : Rep W A' μ' H e y) (ru : RelV x u) (rv : RelV y v) : SeqAt.RcAt Ar s u v b := by
  refine rc_sc (by omega) (vw_of I hK r ru) (vw_of I hK r' rv) h (fun xs ys e1 e2 => ?_) (fun xs ys e1 e2 => ?_)
  · subst e1; subst e2
    cases n with
    | zero => simp [eqF] at h
    | succ n =>
      have hin : Ar.in1.units + n < cLine := by show Ar.units + 1 + n < cLine; omega
      obtain ⟨a1, _, e1, h1, _, q1⟩ := rep_tup r
      obtain ⟨a2, _, e2, h2, _, q2⟩ := rep_tup r'
      obtain ⟨its, rv1, pl1, l1⟩ := tup_at I hK h1 q1
      obtain ⟨jts, rv2, pl2, l2⟩ := tup_at I hK h2 q2
      rw [e1] at ru; rw [e2] at rv
      cases ru; cases rv
      rw [← (zipEq_all (f := eqF n) h).1]
      have := SeqAt.RcAt.tuples pl1 pl2 (show Ar.units < cLine by omega) (pairs_at (eqAt_D I hK n Ar.in1 hin) h q1 q2 rv1 rv2)
      simpa [l1, l2] using this
  · subst e1; subst e2
    cases n with
    | zero => simp [eqF] at h
    | succ n =>
      have hin : Ar.in1.units + n < cLine := by show Ar.units + 1 + n < cLine; omega
      obtain ⟨a1, _, e1, h1, _, q1⟩ := rep_lst r
      obtain ⟨a2, _, e2, h2, _, q2⟩ := rep_lst r'
      obtain ⟨its, rv1, pl1, l1⟩ := lst_at I h1 q1
      obtain ⟨jts, rv2, pl2, l2⟩ := lst_at I h2 q2
      rw [e1] at ru; rw [e2] at rv
      cases ru; cases rv
      by_cases hz : xs.length = ys.length
      · rw [← (zipEq_all (f := eqF n) h).1]
        have := SeqAt.RcAt.lists pl1 pl2 (by simp; omega) (show Ar.units < cLine by omega) (pairs_at (eqAt_D I hK n Ar.in1 hin) h q1 q2 rv1 rv2)
        simpa [l1, hz] using this
      · rw [zipEq_len hz h]
        exact SeqAt.RcAt.lists_lengths pl1 pl2 (by simp; omega) (show Ar.units < cLine by omega)
theorem neAt_D (I : Inv X pins σ H s) (hK : X.K = W.K) {n : Nat} {Ar : Around} (hu : Ar.units + n < cLine) {d e : D} {b : Bool} {x y : V} {u v : Value} (h : eqF n d e = some b) (r : Rep W A μ H d x) (r' : Rep W A' μ' H e y) (ru : RelV x u) (rv : RelV y v) : SeqAt.RcNeAt Ar s u v (!b) := by
  refine ne_sc (by omega) (vw_of I hK r ru) (vw_of I hK r' rv) h (fun xs ys e1 e2 => ?_) (fun xs ys e1 e2 => ?_)
  · subst e1; subst e2
    cases n with
    | zero => simp [eqF] at h
    | succ n =>
      have hin : Ar.in1.units + n < cLine := by show Ar.units + 1 + n < cLine; omega
      obtain ⟨a1, _, e1, h1, _, q1⟩ := rep_tup r
      obtain ⟨a2, _, e2, h2, _, q2⟩ := rep_tup r'
      obtain ⟨its, rv1, pl1, l1⟩ := tup_at I hK h1 q1
      obtain ⟨jts, rv2, pl2, l2⟩ := tup_at I hK h2 q2
      rw [e1] at ru; rw [e2] at rv
      cases ru; cases rv
      rw [← (zipEq_all (f := eqF n) h).1]
      have := SeqAt.RcNeAt.tuples pl1 pl2 (show Ar.units < cLine by omega) (pairs_at (eqAt_D I hK n Ar.in1 hin) h q1 q2 rv1 rv2)
      simpa [l1, l2] using this
  · subst e1; subst e2
    cases n with
    | zero => simp [eqF] at h
    | succ n =>
      have hin : Ar.in1.units + n < cLine := by show Ar.units + 1 + n < cLine; omega
      obtain ⟨a1, _, e1, h1, _, q1⟩ := rep_lst r
      obtain ⟨a2, _, e2, h2, _, q2⟩ := rep_lst r'
      obtain ⟨its, rv1, pl1, l1⟩ := lst_at I h1 q1
      obtain ⟨jts, rv2, pl2, l2⟩ := lst_at I h2 q2
      rw [e1] at ru; rw [e2] at rv
      cases ru; cases rv
      by_cases hz : xs.length = ys.length
      · rw [← (zipEq_all (f := eqF n) h).1]
        have := SeqAt.RcNeAt.lists pl1 pl2 (by simp; omega) (show Ar.units < cLine by omega) (pairs_at (eqAt_D I hK n Ar.in1 hin) h q1 q2 rv1 rv2)
        simpa [l1, hz] using this
      · rw [zipEq_len hz h]
        exact SeqAt.RcNeAt.lists_lengths pl1 pl2 (by simp; omega) (show Ar.units < cLine by omega)

/-- readable: data, seen another way -/
theorem rdb_rep {A0 : Addr → Prop} {d : D} {v : V} (h : Rdb W A0 O μ H d v) : ∃ A', Rep W A' μ H d v := by
  rcases h with h | ⟨i, a, _, e, ow⟩
  · exact ⟨_, h⟩
  · subst e
    exact ⟨fun x => Av A0 μ O x ∧ x ≠ a, Own.rep (ow.le (Le.same (fun _ _ h => h) fun x z => z.1) rfl) fun z => z.2 rfl⟩
def depthLine : Nat := 12
def eqM (x y : D) : M D := match eqF depthLine x y with
  | some b => M.ret (.bl b)
  | none => M.fail
def neM (x y : D) : M D := match eqF depthLine x y with
  | some b => M.ret (.bl (!b))
  | none => M.fail
theorem room12 {k : Nat} {Ar : Around} (r : Room k Ar) : Ar.units + depthLine + 20 < cLine := by have := r.units; unfold depthLine; omega
theorem post_bl {μ : List Addr} {A0 : Addr → Prop} {S : Stt} {b : Bool} {Q : VK} (I : Inv X pins σ H s) {σ' : St} (rs : RepS W A0 μ O H σ' S) (p : PostG W Wx (rlD W) A0 μ O H σ' (M.ret (.bl b) S) Q) : EP X pins σ Q (.bool b) s :=
  ⟨.bl b, H, I, rfl, tG_ret (rl := rlD W) rs p (Sc.bl b).rep⟩
theorem op_eqM {k : Nat} (C : CtxOk X W Wx k) : OpR X (compareOp .Eq) (rD W Wx eqM) := by
  intro pins s σ H x y v u Q I rx ry h
  obtain ⟨σ', A0, μ, O, S, dx, dy, rs, r1, r2, p⟩ := h
  obtain ⟨A', r2⟩ := rdb_rep r2
  unfold eqM at p
  cases e : eqF depthLine dx dy with
  | none => rw [e] at p; exact p.elim
  | some b =>
    rw [e] at p
    exact rcAt_D I C.K (by have := room12 C.room; omega) e r1 r2 rx ry X.prog X.w _ _ (post_bl I rs p)
theorem op_neM {k : Nat} (C : CtxOk X W Wx k) : OpR X (compareOp .NotEq) (rD W Wx neM) := by
  intro pins s σ H x y v u Q I rx ry h
  obtain ⟨σ', A0, μ, O, S, dx, dy, rs, r1, r2, p⟩ := h
  obtain ⟨A', r2⟩ := rdb_rep r2
  unfold neM at p
  cases e : eqF depthLine dx dy with
  | none => rw [e] at p; exact p.elim
  | some b =>
    rw [e] at p
    exact neAt_D I C.K (by have := room12 C.room; omega) e r1 r2 rx ry X.prog X.w _ _ (post_bl I rs p)
end
end DL
end
section
set_option Elab.async false
set_option linter.all false
set_option maxRecDepth 100000
namespace DL
open PySem PySem.Spec L2
section
variable {W : Wd} {Wx : WX} {X : Cx} {A A' A0 : Addr → Prop} {μ μ' : List Addr} {O : Nat → Option Addr} {H : Hp} {σ : St} {S : Stt} {s : Shared} {pins : List (Addr × Obj)}
/-! ### values of scalars -/
theorem rdb_int {i : Int} {v : V} (h : Rdb W A0 O μ H (.int i) v) : v = .int i := by
  rcases h with h | ⟨_, _, _, _, z⟩
  · simpa only [Rep] using h
  · exact z.elim
theorem rdb_str {x : Str} {v : V} (h : Rdb W A0 O μ H (.str x) v) : v = .str x := by
  rcases h with h | ⟨_, _, _, _, z⟩
  · simpa only [Rep] using h
  · exact z.elim
theorem rdb_non {v : V} (h : Rdb W A0 O μ H .non v) : v = .non := by
  rcases h with h | ⟨_, _, _, _, z⟩
  · simpa only [Rep] using h
  · exact z.elim
theorem rdb_bl {b : Bool} {v : V} (h : Rdb W A0 O μ H (.bl b) v) : v = .bl b := by
  rcases h with h | ⟨_, _, _, _, z⟩
  · simpa only [Rep] using h
  · exact z.elim
theorem rep_int {i : Int} {v : V} (h : Rep W A μ H (.int i) v) : v = .int i := by simpa only [Rep] using h
theorem rep_str {i : Str} {v : V} (h : Rep W A μ H (.str i) v) : v = .str i := by simpa only [Rep] using h
theorem q_sc {d : D} {v : V} {Q : VK} (rs : RepS W A0 μ O H σ S) (p : PostG W Wx (rlD W) A0 μ O H σ (M.ret d S) Q) (s : Sc v d) : Q v H := tG_ret (rl := rlD W) rs p s.rep
/-- an int operation under a condition on the numbers -/
def arI (c : Int → Int → Bool) (g : Int → Int → D) (x y : D) : M D := match x, y with
  | .int i, .int j => if c i j = true then M.ret (g i j) else M.fail
  | _, _ => M.fail
theorem op_arI {f : Value → Value → Sem Value} {C : Int → Int → Prop} {c : Int → Int → Bool} {g : Int → Int → V} {g' : Int → Int → D} (h : OpR X f (rI C g)) (hc : ∀ i j, c i j = true → C i j) (hg : ∀ i j, Sc (g i j) (g' i j)) : OpR X f (rD W Wx (arI c g')) := by
  rintro pins s σ H x y v u Q I rx ry ⟨σ', A0, μ, O, S, dx, dy, rs, r1, r2, p⟩
  cases dx with
  | int i =>
    cases dy with
    | int j =>
      have e1 := rep_int r1
      have e2 := rdb_int r2
      subst e1; subst e2
      have p : PostG W Wx (rlD W) A0 μ O H σ' ((if c i j = true then M.ret (g' i j) else M.fail) S) Q := p
      by_cases z : c i j = true
      · rw [if_pos z] at p
        exact h pins s σ H _ _ v u Q I rx ry ⟨i, j, rfl, rfl, hc i j z, q_sc rs p (hg i j)⟩
      · rw [if_neg z] at p
        exact p.elim
    | _ => exact p.elim
  | _ => cases dy <;> exact p.elim
theorem rI0_of {f : Value → Value → Sem Value} {g : Int → Int → V} (h : OpR X f (rI0 g)) : OpR X f (rI (fun _ _ => True) g) := fun pins s σ H x y v u Q I rx ry ⟨i, j, e1, e2, _, q⟩ => h pins s σ H x y v u Q I rx ry ⟨i, j, e1, e2, q⟩
def subM := arI (fun _ _ => true) fun i j => .int (i - j)
def mulM := arI (fun i j => decide (-(2 ^ 64) < i ∧ i < 2 ^ 64) || decide (-(2 ^ 64) < j ∧ j < 2 ^ 64)) fun i j => .int (i * j)
def fdivM := arI (fun _ j => decide (0 < j ∧ j < 1073741824)) fun i j => .int (i / j)
def modM := arI (fun _ j => decide (0 < j)) fun i j => .int (i % j)
def powM := arI (fun i j => decide (0 ≤ j ∧ j ≤ 1000000 ∧ i.natAbs < 2 ^ 64)) fun i j => .int (i ^ j.toNat)
def leM := arI (fun _ _ => true) fun i j => .bl (decide (i ≤ j))
def gtM := arI (fun _ _ => true) fun i j => .bl (decide (j < i))
def geM := arI (fun _ _ => true) fun i j => .bl (decide (j ≤ i))
theorem op_subM : OpR X (binaryOp .Sub) (rD W Wx subM) := op_arI (rI0_of op_sub) (fun _ _ _ => trivial) fun i j => .int _
theorem op_mulM : OpR X (binaryOp .Mult) (rD W Wx mulM) := op_arI op_mul (fun i j h => by
  simp only [Bool.or_eq_true, decide_eq_true_eq] at h
  exact h) fun i j => .int _
theorem op_fdivM : OpR X (binaryOp .FloorDiv) (rD W Wx fdivM) := op_arI op_fdiv (fun i j h => of_decide_eq_true (p := 0 < j ∧ j < 1073741824) h) fun i j => .int _
theorem op_modM : OpR X (binaryOp .Mod) (rD W Wx modM) := op_arI op_mod (fun i j h => of_decide_eq_true h) fun i j => .int _
theorem op_powM : OpR X (binaryOp .Pow) (rD W Wx powM) := op_arI op_pow (fun i j h => of_decide_eq_true (p := 0 ≤ j ∧ j ≤ 1000000 ∧ i.natAbs < 2 ^ 64) h) fun i j => .int _
theorem op_leM : OpR X (compareOp .LtE) (rD W Wx leM) := op_arI (rI0_of op_le) (fun _ _ _ => trivial) fun i j => .bl _
theorem op_gtM : OpR X (compareOp .Gt) (rD W Wx gtM) := op_arI (rI0_of op_gt) (fun _ _ _ => trivial) fun i j => .bl _
theorem op_geM : OpR X (compareOp .GtE) (rD W Wx geM) := op_arI (rI0_of op_ge) (fun _ _ _ => trivial) fun i j => .bl _

/-! ### the order of plain data: ints, texts, tuples of such -/
def ltS (x y : Str) : Bool := decide (x.cps.toList < y.cps.toList)
/-- the first unlike pair tells; all pairs have to be comparable -/
def lexF (eq lt : D → D → Option Bool) : List D → List D → Option Bool
  | [], [] => some false
  | [], _ :: _ => some true
  | _ :: _, [] => some false
  | x :: xs, y :: ys => (eq x y).bind fun e => (if e = true then some false else lt x y).bind fun r => (lexF eq lt xs ys).map fun t => if e = true then t else r
def ltF : Nat → D → D → Option Bool
  | _, .int i, .int j => some (decide (i < j))
  | _, .str i, .str j => some (ltS i j)
  | n + 1, .tup xs, .tup ys => lexF (eqF n) (ltF n) xs ys
  | _, _, _ => none

/-! ### + -/
def addM (x y : D) : M D := match x, y with
  | .int i, .int j => M.ret (.int (i + j))
  | .str i, .str j => if i.length + j.length ≤ 16777216 then M.ret (.str (i ++ j)) else M.fail
  | .lst a, .lst b => if a.length + b.length ≤ 16777216 then M.ret (.lst (a ++ b)) else M.fail
  | .tup a, .tup b => if a.length + b.length ≤ 16777216 then M.ret (.tup (a ++ b)) else M.fail
  | _, _ => M.fail
theorem reps_append {A : Addr → Prop} : ∀ {a b : List D} {xs ys : List V}, Reps W A μ H a xs → Reps W A μ H b ys → Reps W A μ H (a ++ b) (xs ++ ys)
  | [], b, xs, ys, h1, h2 => by
    simp only [Reps] at h1
    subst h1
    simpa using h2
  | d :: a, b, xs, ys, h1, h2 => by
    simp only [Reps] at h1
    obtain ⟨v, vs, e, r1, r2⟩ := h1
    subst e
    exact reps_cons r1 (reps_append r2 h2)
/-- what a readable list holds, as data -/
theorem rdb_list' (rs : RepS W A0 μ O H σ S) {ds : List D} {v : V} (h : Rdb W A0 O μ H (.lst ds) v) : ∃ a xs, v = .ref a ∧ Rd H a (.lst xs) ∧ ds.length ≤ sizeLine ∧ Reps W (Av A0 μ O) μ H ds xs := rdb_list h
theorem lay_lstD {p : Addr} {ds : List D} {vs : List V} {Q : VK} (rs : RepS W A0 μ O H σ S) (r : Reps W (Av A0 μ O) μ H ds vs) (hz : ds.length ≤ sizeLine) (hp : H p = none) (q : PostG W Wx (rlD W) A0 μ O H σ (M.ret (.lst ds) S) Q) : Q (.ref p) (upd H p (.lst vs)) := by
  refine q _ _ μ (Step.same (upd_keep hp)) (rs.same (upd_keep hp)) ?_
  show Rep W (Av A0 μ O) μ (upd H p (.lst vs)) (.lst ds) (.ref p)
  simp only [Rep]
  exact ⟨p, vs, rfl, ⟨rs.fresh hp, .inl upd_same⟩, hz, Reps.le (Le.same (upd_keep hp) fun _ h => h) _ _ r⟩
theorem lay_tupD {p : Addr} {ds : List D} {vs : List V} {Q : VK} (rs : RepS W A0 μ O H σ S) (r : Reps W (Av A0 μ O) μ H ds vs) (hz : ds.length ≤ sizeLine) (hp : H p = none) (q : PostG W Wx (rlD W) A0 μ O H σ (M.ret (.tup ds) S) Q) : Q (.ref p) (upd H p (.tup vs)) :=
  q _ _ μ (Step.same (upd_keep hp)) (rs.same (upd_keep hp)) (rep_tup_new rs r hz hp)
theorem op_cat2 : OpR X (binaryOp .Add) (fun x y H Q => ∃ l b xs zs, x = .ref l ∧ y = .ref b ∧ Rd H l (.lst xs) ∧ Rd H b (.lst zs) ∧ xs.length + zs.length ≤ sizeLine ∧ ∀ p, H p = none → Q (.ref p) (upd H p (.lst (xs ++ zs)))) := by
  rintro pins s σ H x y v u Q I rx ry ⟨l, b, xs, zs, rfl, rfl, h1, h2, hz, q⟩
  cases rx
  cases ry
  obtain ⟨z1, its, n, r, e⟩ := h1.ok I.hok
  obtain ⟨z2, jts, m, r2, e2⟩ := h2.ok I.hok
  have l1 := r.length
  have l2 := r2.length
  refine PySem.P.add_list e e2 ?_ (by simp only [List.size_toArray]; omega)
  rw [show its.toArray ++ jts.toArray = (its ++ jts).toArray from by simp]
  exact ⟨.ref s.heap.objs.size, _, I.lnew (t' := s.toks) (Vals.append r r2) (by simp; omega), rfl, q _ I.fresh⟩
theorem op_addM (hK : X.K = W.K) : OpR X (binaryOp .Add) (rD W Wx addM) := by
  rintro pins s σ H x y v u Q I rx ry ⟨σ', A0, μ, O, S, dx, dy, rs, r1, r2, p⟩
  cases dx with
  | int i =>
    cases dy with
    | int j =>
      have e1 := rep_int r1
      have e2 := rdb_int r2
      subst e1; subst e2
      exact op_add pins s σ H _ _ v u Q I rx ry ⟨i, j, rfl, rfl, q_sc rs p (.int _)⟩
    | _ => exact p.elim
  | str i =>
    cases dy with
    | str j =>
      have e1 := rep_str r1
      have e2 := rdb_str r2
      subst e1; subst e2
      have p : PostG W Wx (rlD W) A0 μ O H σ' ((if i.length + j.length ≤ 16777216 then M.ret (.str (i ++ j)) else M.fail) S) Q := p
      by_cases z : i.length + j.length ≤ 16777216
      · rw [if_pos z] at p
        exact op_add_str pins s σ H _ _ v u Q I rx ry ⟨i, j, rfl, rfl, by rw [sizeLine_eq]; exact z, q_sc rs p (.str _)⟩
      · rw [if_neg z] at p
        exact p.elim
    | _ => exact p.elim
  | lst a =>
    cases dy with
    | lst b =>
      obtain ⟨l, xs, e1, h1, _, q1⟩ := rep_lst r1
      obtain ⟨m, ys, e2, h2, _, q2⟩ := rdb_list r2
      subst e1; subst e2
      have p : PostG W Wx (rlD W) A0 μ O H σ' ((if a.length + b.length ≤ 16777216 then M.ret (.lst (a ++ b)) else M.fail) S) Q := p
      by_cases z : a.length + b.length ≤ 16777216
      · rw [if_pos z] at p
        have z' : (a ++ b).length ≤ sizeLine := by rw [sizeLine_eq]; simpa using z
        have q3 := reps_append q1 q2
        refine op_cat2 pins s σ H _ _ v u Q I rx ry ⟨l, m, xs, ys, rfl, rfl, h1, h2, ?_, fun pp hp => lay_lstD rs q3 z' hp p⟩
        rw [reps_length q1, reps_length q2, sizeLine_eq]
        exact z
      · rw [if_neg z] at p
        exact p.elim
    | _ => exact p.elim
  | tup a =>
    cases dy with
    | tup b =>
      obtain ⟨l, xs, e1, h1, _, q1⟩ := rep_tup r1
      obtain ⟨m, ys, e2, h2, _, q2⟩ := rdb_tup r2
      subst e1; subst e2
      have p : PostG W Wx (rlD W) A0 μ O H σ' ((if a.length + b.length ≤ 16777216 then M.ret (.tup (a ++ b)) else M.fail) S) Q := p
      by_cases z : a.length + b.length ≤ 16777216
      · rw [if_pos z] at p
        have z' : (a ++ b).length ≤ sizeLine := by rw [sizeLine_eq]; simpa using z
        have q3 := reps_append q1 q2
        refine op_catA pins s σ H _ _ v u Q I rx ry ⟨l, m, xs, ys, rfl, rfl, by rw [hK]; exact h1, by rw [hK]; exact h2, ?_, fun e => ?_, fun _ e => ?_, fun _ _ pp hp => lay_tupD rs q3 z' hp p⟩
        · rw [reps_length q1, reps_length q2, sizeLine_eq]
          exact z
        · subst e
          have ea : a = [] := by
            have := reps_length q1
            cases a with
            | nil => rfl
            | cons => simp at this
          subst ea
          have r2' : Rep W (Av A0 μ O) μ H (.tup b) (.ref m) := r2.elim id fun ⟨_, _, _, _, z⟩ => z.elim
          exact tG_ret (rl := rlD W) rs p r2'
        · subst e
          have eb : b = [] := by
            have := reps_length q2
            cases b with
            | nil => rfl
            | cons => simp at this
          subst eb
          rw [List.append_nil] at p
          exact tG_ret (rl := rlD W) rs p r1
      · rw [if_neg z] at p
        exact p.elim
    | _ => exact p.elim
  | _ => cases dy <;> exact p.elim
end
end DL
end
section
set_option Elab.async false
set_option linter.all false
set_option maxRecDepth 100000
namespace DL
open PySem PySem.Spec L2
section
variable {W : Wd} {Wx : WX} {X : Cx} {A A' A0 : Addr → Prop} {μ μ' : List Addr} {O : Nat → Option Addr} {H : Hp} {σ : St} {S : Stt} {s : Shared} {pins : List (Addr × Obj)}
/-! ### < -/
theorem lexF_at {eq lt : D → D → Option Bool} : ∀ {xs ys : List D} {b : Bool}, lexF eq lt xs ys = some b →
    ∃ e r : Nat → Bool, (∀ (j : Nat) (h1 : j < xs.length) (h2 : j < ys.length), eq xs[j] ys[j] = some (e j) ∧ (e j = false → lt xs[j] ys[j] = some (r j))) ∧
      ∀ (k : Nat), Ob.lexAt (fun j => e (j - k)) (fun j => r (j - k)) (decide (xs.length < ys.length)) k (min xs.length ys.length) = b
  | [], [], b, h => by cases h; exact ⟨fun _ => false, fun _ => false, fun j h => absurd h (Nat.not_lt_zero _), fun _ => rfl⟩
  | [], y :: ys, b, h => by cases h; exact ⟨fun _ => false, fun _ => false, fun j h => absurd h (Nat.not_lt_zero _), fun _ => by simp [Ob.lexAt_zero]⟩
  | x :: xs, [], b, h => by cases h; exact ⟨fun _ => false, fun _ => false, fun j _ h => absurd h (Nat.not_lt_zero _), fun _ => by simp [Ob.lexAt_zero]⟩
  | x :: xs, y :: ys, b, h => by
    unfold lexF at h
    obtain ⟨e0, h0, h⟩ := Option.bind_eq_some_iff.mp h
    obtain ⟨r0, h1, h⟩ := Option.bind_eq_some_iff.mp h
    obtain ⟨t, h2, h⟩ := Option.map_eq_some_iff.mp h
    obtain ⟨e, r, p, q⟩ := lexF_at h2
    refine ⟨fun j => if j = 0 then e0 else e (j - 1), fun j => if j = 0 then r0 else r (j - 1), fun j j1 j2 => ?_, fun k => ?_⟩
    · cases j with
      | zero =>
        refine ⟨by simpa using h0, fun z => ?_⟩
        have z : e0 = false := by simpa using z
        subst z
        simpa using h1
      | succ j =>
        have := p j (by simpa using j1) (by simpa using j2)
        simpa using this
    · have m : min (x :: xs).length (y :: ys).length = min xs.length ys.length + 1 := by simp only [List.length_cons]; omega
      have l : decide ((x :: xs).length < (y :: ys).length) = decide (xs.length < ys.length) := by simp
      rw [m, l, Ob.lexAt_succ, ← h]
      have shift : ∀ (z : Bool) (n i : Nat), k + 1 ≤ i → Ob.lexAt (fun j => (fun j => if j = 0 then e0 else e (j - 1)) (j - k)) (fun j => (fun j => if j = 0 then r0 else r (j - 1)) (j - k)) z i n = Ob.lexAt (fun j => e (j - (k + 1))) (fun j => r (j - (k + 1))) z i n := by
        intro z n
        induction n with
        | zero => intro i _; rfl
        | succ n ih =>
          intro i hi
          rw [Ob.lexAt_succ, Ob.lexAt_succ, ih (i + 1) (by omega)]
          have : i - k ≠ 0 := by omega
          have e2 : i - k - 1 = i - (k + 1) := by omega
          simp only [this, if_false, e2]
      rw [shift _ _ _ (Nat.le_refl _), q (k + 1)]
      simp
theorem ltAt_D (I : Inv X pins σ H s) (hK : X.K = W.K) : ∀ (n : Nat) (Ar : Around), Ar.units + n < cLine → ∀ (d e : D) (b : Bool) (x y : V) (u v : Value), ltF n d e = some b → Rep W A μ H d x → Rep W A' μ' H e y → RelV x u → RelV y v → Ob.RcOp .Lt Ar s u v b := by
  have sc : ∀ (n : Nat) (Ar : Around) (d e : D) (b : Bool) (x y : V) (u v : Value), ltF n d e = some b → Rep W A μ H d x → Rep W A' μ' H e y → RelV x u → RelV y v → (∀ xs ys, d = .tup xs → e = .tup ys → Ob.RcOp .Lt Ar s u v b) → Ob.RcOp .Lt Ar s u v b := by
    intro n Ar d e b x y u v h r r' ru rv ht
    cases d with
    | int i =>
      cases e with
      | int j =>
        have e1 := rep_int r
        have e2 := rep_int r'
        subst e1; subst e2
        obtain ⟨t, rfl⟩ := ru
        obtain ⟨t', rfl⟩ := rv
        have h : some (decide (i < j)) = some b := by cases n <;> exact h
        cases h
        exact Ob.RcOp.lt_int _ _ _ _
      | _ => cases n <;> cases h
    | str i =>
      cases e with
      | str j =>
        have e1 := rep_str r
        have e2 := rep_str r'
        subst e1; subst e2
        obtain ⟨t, rfl⟩ := ru
        obtain ⟨t', rfl⟩ := rv
        have h : some (ltS i j) = some b := by cases n <;> exact h
        cases h
        exact fun prog w E Q hq => PyProof.Rows.lt_str hq
      | _ => cases n <;> cases h
    | tup xs =>
      cases e with
      | tup ys => exact ht _ _ rfl rfl
      | _ => cases n <;> cases h
    | _ => cases n <;> cases e <;> cases h
  intro n
  induction n with
  | zero =>
    intro Ar hu d e b x y u v h r r' ru rv
    exact sc 0 Ar d e b x y u v h r r' ru rv fun xs ys e1 e2 => by subst e1; subst e2; cases h
  | succ n ih =>
    intro Ar hu d e b x y u v h r r' ru rv
    refine sc _ Ar d e b x y u v h r r' ru rv fun xs ys e1 e2 => ?_
    subst e1; subst e2
    have hin : Ar.in1.units + n < cLine := by show Ar.units + 1 + n < cLine; omega
    obtain ⟨a1, vx, e1, h1, _, q1⟩ := rep_tup r
    obtain ⟨a2, vy, e2, h2, _, q2⟩ := rep_tup r'
    obtain ⟨its, rv1, pl1, l1⟩ := tup_at I hK h1 q1
    obtain ⟨jts, rv2, pl2, l2⟩ := tup_at I hK h2 q2
    rw [e1] at ru; rw [e2] at rv
    cases ru; cases rv
    obtain ⟨ef, rf, p, q⟩ := lexF_at (eq := eqF n) (lt := ltF n) h
    have at_ : ∀ (j : Nat) (g1 : j < its.toArray.size) (g2 : j < jts.toArray.size), ∃ (j1 : j < xs.length) (j2 : j < ys.length) (x y : V), Rep W A μ H xs[j] x ∧ Rep W A' μ' H ys[j] y ∧ RelV x its.toArray[j] ∧ RelV y jts.toArray[j] := by
      intro j g1 g2
      have j1 : j < xs.length := by simp at g1; omega
      have j2 : j < ys.length := by simp at g2; omega
      obtain ⟨x, hx, rx⟩ := reps_get q1 (List.getElem?_eq_getElem j1)
      obtain ⟨y, hy, ry⟩ := reps_get q2 (List.getElem?_eq_getElem j2)
      obtain ⟨u, hu, ru⟩ := rv1.get hx
      obtain ⟨v, hv, rvv⟩ := rv2.get hy
      have z1 : its.toArray[j] = u := by
        have : its[j]? = some its[j] := List.getElem?_eq_getElem (by simpa using g1)
        rw [hu] at this
        simpa using (Option.some.inj this).symm
      have z2 : jts.toArray[j] = v := by
        have : jts[j]? = some jts[j] := List.getElem?_eq_getElem (by simpa using g2)
        rw [hv] at this
        simpa using (Option.some.inj this).symm
      exact ⟨j1, j2, x, y, rx, ry, by rw [z1]; exact ru, by rw [z2]; exact rvv⟩
    have R := Ob.RcOp.tuples_lt (A := Ar) (e := ef) (r := rf) pl1 pl2 (by omega) (fun j g1 g2 => by
      obtain ⟨j1, j2, x, y, rx, ry, ru, rv⟩ := at_ j g1 g2
      exact eqAt_D I hK n Ar.in1 hin _ _ _ x y _ _ (p j j1 j2).1 rx ry ru rv) (fun j g1 g2 z => by
      obtain ⟨j1, j2, x, y, rx, ry, ru, rv⟩ := at_ j g1 g2
      exact ih Ar.in1 hin _ _ _ x y _ _ ((p j j1 j2).2 z) rx ry ru rv)
    have := q 0
    simp only [Nat.sub_zero] at this
    simpa [l1, l2, this] using R
def ltM (x y : D) : M D := match ltF depthLine x y with
  | some b => M.ret (.bl b)
  | none => M.fail
theorem op_ltM {k : Nat} (C : CtxOk X W Wx k) : OpR X (compareOp .Lt) (rD W Wx ltM) := by
  rintro pins s σ H x y v u Q I rx ry ⟨σ', A0, μ, O, S, dx, dy, rs, r1, r2, p⟩
  obtain ⟨A', r2⟩ := rdb_rep r2
  unfold ltM at p
  cases e : ltF depthLine dx dy with
  | none => rw [e] at p; exact p.elim
  | some b =>
    rw [e] at p
    exact ltAt_D I C.K depthLine X.A (by have := room12 C.room; omega) dx dy b x y v u e r1 r2 rx ry X.prog X.w _ _ (post_bl I rs p)

/-! ### is None -/
def isNone : D → Bool
  | .non => true
  | _ => false
def isM (x y : D) : M D := match y with
  | .non => M.ret (.bl (isNone x))
  | _ => M.fail
def isntM (x y : D) : M D := match y with
  | .non => M.ret (.bl (!isNone x))
  | _ => M.fail
theorem none_dec {d : D} {x : V} (r : Rep W A μ H d x) : decide (x = .non) = isNone d := by
  cases d with
  | non => simp only [Rep] at r; subst r; rfl
  | bl b => simp only [Rep] at r; subst r; rfl
  | int b => simp only [Rep] at r; subst r; rfl
  | str b => simp only [Rep] at r; subst r; rfl
  | ty b => simp only [Rep] at r; subst r; rfl
  | loc l => simp only [Rep] at r; obtain ⟨a, _, rfl⟩ := r; rfl
  | tup l => simp only [Rep] at r; obtain ⟨a, xs, rfl, _⟩ := r; rfl
  | ktup l => simp only [Rep] at r; obtain ⟨a, xs, rfl, _⟩ := r; rfl
  | klst l => simp only [Rep] at r; obtain ⟨a, xs, rfl, _⟩ := r; rfl
  | lst l => simp only [Rep] at r; obtain ⟨a, xs, rfl, _⟩ := r; rfl
  | dic l => simp only [Rep] at r; obtain ⟨a, xs, rfl, _⟩ := r; rfl
  | dicT l => simp only [Rep] at r; obtain ⟨a, xs, rfl, _⟩ := r; rfl
  | obj l => simp only [Rep] at r; obtain ⟨a, dx, xs, rfl, _⟩ := r; rfl
  | fn l => simp only [Rep] at r; obtain ⟨a, c, cl, L, ws, rfl, _⟩ := r; rfl
theorem op_isM : OpR X (compareOp .Is) (rD W Wx isM) := by
  rintro pins s σ H x y v u Q I rx ry ⟨σ', A0, μ, O, S, dx, dy, rs, r1, r2, p⟩
  cases dy with
  | non =>
    have e := rdb_non r2
    subst e
    refine op_isN pins s σ H _ _ v u Q I rx ry ⟨rfl, ?_⟩
    rw [none_dec r1]
    exact q_sc rs p (.bl _)
  | _ => exact p.elim
theorem op_isntM : OpR X (compareOp .IsNot) (rD W Wx isntM) := by
  rintro pins s σ H x y v u Q I rx ry ⟨σ', A0, μ, O, S, dx, dy, rs, r1, r2, p⟩
  cases dy with
  | non =>
    have e := rdb_non r2
    subst e
    refine op_notN pins s σ H _ _ v u Q I rx ry ⟨rfl, ?_⟩
    rw [none_dec r1]
    exact q_sc rs p (.bl _)
  | _ => exact p.elim

/-! ### in -/
def anyEq (x : D) : List D → Option Bool
  | [] => some false
  | d :: ds => (eqF depthLine d x).bind fun a => (anyEq x ds).map fun b => a || b
/-- a key of a dict -/
def keyOf : D → Option Key
  | .int i => some (.inl i)
  | .str x => some (.inr x)
  | _ => none
def keysOf : List D → Option (List Key)
  | [] => some []
  | d :: ds => (keyOf d).bind fun k => (keysOf ds).map fun r => k :: r
def inF (x y : D) : Option Bool := match y with
  | .lst ds => anyEq x ds
  | .tup ds => anyEq x ds
  | .ktup ds => anyEq x ds
  | .dic ks _ => (keyOf x).map fun k => ks.any fun j => decide (j = k)
  | .dicT ks _ => match x with
    | .tup ds => (keysOf ds).map fun k => ks.any fun j => decide (j = k)
    | _ => none
  | .str z => match x with
    | .str c => if c.cps.size = 1 then some (decide (c.cps.getD 0 0 ∈ z.cps.toList)) else none
    | _ => none
  | _ => none
def inM (x y : D) : M D := match inF x y with
  | some b => M.ret (.bl b)
  | none => M.fail
def notInM (x y : D) : M D := match inF x y with
  | some b => M.ret (.bl (!b))
  | none => M.fail
/-- a value stands for one datum, as far as == sees -/
theorem pair_cong {f : D → D → Option Bool} {A B : Addr → Prop} {μ μ' : List Addr} : ∀ {ds es zs : List D} {xs : List V} {us : List Value} {b b' : Bool}, Vals xs us →
    (∀ d e z b b' x u, RelV x u → f d z = some b → f e z = some b' → Rep W A μ H d x → Rep W B μ' H e x → b = b') → zipEq f ds zs = some b → zipEq f es zs = some b' → Reps W A μ H ds xs → Reps W B μ' H es xs → b = b'
  | [], [], zs, xs, us, b, b', _, _, h, h', _, _ => by rw [h] at h'; exact Option.some.inj h'
  | [], e :: es, zs, xs, us, b, b', _, _, h, h', r, r' => by
    simp only [Reps] at r r'
    obtain ⟨_, _, e1, _⟩ := r'
    rw [r] at e1; cases e1
  | d :: ds, [], zs, xs, us, b, b', _, _, h, h', r, r' => by
    simp only [Reps] at r r'
    obtain ⟨_, _, e1, _⟩ := r
    rw [r'] at e1; cases e1
  | d :: ds, e :: es, [], xs, us, b, b', _, _, h, h', _, _ => by cases h; cases h'; rfl
  | d :: ds, e :: es, z :: zs, xs, us, b, b', rv, hf, h, h', r, r' => by
    simp only [Reps] at r r'
    obtain ⟨v, vs, e1, r1, r2⟩ := r
    obtain ⟨v', vs', e1', r1', r2'⟩ := r'
    rw [e1] at e1'
    cases e1'
    subst e1
    cases rv with
    | cons rv0 rvs =>
      unfold zipEq at h h'
      obtain ⟨a, g0, h⟩ := Option.bind_eq_some_iff.mp h
      obtain ⟨c, g1, h⟩ := Option.map_eq_some_iff.mp h
      obtain ⟨a', g0', h'⟩ := Option.bind_eq_some_iff.mp h'
      obtain ⟨c', g1', h'⟩ := Option.map_eq_some_iff.mp h'
      rw [← h, ← h', hf d e z a a' v _ rv0 g0 g0' r1 r1', pair_cong rvs hf g1 g1' r2 r2']
theorem rep_cong (I : Inv X pins σ H s) (hK : X.K = W.K) : ∀ (n : Nat) (d e z : D) (b b' : Bool) (x : V) (u : Value), RelV x u → eqF n d z = some b → eqF n e z = some b' → Rep W A μ H d x → Rep W A' μ' H e x → b = b' := by
  intro n
  have sc : ∀ (n : Nat) (d e z : D) (b b' : Bool) (x : V) (u : Value), RelV x u → eqF n d z = some b → eqF n e z = some b' → Rep W A μ H d x → Rep W A' μ' H e x → (∀ xs ys, d = .tup xs → e = .tup ys → b = b') → (∀ xs ys, d = .lst xs → e = .lst ys → b = b') → b = b' := by
    intro n d e z b b' x u ru h h' r r' ht hl
    have v1 := vw_of I hK r ru
    have v2 := vw_of I hK r' ru
    cases v1 with
    | oth q => rw [(q n z).1] at h; cases h
    | non => cases v2 with
      | non => rw [h] at h'; exact Option.some.inj h'
      | oth q => rw [(q n z).1] at h'; cases h'
    | bl => cases v2 with
      | bl => rw [h] at h'; exact Option.some.inj h'
      | oth q => rw [(q n z).1] at h'; cases h'
    | int => cases v2 with
      | int => rw [h] at h'; exact Option.some.inj h'
      | oth q => rw [(q n z).1] at h'; cases h'
    | str => cases v2 with
      | str => rw [h] at h'; exact Option.some.inj h'
      | oth q => rw [(q n z).1] at h'; cases h'
    | tup p1 => cases v2 with
      | tup => exact ht _ _ rfl rfl
      | lst p2 =>
        obtain ⟨_, _, e1, h1, _, q1⟩ := rep_tup r
        obtain ⟨_, _, e2, h2, _, q2⟩ := rep_lst r'
        rw [e1] at e2; cases e2
        exact (not_both I hK h1 q1 h2 q2).elim
      | oth q => rw [(q n z).1] at h'; cases h'
    | lst p1 => cases v2 with
      | lst => exact hl _ _ rfl rfl
      | tup p2 =>
        obtain ⟨_, _, e1, h1, _, q1⟩ := rep_tup r'
        obtain ⟨_, _, e2, h2, _, q2⟩ := rep_lst r
        rw [e1] at e2; cases e2
        exact (not_both I hK h1 q1 h2 q2).elim
      | oth q => rw [(q n z).1] at h'; cases h'
  induction n with
  | zero =>
    intro d e z b b' x u ru h h' r r'
    refine sc 0 d e z b b' x u ru h h' r r' (fun xs ys e1 e2 => ?_) (fun xs ys e1 e2 => ?_)
    all_goals
      subst e1; subst e2
      cases z <;> first | (cases h; done) | (cases h; cases h'; rfl)
  | succ n ih =>
    intro d e z b b' x u ru h h' r r'
    refine sc _ d e z b b' x u ru h h' r r' (fun xs ys e1 e2 => ?_) (fun xs ys e1 e2 => ?_)
    · subst e1; subst e2
      cases z with
      | tup zs =>
        obtain ⟨_, _, e1, h1, _, q1⟩ := rep_tup r
        obtain ⟨_, _, e2, h2, _, q2⟩ := rep_tup r'
        rw [e1] at e2; cases e2
        have ex := I.tuple_inj (hK.symm ▸ h1) (hK.symm ▸ h2)
        rw [ex] at q1
        obtain ⟨its, rv, _, _⟩ := tup_at I hK h2 q2
        exact pair_cong (f := eqF n) rv (fun d e z b b' x u ru h h' => ih d e z b b' x u ru h h') h h' q1 q2
      | _ => first | (cases h; done) | (cases h; cases h'; rfl)
    · subst e1; subst e2
      cases z with
      | lst zs =>
        obtain ⟨_, _, e1, h1, _, q1⟩ := rep_lst r
        obtain ⟨_, _, e2, h2, _, q2⟩ := rep_lst r'
        rw [e1] at e2; cases e2
        have ex := I.list_inj (X := X) (.inl h1) (.inl h2)
        rw [ex] at q1
        obtain ⟨its, rv, _, _⟩ := lst_at I h2 q2
        exact pair_cong (f := eqF n) rv (fun d e z b b' x u ru h h' => ih d e z b b' x u ru h h') h h' q1 q2
      | _ => first | (cases h; done) | (cases h; cases h'; rfl)
theorem anyEq_all {x : D} : ∀ {ds : List D} {b : Bool}, anyEq x ds = some b → (∀ d ∈ ds, ∃ c, eqF depthLine d x = some c) ∧ (b = true ↔ ∃ d ∈ ds, eqF depthLine d x = some true)
  | [], b, h => by cases h; simp
  | d :: ds, b, h => by
    unfold anyEq at h
    obtain ⟨a, g0, h⟩ := Option.bind_eq_some_iff.mp h
    obtain ⟨c, g1, h⟩ := Option.map_eq_some_iff.mp h
    obtain ⟨i1, i2⟩ := anyEq_all g1
    refine ⟨fun y hy => ?_, ?_⟩
    · rcases List.mem_cons.mp hy with rfl | hy
      · exact ⟨a, g0⟩
      · exact i1 y hy
    · rw [← h]
      simp only [Bool.or_eq_true, List.mem_cons, exists_eq_or_imp, g0, Option.some.injEq]
      rw [i2]
/-- the answer that an item gives, read off the item's value -/
noncomputable def ansOf (W : Wd) (A : Addr → Prop) (μ : List Addr) (H : Hp) (x : D) (ds : List D) (u : Value) : Bool := by
  exact @decide (∃ d ∈ ds, (∃ y, RelV y u ∧ Rep W A μ H d y) ∧ eqF depthLine d x = some true) (Classical.propDecidable _)
theorem ansOf_iff {x : D} {ds : List D} {u : Value} : ansOf W A μ H x ds u = true ↔ ∃ d ∈ ds, (∃ y, RelV y u ∧ Rep W A μ H d y) ∧ eqF depthLine d x = some true := by
  unfold ansOf
  exact @decide_eq_true_iff _ (Classical.propDecidable _)
theorem in_items (I : Inv X pins σ H s) (hK : X.K = W.K) {Ar : Around} (hu : Ar.units + depthLine < cLine) {x : D} {xv : V} {v : Value} {ds : List D} {xs : List V} {its : List Value} {b : Bool} (h : anyEq x ds = some b) (rx : Rep W A' μ' H x xv) (rv : RelV xv v) (r : Reps W A μ H ds xs) (ri : Vals xs its) :
    (∀ w ∈ its.toArray, SeqAt.EqAt Ar s w v (ansOf W A μ H x ds w)) ∧ its.toArray.any (ansOf W A μ H x ds) = b := by
  obtain ⟨h1, h2⟩ := anyEq_all h
  have li : its.length = ds.length := by rw [← ri.length, reps_length r]
  have at_ : ∀ w ∈ its, ∃ d ∈ ds, ∃ y, RelV y w ∧ Rep W A μ H d y := fun w hw => by
    obtain ⟨j, hj, e⟩ := List.mem_iff_getElem.mp hw
    have jd : j < ds.length := by omega
    obtain ⟨y, hy, ry⟩ := reps_get r (List.getElem?_eq_getElem jd)
    obtain ⟨u, hu, ru⟩ := ri.get hy
    rw [List.getElem?_eq_getElem hj, e] at hu
    cases hu
    exact ⟨ds[j], List.getElem_mem jd, y, ru, ry⟩
  have ans : ∀ w d y, d ∈ ds → RelV y w → Rep W A μ H d y → ∀ c, eqF depthLine d x = some c → ansOf W A μ H x ds w = c := fun w d y hd ry rd c hc => by
    cases c with
    | true => exact ansOf_iff.mpr ⟨d, hd, ⟨y, ry, rd⟩, hc⟩
    | false =>
      rw [← Bool.not_eq_true, ansOf_iff]
      rintro ⟨d', hd', ⟨y', ry', rd'⟩, hc'⟩
      have ey := ry.inj ry'
      subst ey
      have := rep_cong I hK depthLine d d' x false true y w ry hc hc' rd rd'
      cases this
  refine ⟨fun w hw => ?_, ?_⟩
  · obtain ⟨d, hd, y, ry, rd⟩ := at_ w (by simpa using hw)
    obtain ⟨c, hc⟩ := h1 d hd
    rw [ans w d y hd ry rd c hc]
    exact eqAt_D I hK depthLine Ar hu d x c y xv w v hc rd rx ry rv
  · rw [Bool.eq_iff_iff, h2, Array.any_eq_true']
    constructor
    · rintro ⟨w, hw, e⟩
      obtain ⟨d, hd, _, hc⟩ := ansOf_iff.mp e
      exact ⟨d, hd, hc⟩
    · rintro ⟨d, hd, hc⟩
      obtain ⟨j, hj, e⟩ := List.mem_iff_getElem.mp hd
      obtain ⟨y, hy, ry⟩ := reps_get r (List.getElem?_eq_getElem hj)
      obtain ⟨u, hu, ru⟩ := ri.get hy
      have hu' : u ∈ its := List.mem_of_getElem? hu
      rw [e] at ry
      exact ⟨u, by simpa using hu', ans u d y hd ru ry true hc⟩
/-- the keys as the dict reads them -/
theorem keyOf_rep {d : D} {k : Key} {v : V} (h : keyOf d = some k) (r : Rep W A μ H d v) : v = kV k := by
  cases d with
  | int i => cases h; exact rep_int r
  | str x => cases h; exact rep_str r
  | _ => cases h
theorem keysOf_rep : ∀ {ds : List D} {ks : List Key} {vs : List V}, keysOf ds = some ks → Reps W A μ H ds vs → vs = ks.map kV
  | [], ks, vs, h, r => by
    cases h
    simp only [Reps] at r
    simpa using r
  | d :: ds, ks, vs, h, r => by
    unfold keysOf at h
    obtain ⟨k, h1, h⟩ := Option.bind_eq_some_iff.mp h
    obtain ⟨kr, h2, h⟩ := Option.map_eq_some_iff.mp h
    simp only [Reps] at r
    obtain ⟨v, vs', e, r1, r2⟩ := r
    rw [e, ← h, keyOf_rep h1 r1, keysOf_rep h2 r2]
    rfl
theorem rdb_dic {ks : List Key} {ws : List D} {v : V} (h : Rdb W A0 O μ H (.dic ks ws) v) : ∃ a kvs, v = .ref a ∧ H a = some (.dK kvs) ∧ kvs.map (·.1) = ks ∧ Reps W (Av A0 μ O) μ H ws (kvs.map (·.2)) := by
  rcases h with h | ⟨i, a, _, e, xs, h1, h2, h3⟩
  · simp only [Rep] at h
    obtain ⟨a, xs, e, ⟨_, h1⟩, h2, h3⟩ := h
    exact ⟨a, xs, e, h1, h2, h3⟩
  · exact ⟨a, xs, e, h1, h2, h3⟩
theorem rdb_dicT {ks : List (List Key)} {ws : List D} {v : V} (h : Rdb W A0 O μ H (.dicT ks ws) v) : ∃ a kvs, v = .ref a ∧ H a = some (.dT kvs) ∧ kvs.map (·.1) = ks ∧ Reps W (Av A0 μ O) μ H ws (kvs.map (·.2)) := by
  rcases h with h | ⟨i, a, _, e, xs, h1, h2, h3⟩
  · simp only [Rep] at h
    obtain ⟨a, xs, e, ⟨_, h1⟩, h2, h3⟩ := h
    exact ⟨a, xs, e, h1, h2, h3⟩
  · exact ⟨a, xs, e, h1, h2, h3⟩
/-- a tuple of this frame's heap (not of the written part), as a key -/
def HTup (H : Hp) (v : V) (ks : List Key) : Prop := ∃ b, v = .ref b ∧ H b = some (.tup (ks.map kV))
theorem htup_of {ds : List D} {ks : List Key} {v : V} (h : keysOf ds = some ks) (r : Rep W A μ H (.tup ds) v) : HTup H v ks := by
  obtain ⟨a, xs, e, h1, _, h3⟩ := rep_tupH r
  rw [keysOf_rep h h3] at h1
  exact ⟨a, e, h1⟩
theorem any_keys {κ : Type} [DecidableEq κ] {kvs : List (κ × V)} {ks : List κ} {k : κ} (h : kvs.map (·.1) = ks) : (ks.any fun j => decide (j = k)) = (valV kvs k).isSome := by
  rw [← valV_any, ← h, List.any_map]
  rfl
theorem inF_run (I : Inv X pins σ H s) {k : Nat} (C : CtxOk X W Wx k) {x y : D} {xv yv : V} {v u : Value} {b neg : Bool} {Q : Value → Shared → Prop} (h : inF x y = some b) (r1 : Rep W (Av A0 μ O) μ H x xv) (r2 : Rdb W A0 O μ H y yv) (rx : RelV xv v) (ry : RelV yv u)
    (hq : ∀ s', Inv X pins σ H s' → Q (.bool (if neg then !b else b)) s') : wpAny (model X.prog X.w) X.A (compareOp (if neg then .NotIn else .In) v u) Q X.xe s := by
  have hu := (hu_of C.room)
  have hd : X.A.in1.units + depthLine < cLine := by have := room12 C.room; show X.A.units + 1 + depthLine < cLine; omega
  cases y with
  | lst ds =>
    obtain ⟨a, xs, e, g1, _, q1⟩ := rdb_list r2
    subst e
    cases ry
    obtain ⟨its, rv, pl, _⟩ := lst_at I g1 q1
    obtain ⟨z1, z2⟩ := in_items (A := Av A0 μ O) I C.K hd h r1 rx q1 rv
    have := hq s I
    rw [← z2] at this
    cases neg with
    | false => exact SeqAt.in_listAt _ pl z1 this
    | true => exact SeqAt.notIn_listAt _ pl z1 this
  | tup ds =>
    obtain ⟨a, xs, e, g1, _, q1⟩ := rdb_tup r2
    subst e
    cases ry
    obtain ⟨its, rv, pl, _⟩ := tup_at I C.K g1 q1
    obtain ⟨z1, z2⟩ := in_items (A := Av A0 μ O) I C.K hd h r1 rx q1 rv
    have := hq s I
    rw [← z2] at this
    cases neg with
    | false => exact SeqAt.in_tupleAt _ pl z1 this
    | true => exact SeqAt.notIn_tupleAt _ pl z1 this
  | ktup ds =>
    obtain ⟨a, xs, e, g1, _, q1⟩ := rdb_ktup r2
    subst e
    cases ry
    obtain ⟨its, rv, pl, _⟩ := tup_at I C.K g1 q1
    obtain ⟨z1, z2⟩ := in_items (A := Av A0 μ O) I C.K hd h r1 rx q1 rv
    have := hq s I
    rw [← z2] at this
    cases neg with
    | false => exact SeqAt.in_tupleAt _ pl z1 this
    | true => exact SeqAt.notIn_tupleAt _ pl z1 this
  | dic ks ws =>
    obtain ⟨a, kvs, e, g1, g2, _⟩ := rdb_dic r2
    subst e
    cases ry
    obtain ⟨kk, e1, e2⟩ := Option.map_eq_some_iff.mp h
    have ek := keyOf_rep e1 r1
    subst ek
    rw [any_keys g2] at e2
    rw [← e2] at hq
    cases neg with
    | false => exact d_in hu I (DGet.k g1) rx hq
    | true => exact d_notIn hu I (DGet.k g1) rx hq
  | dicT ks ws =>
    obtain ⟨a, kvs, e, g1, g2, _⟩ := rdb_dicT r2
    subst e
    cases ry
    cases x with
    | tup ds =>
      obtain ⟨kk, e1, e2⟩ := Option.map_eq_some_iff.mp h
      obtain ⟨bb, eb, hb⟩ := htup_of e1 r1
      subst eb
      rw [any_keys g2] at e2
      rw [← e2] at hq
      cases neg with
      | false => exact d_in hu I (DGet.t g1 hb) rx hq
      | true => exact d_notIn hu I (DGet.t g1 hb) rx hq
    | _ => cases h
  | str z =>
    have e := rdb_str r2
    subst e
    cases x with
    | str c =>
      have e := rep_str r1
      subst e
      have h : (if c.cps.size = 1 then some (decide (c.cps.getD 0 0 ∈ z.cps.toList)) else none) = some b := h
      by_cases hc : c.cps.size = 1
      · rw [if_pos hc] at h
        cases h
        obtain ⟨cps⟩ := c
        obtain ⟨l⟩ := cps
        match l, hc with
        | [c], _ =>
          cases neg with
          | false =>
            refine thn (op_in_sign pins s σ H _ _ v u (fun w H' => w = .bl (decide (c ∈ z.cps.toList)) ∧ H' = H) I rx ry ⟨c, z, rfl, rfl, rfl, rfl⟩) fun w s' ⟨w', H', I', rw', e, eH⟩ => ?_
            subst e; subst eH
            cases rw'
            exact hq s' I'
          | true =>
            refine thn (op_notIn_sign pins s σ H _ _ v u (fun w H' => w = .bl (!decide (c ∈ z.cps.toList)) ∧ H' = H) I rx ry ⟨c, z, rfl, rfl, rfl, rfl⟩) fun w s' ⟨w', H', I', rw', e, eH⟩ => ?_
            subst e; subst eH
            cases rw'
            exact hq s' I'
      · rw [if_neg hc] at h
        cases h
    | _ => cases h
  | _ => cases h
theorem op_inM {k : Nat} (C : CtxOk X W Wx k) : OpR X (compareOp .In) (rD W Wx inM) := by
  rintro pins s σ H x y v u Q I rx ry ⟨σ', A0, μ, O, S, dx, dy, rs, r1, r2, p⟩
  unfold inM at p
  cases e : inF dx dy with
  | none => rw [e] at p; exact p.elim
  | some b =>
    rw [e] at p
    exact inF_run (neg := false) I C e r1 r2 rx ry fun s' I' => post_bl I' rs p
theorem op_notInM {k : Nat} (C : CtxOk X W Wx k) : OpR X (compareOp .NotIn) (rD W Wx notInM) := by
  rintro pins s σ H x y v u Q I rx ry ⟨σ', A0, μ, O, S, dx, dy, rs, r1, r2, p⟩
  unfold notInM at p
  cases e : inF dx dy with
  | none => rw [e] at p; exact p.elim
  | some b =>
    rw [e] at p
    exact inF_run (neg := true) I C e r1 r2 rx ry fun s' I' => post_bl I' rs p
end
end DL
end
section
set_option Elab.async false
set_option linter.all false
set_option maxRecDepth 100000
namespace DL
open PySem PySem.Spec L2
section
variable {W : Wd} {Wx : WX} {X : Cx} {A A' A0 : Addr → Prop} {μ μ' : List Addr} {O : Nat → Option Addr} {H : Hp} {σ : St} {S : Stt} {s : Shared} {pins : List (Addr × Obj)} {a b : Expr} {f g : M D} {pos : Pos}
def lookK {κ : Type} [DecidableEq κ] : List κ → List D → κ → Option D
  | k :: ks, v :: vs, j => if k = j then some v else lookK ks vs j
  | _, _, _ => none
def ixF (x y : D) : Option D := match x with
  | .lst ds => (match y with | .int i => atI ds i | _ => none)
  | .tup ds => (match y with | .int i => atI ds i | _ => none)
  | .ktup ds => (match y with | .int i => atI ds i | _ => none)
  | .klst ds => (match y with | .int i => atI ds i | _ => none)
  | .str z => (match y with | .int i => if z.length ≤ 16777216 then (atI z.cps.toList i).map fun c => .str ⟨#[c]⟩ else none | _ => none)
  | .dic ks vs => (keyOf y).bind fun k => lookK ks vs k
  | .dicT ks vs => (match y with | .tup ds => (keysOf ds).bind fun k => lookK ks vs k | _ => none)
  | _ => none
/-- what a value is, the shared objects looked up -/
def deref (S : Stt) : D → Option D
  | .loc l => S.ob[l]?
  | d => some d
def ixM (x y : D) : M D := fun S => match (deref S x).bind fun x => ixF x y with
  | some d => .ok d S
  | none => .stuck
/-- readable by one's own frame, or shared -/
def Rd2 (W : Wd) (A : Addr → Prop) (μ : List Addr) (H : Hp) (d : D) (v : V) : Prop := Rep W A μ H d v ∨ ∃ a, v = .ref a ∧ Own W A μ H d a
theorem rd2_list {ds : List D} {v : V} (h : Rd2 W A μ H (.lst ds) v) : ∃ a xs, v = .ref a ∧ Rd H a (.lst xs) ∧ ds.length ≤ sizeLine ∧ Reps W A μ H ds xs := by
  rcases h with h | ⟨a, e, xs, h1, h2, h3⟩
  · exact rep_lst h
  · exact ⟨a, xs, e, .inl h1, h2, h3⟩
theorem rd2_rep {d : D} {v : V} (h : Rd2 W A μ H d v) (hl : ∀ ds, d ≠ .lst ds) (hd : ∀ k v, d ≠ .dic k v) (ht : ∀ k v, d ≠ .dicT k v) (ho : ∀ c f v, d ≠ .obj c f v) : Rep W A μ H d v := by
  rcases h with h | ⟨a, e, ow⟩
  · exact h
  · cases d with
    | lst ds => exact absurd rfl (hl ds)
    | dic ks vs => exact absurd rfl (hd ks vs)
    | dicT ks vs => exact absurd rfl (ht ks vs)
    | obj c f v => exact absurd rfl (ho c f v)
    | _ => exact ow.elim
theorem rd2_dic {ks : List Key} {ws : List D} {v : V} (h : Rd2 W A μ H (.dic ks ws) v) : ∃ a kvs, v = .ref a ∧ H a = some (.dK kvs) ∧ kvs.map (·.1) = ks ∧ Reps W A μ H ws (kvs.map (·.2)) := by
  rcases h with h | ⟨a, e, xs, h1, h2, h3⟩
  · simp only [Rep] at h
    obtain ⟨a, xs, e, ⟨_, h1⟩, h2, h3⟩ := h
    exact ⟨a, xs, e, h1, h2, h3⟩
  · exact ⟨a, xs, e, h1, h2, h3⟩
theorem rd2_dicT {ks : List (List Key)} {ws : List D} {v : V} (h : Rd2 W A μ H (.dicT ks ws) v) : ∃ a kvs, v = .ref a ∧ H a = some (.dT kvs) ∧ kvs.map (·.1) = ks ∧ Reps W A μ H ws (kvs.map (·.2)) := by
  rcases h with h | ⟨a, e, xs, h1, h2, h3⟩
  · simp only [Rep] at h
    obtain ⟨a, xs, e, ⟨_, h1⟩, h2, h3⟩ := h
    exact ⟨a, xs, e, h1, h2, h3⟩
  · exact ⟨a, xs, e, h1, h2, h3⟩
theorem rdb_rd2 {d : D} {v : V} (h : Rdb W A0 O μ H d v) : Rd2 W (Av A0 μ O) μ H d v := h.imp id fun ⟨i, a, _, e, ow⟩ => ⟨a, e, ow⟩
/-- a value looked up -/
theorem deref_rd2 (rs : RepS W A0 μ O H σ S) {x d : D} {v : V} (h : deref S x = some d) (r : Rd2 W (Av A0 μ O) μ H x v) : Rd2 W (Av A0 μ O) μ H d v := by
  cases x with
  | loc l =>
    have r := rd2_rep r (fun _ z => by cases z) (fun _ _ z => by cases z) (fun _ _ z => by cases z) (fun _ _ _ z => by cases z)
    simp only [Rep] at r
    obtain ⟨a, hl, e⟩ := r
    exact .inr ⟨a, e, rs.obs l d a h hl⟩
  | _ => cases h; exact r
theorem lookK_val {κ : Type} [DecidableEq κ] {A : Addr → Prop} : ∀ {kvs : List (κ × V)} {ks : List κ} {ws : List D} {k : κ} {d : D}, kvs.map (·.1) = ks → Reps W A μ H ws (kvs.map (·.2)) → lookK ks ws k = some d → ∃ v, valV kvs k = some v ∧ Rep W A μ H d v
  | [], ks, ws, k, d, h1, h2, h => by
    subst h1
    simp [lookK] at h
  | (k0, v0) :: kvs, ks, ws, k, d, h1, h2, h => by
    subst h1
    cases ws with
    | nil => simp [lookK] at h
    | cons w ws =>
      simp only [List.map_cons, Reps] at h2
      obtain ⟨v, vs, e, r1, r2⟩ := h2
      cases e
      have h : (if k0 = k then some w else lookK (kvs.map (·.1)) ws k) = some d := h
      by_cases hk : k0 = k
      · rw [if_pos hk] at h
        cases h
        exact ⟨v0, valV_pos hk, r1⟩
      · rw [if_neg hk] at h
        rw [valV_neg hk]
        exact lookK_val rfl r2 h
theorem atI_rep {ds : List D} {xs : List V} {i : Int} {d : D} (r : Reps W A μ H ds xs) (h : atI ds i = some d) : ∃ v, atI xs i = some v ∧ Rep W A μ H d v := by
  unfold atI at h ⊢
  rw [reps_length r]
  obtain ⟨j, h1, h2⟩ := Option.bind_eq_some_iff.mp h
  obtain ⟨v, h3, h4⟩ := reps_get r h2
  exact ⟨v, by rw [h1]; exact h3, h4⟩
/-- a subscript by values -/
theorem ix_run (I : Inv X pins σ H s) {k : Nat} (C : CtxOk X W Wx k) {x y d : D} {xv yv : V} {v u : Value} {Q : Value → Shared → Prop} {value slice : Expr} (h : ixF x y = some d) (r1 : Rd2 W A μ H x xv) (r2 : Rep W A μ H y yv) (rx : RelV xv v) (ry : RelV yv u)
    (hs : subscripted slice false v u = operate [v, u] (getItem v u)) (hq : ∀ z w s', Inv X pins σ H s' → Rep W A μ H d z → RelV z w → Q w s') : wpAny (model X.prog X.w) X.A (PyProof.Rows.subscriptTail value slice v u) Q X.xe s := by
  have seq : ∀ {r : R2} (hr : IxR X r), r xv yv H (fun z H' => Rep W A μ H d z ∧ H' = H) → wpAny (model X.prog X.w) X.A (PyProof.Rows.subscriptTail value slice v u) Q X.xe s := fun hr q =>
    thn (hr value slice pins s σ H xv yv v u _ I rx ry q hs) fun w s' ⟨z, H', I', rz, rd, e⟩ => by subst e; exact hq z w s' I' rd rz
  cases x with
  | lst ds =>
    cases y with
    | int i =>
      obtain ⟨a, xs, e, g1, _, q1⟩ := rd2_list r1
      have e2 := rep_int r2
      obtain ⟨z, hz, rz⟩ := atI_rep q1 h
      exact seq ix_list ⟨a, xs, i, z, e, e2, .inl g1, hz, rz, rfl⟩
    | _ => cases h
  | tup ds =>
    cases y with
    | int i =>
      obtain ⟨a, xs, e, g1, _, q1⟩ := rep_tup (rd2_rep r1 (fun _ z => by cases z) (fun _ _ z => by cases z) (fun _ _ z => by cases z) (fun _ _ _ z => by cases z))
      have e2 := rep_int r2
      obtain ⟨z, hz, rz⟩ := atI_rep q1 h
      exact seq ix_tup ⟨a, xs, i, z, e, e2, by rw [C.K]; exact g1, hz, rz, rfl⟩
    | _ => cases h
  | klst ds =>
    cases y with
    | int i =>
      obtain ⟨a, xs, e, g1, _, q1⟩ := rep_klst (rd2_rep r1 (fun _ z => by cases z) (fun _ _ z => by cases z) (fun _ _ z => by cases z) (fun _ _ _ z => by cases z))
      have e2 := rep_int r2
      obtain ⟨z, hz, rz⟩ := atI_rep q1 h
      exact seq ix_list ⟨a, xs, i, z, e, e2, by rw [C.K]; exact g1, hz, rz, rfl⟩
    | _ => cases h
  | ktup ds =>
    cases y with
    | int i =>
      obtain ⟨a, xs, e, g1, _, q1⟩ := rep_ktup (rd2_rep r1 (fun _ z => by cases z) (fun _ _ z => by cases z) (fun _ _ z => by cases z) (fun _ _ _ z => by cases z))
      have e2 := rep_int r2
      obtain ⟨z, hz, rz⟩ := atI_rep q1 h
      exact seq ix_tup ⟨a, xs, i, z, e, e2, by rw [C.K]; exact g1, hz, rz, rfl⟩
    | _ => cases h
  | str zs =>
    cases y with
    | int i =>
      have e1 := rep_str (rd2_rep r1 (fun _ z => by cases z) (fun _ _ z => by cases z) (fun _ _ z => by cases z) (fun _ _ _ z => by cases z))
      have e2 := rep_int r2
      have h : (if zs.length ≤ 16777216 then (atI zs.cps.toList i).map fun c => D.str ⟨#[c]⟩ else none) = some d := h
      by_cases hz : zs.length ≤ 16777216
      · rw [if_pos hz] at h
        obtain ⟨c, hc, e⟩ := Option.map_eq_some_iff.mp h
        exact seq ix_str ⟨zs, i, c, e1, e2, by rw [sizeLine_eq]; exact hz, hc, by rw [← e]; exact Sc.rep (.str _), rfl⟩
      · rw [if_neg hz] at h
        cases h
    | _ => cases h
  | dic ks ws =>
    obtain ⟨a, kvs, e, g1, g2, g3⟩ := rd2_dic r1
    obtain ⟨kk, h1, h2⟩ := Option.bind_eq_some_iff.mp h
    obtain ⟨z, hz, rz⟩ := lookK_val g2 g3 h2
    have ek := keyOf_rep h1 r2
    subst e; subst ek
    cases rx
    have g : DGet H a (kV kk) (some z) := by rw [← hz]; exact DGet.k g1
    exact PyProof.Rows.tail_any (dict_typeIs I g) PySem.F.slot_dict_getitem.lookup (d_getItem (hu_of C.room) I g ry fun w s' I' rw' => hq z w s' I' rz rw') hs
  | dicT ks ws =>
    cases y with
    | tup ds =>
      obtain ⟨a, kvs, e, g1, g2, g3⟩ := rd2_dicT r1
      obtain ⟨kk, h1, h2⟩ := Option.bind_eq_some_iff.mp h
      obtain ⟨z, hz, rz⟩ := lookK_val g2 g3 h2
      obtain ⟨b, eb, hb⟩ := htup_of h1 r2
      subst e; subst eb
      cases rx
      have g : DGet H a (.ref b) (some z) := by rw [← hz]; exact DGet.t g1 hb
      exact PyProof.Rows.tail_any (dict_typeIs I g) PySem.F.slot_dict_getitem.lookup (d_getItem (hu_of C.room) I g ry fun w s' I' rw' => hq z w s' I' rz rw') hs
    | _ => cases h
  | _ => cases h
/-- o[i] -/
theorem de_ix {k : Nat} (C : CtxOk X W Wx k) (ha : PE X a (tD W Wx f)) (hb : PE X b (tD W Wx g)) (hs : PlainIx b) : PE X (.Subscript a b pos) (tD W Wx (op2 f g ixM)) := by
  refine ⟨fun pins s σ H Q I h => ?_⟩
  have h2 : tD W Wx f σ H (fun x H1 => tD W Wx g σ H1 fun y H2 => ∃ A0 μ O S dx dy, RepS W A0 μ O H2 σ S ∧ Rep W (Av A0 μ O) μ H2 dx x ∧ Rep W (Av A0 μ O) μ H2 dy y ∧ PostG W Wx (rlD W) A0 μ O H2 σ (ixM dx dy S) Q) := by
    refine tG_mono (tG_bind (rl := rlD W) h) fun v H1 ⟨A0, μ1, O, S1, x, rs1, r1, p1⟩ => ?_
    refine tG_mono (tG_bindK (rl := rlD W) keeps_rep rs1 r1 p1) fun w H2 ⟨μ2, S2, y, rs2, r2, ry, p2⟩ => ?_
    exact ⟨A0, μ2, O, S2, x, y, rs2, r2, ry, p2⟩
  refine PyProof.Rows.Subscript_ (binT ha hb I h2 fun v u s2 x y H2 I2 rx ry q => ?_)
  obtain ⟨A0, μ, O, S, dx, dy, rs, r1, r2, p⟩ := q
  unfold ixM at p
  cases e : (deref S dx).bind fun x => ixF x dy with
  | none => rw [e] at p; exact p.elim
  | some d =>
    rw [e] at p
    obtain ⟨x', e1, e2⟩ := Option.bind_eq_some_iff.mp e
    exact ix_run I2 C e2 (deref_rd2 rs e1 (.inl r1)) r2 rx ry (hs v u) fun z w s' I' rz rw' => ⟨z, H2, I', rw', tG_ret (rl := rlD W) rs p rz⟩
/-- is there a value at the name -/
def hasV (i : Nat) (S : Stt) : Bool := match S.sl[i]? with
  | some (.d _) => true
  | some (.own _) => true
  | _ => false
/-- the name's value, whatever it is -/
def atV (i : Nat) (S : Stt) : Option D := match S.sl[i]? with
  | some (.d x) => some x
  | some (.own x) => some x
  | _ => none
theorem hasV_at (rs : RepS W A0 μ O H σ S) {i : Nat} (h : hasV i S = true) : ∃ v, σ[i]? = some (some v) := by
  have hi := rs.sl i
  unfold hasV at h
  cases e : S.sl[i]? with
  | none => rw [e] at h; cases h
  | some x =>
    rw [e] at h hi
    cases x with
    | no => cases h
    | d x => obtain ⟨v, hv, _⟩ := hi; exact ⟨v, hv⟩
    | own x => obtain ⟨a, _, hv, _⟩ := hi; exact ⟨_, hv⟩
theorem atV_at (rs : RepS W A0 μ O H σ S) {i : Nat} {x : D} {v : V} (h : atV i S = some x) (hv : σ[i]? = some (some v)) : Rdb W A0 O μ H x v := by
  have hi := rs.sl i
  unfold atV at h
  cases e : S.sl[i]? with
  | none => rw [e] at h; cases h
  | some y =>
    rw [e] at h hi
    cases y with
    | no => cases h
    | d y =>
      cases h
      obtain ⟨w, hw, r⟩ := hi
      rw [hv] at hw
      cases hw
      exact .inl r
    | own y =>
      cases h
      obtain ⟨a, ho, hw, r⟩ := hi
      rw [hv] at hw
      cases hw
      exact .inr ⟨i, a, ho, rfl, r⟩
/-- x[i], x a name: looked at behind the index -/
def ixV (i : Nat) (g : M D) : M D := fun S => if hasV i S = true then (M.bnd g fun y S => match atV i S with
  | some x => ixM x y S
  | none => .stuck) S else .stuck
theorem de_ixV {k i : Nat} (C : CtxOk X W Wx k) (ha : PE X a (tVar i)) (hb : PE X b (tD W Wx g)) (hs : PlainIx b) : PE X (.Subscript a b pos) (tD W Wx (ixV i g)) := by
  refine ⟨fun pins s σ H Q I h => ?_⟩
  have h2 : tVar i σ H (fun x H1 => tD W Wx g σ H1 fun y H2 => ∃ A0 μ O S dx dy, RepS W A0 μ O H2 σ S ∧ Rd2 W (Av A0 μ O) μ H2 dx x ∧ Rep W (Av A0 μ O) μ H2 dy y ∧ PostG W Wx (rlD W) A0 μ O H2 σ (ixM dx dy S) Q) := by
    obtain ⟨A0, μ, O, S, rs, p⟩ := h
    unfold ixV at p
    by_cases hv : hasV i S = true
    · rw [if_pos hv] at p
      obtain ⟨v, ev⟩ := hasV_at rs hv
      refine ⟨v, ev, tG_mono (tG_bind (rl := rlD W) ⟨A0, μ, O, S, rs, p⟩) fun w H2 ⟨A0, μ2, O, S2, y, rs2, ry, p2⟩ => ?_⟩
      cases e : atV i S2 with
      | none => rw [e] at p2; exact p2.elim
      | some x =>
        rw [e] at p2
        exact ⟨A0, μ2, O, S2, x, y, rs2, rdb_rd2 (atV_at rs2 e ev), ry, p2⟩
    · rw [if_neg hv] at p
      exact p.elim
  refine PyProof.Rows.Subscript_ (binT ha hb I h2 fun v u s2 x y H2 I2 rx ry q => ?_)
  obtain ⟨A0, μ, O, S, dx, dy, rs, r1, r2, p⟩ := q
  unfold ixM at p
  cases e : (deref S dx).bind fun x => ixF x dy with
  | none => rw [e] at p; exact p.elim
  | some d =>
    rw [e] at p
    obtain ⟨x', e1, e2⟩ := Option.bind_eq_some_iff.mp e
    exact ix_run I2 C e2 (deref_rd2 rs e1 r1) r2 rx ry (hs v u) fun z w s' I' rz rw' => ⟨z, H2, I', rw', tG_ret (rl := rlD W) rs p rz⟩

/-! ### slices -/
def rlO : Rl (Option Int) (Option Int) := fun _ _ _ _ b c => b = c
def partOf : D → M (Option Int)
  | .int i => M.ret (some i)
  | _ => M.fail
abbrev tDO (W : Wd) (Wx : WX) (f : M (Option Int)) : TO := tG W Wx rlO f
theorem PO.imp {X : Cx} {e : Option Expr} {t t' : TO} (h : PO X e t) (i : ∀ σ H Q, t' σ H Q → t σ H Q) : PO X e t' := ⟨fun pins s σ H Q I hq => h.run pins s σ H Q I (i σ H Q hq)⟩
theorem do_none : PO X none (tDO W Wx (M.ret none)) := PO.imp po_none fun σ H Q ⟨A0, μ, O, S, rs, p⟩ => tG_ret (rl := rlO) rs p rfl
theorem do_some {e : Expr} (h : PE X e (tD W Wx f)) : PO X (some e) (tDO W Wx (M.bnd f partOf)) := PO.imp (po_some h) fun σ H Q h => tG_mono (tG_bind (rl := rlD W) h) fun v H1 ⟨A0, μ1, O, S1, x, rs1, r1, p1⟩ => by
  cases x with
  | int i => exact ⟨i, rep_int r1, tG_ret (rl := rlO) rs1 p1 rfl⟩
  | _ => exact p1.elim
def cutD {α : Type} (xs : List α) (lo hi : Option Int) : List α := (xs.drop (HT.sIx xs.length 0 lo)).take (HT.sIx xs.length xs.length hi - HT.sIx xs.length 0 lo)
def slF (x : D) (lo hi : Option Int) : Option D := match x with
  | .lst ds => some (.lst (cutD ds lo hi))
  | .klst ds => some (.lst (cutD ds lo hi))
  | .tup ds => some (.tup (cutD ds lo hi))
  | .str z => if z.length ≤ 16777216 then some (.str (cutS z lo hi)) else none
  | _ => none
def slE (f : M D) (l h : M (Option Int)) : M D := M.bnd f fun x => M.bnd l fun lo => M.bnd h fun hi => ofO (slF x lo hi)
theorem reps_take {A : Addr → Prop} : ∀ (n : Nat) {ds : List D} {xs : List V}, Reps W A μ H ds xs → Reps W A μ H (ds.take n) (xs.take n)
  | 0, _, _, _ => by simp [Reps]
  | n + 1, [], xs, h => by
    simp only [Reps] at h
    subst h
    simp [Reps]
  | n + 1, d :: ds, xs, h => by
    simp only [Reps] at h
    obtain ⟨v, vs, e, r1, r2⟩ := h
    subst e
    exact reps_cons r1 (reps_take n r2)
theorem reps_drop {A : Addr → Prop} : ∀ (n : Nat) {ds : List D} {xs : List V}, Reps W A μ H ds xs → Reps W A μ H (ds.drop n) (xs.drop n)
  | 0, _, _, h => h
  | n + 1, [], xs, h => by
    simp only [Reps] at h
    subst h
    simp [Reps]
  | n + 1, d :: ds, xs, h => by
    simp only [Reps] at h
    obtain ⟨v, vs, e, r1, r2⟩ := h
    subst e
    exact reps_drop n r2
theorem reps_cut {A : Addr → Prop} {ds : List D} {xs : List V} {lo hi : Option Int} (r : Reps W A μ H ds xs) : Reps W A μ H (cutD ds lo hi) (cutV xs lo hi) := by
  unfold cutD cutV
  rw [reps_length r]
  exact reps_take _ (reps_drop _ r)
theorem cutD_length {α : Type} (xs : List α) (lo hi : Option Int) : (cutD xs lo hi).length ≤ xs.length := by
  unfold cutD
  rw [List.length_take, List.length_drop]
  omega
theorem cutD_whole {α : Type} {xs : List α} {lo hi : Option Int} (h : HT.sIx xs.length 0 lo = 0 ∧ HT.sIx xs.length xs.length hi = xs.length) : cutD xs lo hi = xs := by
  unfold cutD
  rw [h.1, h.2]
  simp
theorem de_slice {k : Nat} {e : Expr} {lo hi : Option Expr} {l h : M (Option Int)} {p2 : Pos} (C : CtxOk X W Wx k) (he : PE X e (tD W Wx f)) (hl : PO X lo (tDO W Wx l)) (hh : PO X hi (tDO W Wx h)) : PE X (.Subscript e (.Slice lo hi none p2) pos) (tD W Wx (slE f l h)) := by
  refine PE.imp (pe_slice (SlR.or (sl_list (X := X)) (SlR.or (sl_tupA (X := X)) (sl_str (X := X)))) he hl hh) fun σ H Q hq => ?_
  refine tG_mono (tG_bind (rl := rlD W) hq) fun v H1 ⟨A0, μ1, O, S1, x, rs1, r1, p1⟩ => ?_
  refine tG_mono (tG_bindK (rl := rlO) keeps_rep rs1 r1 p1) fun lo' H2 ⟨μ2, S2, lo, rs2, r2, rl2, p2⟩ => ?_
  have e1 : lo = lo' := rl2
  subst e1
  refine tG_mono (tG_bindK (rl := rlO) keeps_rep rs2 r2 p2) fun hi' H3 ⟨μ3, S3, hi, rs3, r3, rl3, p3⟩ => ?_
  have e2 : hi = hi' := rl3
  subst e2
  cases x with
  | lst ds =>
    obtain ⟨a, xs, e, g1, g2, q1⟩ := rep_lst r3
    exact .inl ⟨a, xs, e, .inl g1, fun p hp => lay_lstD rs3 (reps_cut q1) (Nat.le_trans (cutD_length _ _ _) g2) hp p3⟩
  | klst ds =>
    obtain ⟨a, xs, e, g1, g2, q1⟩ := rep_klst r3
    exact .inl ⟨a, xs, e, by rw [C.K]; exact g1, fun p hp => lay_lstD rs3 (reps_cut q1) (Nat.le_trans (cutD_length _ _ _) g2) hp p3⟩
  | tup ds =>
    obtain ⟨a, xs, e, g1, g2, q1⟩ := rep_tup r3
    refine .inr (.inl ⟨a, xs, e, by rw [C.K]; exact g1, fun hw => ?_, fun _ p hp => lay_tupD rs3 (reps_cut q1) (Nat.le_trans (cutD_length _ _ _) g2) hp p3⟩)
    rw [reps_length q1] at hw
    have p3 : PostG W Wx (rlD W) A0 μ3 O H3 σ (M.ret (.tup (cutD ds lo hi)) S3) Q := p3
    rw [cutD_whole hw] at p3
    subst e
    exact tG_ret (rl := rlD W) rs3 p3 r3
  | str z =>
    have e := rep_str r3
    have p3 : PostG W Wx (rlD W) A0 μ3 O H3 σ (ofO (if z.length ≤ 16777216 then some (.str (cutS z lo hi)) else none) S3) Q := p3
    by_cases hz : z.length ≤ 16777216
    · rw [if_pos hz] at p3
      exact .inr (.inr ⟨z, e, by rw [sizeLine_eq]; exact hz, q_sc rs3 p3 (.str _)⟩)
    · rw [if_neg hz] at p3
      exact p3.elim
  | _ => exact p3.elim
end
end DL
end
section
set_option Elab.async false
set_option linter.all false
set_option maxRecDepth 100000
set_option maxHeartbeats 1000000
namespace DL
open PySem PySem.Spec L2 PyProof.Rows
/-! ### enumerate(tuple) -/
section
variable {prog : Program} {w : World} {A : Around} {E : Value → Shared → Prop} {s : Shared}
theorem draws_tuple (hh : A.handled = none) (it l : Addr) (hne : l ≠ it) (items : Array Value) :
    Draws prog w A it [it, l] items.size (fun i v => items[i]? = some v) (fun i h => h.IsTupleIter it l i ∧ h.IsTuple l items) where
  live := fun _ _ st => let ⟨o, ho, _⟩ := st.1; ⟨o, ho⟩
  frame := fun _ _ _ st hk => ⟨st.1.at fun o e => hk it (by simp) o e, let ⟨o, ho, r⟩ := st.2; ⟨o, hk l (by simp) o ho, r⟩⟩
  item := fun i s Q E hi st hQ => by
    refine RZ.nextOf_tuple_item st.1 st.2 (x := items[i]) (by simp [hi]) fun h' hit' hs' => ?_
    exact hQ _ h' s.toks (by simp [hi]) ⟨hit', st.2.extBut hs'.extBut hne⟩ hs'
  done := fun s Q E st hE => RZ.nextOf_tuple_end hh st.1 st.2 (by simp) hE
theorem meets_enumerate_newT (l : Addr) (items : Array Value) (c : Option Addr) (n : Nat) (sl : Array (Option Value)) :
    Meets (Builtin.«enumerate.__new__» ⟨[.type "enumerate", .ref l], []⟩) (fun _ R s => s.heap.get? l = some { cls := .type "tuple", dict := c, data := .seq items n, slots := sl } ∧
      R (.ok (.ret (.ref (s.heap.push { cls := .type "tuple_iterator", data := .fields #[.ref l, .int 0 0] }).objs.size)))
        { s with heap := (s.heap.push { cls := .type "tuple_iterator", data := .fields #[.ref l, .int 0 0] }).push { cls := .type "enumerate", data := .fields #[.none, .bool false, .ref s.heap.objs.size, rawInt 0, .none, .none] } }) :=
  .of_wp fun prog w A R s h => by
    obtain ⟨hp, g, d, tk, os⟩ := s; obtain ⟨hl, h⟩ := h
    have hsub := sub_enumerate
    have hL : Heap.IsTuple (Shared.heap ⟨hp, g, d, tk, os⟩) l items := ⟨_, hl, rfl, n, rfl⟩
    wp_walk using wpAny_loadPart' hl
    refine wpAny_stack_any fun st => wpAny_pure ?_
    split
    · rename_i c _ _ _ _ _
      cases (c == Value.type "enumerate")
      · wp_walk using wpAny_loadPart' hl, wpAny_pyIter_tuple hL
        exact ⟨_, rfl, h⟩
      · wp_walk using wpAny_loadPart' hl, wpAny_pyIter_tuple hL
        exact ⟨_, rfl, h⟩
    · wp_walk using wpAny_loadPart' hl, wpAny_pyIter_tuple hL
      exact ⟨_, rfl, h⟩
theorem call_enumerate_tuple {l : Addr} {items : Array Value} {Q : Value → Shared → Prop} (hL : s.heap.IsTuple l items)
    (h : ∀ h', IsEnum h' (s.heap.objs.size + 1) s.heap.objs.size 0 .none → h'.IsTupleIter s.heap.objs.size l 0 → h'.objs.size = s.heap.objs.size + 2 →
      (∀ b o, s.heap.get? b = some o → h'.get? b = some o) → Q (.ref (s.heap.objs.size + 1)) { s with heap := h' }) :
    wpAny (model prog w) A (call (.type "enumerate") [.ref l]) Q E s := by
  obtain ⟨⟨c, dct, dt, sl⟩, hl, hc, n, hd⟩ := hL
  replace hc : c = .type "tuple" := hc
  replace hd : dt = .seq items n := hd
  subst hc hd
  refine callType_new F.called_enumerate (by decide) (F.typeCall_enumerate_1 _) (F.newCall_enumerate_1 _) (fun obj => F.args_object_init_2 obj _) F.entry_enumerate_new
    (meets_enumerate_newT l items dct n sl) ⟨hl, ?_⟩
  have hz : (s.heap.push { cls := .type "tuple_iterator", data := .fields #[.ref l, .int 0 0] }).objs.size = s.heap.objs.size + 1 := Heap.size_push ..
  show _ ∧ _
  rw [hz]
  have he : IsEnum ((s.heap.push { cls := .type "tuple_iterator", data := .fields #[.ref l, .int 0 0] }).push
      { cls := .type "enumerate", data := .fields #[.none, .bool false, .ref s.heap.objs.size, rawInt 0, .none, .none] }) (s.heap.objs.size + 1) s.heap.objs.size 0 .none := by
    have := Heap.get?_push_size (s.heap.push { cls := .type "tuple_iterator", data := .fields #[.ref l, .int 0 0] })
      (o := { cls := .type "enumerate", data := .fields #[.none, .bool false, .ref s.heap.objs.size, rawInt 0, .none, .none] }) rfl
    rw [hz] at this; exact this
  refine ⟨⟨_, he, rfl⟩, h _ he ⟨_, Heap.get?_push_of_some _ (Heap.get?_push_size _ rfl), rfl, rfl⟩ (by rw [Heap.size_push, hz]) fun b o x => Heap.get?_push_of_some _ (Heap.get?_push_of_some _ x)⟩
end
def IteT (K : PySem.W.Frag) (a : Addr) : It :=
  ⟨fun i H => ∃ (xs : List V) (x : V), SqT K H a xs ∧ xs[i]? = some x, fun i H v H' => ∃ T x, v = .ref T ∧ H T = none ∧ H' = upd H T (.tup [.int (i : Nat), x]) ∧ ∀ xs, SqT K H a xs → xs[i]? = some x, fun i H => ∃ xs : List V, SqT K H a xs ∧ xs.length = i⟩
theorem turn_enumT {P : Program} {w : World} {K : PySem.W.Frag} {elts : List Expr} {kk : Nat} {tpos : Pos} (a e it : Addr) :
    Turn P w K (.Tuple elts kk tpos) (IteT K a) [e, it] e (fun i h => (∃ old, IsEnum h e it ((i : Nat) : Int) old) ∧ h.IsTupleIter it a i ∧ e ≠ it) where
  mem := by simp
  obj := fun i h st b hb => by
    obtain ⟨⟨old, he⟩, ⟨o, ho, hc, hd⟩, _⟩ := st
    have e' : b = e ∨ b = it := by simpa using hb
    rcases e' with z | z
    · rw [z]; exact ⟨_, he, fun v q => nomatch q⟩
    · rw [z]; exact ⟨o, ho, fun v q => by rw [hd] at q; cases q⟩
  keep := fun i h h' st k => let ⟨⟨old, he⟩, hi, hne⟩ := st; ⟨⟨old, k e (by simp) _ he⟩, hi.at fun o q => k it (by simp) o q, hne⟩
  item := by
    intro X hP hw hK hc i pins s σ H E I hf st hg
    subst hP hw hK
    obtain ⟨⟨old, he⟩, hit, hne⟩ := st
    obtain ⟨xs, x, hq, hx⟩ := hg
    obtain ⟨its, rv, p, hz⟩ := I.tuple hq
    obtain ⟨u, hu, ru⟩ := rv.get hx
    have hel : e < s.heap.objs.size := Heap.lt_size he
    have hil : it < s.heap.objs.size := by obtain ⟨_, q, _⟩ := hit; exact Heap.lt_size q
    have p' : s.heap.IsTuple a its.toArray := p
    obtain ⟨oa, ha1, ha2, na, ha3⟩ := id p'
    have hae : a ≠ e := fun z => by subst z; rw [he] at ha1; cases ha1; simp at ha2
    have hai : a ≠ it := fun z => by
      subst z
      obtain ⟨o2, q1, q2, q3⟩ := hit
      rw [ha1] at q1; cases q1; rw [ha3] at q3; cases q3
    have hlt : i < its.toArray.size := by
      have hl := rv.length
      have := (List.getElem?_eq_some_iff.mp hx).1
      simp; omega
    refine wpAny_pyNext_enum_itemD (draws_tuple (A := X.A.in1) (prog := X.prog) (w := X.w) (show X.A.in1.handled = none from I.ok.hd hc) it a hai its.toArray) he ⟨hit, p'⟩ hlt hne (by simp; exact ⟨hne, Ne.symm hae⟩) fun x2 h' tk hP ho hst hT hsz hk => ?_
    have e2 : x2 = u := by
      have hP : its.toArray[i]? = some x2 := hP
      have hu' : its.toArray[i]? = some u := by simpa using hu
      rw [hP] at hu'; exact Option.some.inj hu'
    subst e2
    obtain ⟨hit', _⟩ := hst
    refine ⟨_, rfl, wpAny_letOwnedTupleGo_enum (s := { s with heap := h', toks := tk + 1 }) ho fun h'' he' sb => ?_⟩
    have hT2 : h''.get? s.heap.objs.size = some { cls := .type "tuple", data := .seq #[.int i tk, x2] } := (sb.2 _ (Nat.ne_of_gt hel)).trans hT
    have new : ObjOk X.prog X.w (upd H s.heap.objs.size (.tup [.int (i : Nat), x])) h'' s.heap.objs.size (.tup [.int (i : Nat), x]) :=
      ⟨by show 2 ≤ sizeLine; decide, [.int i tk, x2], .cons ⟨_, rfl⟩ (.cons ru .nil), ⟨_, hT2, rfl, _, rfl⟩⟩
    have I1 : Inv X pins σ (upd H s.heap.objs.size (.tup [.int (i : Nat), x])) { s with heap := h'', toks := tk + 1 } :=
      I.turnedNew (ch := [e, it]) (fun b ob hb q => (sb.2 b (fun z => hb (by simp [z]))).trans (hk b ob (fun z => hb (by simp [z])) (fun z => hb (by simp [z])) q)) hf (Nat.le_refl _) new
    refine ⟨.ref s.heap.objs.size, _, I1, rfl, ⟨_, x, rfl, I.hok.fresh (Nat.le_refl _), rfl, fun ys hy => by rw [I.tuple_inj hy hq]; exact hx⟩, ⟨⟨x2, ?_⟩, hit'.at fun o q => (sb.2 it (Ne.symm hne)).trans q, hne⟩, fun b hb => ?_⟩
    · have e1 : ((i + 1 : Nat) : Int) = (i : Int) + 1 := by omega
      rw [e1]; exact he'
    · have hb' : b < s.heap.objs.size := by
        have e' : b = e ∨ b = it := by simpa using hb
        rcases e' with z | z
        · rw [z]; exact hel
        · rw [z]; exact hil
      rw [upd_ne (Nat.ne_of_lt hb')]
      exact (hf b hb).1
  done := by
    intro X hP hw hK hc i pins s σ H E I hf st hg
    subst hP hw hK
    obtain ⟨⟨old, he⟩, hit, hne⟩ := st
    obtain ⟨xs, hq, hx⟩ := hg
    obtain ⟨its, rv, p, hz⟩ := I.tuple hq
    obtain ⟨f0, f1, f2, f3, f4, f5⟩ := hf it (by simp)
    have hl := rv.length
    have p' : s.heap.IsTuple a its.toArray := p
    obtain ⟨oa, ha1, ha2, na, ha3⟩ := id p'
    have hai : a ≠ it := fun z => by
      subst z
      obtain ⟨o2, q1, q2, q3⟩ := hit
      rw [ha1] at q1; cases q1; rw [ha3] at q3; cases q3
    have hs : i = its.toArray.size := by simp; omega
    exact wpAny_pyNext_enum_endD (draws_tuple (A := X.A.in1) (prog := X.prog) (w := X.w) (show X.A.in1.handled = none from I.ok.hd hc) it a hai its.toArray) he (by rw [← hs]; exact ⟨hit, p'⟩) fun h' eb => ⟨rfl, I.turned (t' := s.toks) (fun b o hb q => eb b o hb q) f0 f1 f3 f4 f5⟩
  self := fun A i s Q E st h => let ⟨⟨_, he⟩, _⟩ := st; wpAny_pyIter_enum he h
/-- enumerate of a list or of a tuple -/
def iEnumA (K : PySem.W.Frag) (ta : TA) : TI := fun σ H R => ta σ H fun vs H1 => ∃ a xs, vs = [.ref a] ∧ ((SqL K H1 a xs ∧ R (Ite K a) H1) ∨ (SqT K H1 a xs ∧ R (IteT K a) H1))
theorem pi_enumA {X : Cx} {e : Expr} {ta : TA} {p pos tpos : Pos} {elts : List Expr} {kk : Nat} (hg : Gl X "enumerate") (hm : X.mg "enumerate" = none) (ha : PA X [e] ta) (hs : starEach [e] X.env = [(false, eval e X.env)] := by rfl) :
    PI X (.Tuple elts kk tpos) (.Call (.Name "enumerate" p) [e] [] pos) (iEnumA X.K ta) := by
  refine ⟨fun pins s σ H R I h => ?_⟩
  refine Call_ (ld_blt I hg hm boot_enumerate (PyProof.Rows.callWith_type1 (thn (ha.run pos pins s σ H _ I h) fun us s1 ⟨vs, H1, I1, r1, q1⟩ => ?_) hs rfl))
  obtain ⟨a, xs, ex, q⟩ := q1
  subst ex
  cases r1 with
  | cons r rr =>
    cases rr
    cases r
    have fp : ∀ b ∈ [s1.heap.objs.size + 1, s1.heap.objs.size], FpOk X pins H1 b := fun b hb => by
      have e' : b = s1.heap.objs.size + 1 ∨ b = s1.heap.objs.size := by simpa using hb
      have hle : s1.heap.objs.size ≤ b := by
        rcases e' with z | z
        · rw [z]; exact Nat.le_add_right _ _
        · rw [z]; exact Nat.le_refl _
      exact I1.fpOk hle (I1.hok.fresh hle)
    rcases q with ⟨hq, q⟩ | ⟨hq, q⟩
    · obtain ⟨its, rv, p', hz⟩ := I1.list hq
      refine call_enumerate_list p'.isList fun h' he hit hsz hk => wpAny_pyIter_enum he ?_
      have I2 : Inv X pins σ H1 { s1 with heap := h' } := I1.kept (t' := s1.toks) hk
      exact ⟨s1.heap.objs.size + 1, [s1.heap.objs.size + 1, s1.heap.objs.size], _, _, H1, rfl, I2, turn_enum a (s1.heap.objs.size + 1) s1.heap.objs.size, ⟨⟨.none, he⟩, hit, Nat.succ_ne_self _⟩, fp, q⟩
    · obtain ⟨its, rv, p', hz⟩ := I1.tuple hq
      refine call_enumerate_tuple (show s1.heap.IsTuple a its.toArray from p') fun h' he hit hsz hk => wpAny_pyIter_enum he ?_
      have I2 : Inv X pins σ H1 { s1 with heap := h' } := I1.kept (t' := s1.toks) hk
      exact ⟨s1.heap.objs.size + 1, [s1.heap.objs.size + 1, s1.heap.objs.size], _, _, H1, rfl, I2, turn_enumT a (s1.heap.objs.size + 1) s1.heap.objs.size, ⟨⟨.none, he⟩, hit, Nat.succ_ne_self _⟩, fp, q⟩
end DL
end
section
set_option Elab.async false
set_option linter.all false
set_option maxRecDepth 100000
namespace DL
open PySem PySem.Spec L2
/-! ### what is walked, by data -/
def chars (x : Str) : List D := x.cps.toList.map fun c => .str ⟨#[c]⟩
def enumD (ds : List D) : List D := ds.zipIdx.map fun p => .tup [.int (p.2 : Nat), p.1]
def zipD (a b : List D) : List D := List.zipWith (fun x y => .tup [x, y]) a b
def rangeD (lo : Int) (n : Nat) : List D := (List.range n).map fun i => .int (lo + (i : Nat))
def itemsD : D → M (List D)
  | .lst ds => M.ret ds
  | .tup ds => M.ret ds
  | .ktup ds => M.ret ds
  | .str x => M.ret (chars x)
  | _ => M.fail
def itemsM (f : M D) : M (List D) := M.bnd f itemsD
def seqD : D → Option (List D)
  | .lst ds => some ds
  | .tup ds => some ds
  | .ktup ds => some ds
  | _ => none
def enumF : List D → M (List D)
  | [d] => match seqD d with
    | some ds => M.ret (enumD ds)
    | none => M.fail
  | _ => M.fail
def enumM (f : M D) : M (List D) := M.bnd (seqM [f]) enumF
def zipF : List D → M (List D)
  | [.lst a, .lst b] => M.ret (zipD a b)
  | [.tup a, .tup b] => M.ret (zipD a b)
  | [.ktup a, .tup b] => M.ret (zipD a b)
  | [.tup a, .ktup b] => M.ret (zipD a b)
  | _ => M.fail
def zipM (f g : M D) : M (List D) := M.bnd (seqM [f, g]) zipF
def rng1F : List D → M (List D)
  | [.int j] => if -(2 ^ 62) ≤ j ∧ j < 2 ^ 62 then M.ret (rangeD 0 j.toNat) else M.fail
  | _ => M.fail
def rng1M (f : M D) : M (List D) := M.bnd (seqM [f]) rng1F
def rng2F : List D → M (List D)
  | [.int i, .int j] => if -(2 ^ 62) ≤ i ∧ i < 2 ^ 62 ∧ -(2 ^ 62) ≤ j ∧ j < 2 ^ 62 then M.ret (rangeD i (j - i).toNat) else M.fail
  | _ => M.fail
def rng2M (f g : M D) : M (List D) := M.bnd (seqM [f, g]) rng2F
section
variable {W : Wd} {Wx : WX} {X : Cx} {A0 : Addr → Prop} {μ μ1 μ' : List Addr} {O O' : Nat → Option Addr} {H H1 H' : Hp} {σ : St} {S S' : Stt} {pos p : Pos} {tg e e1 e2 : Expr} {f g : M D} {a b : Addr} {ds ds' : List D}
theorem ItD.list (r : Rep W (Av A0 μ O) μ H (.lst ds) (.ref a)) : ItD W A0 μ O H (Itl W.K a) ds := fun A1 σ S μ1 O1 H1 ha st rs => by
  obtain ⟨a', xs, e, h1, h2, h3⟩ := rep_lst (Rep.le (st.le1 ha) _ _ r)
  cases e
  refine ⟨fun i d hd => ?_, ⟨xs, .inl h1, Nat.le_of_eq (reps_length h3)⟩⟩
  obtain ⟨v, hv, rv⟩ := reps_get h3 hd
  refine ⟨⟨xs, v, .inl h1, hv⟩, fun x H' ⟨e, y⟩ => ?_⟩
  subst e
  have y := y xs (.inl h1)
  rw [hv] at y; cases y
  exact ⟨fun _ _ h => h, rv⟩
/-- a tuple of either kind -/
theorem rep_seqT {A : Addr → Prop} {d : D} {v : V} (h : d = .tup ds ∨ d = .ktup ds) (r : Rep W A μ H d v) : ∃ a xs, v = .ref a ∧ SqT W.K H a xs ∧ ds.length ≤ sizeLine ∧ Reps W A μ H ds xs := by
  rcases h with h | h
  · subst h; exact rep_tup r
  · subst h; exact rep_ktup r
theorem ItD.tup {d : D} (h : d = .tup ds ∨ d = .ktup ds) (r : Rep W (Av A0 μ O) μ H d (.ref a)) : ItD W A0 μ O H (Itt W.K a) ds := fun A1 σ S μ1 O1 H1 ha st rs => by
  obtain ⟨a', xs, e, h1, h2, h3⟩ := rep_seqT h (Rep.le (st.le1 ha) _ _ r)
  cases e
  refine ⟨fun i d hd => ?_, ⟨xs, h1, Nat.le_of_eq (reps_length h3)⟩⟩
  obtain ⟨v, hv, rv⟩ := reps_get h3 hd
  refine ⟨⟨xs, v, h1, hv⟩, fun x H' ⟨e, y⟩ => ?_⟩
  subst e
  have y := y xs h1
  rw [hv] at y; cases y
  exact ⟨fun _ _ h => h, rv⟩
theorem ItD.str (x : Str) : ItD W A0 μ O H (Its x) (chars x) := fun A1 σ S μ1 O1 H1 ha st rs => by
  refine ⟨fun i d hd => ?_, by show x.cps.size ≤ (chars x).length; simp [chars]⟩
  have hd : (x.cps.toList.map fun c => D.str ⟨#[c]⟩)[i]? = some d := hd
  rw [List.getElem?_map] at hd
  cases hc : x.cps.toList[i]? with
  | none => rw [hc] at hd; cases hd
  | some c =>
    rw [hc] at hd
    simp only [Option.map_some, Option.some.injEq] at hd
    have hc : x.cps[i]? = some c := by simpa using hc
    refine ⟨(Array.getElem?_eq_some_iff.mp hc).1, fun v H' ⟨e, c', h1, h2⟩ => ?_⟩
    subst e
    rw [hc] at h1; cases h1
    refine ⟨fun _ _ h => h, ?_⟩
    rw [← hd, h2]; simp only [Rep]
theorem ItD.range (lo : Int) (n : Nat) : ItD W A0 μ O H (Itr lo n) (rangeD lo n) := fun A1 σ S μ1 O1 H1 ha st rs => by
  refine ⟨fun i d hd => ?_, by show n ≤ (rangeD lo n).length; simp [rangeD]⟩
  have hd : ((List.range n).map fun i => D.int (lo + (i : Nat)))[i]? = some d := hd
  rw [List.getElem?_map] at hd
  by_cases hi : i < n
  · rw [List.getElem?_range hi] at hd
    simp only [Option.map_some, Option.some.injEq] at hd
    refine ⟨hi, fun v H' ⟨e, h2⟩ => ?_⟩
    subst e
    refine ⟨fun _ _ h => h, ?_⟩
    rw [← hd, h2]; simp only [Rep]
  · rw [List.getElem?_eq_none (by simpa using hi)] at hd; cases hd
theorem pair_new {T : Addr} {x y : D} {v w : V} (rs : RepS W A0 μ O H σ S) (hT : H T = none) (r1 : Rep W (Av A0 μ O) μ H x v) (r2 : Rep W (Av A0 μ O) μ H y w) : (∀ b o, H b = some o → upd H T (.tup [v, w]) b = some o) ∧ Rep W (Av A0 μ O) μ (upd H T (.tup [v, w])) (.tup [x, y]) (.ref T) :=
  ⟨upd_keep hT, rep_tup_new rs (reps_cons r1 (reps_cons r2 reps_nil)) (by show 2 ≤ sizeLine; decide) hT⟩
theorem enumD_get {i : Nat} {d : D} (h : (enumD ds)[i]? = some d) : ∃ x, ds[i]? = some x ∧ d = .tup [.int (i : Nat), x] := by
  unfold enumD at h
  rw [List.getElem?_map] at h
  cases hc : ds.zipIdx[i]? with
  | none => rw [hc] at h; cases h
  | some c =>
    rw [hc] at h
    simp only [Option.map_some, Option.some.injEq] at h
    have := List.getElem?_zipIdx (l := ds) (i := 0) (j := i)
    rw [hc] at this
    cases hx : ds[i]? with
    | none => rw [hx] at this; cases this
    | some x =>
      rw [hx] at this
      simp only [Option.map_some, Option.some.injEq] at this
      subst this
      refine ⟨x, rfl, ?_⟩
      rw [← h]; simp
theorem ItD.enum (r : Rep W (Av A0 μ O) μ H (.lst ds) (.ref a)) : ItD W A0 μ O H (Ite W.K a) (enumD ds) := fun A1 σ S μ1 O1 H1 ha st rs => by
  obtain ⟨a', xs, e, h1, h2, h3⟩ := rep_lst (Rep.le (st.le1 ha) _ _ r)
  cases e
  refine ⟨fun i d hd => ?_, ⟨xs, .inl h1, Nat.le_of_eq ((reps_length h3).trans (by simp [enumD]))⟩⟩
  obtain ⟨x, hx, rfl⟩ := enumD_get hd
  obtain ⟨v, hv, rv⟩ := reps_get h3 hx
  refine ⟨⟨xs, v, .inl h1, hv⟩, fun u H' ⟨T, w, e1, e2, e3, y⟩ => ?_⟩
  subst e1; subst e3
  have y := y xs (.inl h1)
  rw [hv] at y; cases y
  exact pair_new rs e2 (by simp only [Rep]) rv
theorem ItD.enumT {d : D} (h : d = .tup ds ∨ d = .ktup ds) (r : Rep W (Av A0 μ O) μ H d (.ref a)) : ItD W A0 μ O H (IteT W.K a) (enumD ds) := fun A1 σ S μ1 O1 H1 ha st rs => by
  obtain ⟨a', xs, e, h1, h2, h3⟩ := rep_seqT h (Rep.le (st.le1 ha) _ _ r)
  cases e
  refine ⟨fun i d hd => ?_, ⟨xs, h1, (reps_length h3).trans (by simp [enumD])⟩⟩
  obtain ⟨x, hx, rfl⟩ := enumD_get hd
  obtain ⟨v, hv, rv⟩ := reps_get h3 hx
  refine ⟨⟨xs, v, h1, hv⟩, fun u H' ⟨T, w, e1, e2, e3, y⟩ => ?_⟩
  subst e1; subst e3
  have y := y xs h1
  rw [hv] at y; cases y
  exact pair_new rs e2 (by simp only [Rep]) rv
theorem zipD_get {i : Nat} {d : D} (h : (zipD ds ds')[i]? = some d) : ∃ x y, ds[i]? = some x ∧ ds'[i]? = some y ∧ d = .tup [x, y] := by
  unfold zipD at h
  rw [List.getElem?_zipWith] at h
  split at h
  · rename_i x y h1 h2; cases h; exact ⟨x, y, h1, h2, rfl⟩
  · cases h
theorem ItD.zip (r : Rep W (Av A0 μ O) μ H (.lst ds) (.ref a)) (r' : Rep W (Av A0 μ O) μ H (.lst ds') (.ref b)) : ItD W A0 μ O H (Itz W.K a b) (zipD ds ds') := fun A1 σ S μ1 O1 H1 ha st rs => by
  obtain ⟨a', xs, e, h1, h2, h3⟩ := rep_lst (Rep.le (st.le1 ha) _ _ r)
  cases e
  obtain ⟨a', ys, e, k1, k2, k3⟩ := rep_lst (Rep.le (st.le1 ha) _ _ r')
  cases e
  refine ⟨fun i d hd => ?_, ⟨xs, ys, .inl h1, .inl k1, by rw [reps_length h3, reps_length k3]; simp [zipD]; omega⟩⟩
  obtain ⟨x, y, hx, hy, rfl⟩ := zipD_get hd
  obtain ⟨v, hv, rv⟩ := reps_get h3 hx
  obtain ⟨w, hw, rw'⟩ := reps_get k3 hy
  refine ⟨⟨xs, ys, v, w, .inl h1, .inl k1, hv, hw⟩, fun u H' ⟨T, v', w', e1, e2, e3, z1, z2⟩ => ?_⟩
  subst e1; subst e3
  have z1 := z1 xs (.inl h1)
  have z2 := z2 ys (.inl k1)
  rw [hv] at z1; cases z1
  rw [hw] at z2; cases z2
  exact pair_new rs e2 rv rw'
theorem ItD.zipT {d d' : D} (h : d = .tup ds ∨ d = .ktup ds) (h' : d' = .tup ds' ∨ d' = .ktup ds') (r : Rep W (Av A0 μ O) μ H d (.ref a)) (r' : Rep W (Av A0 μ O) μ H d' (.ref b)) : ItD W A0 μ O H (RZ.ItzT W.K a b) (zipD ds ds') := fun A1 σ S μ1 O1 H1 ha st rs => by
  obtain ⟨a', xs, e, h1, h2, h3⟩ := rep_seqT h (Rep.le (st.le1 ha) _ _ r)
  cases e
  obtain ⟨a', ys, e, k1, k2, k3⟩ := rep_seqT h' (Rep.le (st.le1 ha) _ _ r')
  cases e
  refine ⟨fun i d hd => ?_, ⟨xs, ys, h1, k1, by rw [reps_length h3, reps_length k3]; simp [zipD]; omega⟩⟩
  obtain ⟨x, y, hx, hy, rfl⟩ := zipD_get hd
  obtain ⟨v, hv, rv⟩ := reps_get h3 hx
  obtain ⟨w, hw, rw'⟩ := reps_get k3 hy
  refine ⟨⟨xs, ys, v, w, h1, k1, hv, hw⟩, fun u H' ⟨T, v', w', e1, e2, e3, z1, z2⟩ => ?_⟩
  subst e1; subst e3
  have z1 := z1 xs h1
  have z2 := z2 ys k1
  rw [hv] at z1; cases z1
  rw [hw] at z2; cases z2
  exact pair_new rs e2 rv rw'
theorem PostI.ret {J : It} {R : It → Hp → Prop} (rs : RepS W A0 μ O H σ S) (p : PostI W Wx A0 μ O H σ (M.ret ds S) R) (it : ItD W A0 μ O H J ds) : R J H := p J H μ (Step.refl _ _ _) rs it
theorem rep_ref {A : Addr → Prop} {d : D} {v : V} (h : (∃ z, d = .lst z) ∨ (∃ z, d = .tup z) ∨ ∃ z, d = .ktup z) (r : Rep W A μ H d v) : ∃ a, v = .ref a := by
  rcases h with ⟨z, rfl⟩ | ⟨z, rfl⟩ | ⟨z, rfl⟩
  · obtain ⟨a, _, e, _⟩ := rep_lst r; exact ⟨a, e⟩
  · obtain ⟨a, _, e, _⟩ := rep_tup r; exact ⟨a, e⟩
  · obtain ⟨a, _, e, _⟩ := rep_ktup r; exact ⟨a, e⟩
theorem di_data (hK : X.K = W.K) (he : PE X e (tD W Wx f)) : PI X tg e (tI W Wx (itemsM f)) := by
  refine ⟨fun pins s σ H R I h => ?_⟩
  obtain ⟨A0, μ, O, S, rs, p⟩ := h
  unfold itemsM M.bnd at p
  cases ef : f S with
  | stuck => rw [ef] at p; exact p.elim
  | exn c q S1 =>
    rw [ef] at p
    refine (pi_list he).run pins s σ H R I ⟨A0, μ, O, S, rs, ?_⟩
    rw [ef]; exact p
  | ok d S1 =>
    rw [ef] at p
    cases d with
    | lst ds =>
      refine (pi_list he).run pins s σ H R I ⟨A0, μ, O, S, rs, ?_⟩
      rw [ef]
      intro v H1 μ1 st rs1 r1
      obtain ⟨a, xs, e, h1, _⟩ := rep_lst r1
      subst e
      exact ⟨a, rfl, ⟨xs, .inl h1⟩, PostI.ret rs1 (PostI.step st p) (by rw [hK]; exact ItD.list r1)⟩
    | tup ds =>
      refine (pi_tup he).run pins s σ H R I ⟨A0, μ, O, S, rs, ?_⟩
      rw [ef]
      intro v H1 μ1 st rs1 r1
      obtain ⟨a, xs, e, h1, _⟩ := rep_tup r1
      subst e
      exact ⟨a, rfl, ⟨xs, by rw [hK]; exact h1⟩, PostI.ret rs1 (PostI.step st p) (by rw [hK]; exact ItD.tup (.inl rfl) r1)⟩
    | ktup ds =>
      refine (pi_tup he).run pins s σ H R I ⟨A0, μ, O, S, rs, ?_⟩
      rw [ef]
      intro v H1 μ1 st rs1 r1
      obtain ⟨a, xs, e, h1, _⟩ := rep_ktup r1
      subst e
      exact ⟨a, rfl, ⟨xs, by rw [hK]; exact h1⟩, PostI.ret rs1 (PostI.step st p) (by rw [hK]; exact ItD.tup (.inr rfl) r1)⟩
    | str x =>
      refine (pi_str he).run pins s σ H R I ⟨A0, μ, O, S, rs, ?_⟩
      rw [ef]
      intro v H1 μ1 st rs1 r1
      exact ⟨x, by simpa only [rlD, Rep] using r1, PostI.ret rs1 (PostI.step st p) (ItD.str x)⟩
    | _ => exact p.elim
theorem reps_one {A : Addr → Prop} {d : D} {vs : List V} (r : Reps W A μ H [d] vs) : ∃ v, vs = [v] ∧ Rep W A μ H d v := by
  simp only [Reps] at r
  obtain ⟨v, _, e, r, e'⟩ := r
  subst e'
  exact ⟨v, e, r⟩
theorem reps_two {A : Addr → Prop} {d d' : D} {vs : List V} (r : Reps W A μ H [d, d'] vs) : ∃ v w, vs = [v, w] ∧ Rep W A μ H d v ∧ Rep W A μ H d' w := by
  simp only [Reps] at r
  obtain ⟨v, _, e, r, w, _, e', r', e''⟩ := r
  subst e''; subst e'
  exact ⟨v, w, e, r, r'⟩
theorem di_enum {elts : List Expr} {kk : Nat} {tpos : Pos} (hK : X.K = W.K) (hg : Gl X "enumerate") (hm : X.mg "enumerate" = none) (ha : PA X [e] (tDA W Wx (seqM [f]))) (hs : starEach [e] X.env = [(false, eval e X.env)] := by rfl) :
    PI X (.Tuple elts kk tpos) (.Call (.Name "enumerate" p) [e] [] pos) (tI W Wx (enumM f)) := PI.imp (pi_enumA hg hm ha hs) fun σ H R h => by
  refine tG_mono (tI_bind (rl := rlA W) h) fun vs H1 ⟨A0, μ1, O, S1, ds, rs1, r1, p1⟩ => ?_
  unfold enumF at p1
  split at p1
  · rename_i d
    obtain ⟨v, e, r⟩ := reps_one r1
    subst e
    cases d with
    | lst z =>
      obtain ⟨a, xs, e, h1, _⟩ := rep_lst r
      subst e
      exact ⟨a, xs, rfl, .inl ⟨.inl h1, PostI.ret rs1 p1 (by rw [hK]; exact ItD.enum r)⟩⟩
    | tup z =>
      obtain ⟨a, xs, e, h1, _⟩ := rep_tup r
      subst e
      exact ⟨a, xs, rfl, .inr ⟨by rw [hK]; exact h1, PostI.ret rs1 p1 (by rw [hK]; exact ItD.enumT (.inl rfl) r)⟩⟩
    | ktup z =>
      obtain ⟨a, xs, e, h1, _⟩ := rep_ktup r
      subst e
      exact ⟨a, xs, rfl, .inr ⟨by rw [hK]; exact h1, PostI.ret rs1 p1 (by rw [hK]; exact ItD.enumT (.inr rfl) r)⟩⟩
    | _ => exact p1.elim
  · exact p1.elim
theorem di_zip {elts : List Expr} {kk : Nat} {tpos : Pos} (hK : X.K = W.K) (hg : Gl X "zip") (hm : X.mg "zip" = none) (ha : PA X [e1, e2] (tDA W Wx (seqM [f, g])))
    (hs : starEach [e1, e2] X.env = (false, eval e1 X.env) :: starEach [e2] X.env := by rfl) (hpl : (backTo pos (starEach [e2] X.env)).any (·.1) = false := by rfl) :
    PI X (.Tuple elts kk tpos) (.Call (.Name "zip" p) [e1, e2] [] pos) (tI W Wx (zipM f g)) := PI.imp (RZ.pi_zipA hg hm ha hs hpl) fun σ H R h => by
  refine tG_mono (tI_bind (rl := rlA W) h) fun vs H1 ⟨A0, μ1, O, S1, ds, rs1, r1, p1⟩ => ?_
  unfold zipF at p1
  split at p1
  · obtain ⟨v, w, e, r, r'⟩ := reps_two r1
    subst e
    obtain ⟨a, xs, e, h1, _⟩ := rep_lst r
    subst e
    obtain ⟨b, ys, e, k1, _⟩ := rep_lst r'
    subst e
    exact ⟨a, b, xs, ys, rfl, .inl ⟨.inl h1, .inl k1, PostI.ret rs1 p1 (by rw [hK]; exact ItD.zip r r')⟩⟩
  · obtain ⟨v, w, e, r, r'⟩ := reps_two r1
    subst e
    obtain ⟨a, xs, e, h1, _⟩ := rep_tup r
    subst e
    obtain ⟨b, ys, e, k1, _⟩ := rep_tup r'
    subst e
    exact ⟨a, b, xs, ys, rfl, .inr ⟨by rw [hK]; exact h1, by rw [hK]; exact k1, PostI.ret rs1 p1 (by rw [hK]; exact ItD.zipT (.inl rfl) (.inl rfl) r r')⟩⟩
  · obtain ⟨v, w, e, r, r'⟩ := reps_two r1
    subst e
    obtain ⟨a, xs, e, h1, _⟩ := rep_ktup r
    subst e
    obtain ⟨b, ys, e, k1, _⟩ := rep_tup r'
    subst e
    exact ⟨a, b, xs, ys, rfl, .inr ⟨by rw [hK]; exact h1, by rw [hK]; exact k1, PostI.ret rs1 p1 (by rw [hK]; exact ItD.zipT (.inr rfl) (.inl rfl) r r')⟩⟩
  · obtain ⟨v, w, e, r, r'⟩ := reps_two r1
    subst e
    obtain ⟨a, xs, e, h1, _⟩ := rep_tup r
    subst e
    obtain ⟨b, ys, e, k1, _⟩ := rep_ktup r'
    subst e
    exact ⟨a, b, xs, ys, rfl, .inr ⟨by rw [hK]; exact h1, by rw [hK]; exact k1, PostI.ret rs1 p1 (by rw [hK]; exact ItD.zipT (.inl rfl) (.inr rfl) r r')⟩⟩
  · exact p1.elim
theorem di_range1 (hg : Gl X "range") (hm : X.mg "range" = none) (ha : PA X [e] (tDA W Wx (seqM [f]))) (hs : starEach [e] X.env = [(false, eval e X.env)] := by rfl) : PI X tg (.Call (.Name "range" p) [e] [] pos) (tI W Wx (rng1M f)) :=
  PI.imp (pi_range1 hg hm ha hs) fun σ H R h => by
    refine tG_mono (tI_bind (rl := rlA W) h) fun vs H1 ⟨A0, μ1, O, S1, ds, rs1, r1, p1⟩ => ?_
    unfold rng1F at p1
    split at p1
    · rename_i j
      split at p1
      · rename_i hj
        obtain ⟨v, e, r⟩ := reps_one r1
        have e2 : v = .int j := by simpa only [Rep] using r
        subst e; subst e2
        exact ⟨j, rfl, hj.1, hj.2, PostI.ret rs1 p1 (ItD.range 0 _)⟩
      · exact p1.elim
    · exact p1.elim
theorem di_range2 (hg : Gl X "range") (hm : X.mg "range" = none) (ha : PA X [e1, e2] (tDA W Wx (seqM [f, g]))) (hs : starEach [e1, e2] X.env = [(false, eval e1 X.env), (false, eval e2 X.env)] := by rfl) (hs2 : starEach [e2] X.env = [(false, eval e2 X.env)] := by rfl) : PI X tg (.Call (.Name "range" p) [e1, e2] [] pos) (tI W Wx (rng2M f g)) :=
  PI.imp (pi_range2 hg hm ha hs hs2) fun σ H R h => by
    refine tG_mono (tI_bind (rl := rlA W) h) fun vs H1 ⟨A0, μ1, O, S1, ds, rs1, r1, p1⟩ => ?_
    unfold rng2F at p1
    split at p1
    · rename_i i j
      split at p1
      · rename_i hj
        obtain ⟨v, w, e, r, r'⟩ := reps_two r1
        have e2 : v = .int i := by simpa only [Rep] using r
        have e3 : w = .int j := by simpa only [Rep] using r'
        subst e; subst e2; subst e3
        exact ⟨i, j, rfl, hj, PostI.ret rs1 p1 (ItD.range i _)⟩
      · exact p1.elim
    · exact p1.elim
end
end DL
end
section
set_option Elab.async false
set_option linter.all false
set_option maxRecDepth 100000
namespace DL
open PySem PySem.Spec L2
/-! ### list comprehensions -/
abbrev WF : WX := fun _ _ _ _ => False
def wipeS (sl : List Sl) : List Nat → List Sl
  | [] => sl
  | v :: vs => (wipeS sl vs).set v .no
def keepS : Option Sl → Sl
  | some (.d x) => .d x
  | _ => .no
def restS (s0 sl : List Sl) : List Nat → List Sl
  | [] => sl
  | v :: vs => (restS s0 sl vs).set v (keepS s0[v]?)
def lcGo (vs : List Nat) (t : D → MT) (c : M Bool) (e : M D) : List D → M (List D)
  | [] => M.ret []
  | d :: ds => fun S => match t d { S with sl := wipeS S.sl vs } with
    | none => .stuck
    | some S1 => (M.bnd c fun b => if b = true then M.bnd e fun x => M.bnd (lcGo vs t c e ds) fun xs => M.ret (x :: xs) else lcGo vs t c e ds) S1
def lcF (vs : List Nat) (t : D → MT) (c : M Bool) (e : M D) (ds : List D) : M D := fun S => if ds.length ≤ 16777216 then (match lcGo vs t c e ds S with
  | .ok xs S' => .ok (.lst xs) { S' with sl := restS S.sl S'.sl vs }
  | _ => .stuck) else .stuck
def lcM (vs : List Nat) (f : M (List D)) (t : D → MT) (c : M Bool) (e : M D) : M D := M.bnd f (lcF vs t c e)
theorem wipeS_length (sl : List Sl) : ∀ vs : List Nat, (wipeS sl vs).length = sl.length
  | [] => rfl
  | v :: vs => by unfold wipeS; rw [List.length_set, wipeS_length sl vs]
theorem restS_length (s0 sl : List Sl) : ∀ vs : List Nat, (restS s0 sl vs).length = sl.length
  | [] => rfl
  | v :: vs => by unfold restS; rw [List.length_set, restS_length s0 sl vs]
theorem wipeS_get {sl : List Sl} {j : Nat} : ∀ {vs : List Nat}, (wipeS sl vs)[j]? = if j ∈ vs then (sl[j]?).map (fun _ => .no) else sl[j]?
  | [] => by simp [wipeS]
  | v :: vs => by
    unfold wipeS
    have ih := @wipeS_get sl j vs
    by_cases h : v = j
    · subst h
      rw [if_pos List.mem_cons_self]
      by_cases hl : v < sl.length
      · rw [List.getElem?_set_self (by rw [wipeS_length]; exact hl), List.getElem?_eq_getElem hl]; rfl
      · rw [List.getElem?_eq_none (by simp [wipeS_length]; omega), List.getElem?_eq_none (by omega)]; rfl
    · rw [List.getElem?_set_ne h, ih]
      have : (j ∈ v :: vs) ↔ j ∈ vs := by simp [Ne.symm h]
      by_cases h2 : j ∈ vs
      · rw [if_pos h2, if_pos (this.mpr h2)]
      · rw [if_neg h2, if_neg (fun z => h2 (this.mp z))]
theorem restS_get {s0 sl : List Sl} {j : Nat} : ∀ {vs : List Nat}, (restS s0 sl vs)[j]? = if j ∈ vs then (sl[j]?).map (fun _ => keepS s0[j]?) else sl[j]?
  | [] => by simp [restS]
  | v :: vs => by
    unfold restS
    have ih := @restS_get s0 sl j vs
    by_cases h : v = j
    · subst h
      rw [if_pos List.mem_cons_self]
      by_cases hl : v < sl.length
      · rw [List.getElem?_set_self (by rw [restS_length]; exact hl), List.getElem?_eq_getElem hl]; rfl
      · rw [List.getElem?_eq_none (l := (restS s0 sl vs).set v _) (by simp [restS_length]; omega), List.getElem?_eq_none (l := sl) (by omega)]; rfl
    · rw [List.getElem?_set_ne h, ih]
      have : (j ∈ v :: vs) ↔ j ∈ vs := by simp [Ne.symm h]
      by_cases h2 : j ∈ vs
      · rw [if_pos h2, if_pos (this.mpr h2)]
      · rw [if_neg h2, if_neg (fun z => h2 (this.mp z))]
theorem lcGo_length {vs : List Nat} {t : D → MT} {c : M Bool} {e : M D} : ∀ {ds : List D} {S S' : Stt} {xs : List D}, lcGo vs t c e ds S = .ok xs S' → xs.length ≤ ds.length
  | [], S, S', xs, h => by
    unfold lcGo M.ret at h
    cases h
    exact Nat.le_refl _
  | d :: ds, S, S', xs, h => by
    unfold lcGo at h
    cases et : t d { S with sl := wipeS S.sl vs } with
    | none => rw [et] at h; cases h
    | some S1 =>
      rw [et] at h
      unfold M.bnd at h
      dsimp only at h
      cases ec : c S1 with
      | exn a b z => rw [ec] at h; cases h
      | stuck => rw [ec] at h; cases h
      | ok b S2 =>
        rw [ec] at h
        dsimp only at h
        cases b with
        | false =>
          rw [if_neg Bool.false_ne_true] at h
          have := lcGo_length h
          simp; omega
        | true =>
          rw [if_pos rfl] at h
          cases ee : e S2 with
          | exn a b z => rw [ee] at h; cases h
          | stuck => rw [ee] at h; cases h
          | ok x S3 =>
            rw [ee] at h
            dsimp only at h
            cases er : lcGo vs t c e ds S3 with
            | exn a b z => rw [er] at h; cases h
            | stuck => rw [er] at h; cases h
            | ok ys S4 =>
              rw [er] at h
              unfold M.ret at h
              cases h
              have := lcGo_length er
              simp; omega
section
variable {W : Wd} {Wx : WX} {X : Cx} {A0 A1 : Addr → Prop} {μ μ1 μ' : List Addr} {O O' : Nat → Option Addr} {H H1 H' : Hp} {σ : St} {S S' : Stt} {pos p : Pos} {tg e e1 e2 : Expr} {f g : M D} {a b : Addr} {ds ds' : List D} {vs : List Nat}
theorem RepS.wiped (rs : RepS W A0 μ O H σ S) (vs : List Nat) : RepS W A0 μ O H (wipe σ vs) { S with sl := wipeS S.sl vs } := by
  refine ⟨fun j => ?_, rs.oinj, rs.otr, rs.obl, rs.obs, rs.nd, rs.atr, rs.tab, by rw [wipeS_length, wipe_length]; exact rs.len⟩
  show SlOk W (Av A0 μ O) μ O H j ((wipeS S.sl vs)[j]?) ((wipe σ vs)[j]?)
  rw [wipe_get, wipeS_get]
  by_cases h : j ∈ vs
  · rw [if_pos h, if_pos h]
    cases hs : S.sl[j]? with
    | none => trivial
    | some x => trivial
  · rw [if_neg h, if_neg h]
    exact rs.sl j
/-- the names of a block forgotten, those ahead known again -/
theorem RepS.rest {S0 : Stt} {μ0 : List Addr} {H0 : Hp} {A2 : Addr → Prop} (rs0 : RepS W A0 μ0 O H0 σ S0) (l : Le (Av A0 μ0 O) (Av A2 μ O) μ0 μ H0 H) (rs : RepS W A2 μ O H (wipe σ vs) { S with sl := wipeS S.sl vs }) (hl : S.sl.length = σ.length) :
    RepS W A2 μ O H σ { S with sl := restS S0.sl S.sl vs } := by
  refine ⟨fun j => ?_, rs.oinj, rs.otr, rs.obl, rs.obs, rs.nd, rs.atr, rs.tab, by rw [restS_length]; exact hl⟩
  show SlOk W (Av A2 μ O) μ O H j ((restS S0.sl S.sl vs)[j]?) (σ[j]?)
  rw [restS_get]
  have q := rs.sl j
  by_cases h : j ∈ vs
  · rw [if_pos h]
    cases hs : S.sl[j]? with
    | none => trivial
    | some x =>
      have q0 := rs0.sl j
      cases h0 : S0.sl[j]? with
      | none => trivial
      | some y =>
        rw [h0] at q0
        cases y with
        | no => trivial
        | own z => trivial
        | d z =>
          obtain ⟨v, e1, r⟩ := q0
          exact ⟨v, e1, Rep.le l _ _ r⟩
  · rw [if_neg h]
    have q : SlOk W (Av A2 μ O) μ O H j ((wipeS S.sl vs)[j]?) ((wipe σ vs)[j]?) := q
    rw [wipe_get, wipeS_get, if_neg h, if_neg h] at q
    exact q
/-- what is kept off grows -/
theorem RepS.offLst {D0 : Addr} {ys zs : List V} (rs : RepS W (plus A0 D0) μ O H σ S) (hD : H D0 = some (.lst ys)) (hm : D0 ∉ μ) :
    RepS W (plus A0 D0) μ O (upd H D0 (.lst zs)) σ S ∧ Le (Av (plus A0 D0) μ O) (Av (plus A0 D0) μ O) μ μ H (upd H D0 (.lst zs)) := by
  have l : Le (Av (plus A0 D0) μ O) (Av (plus A0 D0) μ O) μ μ H (upd H D0 (.lst zs)) := ⟨fun _ _ h => h, fun a o h n t => ⟨by
    rw [upd_ne (fun z => n (.inl (.inr z)))]; exact h, n⟩⟩
  have nn : ∀ a, Mt H a → Mt (upd H D0 (.lst zs)) a := fun a h => by
    by_cases e : a = D0
    · subst e; exact ⟨_, upd_same, trivial⟩
    · obtain ⟨o, q, m⟩ := h
      exact ⟨o, by rw [upd_ne e]; exact q, m⟩
  refine ⟨⟨fun i => (rs.sl i).imp l fun a h => ⟨h, fun _ => upd_ne (fun z => (rs.otr i a h).1 (.inr z))⟩, rs.oinj, fun i a h => ?_, rs.obl, fun k d a h1 h2 => ?_, rs.nd, fun a h => nn a (rs.atr a h), fun p hp => ?_, rs.len⟩, l⟩
  · obtain ⟨h1, h2, h3⟩ := rs.otr i a h
    exact ⟨h1, h2, nn a h3⟩
  · exact (rs.obs k d a h1 h2).le l (upd_ne (fun z => hm (z ▸ List.mem_of_getElem? h2)))
  · obtain ⟨ps, q1, q2, q3⟩ := rs.tab p hp
    have ne : ∀ {b : Addr} {o : HO}, H b = some o → (∀ z, o ≠ .lst z) → b ≠ D0 := fun h n z => by
      subst z; rw [hD] at h; cases h; exact n _ rfl
    refine ⟨ps, by rw [upd_ne (ne q1 fun z q => by cases q)]; exact q1, q2, fun pos cv hc => ?_⟩
    obtain ⟨c, z1, z2⟩ := q3 pos cv hc
    exact ⟨c, z1, by rw [upd_ne (ne z2 fun z q => by cases q)]; exact z2⟩
theorem lc_imp {fi : M (List D)} {t : D → MT} {c : M Bool} {u : M D} {Q : VK} (h : tF W Wx (lcM vs fi t c u) σ H Q) :
    tLc (tI W Wx fi) (tTr W (RW vs) t) (tDB W WF c) (tD W WF u) vs σ H Q := by
  obtain ⟨A0, μ0, O, S0, rs0, p⟩ := h
  refine ⟨A0, μ0, O, S0, rs0, ?_⟩
  unfold lcM M.bnd at p
  cases ef : fi S0 with
  | exn c q S1 => rw [ef] at p; exact p
  | stuck => rw [ef] at p; exact p
  | ok ds S1 =>
    rw [ef] at p
    intro J H1 μ1 st1 rs1 it D0 hD
    have p : PostF W Wx A0 μ0 O H σ (lcF vs t c u ds S1) Q := p
    unfold lcF at p
    by_cases hz : ds.length ≤ 16777216
    · rw [if_pos hz] at p
      cases eg : lcGo vs t c u ds S1 with
      | exn c q S2 => rw [eg] at p; exact p.elim
      | stuck => rw [eg] at p; exact p.elim
      | ok xs S2 =>
        rw [eg] at p
        have p1 : PostF W Wx A0 μ1 O H1 σ (.ok (.lst xs) { S2 with sl := restS S1.sl S2.sl vs }) Q := PostF.step st1 p
        have nf := rs1.fresh hD
        have hxl := lcGo_length eg
        obtain ⟨nav, rsD, owD⟩ := fresh_own (o := .lst []) (d := .lst []) rs1 hD fun A hA => ⟨[], upd_same, Nat.zero_le _, reps_nil⟩
        -- what holds at a turn
        let Wm : Nat → Hp → Prop := fun i H' => i ≤ ds.length ∧ ∃ μ S acc ys, Step (Ch μ1 O) μ1 μ H1 H' ∧ RepS W (plus A0 D0) μ O H' (wipe σ vs) { S with sl := wipeS S.sl vs } ∧ S.sl.length = σ.length ∧ H' D0 = some (.lst ys) ∧ D0 ∉ μ ∧ Reps W (Av (plus A0 D0) μ O) μ H' acc ys ∧ acc.length ≤ i ∧ ∃ r, lcGo vs t c u (ds.drop i) S = .ok r S2 ∧ acc ++ r = xs
        refine ⟨fun i m H' => m = ds.length - i ∧ Wm i H', ⟨ds.length, rfl, Nat.zero_le _, μ1, S1, [], [], Step.same (upd_keep hD), rsD.wiped vs, rs1.len, upd_same, fun z => nf (.inr (.inl z)), reps_nil, Nat.le_refl _, xs, by simpa using eg, rfl⟩, ?_⟩
        rintro i m H' ⟨rfl, hi, μ, S, acc, ys, st, rs, hsl, hDl, hDm, racc, hai, r, er, exs⟩
        obtain ⟨it1, it2⟩ := it (plus A0 D0) (wipe σ vs) { S with sl := wipeS S.sl vs } μ O H' (fun a z => z.imp id fun e => by subst e; exact hD) (.of st) rs
        by_cases hlt : i < ds.length
        · have hd : ds.drop i = ds[i] :: ds.drop (i + 1) := List.drop_eq_getElem_cons hlt
          rw [hd] at er
          unfold lcGo at er
          obtain ⟨g1, g2⟩ := it1 i ds[i] (List.getElem?_eq_getElem hlt)
          refine .inr ⟨g1, Wm (i + 1), fun H'' z => ⟨ds.length - (i + 1), by omega, rfl, z⟩, fun x H2 y => ?_⟩
          obtain ⟨k1, rx⟩ := g2 x H2 y
          have rs2 := rs.same k1
          have st2 : Step (Ch μ O) μ μ H' H2 := Step.same k1
          refine ⟨plus A0 D0, μ, O, { S with sl := wipeS S.sl vs }, ds[i], rs2, rx, ?_⟩
          cases et : t ds[i] { S with sl := wipeS S.sl vs } with
          | none => rw [et] at er; cases er
          | some S3 =>
            rw [et] at er
            intro σ3 H3 μ3 st3 rs3 hw
            unfold M.bnd at er
            dsimp only at er
            have sl3 : S3.sl.length = σ.length := by
              rw [rs3.len]
              have hw : wipe σ3 vs = wipe (wipe σ vs) vs := hw
              have := congrArg List.length hw
              rwa [wipe_length, wipe_length, wipe_length] at this
            have hw' : wipe σ3 vs = wipe σ vs := by
              have hw : wipe σ3 vs = wipe (wipe σ vs) vs := hw
              rw [hw]
              refine List.ext_getElem? fun j => ?_
              rw [wipe_get, wipe_get]
              by_cases hj : j ∈ vs
              · rw [if_pos hj, if_pos hj]
                cases σ[j]? <;> rfl
              · rw [if_neg hj, if_neg hj]
            refine ⟨hw', plus A0 D0, μ3, O, S3, rs3, ?_⟩
            cases ec : c S3 with
            | exn a b z => rw [ec] at er; cases er
            | stuck => rw [ec] at er; cases er
            | ok b S4 =>
              rw [ec] at er
              dsimp only at er
              intro v H4 μ4 st4 rs4 rv
              have ev : v = b := rv.symm
              subst ev
              have sl4 : S4.sl.length = σ.length := by rw [rs4.len, ← rs3.len]; exact sl3
              have t4 : Step (Ch μ O) μ μ4 H' H4 := (st2.ch st3).ch st4
              have hk4 : H4 D0 = some (.lst ys) := t4.keep D0 _ hDl (fun z => by
                rcases z with z | ⟨j, z⟩
                · exact hDm z
                · exact (rs.otr j D0 z).1 (.inr rfl)) (fun ps z => by cases z)
              have hm4 : D0 ∉ μ4 := fun z => by
                have := t4.new D0 z hDm
                rw [hDl] at this; cases this
              have ra4 : Reps W (Av (plus A0 D0) μ4 O) μ4 H4 acc ys := Reps.step racc t4 rs
              cases v with
              | false =>
                simp only [Bool.false_eq_true, if_false] at er ⊢
                exact ⟨hlt, μ4, S4, acc, ys, st.ch t4, by have := rs4.wiped vs; rwa [hw'] at this, sl4, hk4, hm4, ra4, by omega, r, er, exs⟩
              | true =>
                simp only [if_true] at er ⊢
                refine ⟨plus A0 D0, μ4, O, S4, rs4, ?_⟩
                cases ee : u S4 with
                | exn a b z => rw [ee] at er; cases er
                | stuck => rw [ee] at er; cases er
                | ok x5 S5 =>
                  rw [ee] at er
                  dsimp only at er
                  cases eq : lcGo vs t c u (ds.drop (i + 1)) S5 with
                  | exn a b z => rw [eq] at er; cases er
                  | stuck => rw [eq] at er; cases er
                  | ok r5 S6 =>
                    rw [eq] at er
                    unfold M.ret at er
                    cases er
                    intro y5 H5 μ5 st5 rs5 ry
                    have t5 : Step (Ch μ O) μ μ5 H' H5 := t4.ch st5
                    have hk5 : H5 D0 = some (.lst ys) := t5.keep D0 _ hDl (fun z => by
                      rcases z with z | ⟨j, z⟩
                      · exact hDm z
                      · exact (rs.otr j D0 z).1 (.inr rfl)) (fun ps z => by cases z)
                    have hm5 : D0 ∉ μ5 := fun z => by
                      have := t5.new D0 z hDm
                      rw [hDl] at this; cases this
                    have ra5 : Reps W (Av (plus A0 D0) μ5 O) μ5 H5 acc ys := Reps.step racc t5 rs
                    have hyl := reps_length racc
                    refine ⟨ys, hk5, by rw [hyl, sizeLine_eq]; omega, ?_⟩
                    obtain ⟨rs6, l6⟩ := rs5.offLst (zs := ys ++ [y5]) hk5 hm5
                    have st6 : Step (Ch μ1 O) μ1 μ5 H1 (upd H5 D0 (.lst (ys ++ [y5]))) := by
                      have s15 := st.ch t5
                      refine ⟨s15.ext, s15.new, fun a o h n tt => ?_, fun a h => ?_⟩
                      · rw [upd_ne (fun z => by subst z; rw [hD] at h; cases h)]
                        exact s15.keep a o h n tt
                      · by_cases e : a = D0
                        · subst e; exact hD
                        · rw [upd_ne e] at h; exact s15.alive a h
                    exact ⟨hlt, μ5, S5, acc ++ [x5], ys ++ [y5], st6, by have := rs6.wiped vs; rwa [hw'] at this, by rw [rs5.len, ← rs4.len]; exact sl4, upd_same, hm5, reps_append (Reps.le l6 _ _ ra5) (reps_cons (Rep.le l6 _ _ ry) reps_nil), by simp; omega, r5, eq, by simpa using exs⟩
        · have e : i = ds.length := by omega
          subst e
          rw [List.drop_length] at er
          unfold lcGo M.ret at er
          cases er
          refine .inl ⟨it2, ?_⟩
          have exs : acc = xs := by simpa using exs
          subst exs
          have lq : Le (Av A0 μ1 O) (Av (plus A0 D0) μ O) μ1 μ H1 H' := by
            have l := st.le rs1
            refine ⟨l.at_, fun a o h n tt => ⟨(l.keep a o h n tt).1, fun z => ?_⟩⟩
            rcases z with (z | z) | z
            · exact (l.keep a o h n tt).2 (.inl z)
            · subst z; rw [hD] at h; cases h
            · exact (l.keep a o h n tt).2 (.inr z)
          refine p1 D0 H' μ st hD (fun z => ?_) (rs1.rest lq rs hsl) ⟨ys, hDl, by rw [sizeLine_eq]; omega, racc⟩
          rcases z with z | z | ⟨j, z⟩
          · exact nf (.inl z)
          · exact hDm z
          · exact (rs.otr j D0 z).1 (.inr rfl)
    · rw [if_neg hz] at p; exact p.elim
theorem PTs.imp {X : Cx} {ifs : List Expr} {t t' : TT} (h : PTs X ifs t) (i : ∀ σ H Q, t' σ H Q → t σ H Q) : PTs X ifs t' := ⟨fun pins s σ H Q I hq => h.run pins s σ H Q I (i σ H Q hq)⟩
theorem dts_nil : PTs X [] (tDB W Wx (M.ret true)) := PTs.imp pts_nil fun σ H Q ⟨A0, μ, O, S, rs, p⟩ => tG_ret (rl := rlB) rs p rfl
theorem dts_one {c : Expr} {q : M Bool} (h : PT X c (tDB W Wx q)) : PTs X [c] (tDB W Wx q) := pts_one h
/-- a comprehension's block -/
abbrev blkCx (X : Cx) (scope : Scope) (s : Shared) (H : Hp) (C : Addr) (cl : List (Str × Addr)) (fp : List Addr) : Cx := X.blk s H scope (compEnvC scope cl C X.env) fp
theorem df_lc {elt tg iter : Expr} {ifs : List Expr} {scope : Scope} {own : List (Str × Nat)} {fi : M (List D)} {t : D → MT} {c : M Bool} {u : M D} (hc : X.calm = true) (hN : X.N.Nodup) (hi : PI X tg iter (tI W Wx fi)) (ok : BlkOk X.N X.env.scope scope own)
    (hg : ∀ s H C cl fp, PG (blkCx X scope s H C cl fp) tg (tTr W (RW (own.map (·.2))) t)) (ht : ∀ s H C cl fp, PTs (blkCx X scope s H C cl fp) ifs (tDB W WF c)) (he : ∀ s H C cl fp, PE (blkCx X scope s H C cl fp) elt (tD W WF u))
    (hs : ∀ x, foldedSetIterable iter X.env x = pure x := by intro _; rfl) : PE X (.ListComp elt [⟨tg, iter, ifs, 0⟩] scope pos) (tF W Wx (lcM (own.map (·.2)) fi t c u)) :=
  PE.imp (pe_lc hc hN hi ok hg ht he hs) fun σ H Q h => lc_imp h
/-- y = [..] on one line: y is changed by this frame -/
theorem ds_ownLc {i : Nat} {y : Str} {py : Pos} {elt tg iter : Expr} {ifs : List Expr} {scope : Scope} {own : List (Str × Nat)} {fi : M (List D)} {t : D → MT} {c : M Bool} {u : M D} {spos : Pos} (hc : X.calm = true) (hN : X.N.Nodup) (hy : X.N[i]? = some y) (hyl : X.env.scope.names.lookup y = some .local)
    (hsw : swapsWith (.ListComp elt [⟨tg, iter, ifs, 0⟩] scope pos) (some (.Name y py)) spos.line X.env = pure true) (hi : PI X tg iter (tI W Wx fi)) (ok : BlkOk X.N X.env.scope scope own)
    (hg : ∀ s H C cl fp, PG (blkCx X scope s H C cl fp) tg (tTr W (RW (own.map (·.2))) t)) (ht : ∀ s H C cl fp, PTs (blkCx X scope s H C cl fp) ifs (tDB W WF c)) (he : ∀ s H C cl fp, PE (blkCx X scope s H C cl fp) elt (tD W WF u))
    (hs : ∀ x, foldedSetIterable iter X.env x = pure x := by intro _; rfl) : PS X (.Assign [.Name y py] (.ListComp elt [⟨tg, iter, ifs, 0⟩] scope pos) spos) (tS W Wx (setO i (lcM (own.map (·.2)) fi t c u))) :=
  PS.imp (ps_setLc hc hN hy hyl hsw hi ok hg ht he hs) fun D σ H ⟨A0, μ, O, S, rs, p⟩ => by
    refine lc_imp ⟨A0, μ, O, S, rs, ?_⟩
    unfold setO M.bnd at p
    cases e : lcM (own.map (·.2)) fi t c u S with
    | ok d S1 =>
      rw [e] at p
      exact fun a H' μ' st hn na rs' ow => p _ H' μ' (updO O i a) ⟨st, updO_on hn⟩ (rs'.seto na ow)
    | exn c q S1 => rw [e] at p; exact ExnS.exnP p
    | stuck => rw [e] at p; exact p
/-- y = [..] on one line: y is data -/
theorem ds_setLc {i : Nat} {y : Str} {py : Pos} {elt tg iter : Expr} {ifs : List Expr} {scope : Scope} {own : List (Str × Nat)} {fi : M (List D)} {t : D → MT} {c : M Bool} {u : M D} {spos : Pos} (hc : X.calm = true) (hN : X.N.Nodup) (hy : X.N[i]? = some y) (hyl : X.env.scope.names.lookup y = some .local)
    (hsw : swapsWith (.ListComp elt [⟨tg, iter, ifs, 0⟩] scope pos) (some (.Name y py)) spos.line X.env = pure true) (hi : PI X tg iter (tI W Wx fi)) (ok : BlkOk X.N X.env.scope scope own)
    (hg : ∀ s H C cl fp, PG (blkCx X scope s H C cl fp) tg (tTr W (RW (own.map (·.2))) t)) (ht : ∀ s H C cl fp, PTs (blkCx X scope s H C cl fp) ifs (tDB W WF c)) (he : ∀ s H C cl fp, PE (blkCx X scope s H C cl fp) elt (tD W WF u))
    (hs : ∀ x, foldedSetIterable iter X.env x = pure x := by intro _; rfl) : PS X (.Assign [.Name y py] (.ListComp elt [⟨tg, iter, ifs, 0⟩] scope pos) spos) (tS W Wx (asgS (lcM (own.map (·.2)) fi t c u) (setN i))) :=
  PS.imp (ps_setLc hc hN hy hyl hsw hi ok hg ht he hs) fun D σ H ⟨A0, μ, O, S, rs, p⟩ => by
    refine lc_imp ⟨A0, μ, O, S, rs, ?_⟩
    unfold asgS M.bnd at p
    cases e : lcM (own.map (·.2)) fi t c u S with
    | ok d S1 =>
      rw [e] at p
      exact fun a H' μ' st hn na rs' ow => p _ H' μ' O ⟨st, fun j b z => .inl ⟨j, z⟩⟩ ((rs'.fewer fun x h => .inl h).setd (Own.rep (ow.le (Le.same (fun _ _ h => h) fun x z => z.imp .inl id) rfl) na))
    | exn c q S1 => rw [e] at p; exact ExnS.exnP p
    | stuck => rw [e] at p; exact p
end
end DL
end
section
set_option Elab.async false
set_option linter.all false
set_option maxRecDepth 100000
namespace DL
open PySem PySem.Spec L2
/-! ### calls of built-in functions and types -/
def r1D (W : Wd) (Wx : WX) (op : D → M D) : List V → Hp → VK → Prop := fun xs H Q => ∃ v σ A0 μ O S d, xs = [v] ∧ RepS W A0 μ O H σ S ∧ Rdb W A0 O μ H d v ∧ PostG W Wx (rlD W) A0 μ O H σ (op d S) Q
def r1F (W : Wd) (Wx : WX) (op : D → M D) : List V → Hp → VK → Prop := fun xs H Q => ∃ v σ A0 μ O S d, xs = [v] ∧ RepS W A0 μ O H σ S ∧ Rdb W A0 O μ H d v ∧ PostF W Wx A0 μ O H σ (op d S) Q
def r2D (W : Wd) (Wx : WX) (op : D → D → M D) : List V → Hp → VK → Prop := fun xs H Q => ∃ v w, xs = [v, w] ∧ rD W Wx op v w H Q
section
variable {W : Wd} {Wx : WX} {X : Cx} {A0 A1 A : Addr → Prop} {μ μ1 μ' : List Addr} {O O' : Nat → Option Addr} {H H1 H' : Hp} {σ : St} {S S' : Stt} {pos p : Pos} {e e1 e2 : Expr} {f g : M D} {op : D → M D} {op' : D → D → M D} {x : Str} {bid T : String}
theorem CallR.imp {u : Value} {r r' : List V → Hp → VK → Prop} (h : CallR X u r) (i : ∀ xs H Q, r' xs H Q → r xs H Q) : CallR X u r' := fun pins s σ H xs us Q I v q => h pins s σ H xs us Q I v (i _ _ _ q)
theorem one_D {Q : VK} (h : tD W Wx (M.bnd f op) σ H Q) : tCB (r1D W Wx op) (tCons (tR W Wx f) tNil) σ H Q :=
  tG_mono (tG_bind (rl := rlR W) h) fun v H1 ⟨A0, μ1, O, S1, d, rs1, r1, p1⟩ => ⟨v, σ, A0, μ1, O, S1, d, rfl, rs1, r1, p1⟩
theorem one_F {Q : VK} (h : tF W Wx (M.bnd f op) σ H Q) : tCB (r1F W Wx op) (tCons (tR W Wx f) tNil) σ H Q :=
  tG_mono (tF_bind (rl := rlR W) h) fun v H1 ⟨A0, μ1, O, S1, d, rs1, r1, p1⟩ => ⟨v, σ, A0, μ1, O, S1, d, rfl, rs1, r1, p1⟩
theorem two_D {Q : VK} (h : tD W Wx (op2 f g op') σ H Q) : tCB (r2D W Wx op') (tCons (tD W Wx f) (tCons (tR W Wx g) tNil)) σ H Q := by
  refine tG_mono (tG_bind (rl := rlD W) h) fun v H1 ⟨A0, μ1, O, S1, x, rs1, r1, p1⟩ => ?_
  refine tG_mono (tG_bindK (rl := rlR W) keeps_rep rs1 r1 p1) fun w H2 ⟨μ2, S2, y, rs2, r2, ry, p2⟩ => ?_
  exact ⟨v, w, rfl, σ, A0, μ2, O, S2, x, y, rs2, r2, ry, p2⟩
theorem de_b1 (hc : CallR X (.builtin bid) (r1D W Wx op)) (hg : Gl X x) (hm : X.mg x = none) (hv : bootBuiltins x = some (.builtin bid)) (ha : PE X e (tR W Wx f)) (hn : x ≠ "__name__" := by decide) (hdb : (x == ("__debug__" : Str)) = false := by decide)
    (he : starEach [e] X.env = (false, eval e X.env) :: starEach [] X.env := by rfl) (hpl : (backTo pos (starEach [] X.env)).any (·.1) = false := by rfl) : PE X (.Call (.Name x p) [e] [] pos) (tD W Wx (M.bnd f op)) :=
  PE.imp (pe_callB hc hg hm hv (pa_cons ha pa_nil he) hn hdb he hpl) fun σ H Q h => one_D h
theorem de_t1 (hc : CallR X (.type T) (r1D W Wx op)) (hg : Gl X x) (hm : X.mg x = none) (hv : bootBuiltins x = some (.type T)) (ha : PE X e (tR W Wx f)) (hn : x ≠ "__name__" := by decide) (hdb : (x == ("__debug__" : Str)) = false := by decide)
    (he : starEach [e] X.env = (false, eval e X.env) :: starEach [] X.env := by rfl) (hpl : (backTo pos (starEach [] X.env)).any (·.1) = false := by rfl) : PE X (.Call (.Name x p) [e] [] pos) (tD W Wx (M.bnd f op)) :=
  PE.imp (pe_callTy hc hg hm hv (pa_cons ha pa_nil he) hn hdb he hpl) fun σ H Q h => one_D h
theorem df_b1 (hc : CallR X (.builtin bid) (r1F W Wx op)) (hg : Gl X x) (hm : X.mg x = none) (hv : bootBuiltins x = some (.builtin bid)) (ha : PE X e (tR W Wx f)) (hn : x ≠ "__name__" := by decide) (hdb : (x == ("__debug__" : Str)) = false := by decide)
    (he : starEach [e] X.env = (false, eval e X.env) :: starEach [] X.env := by rfl) (hpl : (backTo pos (starEach [] X.env)).any (·.1) = false := by rfl) : PE X (.Call (.Name x p) [e] [] pos) (tF W Wx (M.bnd f op)) :=
  PE.imp (pe_callB hc hg hm hv (pa_cons ha pa_nil he) hn hdb he hpl) fun σ H Q h => one_F h
theorem df_t1 (hc : CallR X (.type T) (r1F W Wx op)) (hg : Gl X x) (hm : X.mg x = none) (hv : bootBuiltins x = some (.type T)) (ha : PE X e (tR W Wx f)) (hn : x ≠ "__name__" := by decide) (hdb : (x == ("__debug__" : Str)) = false := by decide)
    (he : starEach [e] X.env = (false, eval e X.env) :: starEach [] X.env := by rfl) (hpl : (backTo pos (starEach [] X.env)).any (·.1) = false := by rfl) : PE X (.Call (.Name x p) [e] [] pos) (tF W Wx (M.bnd f op)) :=
  PE.imp (pe_callTy hc hg hm hv (pa_cons ha pa_nil he) hn hdb he hpl) fun σ H Q h => one_F h
theorem de_b2 (hc : CallR X (.builtin bid) (r2D W Wx op')) (hg : Gl X x) (hm : X.mg x = none) (hv : bootBuiltins x = some (.builtin bid)) (ha : PE X e1 (tD W Wx f)) (hb : PE X e2 (tR W Wx g)) (hn : x ≠ "__name__" := by decide) (hdb : (x == ("__debug__" : Str)) = false := by decide)
    (he : starEach [e1, e2] X.env = (false, eval e1 X.env) :: starEach [e2] X.env := by rfl) (he2 : starEach [e2] X.env = (false, eval e2 X.env) :: starEach [] X.env := by rfl) (hpl : (backTo pos (starEach [e2] X.env)).any (·.1) = false := by rfl) : PE X (.Call (.Name x p) [e1, e2] [] pos) (tD W Wx (op2 f g op')) :=
  PE.imp (pe_callB hc hg hm hv (pa_cons ha (pa_cons hb pa_nil he2) he) hn hdb he hpl) fun σ H Q h => two_D h
/-- the name of a built-in type -/
theorem de_ty {n : String} (hg : Gl X x) (hm : X.mg x = none) (hv : bootBuiltins x = some (.type n)) (hn : x ≠ "__name__" := by decide) (hd : (x == ("__debug__" : Str)) = false := by decide) : PE X (.Name x pos) (tD W Wx (M.ret (.ty n))) :=
  de_sc (pe_bltn (v := .ty n) hg hm hv rfl hn hd) (.ty n)

/-! ### len -/
def lenM : D → M D
  | .lst ds => M.ret (.int ds.length)
  | .tup ds => M.ret (.int ds.length)
  | .ktup ds => M.ret (.int ds.length)
  | .klst ds => M.ret (.int ds.length)
  | .str x => if x.length ≤ 16777216 then M.ret (.int x.length) else M.fail
  | .dic ks _ => M.ret (.int ks.length)
  | .dicT ks _ => M.ret (.int ks.length)
  | _ => M.fail
theorem rdb_seqT {ds : List D} {d : D} {v : V} (h : d = .tup ds ∨ d = .ktup ds) (r : Rdb W A0 O μ H d v) : ∃ a xs, v = .ref a ∧ SqT W.K H a xs ∧ ds.length ≤ sizeLine ∧ Reps W (Av A0 μ O) μ H ds xs := by
  rcases h with h | h
  · subst h; exact rdb_tup r
  · subst h; exact rdb_ktup r
theorem bt_len (hK : X.K = W.K) : CallR X (.builtin "len") (r1D W Wx lenM) := CallR.imp (CallR.or call_len (CallR.or call_lenD call_len_dT)) fun xs H Q ⟨v, σ, A0, μ, O, S, d, e, rs, r, p⟩ => by
  subst e
  cases d with
  | lst ds =>
    obtain ⟨a, xs, e, h1, h2, h3⟩ := rdb_list r
    subst e
    exact .inl ⟨_, ds.length, rfl, .inl ⟨xs, .inl h1, (reps_length h3).symm⟩, q_sc rs p (.int _)⟩
  | klst ds =>
    obtain ⟨a, xs, e, h1, h2, h3⟩ := rdb_klst r
    subst e
    exact .inl ⟨_, ds.length, rfl, .inl ⟨xs, by rw [hK]; exact h1, (reps_length h3).symm⟩, q_sc rs p (.int _)⟩
  | tup ds =>
    obtain ⟨a, xs, e, h1, h2, h3⟩ := rdb_tup r
    subst e
    exact .inl ⟨_, ds.length, rfl, .inr ⟨xs, by rw [hK]; exact h1, (reps_length h3).symm⟩, q_sc rs p (.int _)⟩
  | ktup ds =>
    obtain ⟨a, xs, e, h1, h2, h3⟩ := rdb_ktup r
    subst e
    exact .inl ⟨_, ds.length, rfl, .inr ⟨xs, by rw [hK]; exact h1, (reps_length h3).symm⟩, q_sc rs p (.int _)⟩
  | str x =>
    have e := rdb_str r
    subst e
    have p : PostG W Wx (rlD W) A0 μ O H σ ((if x.length ≤ 16777216 then M.ret (.int x.length) else M.fail) S) Q := p
    split at p
    · rename_i hz
      exact .inl ⟨_, x.length, rfl, ⟨by rw [sizeLine_eq]; exact hz, rfl⟩, q_sc rs p (.int _)⟩
    · exact p.elim
  | dic ks vs =>
    obtain ⟨a, kvs, e, h1, h2, h3⟩ := rdb_dic r
    subst e; subst h2
    exact .inr (.inl ⟨a, kvs, rfl, h1, q_sc rs p (by rw [List.length_map]; exact .int _)⟩)
  | dicT ks vs =>
    obtain ⟨a, kvs, e, h1, h2, h3⟩ := rdb_dicT r
    subst e; subst h2
    exact .inr (.inr ⟨a, kvs, rfl, h1, q_sc rs p (by rw [List.length_map]; exact .int _)⟩)
  | _ => exact p.elim

/-! ### int, str, abs, bool -/
def intM : D → M D
  | .int i => M.ret (.int i)
  | .bl b => M.ret (.int (if b then 1 else 0))
  | .str a => if a.length ≤ 640 then (match PySem.intText? a with
    | some n => M.ret (.int n)
    | none => M.fail) else M.fail
  | _ => M.fail
theorem bt_int : CallR X (.type "int") (r1D W Wx intM) := CallR.imp (CallR.or call_int1 call_int_str) fun xs H Q ⟨v, σ, A0, μ, O, S, d, e, rs, r, p⟩ => by
  subst e
  cases d with
  | int i =>
    have e := rdb_int r
    subst e
    exact .inl (.inl ⟨i, rfl, q_sc rs p (.int _)⟩)
  | bl b =>
    have e := rdb_bl r
    subst e
    exact .inl (.inr ⟨b, rfl, q_sc rs p (.int _)⟩)
  | str a =>
    have e := rdb_str r
    subst e
    have p : PostG W Wx (rlD W) A0 μ O H σ ((if a.length ≤ 640 then (match PySem.intText? a with
      | some n => M.ret (.int n)
      | none => M.fail) else M.fail) S) Q := p
    split at p
    · rename_i hz
      cases ht : PySem.intText? a with
      | none => rw [ht] at p; exact p.elim
      | some n =>
        rw [ht] at p
        exact .inr ⟨a, n, rfl, ht, hz, q_sc rs p (.int _)⟩
    · exact p.elim
  | _ => exact p.elim
def strM : D → M D
  | .int i => if i.natAbs.log2 < 1920 then M.ret (.str (toString i)) else M.fail
  | _ => M.fail
theorem bt_str : CallR X (.type "str") (r1D W Wx strM) := CallR.imp call_str_int fun xs H Q ⟨v, σ, A0, μ, O, S, d, e, rs, r, p⟩ => by
  subst e
  cases d with
  | int i =>
    have e := rdb_int r
    subst e
    have p : PostG W Wx (rlD W) A0 μ O H σ ((if i.natAbs.log2 < 1920 then M.ret (.str (toString i)) else M.fail) S) Q := p
    split at p
    · rename_i hz
      exact ⟨i, rfl, hz, q_sc rs p (.str _)⟩
    · exact p.elim
  | _ => exact p.elim
def absM : D → M D
  | .int i => M.ret (.int (if i < 0 then -i else i))
  | _ => M.fail
theorem bt_abs : CallR X (.builtin "abs") (r1D W Wx absM) := CallR.imp call_abs fun xs H Q ⟨v, σ, A0, μ, O, S, d, e, rs, r, p⟩ => by
  subst e
  cases d with
  | int i =>
    have e := rdb_int r
    subst e
    exact ⟨i, rfl, q_sc rs p (.int _)⟩
  | _ => exact p.elim
/-! ### tuple(..), list(..) -/
def tupM : D → M D
  | .lst ds => M.ret (.tup ds)
  | .tup ds => M.ret (.tup ds)
  | .ktup ds => M.ret (.ktup ds)
  | _ => M.fail
theorem bt_tuple (hK : X.K = W.K) : CallR X (.type "tuple") (r1D W Wx tupM) := CallR.imp call_tuple_of fun xs H Q ⟨v, σ, A0, μ, O, S, d, e, rs, r, p⟩ => by
  subst e
  cases d with
  | lst ds =>
    obtain ⟨a, xs, e, h1, h2, h3⟩ := rdb_list r
    subst e
    exact ⟨a, xs, rfl, .inl ⟨.inl h1, fun l hl => p _ _ _ (Step.same (upd_keep hl)) (rs.same (upd_keep hl)) (rep_tup_new rs h3 h2 hl)⟩⟩
  | tup ds =>
    obtain ⟨a, xs, e, h1, h2, h3⟩ := rdb_tup r
    subst e
    refine ⟨a, xs, rfl, .inr ⟨by rw [hK]; exact h1, ?_⟩⟩
    rcases r with r | ⟨_, _, _, _, z⟩
    · exact tG_ret (rl := rlD W) rs p r
    · exact z.elim
  | ktup ds =>
    obtain ⟨a, xs, e, h1, h2, h3⟩ := rdb_ktup r
    subst e
    refine ⟨a, xs, rfl, .inr ⟨by rw [hK]; exact h1, ?_⟩⟩
    rcases r with r | ⟨_, _, _, _, z⟩
    · exact tG_ret (rl := rlD W) rs p r
    · exact z.elim
  | _ => exact p.elim
def listM : D → M D
  | .lst ds => M.ret (.lst ds)
  | .tup ds => M.ret (.lst ds)
  | .ktup ds => M.ret (.lst ds)
  | _ => M.fail
theorem bt_list (hK : X.K = W.K) : CallR X (.type "list") (r1F W Wx listM) := CallR.imp call_list_of fun xs H Q ⟨v, σ, A0, μ, O, S, d, e, rs, r, p⟩ => by
  subst e
  cases d with
  | lst ds =>
    obtain ⟨a, xs, e, h1, h2, h3⟩ := rdb_list r
    subst e
    exact ⟨a, xs, rfl, .inl (.inl h1), fun l hl => lay_lst rs h3 h2 hl p⟩
  | tup ds =>
    obtain ⟨a, xs, e, h1, h2, h3⟩ := rdb_tup r
    subst e
    exact ⟨a, xs, rfl, .inr (by rw [hK]; exact h1), fun l hl => lay_lst rs h3 h2 hl p⟩
  | ktup ds =>
    obtain ⟨a, xs, e, h1, h2, h3⟩ := rdb_ktup r
    subst e
    exact ⟨a, xs, rfl, .inr (by rw [hK]; exact h1), fun l hl => lay_lst rs h3 h2 hl p⟩
  | _ => exact p.elim
/-! ### all, any -/
def bls : List D → Option (List Bool)
  | [] => some []
  | .bl b :: ds => (bls ds).map (b :: ·)
  | _ => none
theorem bls_rep : ∀ {ds : List D} {xs : List V} {bs : List Bool}, bls ds = some bs → Reps W A μ H ds xs → xs = bs.map V.bl
  | [], xs, bs, h, r => by simp only [Reps] at r; subst r; simp only [bls, Option.some.injEq] at h; subst h; rfl
  | d :: ds, xs, bs, h, r => by
    simp only [Reps] at r
    obtain ⟨v, vs, e, r1, r2⟩ := r
    subst e
    cases d with
    | bl b =>
      simp only [bls] at h
      cases hb : bls ds with
      | none => rw [hb] at h; cases h
      | some cs =>
        rw [hb] at h
        simp only [Option.map_some, Option.some.injEq] at h
        subst h
        have e : v = .bl b := by simpa only [Rep] using r1
        rw [e, bls_rep hb r2]; rfl
    | _ => simp [bls] at h
def allM : D → M D
  | .lst ds => match bls ds with
    | some bs => M.ret (.bl (bs.all id))
    | none => M.fail
  | _ => M.fail
def anyM : D → M D
  | .lst ds => match bls ds with
    | some bs => M.ret (.bl (bs.any id))
    | none => M.fail
  | _ => M.fail
theorem bt_all (hc : X.calm = true) : CallR X (.builtin "all") (r1D W Wx allM) := CallR.imp (cr_all hc) fun xs H Q ⟨v, σ, A0, μ, O, S, d, e, rs, r, p⟩ => by
  subst e
  cases d with
  | lst ds =>
    have p : PostG W Wx (rlD W) A0 μ O H σ ((match bls ds with
      | some bs => M.ret (D.bl (bs.all id))
      | none => M.fail) S) Q := p
    obtain ⟨a, xs, e, h1, h2, h3⟩ := rdb_list r
    subst e
    cases hb : bls ds with
    | none => rw [hb] at p; exact p.elim
    | some bs =>
      rw [hb] at p
      have e := bls_rep hb h3
      subst e
      exact ⟨a, bs, rfl, .inl h1, q_sc rs p (.bl _)⟩
  | _ => exact p.elim
theorem bt_any (hc : X.calm = true) : CallR X (.builtin "any") (r1D W Wx anyM) := CallR.imp (cr_any hc) fun xs H Q ⟨v, σ, A0, μ, O, S, d, e, rs, r, p⟩ => by
  subst e
  cases d with
  | lst ds =>
    have p : PostG W Wx (rlD W) A0 μ O H σ ((match bls ds with
      | some bs => M.ret (D.bl (bs.any id))
      | none => M.fail) S) Q := p
    obtain ⟨a, xs, e, h1, h2, h3⟩ := rdb_list r
    subst e
    cases hb : bls ds with
    | none => rw [hb] at p; exact p.elim
    | some bs =>
      rw [hb] at p
      have e := bls_rep hb h3
      subst e
      exact ⟨a, bs, rfl, .inl h1, q_sc rs p (.bl _)⟩
  | _ => exact p.elim
/-! ### two arguments -/
def int2 (c : Int → Int → Bool) (g : Int → Int → D) : D → D → M D
  | .int i, .int j => if c i j = true then M.ret (g i j) else M.fail
  | _, _ => M.fail
def maxM := int2 (fun _ _ => true) fun i j => .int (if j > i then j else i)
def minM := int2 (fun _ _ => true) fun i j => .int (if j < i then j else i)
def divmodM := int2 (fun _ j => decide (0 < j ∧ j < 1073741824)) fun i j => .tup [.int (i / j), .int (i % j)]
theorem int2_case {c : Int → Int → Bool} {g : Int → Int → D} {xs : List V} {Q : VK} (h : r2D W Wx (int2 c g) xs H Q) : ∃ i j σ A0 μ O S, xs = [.int i, .int j] ∧ c i j = true ∧ RepS W A0 μ O H σ S ∧ PostG W Wx (rlD W) A0 μ O H σ (M.ret (g i j) S) Q := by
  obtain ⟨v, w, e, σ, A0, μ, O, S, dx, dy, rs, r1, r2, p⟩ := h
  cases dx with
  | int i =>
    cases dy with
    | int j =>
      have p : PostG W Wx (rlD W) A0 μ O H σ ((if c i j = true then M.ret (g i j) else M.fail) S) Q := p
      split at p
      · rename_i hc
        exact ⟨i, j, σ, A0, μ, O, S, by rw [e, rep_int r1, rdb_int r2], hc, rs, p⟩
      · exact p.elim
    | _ => exact p.elim
  | _ => exact p.elim
theorem bt_max (hc : X.calm = true) : CallR X (.builtin "max") (r2D W Wx maxM) := CallR.imp (call_max2 hc) fun xs H Q h => by
  obtain ⟨i, j, σ, A0, μ, O, S, e, _, rs, p⟩ := int2_case h
  exact ⟨i, j, e, q_sc rs p (.int _)⟩
theorem bt_min (hc : X.calm = true) : CallR X (.builtin "min") (r2D W Wx minM) := CallR.imp (call_min2 hc) fun xs H Q h => by
  obtain ⟨i, j, σ, A0, μ, O, S, e, _, rs, p⟩ := int2_case h
  exact ⟨i, j, e, q_sc rs p (.int _)⟩
theorem bt_divmod : CallR X (.builtin "divmod") (r2D W Wx divmodM) := CallR.imp call_divmod fun xs H Q h => by
  obtain ⟨i, j, σ, A0, μ, O, S, e, hc, rs, p⟩ := int2_case h
  exact ⟨i, j, e, of_decide_eq_true (p := 0 < j ∧ j < 1073741824) hc, fun l hl => p _ _ _ (Step.same (upd_keep hl)) (rs.same (upd_keep hl))
    (rep_tup_new rs (reps_cons (by simp only [Rep]) (reps_cons (by simp only [Rep]) reps_nil)) (by show 2 ≤ sizeLine; decide) hl)⟩
/-! ### isinstance(x, T), T a built-in type -/
def tyD : D → Option String
  | .non => some "NoneType"
  | .bl _ => some "bool"
  | .int _ => some "int"
  | .str _ => some "str"
  | .lst _ => some "list"
  | .tup _ => some "tuple"
  | .dic _ _ => some "dict"
  | .dicT _ _ => some "dict"
  | _ => none
/-- of two of the types that stand here -/
def isSub (a b : String) : Bool := a == b || (a == "bool" && b == "int")
def knownTy (b : String) : Bool := b == "int" || b == "bool" || b == "str" || b == "tuple" || b == "list" || b == "dict"
def isiM (x y : D) : M D := match y with
  | .ty n => if knownTy n = true then (match tyD x with
    | some t => M.ret (.bl (isSub t n))
    | none => M.fail) else M.fail
  | _ => M.fail
theorem kit_all : ∀ a ∈ ["NoneType", "bool", "int", "str", "list", "tuple", "dict"], ∀ b ∈ ["int", "bool", "str", "tuple", "list", "dict"], kitB a b = some (isSub a b) := by decide +kernel
theorem tyD_of {d : D} {v : V} {t : String} (h : tyD d = some t) (r : Rdb W A0 O μ H d v) : TyOf X.K H v (.type t) ∧ t ∈ ["NoneType", "bool", "int", "str", "list", "tuple", "dict"] := by
  cases d with
  | non => have e := rdb_non r; subst e; cases h; exact ⟨.non, by decide⟩
  | bl b => have e := rdb_bl r; subst e; cases h; exact ⟨.bl b, by decide⟩
  | int b => have e := rdb_int r; subst e; cases h; exact ⟨.int b, by decide⟩
  | str b => have e := rdb_str r; subst e; cases h; exact ⟨.str b, by decide⟩
  | lst ds =>
    obtain ⟨a, xs, e, h1, h2, h3⟩ := rdb_list r
    subst e; cases h
    rcases h1 with h1 | ⟨o, h1⟩
    · exact ⟨.lst h1, by decide⟩
    · exact ⟨.frz h1, by decide⟩
  | tup ds =>
    rcases r with r | ⟨_, _, _, _, z⟩
    · obtain ⟨a, xs, e, h1, h2⟩ := rep_tupH r
      subst e; cases h
      exact ⟨.tup h1, by decide⟩
    · exact z.elim
  | dic ks vs =>
    obtain ⟨a, kvs, e, h1, h2⟩ := rdb_dic r
    subst e; cases h
    exact ⟨.dK h1, by decide⟩
  | dicT ks vs =>
    obtain ⟨a, kvs, e, h1, h2⟩ := rdb_dicT r
    subst e; cases h
    exact ⟨.dT h1, by decide⟩
  | _ => cases h
theorem bt_isi : CallR X (.builtin "isinstance") (r2D W Wx isiM) := CallR.imp call_isi fun xs H Q ⟨v, w, e, σ, A0, μ, O, S, dx, dy, rs, r1, r2, p⟩ => by
  subst e
  cases dy with
  | ty n =>
    have e : w = .ty n := by
      rcases r2 with r2 | ⟨_, _, _, _, z⟩
      · simpa only [Rep] using r2
      · exact z.elim
    subst e
    have p : PostG W Wx (rlD W) A0 μ O H σ ((if knownTy n = true then (match tyD dx with
      | some t => M.ret (.bl (isSub t n))
      | none => M.fail) else M.fail) S) Q := p
    split at p
    · rename_i hk
      cases ht : tyD dx with
      | none => rw [ht] at p; exact p.elim
      | some t =>
        rw [ht] at p
        obtain ⟨h1, h2⟩ := tyD_of (X := X) ht (.inl r1)
        have hn : n ∈ ["int", "bool", "str", "tuple", "list", "dict"] := by
          simp only [knownTy, Bool.or_eq_true, beq_iff_eq] at hk
          simp only [List.mem_cons, List.not_mem_nil, or_false]
          rcases hk with ((((h | h) | h) | h) | h) | h <;> simp [h]
        exact ⟨v, .ty n, .type t, .type n, isSub t n, rfl, .ty n, .base h1, kit_ty (kit_all t h2 n hn), q_sc rs p (.bl _)⟩
    · exact p.elim
  | _ => exact p.elim
end
end DL
end
section
set_option Elab.async false
set_option linter.all false
set_option maxRecDepth 100000
namespace DL
open PySem PySem.Spec L2
/-! ### what may be changed at a name: one's own thing, or a shared object -/
def chgAt (S : Stt) (i : Nat) : Option D := match S.sl[i]? with
  | some (.own x) => some x
  | some (.d (.loc l)) => S.ob[l]?
  | _ => none
def putAt (S : Stt) (i : Nat) (x : D) : Stt := match S.sl[i]? with
  | some (.own _) => { S with sl := S.sl.set i (.own x) }
  | some (.d (.loc l)) => { S with ob := S.ob.set l x }
  | _ => S
section
variable {W : Wd} {Wx : WX} {X : Cx} {A0 A1 A : Addr → Prop} {μ μ1 μ' : List Addr} {O O' : Nat → Option Addr} {H H1 H' : Hp} {σ : St} {S S' : Stt} {pos p : Pos} {e e1 e2 : Expr} {f g : M D} {a : Addr} {i : Nat} {x d : D}
theorem nodup_at {α : Type} {l : List α} {i j : Nat} {x : α} (h : l.Nodup) (h1 : l[i]? = some x) (h2 : l[j]? = some x) : i = j := by
  obtain ⟨p1, p2⟩ := List.getElem?_eq_some_iff.mp h1
  obtain ⟨p3, p4⟩ := List.getElem?_eq_some_iff.mp h2
  have q := List.pairwise_iff_getElem.mp h
  rcases Nat.lt_trichotomy i j with z | z | z
  · exact absurd (p2.trans p4.symm) (q i j p1 p3 z)
  · exact z
  · exact absurd (p4.trans p2.symm) (q j i p3 p1 z)
theorem Own.shape {d : D} (h : Own W A μ H d a) : (∃ z, H a = some (.lst z)) ∨ (∃ z, H a = some (.dK z)) ∨ (∃ z, H a = some (.dT z)) ∨ ∃ c y z, H a = some (.ins c y z) := by
  cases d with
  | lst ds => obtain ⟨xs, h1, _⟩ := h; exact .inl ⟨_, h1⟩
  | dic ks vs => obtain ⟨xs, h1, _⟩ := h; exact .inr (.inl ⟨_, h1⟩)
  | dicT ks vs => obtain ⟨xs, h1, _⟩ := h; exact .inr (.inr (.inl ⟨_, h1⟩))
  | obj c fs vs => obtain ⟨dx, xs, h1, _⟩ := h; exact .inr (.inr (.inr ⟨_, _, _, h1⟩))
  | _ => exact h.elim
theorem tabs_upd {T : List NdefX.NTab} {o : HO} (t : NdefX.TabsN T H) (h : (∃ z, H a = some (.lst z)) ∨ (∃ z, H a = some (.dK z)) ∨ (∃ z, H a = some (.dT z)) ∨ ∃ c y z, H a = some (.ins c y z)) : NdefX.TabsN T (upd H a o) := fun p hp => by
  obtain ⟨ps, q1, q2, q3⟩ := t p hp
  have ne1 : ∀ {b : Addr} {ps : Array Value}, H b = some (.tbl ps) → b ≠ a := fun h' z => by
    subst z
    rcases h with ⟨z, h⟩ | ⟨z, h⟩ | ⟨z, h⟩ | ⟨_, _, _, h⟩ <;> (rw [h'] at h; cases h)
  refine ⟨ps, by rw [upd_ne (ne1 q1)]; exact q1, q2, fun pos cv hc => ?_⟩
  obtain ⟨c, z1, z2⟩ := q3 pos cv hc
  refine ⟨c, z1, ?_⟩
  rw [upd_ne (fun z => ?_)]
  · exact z2
  · subst z
    rcases h with ⟨z, h⟩ | ⟨z, h⟩ | ⟨z, h⟩ | ⟨_, _, _, h⟩ <;> (rw [z2] at h; cases h)
/-- an object that may be changed is rewritten -/
theorem chg_le (h : Ch μ O a) (o : HO) : Le (Av A0 μ O) (Av A0 μ O) μ μ H (upd H a o) := ⟨fun _ _ h => h, fun b u e n _ => ⟨by rw [upd_ne (fun z => n (by rw [z]; exact .inr h))]; exact e, n⟩⟩
theorem chg_step (h : Ch μ O a) (hn : H a ≠ none) (o : HO) : Step (Ch μ O) μ μ H (upd H a o) := ⟨⟨[], by simp⟩, fun b h n => absurd h n, fun b u e n _ => by rw [upd_ne (fun z => n (by rw [z]; exact h))]; exact e, fun b e => by
  by_cases z : b = a
  · subst z; rw [upd_same] at e; cases e
  · rw [upd_ne z] at e; exact e⟩
theorem chg_at (rs : RepS W A0 μ O H σ S) (h : chgAt S i = some x) : ∃ a, σ[i]? = some (some (.ref a)) ∧ Ch μ O a ∧ Own W (Av A0 μ O) μ H x a ∧ ∀ o x', Own W (Av A0 μ O) μ (upd H a o) x' a → RepS W A0 μ O (upd H a o) σ (putAt S i x') := by
  have hi := rs.sl i
  unfold chgAt at h
  cases e : S.sl[i]? with
  | none => rw [e] at h; cases h
  | some y =>
    rw [e] at h hi
    have nnu : ∀ {a : Addr} {o : HO}, Mt (upd H a o) a → ∀ b, Mt H b → Mt (upd H a o) b := fun {a o} m b hb => by
      by_cases z : b = a
      · subst z; exact m
      · obtain ⟨u, q, m'⟩ := hb
        exact ⟨u, by rw [upd_ne z]; exact q, m'⟩
    cases y with
    | no => cases h
    | own y =>
      cases h
      obtain ⟨a, ho, hw, r⟩ := hi
      refine ⟨a, hw, .inr ⟨i, ho⟩, r, fun o x' ow => ?_⟩
      have l := chg_le (A0 := A0) (H := H) (.inr ⟨i, ho⟩ : Ch μ O a) o
      unfold putAt
      rw [e]
      refine ⟨fun j => ?_, rs.oinj, fun j b hb => ?_, rs.obl, fun k d b h1 h2 => ?_, rs.nd, fun b hb => nnu ow.mt b (rs.atr b hb), tabs_upd rs.tab r.shape, by simp [rs.len]⟩
      · by_cases hj : i = j
        · subst hj
          show SlOk W _ μ _ _ i ((S.sl.set i (.own x'))[i]?) (σ[i]?)
          rw [List.getElem?_set_self (List.getElem?_eq_some_iff.mp e).1]
          exact ⟨a, ho, hw, ow⟩
        · show SlOk W _ μ _ _ j ((S.sl.set i (.own x'))[j]?) (σ[j]?)
          rw [List.getElem?_set_ne hj]
          exact (rs.sl j).imp l fun b hb => ⟨hb, fun _ => upd_ne fun z => hj (rs.oinj i j a ho (by rw [← z]; exact hb))⟩
      · obtain ⟨h1, h2, h3⟩ := rs.otr j b hb
        exact ⟨h1, h2, nnu ow.mt b h3⟩
      · exact (rs.obs k d b h1 h2).le l (upd_ne fun z => (rs.otr i a ho).2.1 (by rw [← z]; exact List.mem_of_getElem? h2))
    | d y =>
      cases y with
      | loc l =>
        have h : S.ob[l]? = some x := h
        obtain ⟨v, hv, r⟩ := hi
        simp only [Rep] at r
        obtain ⟨a, hm, e2⟩ := r
        subst e2
        have ow := rs.obs l x a h hm
        have hmem := List.mem_of_getElem? hm
        refine ⟨a, hv, .inl hmem, ow, fun o x' ow' => ?_⟩
        have l' := chg_le (A0 := A0) (H := H) (.inl hmem : Ch μ O a) o
        unfold putAt
        rw [e]
        refine ⟨fun j => (rs.sl j).imp l' fun b hb => ⟨hb, fun _ => upd_ne fun z => (rs.otr j b hb).2.1 (by rw [z]; exact hmem)⟩, rs.oinj, fun j b hb => ?_, by simp [rs.obl], fun k d b h1 h2 => ?_, rs.nd, fun b hb => nnu ow'.mt b (rs.atr b hb), tabs_upd rs.tab ow.shape, rs.len⟩
        · obtain ⟨h1, h2, h3⟩ := rs.otr j b hb
          exact ⟨h1, h2, nnu ow'.mt b h3⟩
        · by_cases hk : l = k
          · subst hk
            have h1 : (S.ob.set l x')[l]? = some d := h1
            rw [List.getElem?_set_self (List.getElem?_eq_some_iff.mp h).1] at h1
            cases h1
            rw [hm] at h2; cases h2
            exact ow'
          · have h1 : (S.ob.set l x')[k]? = some d := h1
            rw [List.getElem?_set_ne hk] at h1
            refine (rs.obs k d b h1 h2).le l' (upd_ne fun z => hk ?_)
            subst z
            exact nodup_at rs.nd hm h2
      | _ => cases h
end

/-! ### methods that change what is at a name -/
def omM {α : Type} (ty : D → Bool) (i : Nat) (u : M α) (op : D → α → Option (D × D)) : M D := fun S => match chgAt S i with
  | some d0 => if ty d0 = true then (M.bnd u fun x S => match chgAt S i with
    | some d => (match op d x with
      | some (d', r) => .ok r (putAt S i d')
      | none => .stuck)
    | none => .stuck) S else .stuck
  | none => .stuck
def isLst : D → Bool
  | .lst _ => true
  | _ => false
def rlU : Rl Unit Unit := fun _ _ _ _ _ _ => True
section
variable {W : Wd} {Wx : WX} {X : Cx} {A0 A1 A : Addr → Prop} {μ μ1 μ' : List Addr} {O O' : Nat → Option Addr} {H H1 H' : Hp} {σ : St} {S S' : Stt} {pos p apos cpos : Pos} {o e e1 e2 : Expr} {f g : M D} {a : Addr} {i : Nat} {x d : D}
theorem om_imp {α β : Type} {rl : Rl β α} {ty : D → Bool} {u : M α} {op : D → α → Option (D × D)} {Q : VK} (h : tD W Wx (omM ty i u op) σ H Q) :
    ∃ a, σ[i]? = some (some (.ref a)) ∧ (∃ A μ d0, Own W A μ H d0 a ∧ ty d0 = true) ∧ tG W Wx rl u σ H (fun y H2 => ∃ A0 μ O d x d' r, rl A0 O μ H2 x y ∧ Own W (Av A0 μ O) μ H2 d a ∧ op d x = some (d', r) ∧ (∀ o, Le (Av A0 μ O) (Av A0 μ O) μ μ H2 (upd H2 a o)) ∧
      ∀ o v, Own W (Av A0 μ O) μ (upd H2 a o) d' a → Rep W (Av A0 μ O) μ (upd H2 a o) r v → Q v (upd H2 a o)) := by
  obtain ⟨A0, μ, O, S, rs, p⟩ := h
  unfold omM at p
  cases hc : chgAt S i with
  | none => rw [hc] at p; exact p.elim
  | some d0 =>
    rw [hc] at p
    dsimp only at p
    by_cases ht : ty d0 = true
    · rw [if_pos ht] at p
      obtain ⟨a, hs, _, ow, _⟩ := chg_at rs hc
      refine ⟨a, hs, ⟨_, _, d0, ow, ht⟩, tG_mono (tG_bind (rl := rl) ⟨A0, μ, O, S, rs, p⟩) fun y H2 ⟨A0, μ2, O, S2, x, rs2, rx, p2⟩ => ?_⟩
      cases hc2 : chgAt S2 i with
      | none => rw [hc2] at p2; exact p2.elim
      | some d =>
        rw [hc2] at p2
        dsimp only at p2
        cases ho : op d x with
        | none => rw [ho] at p2; exact p2.elim
        | some q =>
          obtain ⟨d', r⟩ := q
          rw [ho] at p2
          obtain ⟨a', hs', hch, ow2, fin⟩ := chg_at rs2 hc2
          rw [hs] at hs'; cases hs'
          obtain ⟨ob, hob, _⟩ := ow2.there
          exact ⟨A0, μ2, O, d, x, d', r, rx, ow2, ho, fun o => chg_le hch o, fun o v ow' rv => p2 v _ μ2 (chg_step hch (by rw [hob]; exact fun z => by cases z) o) (fin o d' ow') rv⟩
    · rw [if_neg ht] at p; exact p.elim
theorem ty_list {A : Addr → Prop} {d0 : D} (h : Own W A μ H d0 a) (ht : isLst d0 = true) : tyV X.K "list" (.ref a) H := by
  cases d0 with
  | lst ds => obtain ⟨xs, h1, _⟩ := h; exact .inl ⟨rfl, xs, .inl (.inl h1)⟩
  | _ => cases ht
def appM (i : Nat) (u : M D) : M D := omM isLst i u fun d x => match d with
  | .lst ds => if ds.length < 16777216 then some (.lst (ds ++ [x]), .non) else none
  | _ => none
theorem de_append (ho : PE X o (tVar i)) (ha : PE X e (tD W Wx f)) (hbase : attributeBase o "append" X.env (eval o X.env) = eval o X.env := by rfl)
    (hfew : ((backTo cpos (starEach [e] X.env)).all (fun x => !x.1) && (backToKw cpos (keywordEach [] X.env)).all (fun x => x.1.isSome)
      && decide ([e].length + ([] : List Keyword).length + (if ([] : List Keyword).isEmpty then 0 else 1) < 30)) = true := by rfl)
    (hline : (apos.endLine == cpos.line) = true := by rfl) (hs : starEach [e] X.env = (false, eval e X.env) :: starEach [] X.env := by rfl) (hplain : (backTo cpos (starEach [] X.env)).any (·.1) = false := by rfl) :
    PE X (.Call (.Attribute o "append" apos) [e] [] cpos) (tD W Wx (appM i f)) :=
  PE.imp (pe_bm F.plainAttrs_list F.slot_list_append F.type_list_append mt_append ho (pa_cons ha pa_nil hs) hbase hfew hline hs hplain) fun σ H Q h => by
    obtain ⟨a, e1, ⟨A, μ, d0, ow, ht⟩, h⟩ := om_imp (rl := rlD W) h
    refine ⟨_, e1, ty_list ow ht, tG_mono h fun y H2 ⟨A0, μ2, O, d, x, d', r, rx, ow2, hop, hle, fin⟩ => ?_⟩
    cases d with
    | lst ds =>
      dsimp only at hop
      split at hop
      · rename_i hz
        cases hop
        obtain ⟨xs, h1, h2, h3⟩ := ow2
        refine ⟨a, xs, y, rfl, rfl, h1, by rw [reps_length h3, sizeLine_eq]; exact hz, ?_⟩
        have l := hle (.lst (xs ++ [y]))
        exact fin _ _ ⟨_, upd_same, by rw [List.length_append, sizeLine_eq]; simp; omega, reps_append (Reps.le l _ _ h3) (reps_cons (Rep.le l _ _ rx) reps_nil)⟩ (by simp only [Rep])
      · cases hop
    | _ => cases hop
theorem reps_dropLast {A : Addr → Prop} : ∀ {ds : List D} {xs : List V}, Reps W A μ H ds xs → Reps W A μ H ds.dropLast xs.dropLast
  | [], xs, h => by simp only [Reps] at h; subst h; exact reps_nil
  | [d], xs, h => by
    obtain ⟨v, e, _⟩ := reps_one h
    subst e
    exact reps_nil
  | d :: d' :: ds, xs, h => by
    simp only [Reps] at h
    obtain ⟨v, _, e, r1, w, ys, e', r2, r3⟩ := h
    subst e'; subst e
    exact reps_cons r1 (reps_dropLast (reps_cons r2 r3))
def popM (i : Nat) : M D := omM isLst i (M.ret ()) fun d _ => match d with
  | .lst ds => (ds[ds.length - 1]?).map fun y => (.lst ds.dropLast, y)
  | _ => none
theorem de_pop (ho : PE X o (tVar i)) (hbase : attributeBase o "pop" X.env (eval o X.env) = eval o X.env := by rfl) (hline : (apos.endLine == cpos.line) = true := by rfl) :
    PE X (.Call (.Attribute o "pop" apos) [] [] cpos) (tD W Wx (popM i)) :=
  PE.imp (pe_bm0 F.plainAttrs_list F.slot_list_pop F.type_list_pop mt_pop ho hbase hline) fun σ H Q h => by
    obtain ⟨a, e1, ⟨A, μ, d0, ow, ht⟩, A0, μ2, O, S, rs, p⟩ := om_imp (rl := rlU) h
    refine ⟨_, e1, ty_list ow ht, ?_⟩
    obtain ⟨A0, μ2, O, d, x, d', r, rx, ow2, hop, hle, fin⟩ := p () H μ2 (Step.refl _ _ _) rs trivial
    cases d with
    | lst ds =>
      dsimp only at hop
      cases hy : ds[ds.length - 1]? with
      | none => rw [hy] at hop; cases hop
      | some y =>
        rw [hy] at hop
        cases hop
        obtain ⟨xs, h1, h2, h3⟩ := ow2
        obtain ⟨v, hv, rv⟩ := reps_get h3 hy
        refine ⟨a, xs, v, rfl, rfl, h1, by rw [reps_length h3]; exact hv, ?_⟩
        have l := hle (.lst xs.dropLast)
        exact fin _ _ ⟨_, upd_same, by rw [List.length_dropLast]; omega, Reps.le l _ _ (reps_dropLast h3)⟩ (Rep.le l _ _ rv)
    | _ => cases hop
def extM (i : Nat) (u : M D) : M D := fun S => match chgAt S i with
  | some d0 => if isLst d0 = true then (M.bnd u fun x S => match chgAt S i with
    | some (.lst ds) => (match x with
      | .lst zs => if ds.length + zs.length ≤ 16777216 then .ok .non (putAt S i (.lst (ds ++ zs))) else .stuck
      | _ => .stuck)
    | _ => .stuck) S else .stuck
  | none => .stuck
theorem de_extend (ho : PE X o (tVar i)) (ha : PE X e (tF W Wx f)) (hbase : attributeBase o "extend" X.env (eval o X.env) = eval o X.env := by rfl)
    (hfew : ((backTo cpos (starEach [e] X.env)).all (fun x => !x.1) && (backToKw cpos (keywordEach [] X.env)).all (fun x => x.1.isSome)
      && decide ([e].length + ([] : List Keyword).length + (if ([] : List Keyword).isEmpty then 0 else 1) < 30)) = true := by rfl)
    (hline : (apos.endLine == cpos.line) = true := by rfl) (hs : starEach [e] X.env = (false, eval e X.env) :: starEach [] X.env := by rfl) (hplain : (backTo cpos (starEach [] X.env)).any (·.1) = false := by rfl) :
    PE X (.Call (.Attribute o "extend" apos) [e] [] cpos) (tD W Wx (extM i f)) :=
  PE.imp (pe_bm F.plainAttrs_list F.slot_list_extend F.type_list_extend mt_extend ho (pa_cons ha pa_nil hs) hbase hfew hline hs hplain) fun σ H Q h => by
    obtain ⟨A0, μ, O, S, rs, p⟩ := h
    unfold extM at p
    cases hc : chgAt S i with
    | none => rw [hc] at p; exact p.elim
    | some d0 =>
      rw [hc] at p
      dsimp only at p
      by_cases ht : isLst d0 = true
      · rw [if_pos ht] at p
        obtain ⟨a, es, _, ow, _⟩ := chg_at rs hc
        refine ⟨_, es, ty_list ow ht, A0, μ, O, S, rs, ?_⟩
        unfold M.bnd at p
        cases ef : f S with
        | exn c q S1 => rw [ef] at p; exact p
        | stuck => rw [ef] at p; exact p
        | ok z S1 =>
          rw [ef] at p
          dsimp only at p
          intro b H1 μ1 st hbn nb rs1 owb
          cases hc2 : chgAt S1 i with
          | none => rw [hc2] at p; exact p.elim
          | some d =>
            rw [hc2] at p
            cases d with
            | lst ds =>
              cases z with
              | lst zs =>
                dsimp only at p
                split at p
                · rename_i hz
                  have rs2 : RepS W A0 μ1 O H1 σ S1 := rs1.fewer fun _ h => .inl h
                  obtain ⟨a', es', hch, ow2, fin⟩ := chg_at rs2 hc2
                  rw [es] at es'; cases es'
                  obtain ⟨xs, h1, h2, h3⟩ := ow2
                  obtain ⟨ys, k1, k2, k3⟩ := owb
                  have k3' : Reps W (Av A0 μ1 O) μ1 H1 zs ys := Reps.le (Le.same (fun _ _ h => h) fun x z => z.imp .inl id) _ _ k3
                  refine ⟨a, b, xs, ys, rfl, rfl, h1, k1, by rw [reps_length h3, reps_length k3, sizeLine_eq]; exact hz, ?_⟩
                  have l := chg_le (A0 := A0) (H := H1) hch (.lst (xs ++ ys))
                  exact p .non _ μ1 (st.ch (chg_step hch (by rw [h1]; exact fun z => by cases z) _)) (fin _ _ ⟨_, upd_same, by rw [List.length_append, sizeLine_eq]; exact hz, reps_append (Reps.le l _ _ h3) (Reps.le l _ _ k3')⟩) (by simp only [rlD, Rep])
                · exact p.elim
              | _ => exact p.elim
            | _ => exact p.elim
      · rw [if_neg ht] at p; exact p.elim
/-! ### stores -/
def newKs {κ : Type} [DecidableEq κ] (ks : List κ) (k : κ) : List κ := if (ks.any fun j => decide (j = k)) = true then ks else ks ++ [k]
def newVs {κ : Type} [DecidableEq κ] (ks : List κ) (vs : List D) (k : κ) (d : D) : List D := if (ks.any fun j => decide (j = k)) = true then List.zipWith (fun j v => if j = k then d else v) ks vs else vs ++ [d]
def setF (x y d : D) : Option D := match x with
  | .lst ds => (match y with | .int k => (ixN ds.length k).map fun j => .lst (ds.set j d) | _ => none)
  | .dic ks vs => (keyOf y).bind fun k => if ks.length < 16777216 then some (.dic (newKs ks k) (newVs ks vs k d)) else none
  | .dicT ks vs => (match y with | .tup es => (keysOf es).bind fun k => if ks.length < 16777216 then some (.dicT (newKs ks k) (newVs ks vs k d)) else none | _ => none)
  | _ => none
theorem reps_set {A : Addr → Prop} : ∀ {ds : List D} {xs : List V} {j : Nat} {d : D} {v : V}, Reps W A μ H ds xs → Rep W A μ H d v → Reps W A μ H (ds.set j d) (xs.set j v)
  | [], xs, j, d, v, h, r => by simp only [Reps] at h; subst h; exact reps_nil
  | c :: ds, xs, j, d, v, h, r => by
    simp only [Reps] at h
    obtain ⟨w, ws, e, r1, r2⟩ := h
    subst e
    cases j with
    | zero => exact reps_cons r r2
    | succ j => exact reps_cons r1 (reps_set r2 r)
theorem zip_put {κ : Type} [DecidableEq κ] {A : Addr → Prop} {k : κ} {d : D} {v : V} (r : Rep W A μ H d v) : ∀ {kvs : List (κ × V)} {ws : List D}, Reps W A μ H ws (kvs.map (·.2)) →
    Reps W A μ H (List.zipWith (fun j w => if j = k then d else w) (kvs.map (·.1)) ws) ((kvs.map fun kv => if kv.1 = k then (kv.1, v) else kv).map (·.2))
  | [], ws, h => by
    cases ws with
    | nil => exact reps_nil
    | cons w ws => simp [Reps] at h
  | kv :: kvs, ws, h => by
    cases ws with
    | nil => simp [Reps] at h
    | cons w ws =>
      simp only [List.map_cons, Reps] at h
      obtain ⟨u, us, e, r1, r2⟩ := h
      cases e
      have ih := zip_put (k := k) r r2
      simp only [List.map_cons, List.zipWith_cons_cons]
      by_cases hk : kv.1 = k
      · rw [if_pos hk, if_pos hk]; exact reps_cons r ih
      · rw [if_neg hk, if_neg hk]; exact reps_cons r1 ih
theorem put_rep {κ : Type} [DecidableEq κ] {A : Addr → Prop} {kvs : List (κ × V)} {ks : List κ} {ws : List D} {k : κ} {d : D} {v : V} (h : kvs.map (·.1) = ks) (r : Reps W A μ H ws (kvs.map (·.2))) (rd : Rep W A μ H d v) :
    (putK kvs k v).map (·.1) = newKs ks k ∧ Reps W A μ H (newVs ks ws k d) ((putK kvs k v).map (·.2)) := by
  subst h
  have e1 : ((kvs.map (·.1)).any fun j => decide (j = k)) = (kvs.any fun kv => decide (kv.1 = k)) := by rw [List.any_map]; rfl
  unfold putK newKs newVs
  rw [e1]
  by_cases hk : (kvs.any fun kv => decide (kv.1 = k)) = true
  · rw [if_pos hk, if_pos hk, if_pos hk]
    refine ⟨?_, zip_put rd r⟩
    rw [List.map_map]
    refine List.map_congr_left fun kv _ => ?_
    show (if kv.1 = k then (kv.1, v) else kv).1 = kv.1
    split <;> rfl
  · rw [if_neg hk, if_neg hk, if_neg hk]
    refine ⟨by simp, ?_⟩
    rw [List.map_append]
    exact reps_append r (reps_cons rd reps_nil)
/-- name[..] = value -/
def subT (i : Nat) (g : M D) (d : D) : MT := fun S => match chgAt S i with
  | some _ => (match g S with
    | .ok y S1 => (chgAt S1 i).bind fun x => (setF x y d).map fun x' => putAt S1 i x'
    | _ => none)
  | none => none
def rSetA : TSet := fun o i v H Q => rSetL o i v H Q ∨ rSetD o i v H Q
theorem set_any (hu : X.A.units + 1 < cLine) : PSet X rSetA := fun pins s σ H o i v ov iv u Q I r1 r2 r3 h => by
  rcases h with h | h
  · exact set_list pins s σ H o i v ov iv u Q I r1 r2 r3 h
  · exact set_dict hu pins s σ H o i v ov iv u Q I r1 r2 r3 h
theorem setF_run {A : Addr → Prop} {x y d x' : D} {yv v : V} {Q : Hp → Prop} (h : setF x y d = some x') (ow : Own W A μ H x a) (ry : Rep W A μ H y yv) (rv : Rep W A μ H d v) (hl : ∀ o, Le A A μ μ H (upd H a o))
    (fin : ∀ o, Own W A μ (upd H a o) x' a → Q (upd H a o)) : rSetA (.ref a) yv v H Q := by
  cases x with
  | lst ds =>
    cases y with
    | int k =>
      have h : (ixN ds.length k).map (fun j => D.lst (ds.set j d)) = some x' := h
      obtain ⟨j, hj, e⟩ := Option.map_eq_some_iff.mp h
      subst e
      obtain ⟨xs, h1, h2, h3⟩ := ow
      refine .inl ⟨a, xs, k, j, rfl, rep_int ry, h1, by rw [reps_length h3]; exact hj, fin _ ⟨_, upd_same, by rw [List.length_set]; exact h2, ?_⟩⟩
      have l := hl (.lst (xs.set j v))
      exact reps_set (Reps.le l _ _ h3) (Rep.le l _ _ rv)
    | _ => cases h
  | dic ks vs =>
    have h : ((keyOf y).bind fun k => if ks.length < 16777216 then some (D.dic (newKs ks k) (newVs ks vs k d)) else none) = some x' := h
    obtain ⟨k, hk, e⟩ := Option.bind_eq_some_iff.mp h
    split at e
    · rename_i hz
      cases e
      obtain ⟨kvs, h1, h2, h3⟩ := ow
      have ey := keyOf_rep hk ry
      have l := hl (.dK (putK kvs k v))
      obtain ⟨p1, p2⟩ := put_rep (k := k) h2 (Reps.le l _ _ h3) (Rep.le l _ _ rv)
      refine .inr ⟨a, _, rfl, .inl ⟨kvs, k, h1, ey, ?_, rfl⟩, fin _ ⟨_, upd_same, p1, p2⟩⟩
      have := congrArg List.length h2
      rw [List.length_map] at this
      rw [sizeLine_eq]; omega
    · cases e
  | dicT ks vs =>
    cases y with
    | tup es =>
      have h : ((keysOf es).bind fun k => if ks.length < 16777216 then some (D.dicT (newKs ks k) (newVs ks vs k d)) else none) = some x' := h
      obtain ⟨k, hk, e⟩ := Option.bind_eq_some_iff.mp h
      split at e
      · rename_i hz
        cases e
        obtain ⟨kvs, h1, h2, h3⟩ := ow
        obtain ⟨b, ey, eb⟩ := htup_of hk ry
        have l := hl (.dT (putK kvs k v))
        obtain ⟨p1, p2⟩ := put_rep (k := k) h2 (Reps.le l _ _ h3) (Rep.le l _ _ rv)
        refine .inr ⟨a, _, rfl, .inr ⟨kvs, k, b, h1, ey, eb, ?_, rfl⟩, fin _ ⟨_, upd_same, p1, p2⟩⟩
        have := congrArg List.length h2
        rw [List.length_map] at this
        rw [sizeLine_eq]; omega
      · cases e
    | _ => cases h
  | _ => cases h
theorem dg_sub {R : St → St → Prop} {k : Nat} (C : CtxOk X W Wx k) (ho : PE X o (tVar i)) (hi : PE X e (tD W Wx g)) (hR : RR R := by first | exact RR.T | exact RR.W _)
    (ha : ∀ v, assign (.Subscript o e pos) X.env v = (do
      let ov ← holding [v] (eval o X.env)
      let iv ← holding [v, ov] (eval e X.env)
      standAt pos
      holding [v, ov, iv] (setItem ov iv v)
      release [v, ov, iv] []) := by intro _; rfl) : PG X (.Subscript o e pos) (tTr W R (subT i g)) := by
  refine ⟨fun pins s σ H v u Q I r h => ?_⟩
  refine (pg_sub ho hi (set_any (by have := room12 C.room; unfold depthLine at this; omega)) ha).run pins s σ H v u Q I r ?_
  obtain ⟨A0, μ, O, S, d, rs, rd, p⟩ := h
  unfold subT at p
  cases hc : chgAt S i with
  | none => rw [hc] at p; exact p.elim
  | some d0 =>
    rw [hc] at p
    dsimp only at p
    obtain ⟨a, es, _, _, _⟩ := chg_at rs hc
    refine ⟨_, es, A0, μ, O, S, rs, ?_⟩
    cases eg : g S with
    | exn c q S1 => rw [eg] at p; exact p.elim
    | stuck => rw [eg] at p; exact p.elim
    | ok y S1 =>
      rw [eg] at p
      dsimp only at p
      intro yv H1 μ1 st rs1 ry
      cases hc2 : chgAt S1 i with
      | none => rw [hc2] at p; exact p.elim
      | some x =>
        rw [hc2] at p
        cases hf : setF x y d with
        | none =>
          have p : PostT W A0 μ O H ((setF x y d).map fun x' => putAt S1 i x') (fun _ σ' H' _ => R σ σ' → Q σ' H') := p
          rw [hf] at p; exact p.elim
        | some x' =>
          have p : PostT W A0 μ O H ((setF x y d).map fun x' => putAt S1 i x') (fun _ σ' H' _ => R σ σ' → Q σ' H') := p
          rw [hf] at p
          obtain ⟨a', es', hch, ow, fin⟩ := chg_at rs1 hc2
          rw [es] at es'; cases es'
          obtain ⟨ob, hob, _⟩ := ow.there
          exact setF_run hf ow ry (Rep.step rd st rs) (fun o => chg_le hch o) fun o ow' => p σ _ μ1 (st.ch (chg_step hch (by rw [hob]; exact fun z => by cases z) o)) (fin o x' ow') (hR.refl _)
end
end DL
end
section
set_option Elab.async false
set_option linter.all false
set_option maxRecDepth 100000
namespace DL
open PySem PySem.Spec L2
section
variable {W : Wd} {Wx : WX} {X : Cx} {A0 A1 A : Addr → Prop} {μ μ1 μ' : List Addr} {O O1 O' : Nat → Option Addr} {H H1 H' : Hp} {σ : St} {S S1 S' : Stt} {pos p apos cpos : Pos} {o e e1 e2 e3 : Expr} {f g h : M D} {a : Addr} {i j : Nat} {x d : D}
/-! ### f-strings -/
def fmtF : D → M D
  | .str y => if y.length ≤ 16777216 then M.ret (.str y) else M.fail
  | .int i => if i.natAbs.log2 < 1920 then M.ret (.str (toString i)) else M.fail
  | _ => M.fail
def fmtM (f : M D) : M D := M.bnd f fmtF
theorem de_fmt (he : PE X e (tD W Wx f)) : PE X (.FormattedValue e (-1) none pos) (tD W Wx (fmtM f)) := PE.imp (pe_fmt he) fun σ H Q h => by
  refine tG_mono (tG_bind (rl := rlD W) h) fun v H1 ⟨A0, μ1, O, S1, x, rs1, r1, p1⟩ => ?_
  cases x with
  | str y =>
    have p1 : PostG W Wx (rlD W) A0 μ1 O H1 σ ((if y.length ≤ 16777216 then M.ret (D.str y) else M.fail) S1) Q := p1
    split at p1
    · rename_i hz
      exact .inl ⟨y, rep_str r1, by rw [sizeLine_eq]; exact hz, q_sc rs1 p1 (.str _)⟩
    · exact p1.elim
  | int i =>
    have p1 : PostG W Wx (rlD W) A0 μ1 O H1 σ ((if i.natAbs.log2 < 1920 then M.ret (D.str (toString i)) else M.fail) S1) Q := p1
    split at p1
    · rename_i hz
      exact .inr ⟨i, rep_int r1, hz, q_sc rs1 p1 (.str _)⟩
    · exact p1.elim
  | _ => exact p1.elim
def joinsM : List (M D) → Str → M D
  | [], acc => M.ret (.str acc)
  | f :: fs, acc => M.bnd f fun x => match x with
    | .str y => if (acc ++ y).length ≤ 16777216 then joinsM fs (acc ++ y) else M.fail
    | _ => M.fail
theorem joins_imp : ∀ {fs : List (M D)} {acc : Str} {σ : St} {H : Hp} {Q : VK}, tD W Wx (joinsM fs acc) σ H Q → tJs (fs.map fun f => tD W Wx f) acc σ H fun out H1 => Q (.str out) H1
  | [], acc, σ, H, Q, ⟨A0, μ, O, S, rs, p⟩ => q_sc rs p (.str _)
  | f :: fs, acc, σ, H, Q, h => by
    refine tG_mono (tG_bind (rl := rlD W) h) fun v H1 ⟨A0, μ1, O, S1, x, rs1, r1, p1⟩ => ?_
    cases x with
    | str y =>
      have p1 : PostG W Wx (rlD W) A0 μ1 O H1 σ ((if (acc ++ y).length ≤ 16777216 then joinsM fs (acc ++ y) else M.fail) S1) Q := p1
      split at p1
      · rename_i hz
        exact ⟨y, rep_str r1, by rw [sizeLine_eq]; exact hz, joins_imp ⟨A0, μ1, O, S1, rs1, p1⟩⟩
      · exact p1.elim
    | _ => exact p1.elim
/-- the parts of an f-string -/
def PJD (W : Wd) (Wx : WX) (X : Cx) (es : List Expr) (fs : List (M D)) : Prop := PJ X es (fs.map fun f => tD W Wx f)
theorem pjd_nil : PJD W Wx X [] [] := PJ.nil
theorem pjd_cons {es : List Expr} {fs : List (M D)} (he : PE X e (tD W Wx f)) (hr : PJD W Wx X es fs) : PJD W Wx X (e :: es) (f :: fs) := PJ.cons he hr
theorem de_joined {v1 v2 : Expr} {rest : List Expr} {fs : List (M D)} (h : PJD W Wx X (v1 :: v2 :: rest) fs) : PE X (.JoinedStr (v1 :: v2 :: rest) pos) (tD W Wx (joinsM fs Str.empty)) := PE.imp (pe_joined h) fun σ H Q h => joins_imp h
/-! ### a op b op' c -/
def chainM (f g h : M D) (op op' : D → D → M D) : M D := M.bnd f fun x => M.bnd g fun y => M.bnd (op x y) fun z => match z with
  | .bl true => M.bnd h fun w => op' y w
  | .bl false => M.ret (.bl false)
  | _ => M.fail
theorem chain_imp {op op' : D → D → M D} {Q : VK} (q : tD W Wx (chainM f g h op op') σ H Q) : tChain (rD W Wx op) (rD W Wx op') (tD W Wx f) (tD W Wx g) (tD W Wx h) σ H Q := by
  refine tG_mono (tG_bind (rl := rlD W) q) fun v H1 ⟨A0, μ1, O, S1, x, rs1, r1, p1⟩ => ?_
  refine tG_mono (tG_bindK (rl := rlD W) keeps_rep rs1 r1 p1) fun w H2 ⟨μ2, S2, y, rs2, r2, ry, p2⟩ => ?_
  refine ⟨σ, A0, μ2, O, S2, x, y, rs2, r2, .inl ry, ?_⟩
  unfold M.bnd at p2
  cases ez : op x y S2 with
  | exn c q S3 => rw [ez] at p2; exact p2
  | stuck => rw [ez] at p2; exact p2
  | ok z S3 =>
    rw [ez] at p2
    intro u H3 μ3 st rs3 rz
    have p3 := PostG.step st p2
    cases z with
    | bl k =>
      have e : u = .bl k := by simpa only [rlD, Rep] using rz
      refine ⟨k, e, ?_⟩
      cases k with
      | true =>
        rw [if_pos rfl]
        refine tG_mono (tG_bindK (rl := rlD W) keeps_rep rs3 (Rep.step ry st rs2) p3) fun w' H4 ⟨μ4, S4, y', rs4, r4, ry4, p4⟩ => ?_
        exact ⟨σ, A0, μ4, O, S4, y, y', rs4, r4, .inl ry4, p4⟩
      | false =>
        rw [if_neg Bool.false_ne_true]
        exact q_sc rs3 p3 (.bl _)
    | _ => exact p3.elim
theorem de_chain {op op' : CmpOp} {r r' : D → D → M D} (ho : OpR X (compareOp op) (rD W Wx r)) (ho' : OpR X (compareOp op') (rD W Wx r')) (ha : PE X e1 (tD W Wx f)) (hb : PE X e2 (tD W Wx g)) (hc : PE X e3 (tD W Wx h))
    (hm : lastMarks [op, op'] [e2, e3] = false := by with_unfolding_all rfl) : PE X (.Compare e1 [op, op'] [e2, e3] pos) (tD W Wx (chainM f g h r r')) := PE.imp (pe_chain ho ho' ha hb hc hm) fun σ H Q q => chain_imp q
theorem dt_chain {op op' : CmpOp} {r r' : D → D → M D} (ho : OpR X (compareOp op) (rD W Wx r)) (ho' : OpR X (compareOp op') (rD W Wx r')) (ha : PE X e1 (tD W Wx f)) (hb : PE X e2 (tD W Wx g)) (hc : PE X e3 (tD W Wx h))
    (hm : lastMarks [op, op'] [e2, e3] = false := by with_unfolding_all rfl) : PT X (.Compare e1 [op, op'] [e2, e3] pos) (tDB W Wx (M.bnd (chainM f g h r r') bool1)) := PT.imp (pt_chain ho ho' ha hb hc hm) fun σ H Q q => chain_imp (bool1_imp q)
/-! ### x.split(y), x.join(ys), t.index(x) of a tuple of the module -/
def splitM : D → D → M D
  | .str a, .str b => if (b.length == 0) = false ∧ a.length + 2 ≤ 16777216 then M.ret (.lst ((Txt.split a b).map D.str)) else M.fail
  | _, _ => M.fail
theorem reps_strs {A : Addr → Prop} : ∀ ys : List Str, Reps W A μ H (ys.map D.str) (ys.map V.str)
  | [] => reps_nil
  | y :: ys => reps_cons (by simp only [Rep]) (reps_strs ys)
/-- a text -/
def strOnly (f : M D) : M D := M.bnd f fun x => match x with
  | .str a => M.ret (.str a)
  | _ => M.fail
def isStrD : D → Bool
  | .str _ => true
  | _ => false
def m1M (f g : M D) (op : D → D → M D) : M D := M.bnd f fun x => if isStrD x = true then M.bnd g fun y => op x y else M.fail
theorem df_split (ho : PE X o (tD W Wx f)) (he : PE X e (tD W Wx g)) (hs : starEach [e] X.env = [(false, eval e X.env)] := by rfl) (hbase : attributeBase o "split" X.env (eval o X.env) = eval o X.env := by rfl) (hline : (apos.endLine == pos.line) = true := by rfl) :
    PE X (.Call (.Attribute o "split" apos) [e] [] pos) (tF W Wx (m1M f g splitM)) := PE.imp (pe_split ho he hs hbase hline) fun σ H Q q => by
  refine tG_mono (tF_bind (rl := rlD W) q) fun v H1 ⟨A0, μ1, O, S1, x, rs1, r1, p1⟩ => ?_
  cases x with
  | str a =>
    refine ⟨⟨a, rep_str r1⟩, ?_⟩
    refine tG_mono (tF_bindK (rl := rlD W) keeps_rep rs1 r1 p1) fun w H2 ⟨μ2, S2, y, rs2, r2, ry, p2⟩ => ?_
    cases y with
    | str b =>
      have p2 : PostF W Wx A0 μ2 O H2 σ ((if (b.length == 0) = false ∧ a.length + 2 ≤ 16777216 then M.ret (D.lst ((Txt.split a b).map D.str)) else M.fail) S2) Q := p2
      split at p2
      · rename_i hz
        refine ⟨a, b, rep_str r2, by rw [rep_str ry], hz.1, by rw [sizeLine_eq]; exact hz.2, fun q hq => ?_⟩
        exact lay_lst rs2 (reps_strs _) (by rw [List.length_map, sizeLine_eq]; have := PyProof.Rows.split_le a b; omega) hq p2
      · exact p2.elim
    | _ => exact p2.elim
  | _ => exact p1.elim
def strsOf : List D → Option (List Str)
  | [] => some []
  | .str b :: ds => (strsOf ds).map (b :: ·)
  | _ => none
theorem strsOf_rep {A : Addr → Prop} : ∀ {ds : List D} {xs : List V} {bs : List Str}, strsOf ds = some bs → Reps W A μ H ds xs → xs = bs.map V.str
  | [], xs, bs, h, r => by simp only [Reps] at r; subst r; simp only [strsOf, Option.some.injEq] at h; subst h; rfl
  | d :: ds, xs, bs, h, r => by
    simp only [Reps] at r
    obtain ⟨v, vs, e, r1, r2⟩ := r
    subst e
    cases d with
    | str b =>
      simp only [strsOf] at h
      cases hb : strsOf ds with
      | none => rw [hb] at h; cases h
      | some cs =>
        rw [hb] at h
        simp only [Option.map_some, Option.some.injEq] at h
        subst h
        have e : v = .str b := by simpa only [Rep] using r1
        rw [e, strsOf_rep hb r2]; rfl
    | _ => simp [strsOf] at h
def joinM : D → D → M D
  | .str a, y => match (seqD y).bind strsOf with
    | some ys => if (List.map (fun z : Str => z.length) ys).sum + ys.length * a.length ≤ 16777216 then M.ret (.str (Txt.join a ys)) else M.fail
    | none => M.fail
  | _, _ => M.fail
theorem de_join (hK : X.K = W.K) (ho : PE X o (tD W Wx f)) (he : PE X e (tD W Wx g)) (hs : starEach [e] X.env = [(false, eval e X.env)] := by rfl) (hbase : attributeBase o "join" X.env (eval o X.env) = eval o X.env := by rfl) (hline : (apos.endLine == pos.line) = true := by rfl) :
    PE X (.Call (.Attribute o "join" apos) [e] [] pos) (tD W Wx (m1M f g joinM)) := PE.imp (pe_join ho he hs hbase hline) fun σ H Q q => by
  refine tG_mono (tG_bind (rl := rlD W) q) fun v H1 ⟨A0, μ1, O, S1, x, rs1, r1, p1⟩ => ?_
  cases x with
  | str a =>
    refine ⟨⟨a, rep_str r1⟩, ?_⟩
    refine tG_mono (tG_bindK (rl := rlD W) keeps_rep rs1 r1 p1) fun w H2 ⟨μ2, S2, y, rs2, r2, ry, p2⟩ => ?_
    have p2 : PostG W Wx (rlD W) A0 μ2 O H2 σ ((match (seqD y).bind strsOf with
      | some ys => if (List.map (fun z : Str => z.length) ys).sum + ys.length * a.length ≤ 16777216 then M.ret (D.str (Txt.join a ys)) else M.fail
      | none => M.fail) S2) Q := p2
    cases hy : (seqD y).bind strsOf with
    | none => rw [hy] at p2; exact p2.elim
    | some ys =>
      rw [hy] at p2
      dsimp only at p2
      split at p2
      · rename_i hz
        obtain ⟨ds, h1, h2⟩ := Option.bind_eq_some_iff.mp hy
        have fin : ∃ p xs, w = .ref p ∧ (SqL X.K H2 p xs ∨ SqT X.K H2 p xs) ∧ Reps W (Av A0 μ2 O) μ2 H2 ds xs := by
          cases y with
          | lst z => cases h1; obtain ⟨b, xs, e, k1, _, k3⟩ := rep_lst ry; exact ⟨b, xs, e, .inl (.inl k1), k3⟩
          | tup z => cases h1; obtain ⟨b, xs, e, k1, _, k3⟩ := rep_tup ry; exact ⟨b, xs, e, .inr (by rw [hK]; exact k1), k3⟩
          | ktup z => cases h1; obtain ⟨b, xs, e, k1, _, k3⟩ := rep_ktup ry; exact ⟨b, xs, e, .inr (by rw [hK]; exact k1), k3⟩
          | _ => cases h1
        obtain ⟨b, xs, e, k1, k3⟩ := fin
        have e2 := strsOf_rep h2 k3
        subst e2
        exact ⟨a, b, ys, rep_str r2, by rw [e], k1, hz, q_sc rs2 p2 (.str _)⟩
      · exact p2.elim
  | _ => exact p1.elim
/-- a constant tuple of texts, its address -/
def KTup (K : PySem.W.Frag) (ys : List Str) (v : V) : Prop := ∃ a ob n, v = .ref a ∧ K.lookup a = some ob ∧ ob.cls = .type "tuple" ∧ ob.dict = none ∧ SqT K (fun _ => none) a (ys.map V.str) ∧ n = ys.length
def idxS (z : Str) : List Str → Nat → Option Nat
  | [], _ => none
  | y :: ys, k => if y = z then some k else idxS z ys (k + 1)
theorem idxS_at {z : Str} : ∀ {ys : List Str} {k j : Nat}, idxS z ys k = some j → ∃ m, j = k + m ∧ ys[m]? = some z ∧ ∀ m', m' < m → ys[m']? ≠ some z
  | [], k, j, h => by cases h
  | y :: ys, k, j, h => by
    unfold idxS at h
    split at h
    · rename_i e
      cases h
      exact ⟨0, rfl, by rw [← e]; rfl, fun m' hm => absurd hm (Nat.not_lt_zero _)⟩
    · rename_i e
      obtain ⟨m, h1, h2, h3⟩ := idxS_at h
      refine ⟨m + 1, by omega, h2, fun m' hm => ?_⟩
      cases m' with
      | zero => exact fun q => e (Option.some.inj q)
      | succ m' => exact h3 m' (by omega)
def idxM (ys : List Str) (f : M D) : M D := M.bnd f fun x => match x with
  | .str z => (match idxS z ys 0 with
    | some j => M.ret (.int (j : Nat))
    | none => M.fail)
  | _ => M.fail
theorem SqT.up {K : PySem.W.Frag} {a : Addr} {xs : List V} (h : SqT K (fun _ => none) a xs) : SqT K H a xs := by
  rcases h with (z | ⟨_, z⟩) | z
  · cases z
  · cases z
  · exact .inr z
theorem de_kindex {ys : List Str} {v : V} (k : KTup X.K ys v) (ho : PE X o (tC v)) (he : PE X e (tD W Wx f)) (hbase : attributeBase o "index" X.env (eval o X.env) = eval o X.env := by rfl)
    (hfew : ((backTo cpos (starEach [e] X.env)).all (fun x => !x.1) && (backToKw cpos (keywordEach [] X.env)).all (fun x => x.1.isSome)
      && decide ([e].length + ([] : List Keyword).length + (if ([] : List Keyword).isEmpty then 0 else 1) < 30)) = true := by rfl)
    (hline : (apos.endLine == cpos.line) = true := by rfl) (hs : starEach [e] X.env = (false, eval e X.env) :: starEach [] X.env := by rfl) (hplain : (backTo cpos (starEach [] X.env)).any (·.1) = false := by rfl) :
    PE X (.Call (.Attribute o "index" apos) [e] [] cpos) (tD W Wx (idxM ys f)) := PE.imp (pe_bm F.plainAttrs_tuple F.slot_tuple_index F.type_tuple_index mt_tup_index ho (pa_cons he pa_nil hs) hbase hfew hline hs hplain) fun σ H Q q => by
  obtain ⟨a, ob, n, e1, hk, hc, hd, hq, _⟩ := k
  subst e1
  refine ⟨.inr (.inl ⟨rfl, ob, hk, hc, hd⟩), ?_⟩
  refine tG_mono (tG_bind (rl := rlD W) q) fun v H1 ⟨A0, μ1, O, S1, x, rs1, r1, p1⟩ => ?_
  cases x with
  | str z =>
    have p1 : PostG W Wx (rlD W) A0 μ1 O H1 σ ((match idxS z ys 0 with
      | some j => M.ret (D.int (j : Nat))
      | none => M.fail) S1) Q := p1
    cases hj : idxS z ys 0 with
    | none => rw [hj] at p1; exact p1.elim
    | some j =>
      rw [hj] at p1
      obtain ⟨m, h1, h2, h3⟩ := idxS_at hj
      have e : j = m := by omega
      subst e
      exact ⟨a, ys, z, j, rfl, by rw [rep_str r1], SqT.up hq, h2, h3, q_sc rs1 p1 (.int _)⟩
  | _ => exact p1.elim
/-! ### displays of dicts -/
theorem df_dicK : PE X (.Dict [] [] pos) (tF W Wx (M.ret (.dic [] []))) := PE.imp pe_dnewK fun σ H Q ⟨A0, μ, O, S, rs, p⟩ q hq => by
  obtain ⟨n, rs', ow⟩ := fresh_own (o := .dK []) (d := .dic [] []) rs hq fun A hA => ⟨[], upd_same, rfl, reps_nil⟩
  exact p q _ μ (Step.same (upd_keep hq)) hq n rs' ow
theorem df_dicT : PE X (.Dict [] [] pos) (tF W Wx (M.ret (.dicT [] []))) := PE.imp pe_dnewT fun σ H Q ⟨A0, μ, O, S, rs, p⟩ q hq => by
  obtain ⟨n, rs', ow⟩ := fresh_own (o := .dT []) (d := .dicT [] []) rs hq fun A hA => ⟨[], upd_same, rfl, reps_nil⟩
  exact p q _ μ (Step.same (upd_keep hq)) hq n rs' ow
end
end DL
end
section
set_option Elab.async false
set_option linter.all false
set_option maxRecDepth 100000
namespace DL
open PySem PySem.Spec L2
section
variable {W : Wd} {Wx : WX} {X : Cx} {A0 A1 A : Addr → Prop} {μ μ0 μ1 μ' : List Addr} {O O1 O' : Nat → Option Addr} {H H0 H1 H' : Hp} {σ : St} {S S1 S' : Stt} {pos p apos cpos : Pos} {o e e1 e2 e3 : Expr} {f g h : M D} {a : Addr} {i j : Nat} {x d : D} {F : FK}
theorem av_sub (s : ∀ x, A0 x → A1 x) : ∀ x, Av A0 μ O x → Av A1 μ O x := fun x z => z.imp (s x) id
/-- an exception met while more is kept off -/
theorem ExnS.sub {c : Nat} {q : Option (List Str × List D)} (s : ∀ x, A0 x → A1 x) (h : ExnS W Wx A0 μ O H c q S') : ExnP W Wx A1 μ O H σ c q S' := by
  cases q with
  | none => exact fun H' μ' st rs => h _ _ _ _ (.of st) (rs.fewer s)
  | some q => exact fun H' μ' dd xs st rs hl hd r => h _ _ _ _ dd xs (.of st) (rs.fewer s) hl hd (Reps.le (Le.same (fun _ _ h => h) (av_sub s)) _ _ r)
theorem postD_bind {k : D → M Fl} {Q : VK} (rs : RepS W A1 μ O H σ S) (s : ∀ x, A0 x → A1 x) (st0 : Step (Ch μ0 O) μ0 μ H0 H) (h : PostS W Wx A0 μ0 O H0 ((M.bnd f k) S) F)
    (n : ∀ v H1 μ1 d S1, Step (Ch μ O) μ μ1 H H1 → RepS W A1 μ1 O H1 σ S1 → Rep W (Av A1 μ1 O) μ1 H1 d v → PostS W Wx A0 μ0 O H0 (k d S1) F → Q v H1) : tD W Wx f σ H Q := by
  refine ⟨A1, μ, O, S, rs, ?_⟩
  unfold M.bnd at h
  cases e : f S with
  | ok d S1 =>
    rw [e] at h
    exact fun v H1 μ1 st rs1 r1 => n v H1 μ1 d S1 st rs1 r1 h
  | exn c q S1 => rw [e] at h; exact ExnS.sub s (ExnS.step (.of st0) h)
  | stuck => rw [e] at h; exact h
theorem postF_bind {k : D → M Fl} {Q : VK} (rs : RepS W A1 μ O H σ S) (s : ∀ x, A0 x → A1 x) (st0 : Step (Ch μ0 O) μ0 μ H0 H) (h : PostS W Wx A0 μ0 O H0 ((M.bnd f k) S) F)
    (n : ∀ a H1 μ1 d S1, Step (Ch μ O) μ μ1 H H1 → H a = none → ¬ Av A1 μ1 O a → RepS W (plus A1 a) μ1 O H1 σ S1 → Own W (Av (plus A1 a) μ1 O) μ1 H1 d a → PostS W Wx A0 μ0 O H0 (k d S1) F → Q (.ref a) H1) : tF W Wx f σ H Q := by
  refine ⟨A1, μ, O, S, rs, ?_⟩
  unfold M.bnd at h
  cases e : f S with
  | ok d S1 =>
    rw [e] at h
    exact fun a H1 μ1 st hn na rs1 ow => n a H1 μ1 d S1 st hn na rs1 ow h
  | exn c q S1 => rw [e] at h; exact ExnS.sub s (ExnS.step (.of st0) h)
  | stuck => rw [e] at h; exact h
/-! ### a, b = x, y -/
def parS (i j : Nat) (ka kb : D → Sl) (f g : M D) : M Fl := M.bnd f fun x => M.bnd g fun y S => .ok .nx { S with sl := (S.sl.set j (kb y)).set i (ka x) }
theorem own_kept (st : Step (Ch μ O) μ μ' H H') (hc : ¬ Ch μ O a) {d : D} (ow : Own W A μ H d a) : H' a = H a := by
  rcases ow.shape with ⟨z, e⟩ | ⟨z, e⟩ | ⟨z, e⟩ | ⟨c, y, z, e⟩ <;> rw [e, st.keep a _ e hc (fun ps q => by cases q)]
/-- one more of one's own: what was read ahead of it -/
theorem le_new {b : Addr} (l : Le (Av A1 μ O) (Av A1 μ' O) μ μ' H H') (hb : H b = none) : Le (Av A1 μ O) (Av A1 μ' (updO O j b)) μ μ' H H' := ⟨l.at_, fun a o hh n t => ⟨(l.keep a o hh n t).1, fun z => by
  rcases z with z | z | ⟨k, z⟩
  · exact (l.keep a o hh n t).2 (.inl z)
  · exact (l.keep a o hh n t).2 (.inr (.inl z))
  · unfold updO at z
    split at z
    · cases z; rw [hb] at hh; cases hh
    · exact (l.keep a o hh n t).2 (.inr (.inr ⟨k, z⟩))⟩⟩
theorem stepS_new {b : Addr} (st : Step (Ch μ O) μ μ' H H') (hb : H b = none) : StepS μ O μ' (updO O j b) H H' := ⟨st, updO_on hb⟩
theorem par_dd (hij : i ≠ j) {D : Ends} (h : tS W Wx (parS i j .d .d f g) D σ H) : tPar i j (tCons (tD W Wx f) (tCons (tD W Wx g) tNil)) D σ H := by
  obtain ⟨A0, μ, O, S, rs, p⟩ := h
  refine postD_bind rs (fun _ h => h) (Step.refl _ _ _) p fun v H1 μ1 d S1 st rs1 r1 p1 => ?_
  refine postD_bind rs1 (fun _ h => h) st p1 fun w H2 μ2 d2 S2 st2 rs2 r2 p2 => ⟨v, w, rfl, ?_⟩
  rw [← List.set_comm _ _ (Ne.symm hij)]
  exact p2 _ H2 μ2 O (.of (st.ch st2)) ((rs2.setd r2).setd (Rep.step r1 st2 rs1))
theorem par_do (hij : i ≠ j) {D : Ends} (h : tS W Wx (parS i j .d .own f g) D σ H) : tPar i j (tCons (tD W Wx f) (tCons (tF W Wx g) tNil)) D σ H := by
  obtain ⟨A0, μ, O, S, rs, p⟩ := h
  refine postD_bind rs (fun _ h => h) (Step.refl _ _ _) p fun v H1 μ1 d S1 st rs1 r1 p1 => ?_
  refine postF_bind rs1 (fun _ h => h) st p1 fun b H2 μ2 d2 S2 st2 hb nb rs2 ow2 p2 => ⟨v, _, rfl, ?_⟩
  rw [← List.set_comm _ _ (Ne.symm hij)]
  exact p2 _ H2 μ2 (updO O j b) (stepS_new (st.ch st2) (st.alive b hb)) ((rs2.seto nb ow2).setd (Rep.le (le_new (st2.le rs1) hb) _ _ r1))
/-- what was made first, when more has been done -/
theorem own_later (rs1 : RepS W (plus A0 a) μ1 O H1 σ S1) (na : ¬ Av A0 μ1 O a) {d : D} (ow : Own W (Av (plus A0 a) μ1 O) μ1 H1 d a) (st : Step (Ch μ1 O) μ1 μ' H1 H') : ¬ Av A0 μ' O a ∧ Own W (Av (plus A0 a) μ' O) μ' H' d a := by
  have nc : ¬ Ch μ1 O a := fun z => na (.inr z)
  refine ⟨fun z => ?_, ow.le (st.le rs1) (own_kept st nc ow)⟩
  rcases z with z | z | z
  · exact na (.inl z)
  · by_cases q : a ∈ μ1
    · exact nc (.inl q)
    · obtain ⟨o, e, _⟩ := ow.there
      rw [st.new a z q] at e; cases e
  · exact nc (.inr z)
theorem par_od (hij : i ≠ j) {D : Ends} (h : tS W Wx (parS i j .own .d f g) D σ H) : tPar i j (tCons (tF W Wx f) (tCons (tD W Wx g) tNil)) D σ H := by
  obtain ⟨A0, μ, O, S, rs, p⟩ := h
  refine postF_bind rs (fun _ h => h) (Step.refl _ _ _) p fun a H1 μ1 d S1 st ha na rs1 ow1 p1 => ?_
  refine postD_bind rs1 (fun _ h => .inl h) st p1 fun w H2 μ2 d2 S2 st2 rs2 r2 p2 => ⟨_, w, rfl, ?_⟩
  rw [← List.set_comm _ _ (Ne.symm hij)]
  obtain ⟨na2, ow2⟩ := own_later rs1 na ow1 st2
  exact p2 _ H2 μ2 (updO O i a) (stepS_new (st.ch st2) ha) ((rs2.setd r2).seto na2 ow2)
theorem par_oo (hij : i ≠ j) {D : Ends} (h : tS W Wx (parS i j .own .own f g) D σ H) : tPar i j (tCons (tF W Wx f) (tCons (tF W Wx g) tNil)) D σ H := by
  obtain ⟨A0, μ, O, S, rs, p⟩ := h
  refine postF_bind rs (fun _ h => h) (Step.refl _ _ _) p fun a H1 μ1 d S1 st ha na rs1 ow1 p1 => ?_
  refine postF_bind rs1 (fun _ h => .inl h) st p1 fun b H2 μ2 d2 S2 st2 hb nb rs2 ow2 p2 => ⟨_, _, rfl, ?_⟩
  rw [← List.set_comm _ _ (Ne.symm hij)]
  obtain ⟨na2, ow2a⟩ := own_later rs1 na ow1 st2
  have hab : a ≠ b := fun z => by
    obtain ⟨o, e, _⟩ := ow1.there
    rw [z, hb] at e; cases e
  have rs3 := rs2.seto (i := j) nb ow2
  have na3 : ¬ Av A0 μ2 (updO O j b) a := fun z => by
    rcases z with z | z | ⟨k, z⟩
    · exact na2 (.inl z)
    · exact na2 (.inr (.inl z))
    · unfold updO at z
      split at z
      · exact hab (Option.some.inj z).symm
      · exact na2 (.inr (.inr ⟨k, z⟩))
  have ow3 : Own W (Av (plus A0 a) μ2 (updO O j b)) μ2 H2 d a := by
    have nc : ¬ Ch μ1 O a := fun z => na (.inr z)
    exact ow1.le (le_new (st2.le rs1) hb) (own_kept st2 nc ow1)
  refine p2 _ H2 μ2 (updO (updO O j b) i a) ⟨st.ch st2, fun k c z => ?_⟩ (rs3.seto na3 ow3)
  unfold updO at z
  split at z
  · cases z; exact .inr ha
  · split at z
    · cases z; exact .inr (st.alive b hb)
    · exact .inl ⟨k, z⟩
theorem ds_par_dd {x y : Str} {px py pt : Pos} {kt : Nat} {k2 : Nat} {pt2 : Pos} (hc : X.calm = true) (hN : X.N.Nodup) (hi : X.N[i]? = some x) (hj : X.N[j]? = some y) (hij : i ≠ j) (hx : X.env.scope.names.lookup x = some .local) (hy : X.env.scope.names.lookup y = some .local)
    (h1 : PE X e1 (tD W Wx f)) (h2 : PE X e2 (tD W Wx g)) (hw : swappedStores [.Tuple [.Name x px, .Name y py] kt pt] (.Tuple [e1, e2] k2 pt2) X.env = pure (some [x, y]))
    (hs : swapsWithSole [.Tuple [.Name x px, .Name y py] kt pt] (.Tuple [e1, e2] k2 pt2) pos.line X.env = pure false := by rfl) (hs1 : starEach [e1, e2] X.env = (false, eval e1 X.env) :: starEach [e2] X.env := by rfl) (hs2 : starEach [e2] X.env = (false, eval e2 X.env) :: starEach [] X.env := by rfl) :
    PS X (.Assign [.Tuple [.Name x px, .Name y py] kt pt] (.Tuple [e1, e2] k2 pt2) pos) (tS W Wx (parS i j .d .d f g)) := PS.imp (ps_par hc hN hi hj hij hx hy (pa_cons h1 (pa_cons h2 pa_nil hs2) hs1) hw hs) fun D σ H h => par_dd hij h
theorem ds_par_do {x y : Str} {px py pt : Pos} {kt : Nat} {k2 : Nat} {pt2 : Pos} (hc : X.calm = true) (hN : X.N.Nodup) (hi : X.N[i]? = some x) (hj : X.N[j]? = some y) (hij : i ≠ j) (hx : X.env.scope.names.lookup x = some .local) (hy : X.env.scope.names.lookup y = some .local)
    (h1 : PE X e1 (tD W Wx f)) (h2 : PE X e2 (tF W Wx g)) (hw : swappedStores [.Tuple [.Name x px, .Name y py] kt pt] (.Tuple [e1, e2] k2 pt2) X.env = pure (some [x, y]))
    (hs : swapsWithSole [.Tuple [.Name x px, .Name y py] kt pt] (.Tuple [e1, e2] k2 pt2) pos.line X.env = pure false := by rfl) (hs1 : starEach [e1, e2] X.env = (false, eval e1 X.env) :: starEach [e2] X.env := by rfl) (hs2 : starEach [e2] X.env = (false, eval e2 X.env) :: starEach [] X.env := by rfl) :
    PS X (.Assign [.Tuple [.Name x px, .Name y py] kt pt] (.Tuple [e1, e2] k2 pt2) pos) (tS W Wx (parS i j .d .own f g)) := PS.imp (ps_par hc hN hi hj hij hx hy (pa_cons h1 (pa_cons h2 pa_nil hs2) hs1) hw hs) fun D σ H h => par_do hij h
theorem ds_par_od {x y : Str} {px py pt : Pos} {kt : Nat} {k2 : Nat} {pt2 : Pos} (hc : X.calm = true) (hN : X.N.Nodup) (hi : X.N[i]? = some x) (hj : X.N[j]? = some y) (hij : i ≠ j) (hx : X.env.scope.names.lookup x = some .local) (hy : X.env.scope.names.lookup y = some .local)
    (h1 : PE X e1 (tF W Wx f)) (h2 : PE X e2 (tD W Wx g)) (hw : swappedStores [.Tuple [.Name x px, .Name y py] kt pt] (.Tuple [e1, e2] k2 pt2) X.env = pure (some [x, y]))
    (hs : swapsWithSole [.Tuple [.Name x px, .Name y py] kt pt] (.Tuple [e1, e2] k2 pt2) pos.line X.env = pure false := by rfl) (hs1 : starEach [e1, e2] X.env = (false, eval e1 X.env) :: starEach [e2] X.env := by rfl) (hs2 : starEach [e2] X.env = (false, eval e2 X.env) :: starEach [] X.env := by rfl) :
    PS X (.Assign [.Tuple [.Name x px, .Name y py] kt pt] (.Tuple [e1, e2] k2 pt2) pos) (tS W Wx (parS i j .own .d f g)) := PS.imp (ps_par hc hN hi hj hij hx hy (pa_cons h1 (pa_cons h2 pa_nil hs2) hs1) hw hs) fun D σ H h => par_od hij h
theorem ds_par_oo {x y : Str} {px py pt : Pos} {kt : Nat} {k2 : Nat} {pt2 : Pos} (hc : X.calm = true) (hN : X.N.Nodup) (hi : X.N[i]? = some x) (hj : X.N[j]? = some y) (hij : i ≠ j) (hx : X.env.scope.names.lookup x = some .local) (hy : X.env.scope.names.lookup y = some .local)
    (h1 : PE X e1 (tF W Wx f)) (h2 : PE X e2 (tF W Wx g)) (hw : swappedStores [.Tuple [.Name x px, .Name y py] kt pt] (.Tuple [e1, e2] k2 pt2) X.env = pure (some [x, y]))
    (hs : swapsWithSole [.Tuple [.Name x px, .Name y py] kt pt] (.Tuple [e1, e2] k2 pt2) pos.line X.env = pure false := by rfl) (hs1 : starEach [e1, e2] X.env = (false, eval e1 X.env) :: starEach [e2] X.env := by rfl) (hs2 : starEach [e2] X.env = (false, eval e2 X.env) :: starEach [] X.env := by rfl) :
    PS X (.Assign [.Tuple [.Name x px, .Name y py] kt pt] (.Tuple [e1, e2] k2 pt2) pos) (tS W Wx (parS i j .own .own f g)) := PS.imp (ps_par hc hN hi hj hij hx hy (pa_cons h1 (pa_cons h2 pa_nil hs2) hs1) hw hs) fun D σ H h => par_oo hij h
/-! ### a thing of one's own that is not changed any more -/
def frzS {α : Type} (i : Nat) (m : M α) : M α := fun S => match S.sl[i]? with
  | some (.own x) => m { S with sl := S.sl.set i (.d x) }
  | _ => .stuck
def subO (O : Nat → Option Addr) (i : Nat) : Nat → Option Addr := fun j => if j = i then none else O j
theorem subO_in {k : Nat} {b : Addr} (h : subO O i k = some b) : O k = some b ∧ k ≠ i := by
  unfold subO at h
  split at h
  · cases h
  · rename_i q; exact ⟨h, q⟩
theorem RepS.frz {x : D} (rs : RepS W A0 μ O H σ S) (h : S.sl[i]? = some (.own x)) : RepS W A0 μ (subO O i) H σ { S with sl := S.sl.set i (.d x) } := by
  have sub : ∀ a, Av A0 μ (subO O i) a → Av A0 μ O a := fun a z => by
    rcases z with z | z | ⟨k, z⟩
    · exact .inl z
    · exact .inr (.inl z)
    · exact .inr (.inr ⟨k, (subO_in z).1⟩)
  have l : Le (Av A0 μ O) (Av A0 μ (subO O i)) μ μ H H := Le.same (fun _ _ h => h) sub
  have hi := rs.sl i
  rw [h] at hi
  obtain ⟨a, ho, hw, ow⟩ := hi
  refine ⟨fun k => ?_, fun k m b h1 h2 => rs.oinj k m b (subO_in h1).1 (subO_in h2).1, fun k b hb => rs.otr k b (subO_in hb).1, rs.obl, fun k d b h1 h2 => (rs.obs k d b h1 h2).le l rfl, rs.nd, rs.atr, rs.tab, by simp [rs.len]⟩
  by_cases hk : i = k
  · subst hk
    show SlOk W _ μ _ H i ((S.sl.set i (.d x))[i]?) (σ[i]?)
    rw [List.getElem?_set_self (List.getElem?_eq_some_iff.mp h).1]
    refine ⟨_, hw, Own.rep (ow.le l rfl) fun z => ?_⟩
    rcases z with z | z | ⟨m, z⟩
    · exact (rs.otr i a ho).1 z
    · exact (rs.otr i a ho).2.1 z
    · obtain ⟨z1, z2⟩ := subO_in z
      exact z2 (rs.oinj m i a z1 ho)
  · show SlOk W _ μ _ H k ((S.sl.set i (.d x))[k]?) (σ[k]?)
    rw [List.getElem?_set_ne hk]
    refine (rs.sl k).imp l fun b hb => ⟨?_, fun _ => rfl⟩
    unfold subO
    rw [if_neg (Ne.symm hk)]
    exact hb
theorem stepS_sub {O2 : Nat → Option Addr} (st : StepS μ (subO O i) μ' O2 H H') : StepS μ O μ' O2 H H' :=
  ⟨⟨st.st.ext, st.st.new, fun a o h n t => st.st.keep a o h (fun z => n (z.imp id fun ⟨k, z⟩ => ⟨k, (subO_in z).1⟩)) t, st.st.alive⟩, fun k a z => (st.on k a z).imp (fun ⟨m, z⟩ => ⟨m, (subO_in z).1⟩) id⟩
theorem frz_imp {m : M Fl} {D : Ends} (h : tS W Wx (frzS i m) D σ H) : tS W Wx m D σ H := by
  obtain ⟨A0, μ, O, S, rs, p⟩ := h
  unfold frzS at p
  split at p
  · rename_i x hx
    refine ⟨A0, μ, subO O i, _, rs.frz hx, ?_⟩
    cases e : m { S with sl := S.sl.set i (.d x) } with
    | ok fl S1 => rw [e] at p; exact fun σ' H' μ' O' st rs' => p σ' H' μ' O' (stepS_sub st) rs'
    | exn c q S1 =>
      rw [e] at p
      cases q with
      | none => exact fun σ' H' μ' O' st rs' => p σ' H' μ' O' (stepS_sub st) rs'
      | some q => exact fun σ' H' μ' O' dd xs st rs' => p σ' H' μ' O' dd xs (stepS_sub st) rs'
    | stuck => rw [e] at p; exact p
  · exact p.elim
theorem ds_frz {st : Stmt} {m : M Fl} (h : PS X st (tS W Wx m)) : PS X st (tS W Wx (frzS i m)) := PS.imp h fun D σ H h => frz_imp h
theorem dss_frz {st : List Stmt} {m : M Fl} (h : PSs X st (tS W Wx m)) : PSs X st (tS W Wx (frzS i m)) := PSs.imp h fun D σ H h => frz_imp h
/-! ### a new thing that several will change -/
def retLoc (u : M D) : M Fl := M.bnd u fun d S => .ok (.rt (.loc S.ob.length)) { S with ob := S.ob ++ [d] }
theorem RepS.share {d : D} (rs : RepS W (plus A0 a) μ O H σ S) (na : ¬ Av A0 μ O a) (ow : Own W (Av (plus A0 a) μ O) μ H d a) : RepS W A0 (μ ++ [a]) O H σ { S with ob := S.ob ++ [d] } := by
  have sub : ∀ x, Av A0 (μ ++ [a]) O x → Av (plus A0 a) μ O x := fun x z => by
    rcases z with z | z | z
    · exact .inl (.inl z)
    · rcases List.mem_append.mp z with z | z
      · exact .inr (.inl z)
      · exact .inl (.inr (List.mem_singleton.mp z))
    · exact .inr (.inr z)
  have l : Le (Av (plus A0 a) μ O) (Av A0 (μ ++ [a]) O) μ (μ ++ [a]) H H := ⟨fun k b h => by rw [List.getElem?_append_left (List.getElem?_eq_some_iff.mp h).1]; exact h, fun b o h n _ => ⟨h, fun z => n (sub b z)⟩⟩
  have hm : a ∉ μ := fun z => na (.inr (.inl z))
  refine ⟨fun k => (rs.sl k).imp l fun b hb => ⟨hb, fun _ => rfl⟩, rs.oinj, fun k b hb => ?_, by simp [rs.obl], fun k d' b h1 h2 => ?_, ?_, fun b hb => rs.atr b (.inl hb), rs.tab, rs.len⟩
  · obtain ⟨h1, h2, h3⟩ := rs.otr k b hb
    refine ⟨fun z => h1 (.inl z), fun z => ?_, h3⟩
    rcases List.mem_append.mp z with z | z
    · exact h2 z
    · exact h1 (.inr (List.mem_singleton.mp z))
  · have h1 : (S.ob ++ [d])[k]? = some d' := h1
    by_cases hk : k < S.ob.length
    · rw [List.getElem?_append_left hk] at h1
      rw [List.getElem?_append_left (by rw [← rs.obl]; exact hk)] at h2
      exact (rs.obs k d' b h1 h2).le l rfl
    · have hk2 : k = S.ob.length := by
        have := (List.getElem?_eq_some_iff.mp h1).1
        simp at this; omega
      subst hk2
      rw [List.getElem?_append_right (Nat.le_refl _)] at h1
      rw [List.getElem?_append_right (by rw [rs.obl]; exact Nat.le_refl _)] at h2
      rw [rs.obl] at h2
      simp at h1 h2
      subst h1; subst h2
      exact ow.le l rfl
  · refine List.nodup_append.mpr ⟨rs.nd, by simp, fun x hx y hy => ?_⟩
    rw [List.mem_singleton] at hy
    subst hy
    exact fun z => hm (z ▸ hx)
theorem ds_retLoc (h : PE X e (tF W Wx f)) : PS X (.Return (some e) pos) (tS W Wx (retLoc f)) := PS.imp (ps_ret h) fun D σ H ⟨A0, μ, O, S, rs, p⟩ => by
  refine postF_bind rs (fun _ h => h) (Step.refl _ _ _) p fun a H1 μ1 d S1 st ha na rs1 ow1 p1 => ?_
  have st' : Step (Ch μ O) μ (μ1 ++ [a]) H H1 := ⟨by
    obtain ⟨r, e⟩ := st.ext
    exact ⟨r ++ [a], by rw [e, List.append_assoc]⟩, fun b hb hn => by
      rcases List.mem_append.mp hb with z | z
      · exact st.new b z hn
      · rw [List.mem_singleton.mp z]; exact ha, st.keep, st.alive⟩
  have z : ∀ v, Rep W (fun x => A0 x ∨ x ∈ μ1 ++ [a]) (μ1 ++ [a]) H1 (.loc S1.ob.length) v → D.rt v H1 := p1 σ H1 (μ1 ++ [a]) O (.of st') (rs1.share na ow1)
  refine z _ ?_
  simp only [Rep]
  exact ⟨a, by rw [rs1.obl, List.getElem?_append_right (Nat.le_refl _)]; simp, rfl⟩
end
end DL
end
section
set_option Elab.async false
set_option linter.all false
set_option maxRecDepth 100000
namespace DL
open PySem PySem.Spec L2
/-! ### an order of all data -/
section order
open SrtO
variable {α : Type} {lt : α → α → Bool}
def lexB (lt : α → α → Bool) : List α → List α → Bool
  | [], [] => false
  | [], _ :: _ => true
  | _ :: _, [] => false
  | x :: xs, y :: ys => lt x y || (!lt y x && lexB lt xs ys)
theorem Swo.lex (O : Swo lt) : Swo (lexB lt) := by
  refine ⟨?_, ?_⟩
  · intro xs
    induction xs with
    | nil => intro ys h; cases ys <;> simp_all [lexB]
    | cons x xs ih =>
      intro ys h
      cases ys with
      | nil => simp [lexB] at h
      | cons y ys =>
        simp only [lexB, Bool.or_eq_true, Bool.and_eq_true, Bool.not_eq_true'] at h
        simp only [lexB, Bool.or_eq_false_iff, Bool.and_eq_false_iff, Bool.not_eq_false']
        rcases h with h | ⟨h1, h2⟩
        · exact ⟨O.asym _ _ h, .inl h⟩
        · exact ⟨h1, .inr (ih ys h2)⟩
  · intro xs
    induction xs with
    | nil => intro ys zs h1 h2; cases zs <;> cases ys <;> simp_all [lexB]
    | cons x xs ih =>
      intro ys zs h1 h2
      cases zs with
      | nil =>
        cases ys with
        | nil => simp [lexB] at h1
        | cons y ys => simp [lexB] at h2
      | cons z zs =>
        cases ys with
        | nil => simp [lexB] at h1
        | cons y ys =>
          simp only [lexB, Bool.or_eq_false_iff, Bool.and_eq_false_iff, Bool.not_eq_false'] at h1 h2 ⊢
          refine ⟨O.tr x y z h1.1 h2.1, ?_⟩
          rcases h1.2 with q1 | q1
          · exact .inl (O.ltle q1 h2.1)
          · rcases h2.2 with q2 | q2
            · exact .inl (O.lelt h1.1 q2)
            · exact .inr (ih ys zs q1 q2)
theorem Swo.key {β : Type} (O : Swo lt) (k : β → α) : Swo (fun x y => lt (k x) (k y)) := ⟨fun x y h => O.asym _ _ h, fun x y z h1 h2 => O.tr _ _ _ h1 h2⟩
theorem swo_nat : Swo (fun x y : Nat => decide (x < y)) := ⟨fun x y h => decide_eq_false (by have := of_decide_eq_true h; omega), fun x y z h1 h2 => decide_eq_false (by have := of_decide_eq_false h1; have := of_decide_eq_false h2; omega)⟩
theorem swo_int : Swo (fun x y : Int => decide (x < y)) := ⟨fun x y h => decide_eq_false (by have := of_decide_eq_true h; omega), fun x y z h1 h2 => decide_eq_false (by have := of_decide_eq_false h1; have := of_decide_eq_false h2; omega)⟩
theorem ltS_lex : ∀ xs ys : List Nat, decide (xs < ys) = lexB (fun x y : Nat => decide (x < y)) xs ys
  | [], [] => by simp [lexB]
  | [], y :: ys => by simp [lexB]
  | x :: xs, [] => by simp [lexB]
  | x :: xs, y :: ys => by
    have ih := ltS_lex xs ys
    simp only [lexB]
    by_cases h : x < y
    · simp [h, List.cons_lt_cons_iff]
    · by_cases h2 : y < x
      · have h3 : ¬ x = y := by omega
        simp [h, h2, h3, List.cons_lt_cons_iff]
      · have h3 : x = y := by omega
        subst h3
        simp only [Nat.lt_irrefl, decide_false, Bool.false_or, Bool.not_false, Bool.true_and]
        rw [← ih]
        simp [List.cons_lt_cons_iff]
theorem swo_str : Swo ltS := by
  have h := Swo.key (Swo.lex swo_nat) (fun x : Str => x.cps.toList)
  have e : ltS = fun x y : Str => lexB (fun x y : Nat => decide (x < y)) x.cps.toList y.cps.toList := by
    funext x y
    exact ltS_lex _ _
  rw [e]
  exact h
def rkD : D → Nat
  | .int _ => 0
  | .str _ => 1
  | .tup _ => 2
  | _ => 3
/-- within one rank -/
def inT : Nat → D → D → Bool
  | _, .int i, .int j => decide (i < j)
  | _, .str x, .str y => ltS x y
  | n + 1, .tup xs, .tup ys => lexB (fun d e => decide (rkD d < rkD e) || (rkD d == rkD e && inT n d e)) xs ys
  | _, _, _ => false
def ltT (n : Nat) (d e : D) : Bool := decide (rkD d < rkD e) || (rkD d == rkD e && inT n d e)
theorem ltT_eq (n : Nat) (d e : D) : ltT n d e = (decide (rkD d < rkD e) || (rkD d == rkD e && inT n d e)) := rfl
theorem inT_tup (n : Nat) (xs ys : List D) : inT (n + 1) (.tup xs) (.tup ys) = lexB (ltT n) xs ys := by simp only [inT]; rfl
theorem swo_rank {rk : α → Nat} {s : α → α → Bool} (ha : ∀ x y, rk x = rk y → s x y = true → s y x = false) (ht : ∀ x y z, rk x = rk y → rk y = rk z → s y x = false → s z y = false → s z x = false) :
    Swo (fun x y => decide (rk x < rk y) || (rk x == rk y && s x y)) := by
  refine ⟨fun x y h => ?_, fun x y z h1 h2 => ?_⟩
  · simp only [Bool.or_eq_true, Bool.and_eq_true, beq_iff_eq, decide_eq_true_eq] at h
    simp only [Bool.or_eq_false_iff, Bool.and_eq_false_iff, decide_eq_false_iff_not, beq_eq_false_iff_ne]
    rcases h with h | ⟨h1, h2⟩
    · exact ⟨by omega, .inl (by omega)⟩
    · exact ⟨by omega, .inr (ha x y h1 h2)⟩
  · simp only [Bool.or_eq_false_iff, Bool.and_eq_false_iff, decide_eq_false_iff_not, beq_eq_false_iff_ne] at h1 h2 ⊢
    obtain ⟨a1, b1⟩ := h1
    obtain ⟨a2, b2⟩ := h2
    refine ⟨by omega, ?_⟩
    by_cases e : rk z = rk x
    · right
      have e1 : rk y = rk x := by omega
      have e2 : rk z = rk y := by omega
      exact ht x y z e1.symm e2.symm (b1.resolve_left (by simpa using e1)) (b2.resolve_left (by simpa using e2))
    · exact .inl e
theorem inT_int (n : Nat) (i j : Int) : inT n (.int i) (.int j) = decide (i < j) := by cases n <;> rfl
theorem inT_str (n : Nat) (i j : Str) : inT n (.str i) (.str j) = ltS i j := by cases n <;> rfl
theorem inT_oth {n : Nat} {d e : D} (h : rkD d = 3) : inT n d e = false := by
  cases d with
  | int i => cases h
  | str i => cases h
  | tup i => cases h
  | _ => cases n <;> cases e <;> rfl
theorem rk_case (d : D) : (∃ i, d = .int i) ∨ (∃ x, d = .str x) ∨ (∃ xs, d = .tup xs) ∨ rkD d = 3 := by
  cases d with
  | int i => exact .inl ⟨i, rfl⟩
  | str i => exact .inr (.inl ⟨i, rfl⟩)
  | tup i => exact .inr (.inr (.inl ⟨i, rfl⟩))
  | _ => exact .inr (.inr (.inr rfl))
theorem rk_int {e : D} {i : Int} (h : rkD (.int i) = rkD e) : ∃ j, e = .int j := by
  rcases rk_case e with q | ⟨_, rfl⟩ | ⟨_, rfl⟩ | q
  · exact q
  · cases h
  · cases h
  · rw [q] at h; cases h
theorem rk_str {e : D} {i : Str} (h : rkD (.str i) = rkD e) : ∃ j, e = .str j := by
  rcases rk_case e with ⟨_, rfl⟩ | q | ⟨_, rfl⟩ | q
  · cases h
  · exact q
  · cases h
  · rw [q] at h; cases h
theorem rk_tup {e : D} {i : List D} (h : rkD (.tup i) = rkD e) : ∃ j, e = .tup j := by
  rcases rk_case e with ⟨_, rfl⟩ | ⟨_, rfl⟩ | q | q
  · cases h
  · cases h
  · exact q
  · rw [q] at h; cases h
theorem swo_in (n : Nat) (T : Swo (fun xs ys => inT n (.tup xs) (.tup ys))) : Swo (ltT n) := by
  refine swo_rank (rk := rkD) (s := inT n) (fun x y hr h => ?_) fun x y z h1 h2 a b => ?_
  · rcases rk_case x with ⟨i, rfl⟩ | ⟨i, rfl⟩ | ⟨i, rfl⟩ | q
    · obtain ⟨j, rfl⟩ := rk_int hr
      rw [inT_int] at h ⊢; exact swo_int.asym _ _ h
    · obtain ⟨j, rfl⟩ := rk_str hr
      rw [inT_str] at h ⊢; exact swo_str.asym _ _ h
    · obtain ⟨j, rfl⟩ := rk_tup hr
      exact T.asym _ _ h
    · rw [inT_oth q] at h; cases h
  · rcases rk_case x with ⟨i, rfl⟩ | ⟨i, rfl⟩ | ⟨i, rfl⟩ | q
    · obtain ⟨j, rfl⟩ := rk_int h1
      obtain ⟨k, rfl⟩ := rk_int h2
      rw [inT_int] at a b ⊢; exact swo_int.tr _ _ _ a b
    · obtain ⟨j, rfl⟩ := rk_str h1
      obtain ⟨k, rfl⟩ := rk_str h2
      rw [inT_str] at a b ⊢; exact swo_str.tr _ _ _ a b
    · obtain ⟨j, rfl⟩ := rk_tup h1
      obtain ⟨k, rfl⟩ := rk_tup h2
      exact T.tr _ _ _ a b
    · exact inT_oth (by rw [← h2, ← h1]; exact q)
theorem swo_ltT : ∀ n : Nat, Swo (ltT n)
  | 0 => swo_in 0 ⟨fun xs ys h => (by cases h), fun xs ys zs _ _ => rfl⟩
  | n + 1 => swo_in (n + 1) (by
    have e : (fun xs ys => inT (n + 1) (.tup xs) (.tup ys)) = lexB (ltT n) := by
      funext xs ys
      exact inT_tup n xs ys
    rw [e]
    exact Swo.lex (swo_ltT n))
/-! ### sorted data -/
def insD (lt : α → α → Bool) (x : α) : List α → List α
  | [] => [x]
  | y :: l => if lt y x = true then y :: insD lt x l else x :: y :: l
def sortD (lt : α → α → Bool) : List α → List α
  | [] => []
  | x :: l => insD lt x (sortD lt l)
theorem insD_mem {x y : α} : ∀ {l : List α}, y ∈ insD lt x l → y = x ∨ y ∈ l
  | [], h => by simpa [insD] using h
  | z :: l, h => by
    unfold insD at h
    split at h
    · rcases List.mem_cons.mp h with e | h
      · exact .inr (by simp [e])
      · rcases insD_mem h with e | h
        · exact .inl e
        · exact .inr (by simp [h])
    · rcases List.mem_cons.mp h with e | h
      · exact .inl e
      · exact .inr h
theorem insD_srtd (O : Swo lt) {x : α} : ∀ {l : List α}, Srtd lt l → Srtd lt (insD lt x l)
  | [], _ => srtd_one x
  | y :: l, h => by
    unfold insD
    obtain ⟨h1, h2⟩ := List.pairwise_cons.mp h
    split
    · rename_i q
      refine List.pairwise_cons.mpr ⟨fun z hz => ?_, insD_srtd O h2⟩
      rcases insD_mem hz with e | hz
      · rw [e]; exact O.asym _ _ q
      · exact h1 z hz
    · rename_i q
      have q : lt y x = false := by simpa using q
      refine List.pairwise_cons.mpr ⟨fun z hz => ?_, h⟩
      rcases List.mem_cons.mp hz with e | hz
      · rw [e]; exact q
      · exact O.tr x y z q (h1 z hz)
theorem insD_stb (O : Swo lt) {x : α} : ∀ {l : List α}, Stb lt (insD lt x l) (x :: l)
  | [] => Stb.refl _
  | y :: l => by
    unfold insD
    split
    · rename_i q
      have ih := insD_stb O (x := x) (l := l)
      refine ⟨(List.Perm.cons y ih.perm).trans (List.Perm.swap x y l), fun z => ?_⟩
      have e := ih.cls z
      have hxy : eqv lt z y = true → eqv lt z x = false := fun h1 => by
        cases hx : eqv lt z x with
        | false => rfl
        | true =>
          have a := eqv_iff.mp h1
          have b := eqv_iff.mp hx
          have := O.tr x z y b.1 a.2
          rw [q] at this; cases this
      simp only [List.filter_cons] at e ⊢
      rw [e]
      cases h1 : eqv lt z y with
      | true => simp [hxy h1]
      | false => simp
    · exact Stb.refl _
theorem sortD_srtd (O : Swo lt) : ∀ l : List α, Srtd lt (sortD lt l)
  | [] => List.Pairwise.nil
  | x :: l => insD_srtd O (sortD_srtd O l)
theorem stb_cons {x : α} {l m : List α} (h : Stb lt l m) : Stb lt (x :: l) (x :: m) := ⟨List.Perm.cons x h.perm, fun z => by rw [List.filter_cons, List.filter_cons, h.cls z]⟩
theorem sortD_stb (O : Swo lt) : ∀ l : List α, Stb lt (sortD lt l) l
  | [] => Stb.refl _
  | x :: l => (insD_stb O).trans (stb_cons (sortD_stb O l))
theorem stb_symm {l m : List α} (h : Stb lt l m) : Stb lt m l := ⟨h.perm.symm, fun z => (h.cls z).symm⟩
theorem sortD_uniq (O : Swo lt) {l m : List α} (h1 : Srtd lt l) (h2 : Stb lt l m) : l = sortD lt m := stb_uniq O h1 (sortD_srtd O m) (h2.trans (stb_symm (sortD_stb O m)))
end order
end DL
end
section
set_option Elab.async false
set_option linter.all false
set_option maxRecDepth 100000
namespace DL
open PySem PySem.Spec L2
/-! ### sorted(a list of data) -/
mutual
def plainD : D → Bool
  | .int _ => true
  | .str _ => true
  | .tup ds => plainDs ds
  | _ => false
def plainDs : List D → Bool
  | [] => true
  | d :: ds => plainD d && plainDs ds
end
mutual
theorem rep_inj {W : Wd} {A : Addr → Prop} {μ : List Addr} {H : Hp} : ∀ (d e : D) (x : V), plainD d = true → plainD e = true → Rep W A μ H d x → Rep W A μ H e x → d = e
  | .int i, e, x, hd, he, r, r' => by
    have e1 := rep_int r
    subst e1
    cases e with
    | int j => have := rep_int r'; cases this; rfl
    | str j => have := rep_str r'; cases this
    | tup ys => obtain ⟨_, _, z, _⟩ := rep_tupH r'; cases z
    | _ => cases he
  | .str i, e, x, hd, he, r, r' => by
    have e1 := rep_str r
    subst e1
    cases e with
    | int j => have := rep_int r'; cases this
    | str j => have := rep_str r'; cases this; rfl
    | tup ys => obtain ⟨_, _, z, _⟩ := rep_tupH r'; cases z
    | _ => cases he
  | .tup xs, e, x, hd, he, r, r' => by
    obtain ⟨a, us, z, h1, _, h3⟩ := rep_tupH r
    subst z
    cases e with
    | int j => have := rep_int r'; cases this
    | str j => have := rep_str r'; cases this
    | tup ys =>
      obtain ⟨b, ws, z, k1, _, k3⟩ := rep_tupH r'
      cases z
      rw [h1] at k1; cases k1
      rw [reps_inj xs ys us (by simpa only [plainD] using hd) (by simpa only [plainD] using he) h3 k3]
    | _ => cases he
  | .non, _, _, hd, _, _, _ => by cases hd
  | .bl _, _, _, hd, _, _, _ => by cases hd
  | .ty _, _, _, hd, _, _, _ => by cases hd
  | .loc _, _, _, hd, _, _, _ => by cases hd
  | .lst _, _, _, hd, _, _, _ => by cases hd
  | .ktup _, _, _, hd, _, _, _ => by cases hd
  | .klst _, _, _, hd, _, _, _ => by cases hd
  | .dic _ _, _, _, hd, _, _, _ => by cases hd
  | .dicT _ _, _, _, hd, _, _, _ => by cases hd
  | .obj _ _ _, _, _, hd, _, _, _ => by cases hd
  | .fn _ _, _, _, hd, _, _, _ => by cases hd
theorem reps_inj {W : Wd} {A : Addr → Prop} {μ : List Addr} {H : Hp} : ∀ (ds es : List D) (xs : List V), plainDs ds = true → plainDs es = true → Reps W A μ H ds xs → Reps W A μ H es xs → ds = es
  | [], es, xs, hd, he, r, r' => by
    simp only [Reps] at r
    subst r
    cases es with
    | nil => rfl
    | cons e es => simp [Reps] at r'
  | d :: ds, es, xs, hd, he, r, r' => by
    simp only [Reps] at r
    obtain ⟨v, vs, z, r1, r2⟩ := r
    subst z
    cases es with
    | nil => simp [Reps] at r'
    | cons e es =>
      simp only [Reps] at r'
      obtain ⟨v', vs', z, r1', r2'⟩ := r'
      cases z
      simp only [plainDs, Bool.and_eq_true] at hd he
      rw [rep_inj d e v hd.1 he.1 r1 r1', reps_inj ds es vs hd.2 he.2 r2 r2']
end
section
variable {W : Wd} {Wx : WX} {X : Cx} {A A' A0 : Addr → Prop} {μ μ' : List Addr} {O : Nat → Option Addr} {H : Hp} {σ : St} {S : Stt} {s : Shared} {pins : List (Addr × Obj)}
def PU (W : Wd) (A : Addr → Prop) (μ : List Addr) (H : Hp) (d : D) (u : Value) : Prop := ∃ x, RelV x u ∧ Rep W A μ H d x
theorem pu_inj {d e : D} {u : Value} (hd : plainD d = true) (he : plainD e = true) (h : PU W A μ H d u) (h' : PU W A μ H e u) : d = e := by
  obtain ⟨x, r, q⟩ := h
  obtain ⟨y, r', q'⟩ := h'
  have shape : ∀ {d : D} {x : V}, plainD d = true → Rep W A μ H d x → RelV x u → (∃ i t, x = .int i ∧ u = .int i t) ∨ (∃ i t, x = .str i ∧ u = .str i t) ∨ ∃ a, x = .ref a ∧ u = .ref a := fun {d x} hd q r => by
    cases d with
    | int i => have e := rep_int q; subst e; obtain ⟨t, z⟩ := (show ∃ t, u = Value.int i t from r); exact .inl ⟨i, t, rfl, z⟩
    | str i => have e := rep_str q; subst e; obtain ⟨t, z⟩ := (show ∃ t, u = Value.str i t from r); exact .inr (.inl ⟨i, t, rfl, z⟩)
    | tup xs => obtain ⟨a, _, e, _⟩ := rep_tupH q; subst e; exact .inr (.inr ⟨a, rfl, r⟩)
    | _ => cases hd
  have e : x = y := by
    rcases shape hd q r with ⟨i, t, e1, e2⟩ | ⟨i, t, e1, e2⟩ | ⟨a, e1, e2⟩ <;> rcases shape he q' r' with ⟨j, t', f1, f2⟩ | ⟨j, t', f1, f2⟩ | ⟨b, f1, f2⟩ <;> (rw [e2] at f2; cases f2) <;> rw [e1, f1]
  subst e
  exact rep_inj d e x hd he q q'
open Classical in
noncomputable def dOf (W : Wd) (A : Addr → Prop) (μ : List Addr) (H : Hp) (u : Value) : D := if h : ∃ d, plainD d = true ∧ PU W A μ H d u then h.choose else .non
theorem dOf_eq {d : D} {u : Value} (hd : plainD d = true) (h : PU W A μ H d u) : dOf W A μ H u = d := by
  have ex : ∃ d, plainD d = true ∧ PU W A μ H d u := ⟨d, hd, h⟩
  unfold dOf
  rw [dif_pos ex]
  exact pu_inj ex.choose_spec.1 hd ex.choose_spec.2 h
/-- the kind of an item to be sorted -/
def kindD : D → Nat
  | .int _ => 1
  | .str _ => 2
  | .tup (.int _ :: _) => 3
  | .tup (.str _ :: _) => 4
  | _ => 0
def sortOk (ds : List D) : Bool := plainDs ds && (ds.all fun d => kindD d != 0 && ds.all fun e => kindD d == kindD e && ltF depthLine d e == some (ltT depthLine d e))
structure SortOk (ds : List D) : Prop where
  plain : ∀ d ∈ ds, plainD d = true
  nz : ∀ d ∈ ds, kindD d ≠ 0
  kind : ∀ d ∈ ds, ∀ e ∈ ds, kindD d = kindD e
  lt : ∀ d ∈ ds, ∀ e ∈ ds, ltF depthLine d e = some (ltT depthLine d e)
theorem plainDs_all : ∀ {ds : List D}, plainDs ds = true → ∀ d ∈ ds, plainD d = true
  | [], _, d, h => by cases h
  | c :: ds, hp, d, h => by
    simp only [plainDs, Bool.and_eq_true] at hp
    rcases List.mem_cons.mp h with e | h
    · rw [e]; exact hp.1
    · exact plainDs_all hp.2 d h
theorem sortOk_of {ds : List D} (h : sortOk ds = true) : SortOk ds := by
  unfold sortOk at h
  rw [Bool.and_eq_true, List.all_eq_true] at h
  obtain ⟨h1, h2⟩ := h
  refine ⟨plainDs_all h1, fun d hd => ?_, fun d hd e he => ?_, fun d hd e he => ?_⟩
  · have := h2 d hd
    rw [Bool.and_eq_true] at this
    simpa using this.1
  · have := h2 d hd
    rw [Bool.and_eq_true, List.all_eq_true] at this
    have := this.2 e he
    rw [Bool.and_eq_true, beq_iff_eq] at this
    exact this.1
  · have := h2 d hd
    rw [Bool.and_eq_true, List.all_eq_true] at this
    have := this.2 e he
    rw [Bool.and_eq_true, beq_iff_eq] at this
    exact beq_iff_eq.mp this.2
/-- the items, their data -/
theorem pu_paired : ∀ {ds : List D} {xs : List V} {us : List Value}, Reps W A μ H ds xs → Vals xs us → Paired (fun d u => PU W A μ H d u) ds us
  | [], xs, us, r, v => by simp only [Reps] at r; subst r; cases v; exact .nil
  | d :: ds, xs, us, r, v => by
    simp only [Reps] at r
    obtain ⟨x, ys, e, r1, r2⟩ := r
    subst e
    cases v with
    | cons v1 v2 => exact .cons ⟨_, v1, r1⟩ (pu_paired r2 v2)
theorem pu_vals : ∀ {ds : List D} {us : List Value}, Paired (fun d u => PU W A μ H d u) ds us → ∃ xs, Vals xs us ∧ Reps W A μ H ds xs
  | _, _, .nil => ⟨[], .nil, reps_nil⟩
  | _, _, .cons ⟨x, h1, h2⟩ r => by
    obtain ⟨xs, h3, h4⟩ := pu_vals r
    exact ⟨x :: xs, .cons h1 h3, reps_cons h2 h4⟩
theorem paired_mem {α β : Type} {R : α → β → Prop} : ∀ {l : List α} {m : List β} {y : β}, Paired R l m → y ∈ m → ∃ x ∈ l, R x y
  | _, _, y, .nil, h => by cases h
  | _, _, y, .cons r t, h => by
    rcases List.mem_cons.mp h with e | h
    · exact ⟨_, List.mem_cons_self, by rw [e]; exact r⟩
    · obtain ⟨x, h1, h2⟩ := paired_mem t h
      exact ⟨x, List.mem_cons_of_mem _ h1, h2⟩
theorem pu_kept {H' : Hp} {d : D} {u : Value} (h : PU W A μ H d u) (l : Le A A μ μ H H') : PU W A μ H' d u := let ⟨x, h1, h2⟩ := h; ⟨x, h1, Rep.le l _ _ h2⟩
theorem kat_D {prog : Program} {w : World} {Ar : Around} {fin : Bool} {Q : Bool → Shared → Prop} (I : Inv X pins σ H s) (hK : X.K = W.K) {n : Nat} (hu : Ar.units + n < cLine) :
    ∀ (ds es : List D) (xs ys : List V) (us ws : List Value) (i : Nat) (r : Bool), lexF (eqF n) (ltF n) ds es = some r → Reps W A μ H ds xs → Reps W A μ H es ys → Vals xs us → Vals ys ws →
      (i = 0 → ∀ d e : D, ds.head? = some d → es.head? = some e → (∃ a b, d = .int a ∧ e = .int b) ∨ ∃ a b, d = .str a ∧ e = .str b) → fin = decide (ds.length < es.length) → Q r s →
      PySem.W.KatLex prog w Ar true fin Q (us.zip ws) i s
  | [], es, xs, ys, us, ws, i, r, h, r1, r2, v1, v2, h0, hf, q => by
    simp only [Reps] at r1
    subst r1
    cases v1
    refine PySem.W.kat_nil ?_
    cases es with
    | nil => simp [lexF] at h; subst h; rw [hf]; exact q
    | cons e es => simp [lexF] at h; subst h; rw [hf]; simpa using q
  | d :: ds, [], xs, ys, us, ws, i, r, h, r1, r2, v1, v2, h0, hf, q => by
    simp only [Reps] at r2
    subst r2
    cases v2
    rw [List.zip_nil_right]
    refine PySem.W.kat_nil ?_
    simp [lexF] at h; subst h; rw [hf]; simpa using q
  | d :: ds, e :: es, xs, ys, us, ws, i, r, h, r1, r2, v1, v2, h0, hf, q => by
    simp only [Reps] at r1 r2
    obtain ⟨x, xs', z, a1, a2⟩ := r1
    subst z
    obtain ⟨y, ys', z, b1, b2⟩ := r2
    subst z
    cases v1 with
    | cons p1 p2 =>
      cases v2 with
      | cons q1 q2 =>
        simp only [lexF] at h
        obtain ⟨c, hc, h⟩ := Option.bind_eq_some_iff.mp h
        obtain ⟨r0, hr0, h⟩ := Option.bind_eq_some_iff.mp h
        obtain ⟨t, ht, h⟩ := Option.map_eq_some_iff.mp h
        rw [List.zip_cons_cons]
        refine PySem.W.kat_cons (eqAt_D I hK n Ar hu d e c x y _ _ hc a1 b1 p1 q1 prog w _ _ ?_)
        refine PySem.W.kat_go (fun e1 => ?_) (fun e1 => ?_)
        · rw [e1] at h
          simp only [if_true] at h
          subst h
          exact PySem.W.kat_yes (kat_D I hK hu ds es xs' ys' _ _ (i + 1) t ht a2 b2 p2 q2 (fun z => by omega) (by simpa using hf) q)
        · rw [e1] at h hr0
          simp only [Bool.false_eq_true, if_false] at h hr0
          subst h
          refine PySem.W.kat_no ?_
          by_cases hi : i = 0
          · subst hi
            show wpAny (model prog w) Ar (PyProof.Rows.oneLt' true _ _) Q _ s
            rcases h0 rfl d e rfl rfl with ⟨a, b, rfl, rfl⟩ | ⟨a, b, rfl, rfl⟩
            · have e2 := rep_int a1
              have e3 := rep_int b1
              subst e2; subst e3
              obtain ⟨t1, rfl⟩ := p1
              obtain ⟨t2, rfl⟩ := q1
              have e4 : r0 = decide (a < b) := by
                cases n <;> simp only [ltF, Option.some.injEq] at hr0 <;> exact hr0.symm
              exact PyProof.Rows.oneLt_int (by rw [← e4]; exact q)
            · have e2 := rep_str a1
              have e3 := rep_str b1
              subst e2; subst e3
              obtain ⟨t1, rfl⟩ := p1
              obtain ⟨t2, rfl⟩ := q1
              have e4 : r0 = ltS a b := by
                cases n <;> simp only [ltF, Option.some.injEq] at hr0 <;> exact hr0.symm
              exact PyProof.Rows.oneLt_str (by rw [e4] at q; exact q)
          · have e5 : (true && i == 0) = false := by simp [hi]
            rw [e5]
            exact PySem.W.kat_one _ _ (ltAt_D I hK n Ar hu d e r0 x y _ _ hr0 a1 b1 p1 q1 prog w _ _ q)
/-- their kind is found, any two of them are compared -/
theorem sortable_D {n : Nat} {A1 : Around} {ds : List D} {xs : List V} {its : List Value} {a : Addr} (I : Inv X pins σ H s) (hK : X.K = W.K) (hu : A1.units + depthLine < cLine) (k : SortOk ds) (r : Reps W A μ H ds xs) (v : Vals xs its) (h2 : 2 ≤ its.length)
    (h₁ : Heap) (keep₁ : ∀ b o, s.heap.get? b = some o → b ≠ a ∧ h₁.get? b = some o) : SrtO.SortableO X.prog X.w A1 { s with heap := h₁ } a its (fun v u => ltT depthLine (dOf W A μ H v) (dOf W A μ H u)) := by
  intro h' keep
  have I' : Inv X pins σ H { s with heap := h' } := I.kept (t' := s.toks) fun b o e => keep b o (keep₁ b o e).1 (keep₁ b o e).2
  have pr := pu_paired r v
  have dat : ∀ u ∈ its, ∃ d ∈ ds, PU W A μ H d u := fun u hu => paired_mem pr hu
  -- one kind
  obtain ⟨c, hc⟩ : ∃ c, ∀ d ∈ ds, kindD d = c := by
    cases ds with
    | nil => exact ⟨0, fun d h => by cases h⟩
    | cons d0 ds => exact ⟨kindD d0, fun d hd => k.kind d hd d0 List.mem_cons_self⟩
  have ne : ∃ d, d ∈ ds := by
    cases ds with
    | nil => cases pr; simp at h2
    | cons d0 ds => exact ⟨d0, List.mem_cons_self⟩
  obtain ⟨d0, hd0⟩ := ne
  have c0 : c ≠ 0 := by rw [← hc d0 hd0]; exact k.nz d0 hd0
  have two : ∃ v1 v2 vs, its = v1 :: v2 :: vs := by
    match its, h2 with
    | v1 :: v2 :: vs, _ => exact ⟨v1, v2, vs, rfl⟩
  have cmp : ∀ {κ : PyProof.Rows.SortKind}, (∀ u v : Value, ∀ d e : D, d ∈ ds → e ∈ ds → PU W A μ H d u → PU W A μ H e v → ∀ Q : Bool → Shared → Prop, Q (ltT depthLine d e) { s with heap := h' } → wpAny (model X.prog X.w) A1 (PyProof.Rows.keyLt' κ u v) Q (fun _ _ => False) { s with heap := h' }) →
      SrtO.Cmp X.prog X.w A1 { s with heap := h' } κ (fun p => p.1 ∈ its) (SrtO.lt2 fun v u => ltT depthLine (dOf W A μ H v) (dOf W A μ H u)) := fun {κ} f p q hp hq => by
    obtain ⟨d, hd, pd⟩ := dat _ hp
    obtain ⟨e, he, pe⟩ := dat _ hq
    refine f _ _ d e hd he pd pe _ ⟨rfl, ?_⟩
    show ltT depthLine d e = ltT depthLine (dOf W A μ H p.1) (dOf W A μ H q.1)
    rw [dOf_eq (k.plain d hd) pd, dOf_eq (k.plain e he) pe]
  have kinds : ∀ d ∈ ds, (∃ i, d = .int i ∧ c = 1) ∨ (∃ z, d = .str z ∧ c = 2) ∨ (∃ i l, d = .tup (.int i :: l) ∧ c = 3) ∨ ∃ z l, d = .tup (.str z :: l) ∧ c = 4 := fun d hd => by
    have e := hc d hd
    unfold kindD at e
    split at e
    · exact .inl ⟨_, rfl, e.symm⟩
    · exact .inr (.inl ⟨_, rfl, e.symm⟩)
    · exact .inr (.inr (.inl ⟨_, _, rfl, e.symm⟩))
    · exact .inr (.inr (.inr ⟨_, _, rfl, e.symm⟩))
    · exact absurd e.symm c0
  have u1 : A1.units + 11 < cLine := by unfold depthLine at hu; omega
  have tups : c = 3 ∨ c = 4 → SrtO.Cmp X.prog X.w A1 { s with heap := h' } (PyProof.Rows.tuples' true) (fun p => p.1 ∈ its) (SrtO.lt2 fun v u => ltT depthLine (dOf W A μ H v) (dOf W A μ H u)) := fun hc34 => by
    refine cmp fun u v d e hd he pd pe Q q => ?_
    have hl := k.lt d hd e he
    have sh : ∀ d ∈ ds, ∃ l, d = .tup l ∧ ((c = 3 ∧ ∃ i m, l = .int i :: m) ∨ (c = 4 ∧ ∃ z m, l = .str z :: m)) := fun d hd => by
      rcases kinds d hd with ⟨i, e1, e2⟩ | ⟨i, e1, e2⟩ | ⟨i, l, e1, e2⟩ | ⟨i, l, e1, e2⟩
      · rcases hc34 with z | z <;> rw [e2] at z <;> cases z
      · rcases hc34 with z | z <;> rw [e2] at z <;> cases z
      · exact ⟨_, e1, .inl ⟨e2, i, l, rfl⟩⟩
      · exact ⟨_, e1, .inr ⟨e2, i, l, rfl⟩⟩
    obtain ⟨l, el, sl⟩ := sh d hd
    obtain ⟨m, em, sm⟩ := sh e he
    subst el; subst em
    obtain ⟨x, rx, qx⟩ := pd
    obtain ⟨y, ry, qy⟩ := pe
    obtain ⟨a1, us, e1, g1, _, g3⟩ := rep_tupH qx
    obtain ⟨a2, ws, e2, f1, _, f3⟩ := rep_tupH qy
    subst e1; subst e2
    obtain rfl : u = Value.ref a1 := rx
    obtain rfl : v = Value.ref a2 := ry
    obtain ⟨i1, v1, ⟨o1, p1, _, n1, t1⟩, _⟩ := I'.tuple (.inl (.inl g1) : SqT X.K H a1 us)
    obtain ⟨i2, v2, ⟨o2, p2, _, n2, t2⟩, _⟩ := I'.tuple (.inl (.inl f1) : SqT X.K H a2 ws)
    have hl : lexF (eqF 11) (ltF 11) l m = some (ltT depthLine (.tup l) (.tup m)) := hl
    refine PySem.W.kat_lt p1 t1 p2 t2 ?_
    have z1 := reps_length g3
    have z2 := reps_length f3
    have z3 := v1.length
    have z4 := v2.length
    refine kat_D (fin := decide (i1.toArray.size < i2.toArray.size)) I' hK u1 l m us ws i1 i2 0 _ hl g3 f3 v1 v2 (fun _ d e hd he => ?_) ?_ q
    · rcases sl with ⟨c3, i, l', rfl⟩ | ⟨c4, i, l', rfl⟩ <;> rcases sm with ⟨c3', j, m', rfl⟩ | ⟨c4', j, m', rfl⟩
      · cases hd; cases he; exact .inl ⟨_, _, rfl, rfl⟩
      · rw [c3] at c4'; cases c4'
      · rw [c4] at c3'; cases c3'
      · cases hd; cases he; exact .inr ⟨_, _, rfl, rfl⟩
    · simp only [List.size_toArray]
      rw [← z3, ← z4, z1, z2]
  have tkind : (c = 3 ∨ c = 4) → ∀ (Q : PyProof.Rows.SortKind → Shared → Prop) (E : Value → Shared → Prop), Q (PyProof.Rows.tuples' true) { s with heap := h' } → wpAny (model X.prog X.w) A1 (PyProof.Rows.keyKind' its.toArray) Q E { s with heap := h' } := fun hc34 Q E q => by
    have firsts : ∀ (ds : List D) (us : List Value), Paired (fun d u => PU W A μ H d u) ds us → (∀ d ∈ ds, (∃ i l, d = .tup (.int i :: l) ∧ c = 3) ∨ ∃ z l, d = .tup (.str z :: l) ∧ c = 4) →
        ∃ fs : List Value, PySem.W.KatTups h' us fs ∧ fs.length = us.length ∧ ∀ f ∈ fs, (c = 3 ∧ ∃ i t, f = .int i t) ∨ (c = 4 ∧ ∃ z t, f = .str z t) := fun ds us p => by
      induction p with
      | nil => exact fun _ => ⟨[], trivial, rfl, fun f h => by cases h⟩
      | @cons d u ds us pd pt ih =>
        intro hs
        obtain ⟨fs, h1, h2, h3⟩ := ih fun d hd => hs d (List.mem_cons_of_mem _ hd)
        obtain ⟨x, rx, qx⟩ := pd
        have one : ∀ {g : D} {l : List D}, d = .tup (g :: l) → ∃ f, (∃ y, RelV y f ∧ Rep W A μ H g y) ∧ PySem.W.KatTups h' (u :: us) (f :: fs) := fun {g l} e => by
          subst e
          obtain ⟨a1, ws, e1, g1, _, g3⟩ := rep_tupH qx
          subst e1
          obtain rfl : u = Value.ref a1 := rx
          obtain ⟨i1, v1, ⟨o1, p1, c1, n1, t1⟩, _⟩ := I'.tuple (.inl (.inl g1) : SqT X.K H a1 ws)
          simp only [Reps] at g3
          obtain ⟨y, ys, ey, ry, _⟩ := g3
          subst ey
          cases v1 with
          | cons w1 w2 => exact ⟨_, ⟨y, w1, ry⟩, PySem.W.KatTups.cons p1 c1 t1 (by simp) h1⟩
        rcases hs d List.mem_cons_self with ⟨i, l, e1, e2⟩ | ⟨z, l, e1, e2⟩
        · obtain ⟨f, ⟨y, ry, qy⟩, kt⟩ := one e1
          refine ⟨f :: fs, kt, by simp [h2], fun f' hf => ?_⟩
          rcases List.mem_cons.mp hf with e3 | hf
          · have e4 := rep_int qy
            subst e4
            obtain ⟨t, e5⟩ := (show ∃ t, f = Value.int i t from ry)
            exact .inl ⟨e2, i, t, by rw [e3, e5]⟩
          · exact h3 f' hf
        · obtain ⟨f, ⟨y, ry, qy⟩, kt⟩ := one e1
          refine ⟨f :: fs, kt, by simp [h2], fun f' hf => ?_⟩
          rcases List.mem_cons.mp hf with e3 | hf
          · have e4 := rep_str qy
            subst e4
            obtain ⟨t, e5⟩ := (show ∃ t, f = Value.str z t from ry)
            exact .inr ⟨e2, z, t, by rw [e3, e5]⟩
          · exact h3 f' hf
    obtain ⟨fs, h1, h2', h3⟩ := firsts ds its pr fun d hd => by
      rcases kinds d hd with ⟨i, e1, e2⟩ | ⟨i, e1, e2⟩ | ⟨i, l, e1, e2⟩ | ⟨i, l, e1, e2⟩
      · rcases hc34 with z | z <;> rw [e2] at z <;> cases z
      · rcases hc34 with z | z <;> rw [e2] at z <;> cases z
      · exact .inl ⟨i, l, e1, e2⟩
      · exact .inr ⟨i, l, e1, e2⟩
    rcases hc34 with c3 | c4
    · refine PySem.W.kat_kind (T := .type "int") h1 (by omega) (fun f hm => ?_) (by rfl) ?_
      · rcases h3 f hm with ⟨_, x, t, rfl⟩ | ⟨z, _⟩
        · exact PySem.W.Looks.now
        · rw [c3] at z; cases z
      · have e : (Value.type "int" != Value.type "tuple") = true := by first | decide +kernel | rfl | decide
        rw [e]
        exact q
    · refine PySem.W.kat_kind (T := .type "str") h1 (by omega) (fun f hm => ?_) (by rfl) ?_
      · rcases h3 f hm with ⟨z, _⟩ | ⟨_, x, t, rfl⟩
        · rw [c4] at z; cases z
        · exact PySem.W.Looks.now
      · have e : (Value.type "str" != Value.type "tuple") = true := by first | decide +kernel | rfl | decide
        rw [e]
        exact q
  rcases kinds d0 hd0 with ⟨_, _, c1⟩ | ⟨_, _, c2⟩ | ⟨_, _, _, c3⟩ | ⟨_, _, _, c4⟩
  · -- ints
    have all : ∀ d ∈ ds, ∃ i, d = .int i := fun d hd => by
      rcases kinds d hd with ⟨i, e1, e2⟩ | ⟨i, e1, e2⟩ | ⟨i, l, e1, e2⟩ | ⟨i, l, e1, e2⟩
      · exact ⟨i, e1⟩
      · rw [c1] at e2; cases e2
      · rw [c1] at e2; cases e2
      · rw [c1] at e2; cases e2
    refine ⟨PyProof.Rows.oneType', fun Q E q => ?_, cmp fun u v d e hd he pd pe Q q => ?_⟩
    · have ia := PyProof.Rows.intsAre_map its fun u hu => by
        obtain ⟨d, hd, x, rx, qx⟩ := dat u hu
        obtain ⟨i, rfl⟩ := all d hd
        have e := rep_int qx
        subst e
        obtain ⟨t, e⟩ := (show ∃ t, u = Value.int i t from rx)
        exact ⟨i, t, e⟩
      obtain ⟨w1, w2, vs, ez⟩ := two
      subst ez
      rw [PyProof.Rows.keyKind_ints ia]
      exact wpAny_pure q
    · obtain ⟨i, rfl⟩ := all d hd
      obtain ⟨j, rfl⟩ := all e he
      obtain ⟨x, rx, qx⟩ := pd
      obtain ⟨y, ry, qy⟩ := pe
      have e1 := rep_int qx
      have e2 := rep_int qy
      subst e1; subst e2
      obtain ⟨t, rfl⟩ := rx
      obtain ⟨t', rfl⟩ := ry
      rw [PyProof.Rows.keyLt'_oneType]
      have e3 := k.lt _ hd _ he
      have e4 : ltT depthLine (.int i) (.int j) = decide (i < j) := by
        have z : ltF depthLine (.int i) (.int j) = some (decide (i < j)) := rfl
        rw [z] at e3
        exact (Option.some.inj e3).symm
      exact PyProof.Rows.oneLt_int (by rw [← e4]; exact q)
  · have all : ∀ d ∈ ds, ∃ i, d = .str i := fun d hd => by
      rcases kinds d hd with ⟨i, e1, e2⟩ | ⟨i, e1, e2⟩ | ⟨i, l, e1, e2⟩ | ⟨i, l, e1, e2⟩
      · rw [c2] at e2; cases e2
      · exact ⟨i, e1⟩
      · rw [c2] at e2; cases e2
      · rw [c2] at e2; cases e2
    refine ⟨PyProof.Rows.oneType', fun Q E q => ?_, cmp fun u v d e hd he pd pe Q q => ?_⟩
    · have sa : ∀ (ds : List D) (us : List Value), Paired (fun d u => PU W A μ H d u) ds us → (∀ d ∈ ds, ∃ i, d = .str i) → ∃ ss, PyProof.Rows.StrsAre us ss := fun ds us p => by
        induction p with
        | nil => exact fun _ => ⟨[], .nil⟩
        | @cons d u ds us pd pt ih =>
          intro hs
          obtain ⟨ss, h1⟩ := ih fun d hd => hs d (List.mem_cons_of_mem _ hd)
          obtain ⟨i, rfl⟩ := hs d List.mem_cons_self
          obtain ⟨x, rx, qx⟩ := pd
          have e1 := rep_str qx
          subst e1
          obtain ⟨t, rfl⟩ := rx
          exact ⟨i :: ss, .cons i t h1⟩
      obtain ⟨ss, hS⟩ := sa ds its pr all
      obtain ⟨w1, w2, vs, ez⟩ := two
      subst ez
      rw [PyProof.Rows.keyKind_strs hS]
      exact wpAny_pure q
    · obtain ⟨i, rfl⟩ := all d hd
      obtain ⟨j, rfl⟩ := all e he
      obtain ⟨x, rx, qx⟩ := pd
      obtain ⟨y, ry, qy⟩ := pe
      have e1 := rep_str qx
      have e2 := rep_str qy
      subst e1; subst e2
      obtain ⟨t, rfl⟩ := rx
      obtain ⟨t', rfl⟩ := ry
      rw [PyProof.Rows.keyLt'_oneType]
      have e3 := k.lt _ hd _ he
      have e4 : ltT depthLine (.str i) (.str j) = ltS i j := by
        have z : ltF depthLine (.str i) (.str j) = some (ltS i j) := rfl
        rw [z] at e3
        exact (Option.some.inj e3).symm
      exact PyProof.Rows.oneLt_str (by rw [e4] at q; exact q)
  · exact ⟨_, tkind (.inl c3), tups (.inl c3)⟩
  · exact ⟨_, tkind (.inr c4), tups (.inr c4)⟩
def sortM : D → M D
  | .lst ds => if sortOk ds = true then M.ret (.lst (sortD (ltT depthLine) ds)) else M.fail
  | _ => M.fail
theorem bt_sorted {k : Nat} (C : CtxOk X W Wx k) : CallR X (.builtin "sorted") (r1F W Wx sortM) := by
  rintro pins s σ H xs us Q I rv ⟨v, σ', A0, μ, O, S, d, ex, rs, r, p⟩
  subst ex
  obtain ⟨u, rfl, ru⟩ := vals1 rv
  cases d with
  | lst ds =>
    have p : PostF W Wx A0 μ O H σ' ((if sortOk ds = true then M.ret (D.lst (sortD (ltT depthLine) ds)) else M.fail) S) Q := p
    by_cases hk : sortOk ds = true
    · rw [if_pos hk] at p
      have k := sortOk_of hk
      obtain ⟨a, xs, e, h1, h2, h3⟩ := rdb_list r
      subst e
      obtain rfl : u = Value.ref a := ru
      obtain ⟨its, vv, hl, hz⟩ := I.list (.inl h1 : SqL X.K H a xs)
      have O' := Swo.key (swo_ltT depthLine) (dOf W (Av A0 μ O) μ H)
      have hn := vv.length
      refine SrtO.sorted_ord O' hl.isList (by rw [← hn]; exact hz) (fun hz2 h₁ b hb kk => ?_) fun out hs hb => ?_
      · exact sortable_D (n := 0) I C.K (by have := room12 C.room; show X.A.units + 1 + 1 + depthLine < cLine; omega) k h3 vv hz2 h₁ kk
      · have pr := pu_paired h3 vv
        have eds : its.map (dOf W (Av A0 μ O) μ H) = ds := by
          have aux : ∀ (ds : List D) (us : List Value), Paired (fun d u => PU W (Av A0 μ O) μ H d u) ds us → (∀ d ∈ ds, plainD d = true) → us.map (dOf W (Av A0 μ O) μ H) = ds := fun ds us p => by
            induction p with
            | nil => exact fun _ => rfl
            | @cons d u ds us pd pt ih =>
              intro hp
              rw [List.map_cons, dOf_eq (hp d List.mem_cons_self) pd, ih fun d hd => hp d (List.mem_cons_of_mem _ hd)]
          exact aux ds its pr k.plain
        have es : out.map (dOf W (Av A0 μ O) μ H) = sortD (ltT depthLine) ds := by
          refine sortD_uniq (swo_ltT depthLine) (SrtO.srtd_map hs) ?_
          rw [← eds]
          exact SrtO.Stb.map (swo_ltT depthLine) _ hb
        have po : Paired (fun d u => PU W (Av A0 μ O) μ H d u) (out.map (dOf W (Av A0 μ O) μ H)) out := by
          have aux : ∀ out : List Value, (∀ u ∈ out, u ∈ its) → Paired (fun d u => PU W (Av A0 μ O) μ H d u) (out.map (dOf W (Av A0 μ O) μ H)) out := fun out => by
            induction out with
            | nil => exact fun _ => .nil
            | cons u out ih =>
              intro hm
              obtain ⟨d, hd, pd⟩ := paired_mem pr (hm u List.mem_cons_self)
              exact .cons (by rw [dOf_eq (k.plain d hd) pd]; exact pd) (ih fun u hu => hm u (List.mem_cons_of_mem _ hu))
          exact aux out fun u hu => hb.perm.mem_iff.mp hu
        rw [es] at po
        obtain ⟨ys, yv, yr⟩ := pu_vals po
        obtain ⟨n, hn'⟩ := PyProof.Rows.sortedAll_at s.heap its out.toArray
        have hd : s.heap.objs.size ≤ s.heap.objs.size + 1 := Nat.le_succ _
        have hlen : ys.length ≤ sizeLine := by
          rw [yv.length, hb.len, ← hn]; exact hz
        refine ⟨.ref (s.heap.objs.size + 1), upd H (s.heap.objs.size + 1) (.lst ys), I.laid (t' := s.toks) (fun b o e => PyProof.Rows.sortedAll_old e) hd ⟨hlen, out, n, yv, by simpa using hn'⟩, rfl, ?_⟩
        exact lay_lst rs yr (by rw [← reps_length yr]; exact hlen) (I.hok.fresh hd) p
    · rw [if_neg hk] at p; exact p.elim
  | _ => exact p.elim
end
end DL
end
section
set_option Elab.async false
set_option linter.all false
set_option maxRecDepth 100000
namespace DL
open PySem PySem.Spec L2
/-! ### list(..) of a dict, too -/
def keyD : Key → D
  | .inl i => .int i
  | .inr x => .str x
def list2M : D → M D
  | .lst ds => M.ret (.lst ds)
  | .tup ds => M.ret (.lst ds)
  | .ktup ds => M.ret (.lst ds)
  | .dic ks _ => if ks.length ≤ 16777216 then M.ret (.lst (ks.map keyD)) else M.fail
  | .dicT ks _ => if ks.length ≤ 16777216 ∧ (ks.all fun k => decide (k.length ≤ 16777216)) = true then M.ret (.lst (ks.map fun k => .tup (k.map keyD))) else M.fail
  | _ => M.fail
section
variable {W : Wd} {Wx : WX} {X : Cx} {A A' A0 : Addr → Prop} {μ μ' : List Addr} {O : Nat → Option Addr} {H H' : Hp} {σ : St} {S : Stt}
theorem keyD_rep (k : Key) : Rep W A μ H (keyD k) (kV k) := by
  cases k with
  | inl i => simp only [keyD, Rep]; rfl
  | inr x => simp only [keyD, Rep]; rfl
theorem keysD_rep : ∀ ks : List Key, Reps W A μ H (ks.map keyD) (ks.map kV)
  | [] => reps_nil
  | k :: ks => reps_cons (keyD_rep k) (keysD_rep ks)
/-- a tuple is not kept off -/
theorem RepS.noTup (rs : RepS W A0 μ O H σ S) {a : Addr} {xs : List V} (e : H a = some (.tup xs)) : ¬ Av A0 μ O a := fun z => by
  rcases z with z | z | ⟨i, z⟩
  · exact (rs.atr a z).tup e
  · obtain ⟨l, hl⟩ := List.mem_iff_getElem?.mp z
    have hll : l < μ.length := (List.getElem?_eq_some_iff.mp hl).1
    rw [← rs.obl] at hll
    exact Mt.tup (rs.obs l _ a (List.getElem?_eq_getElem hll) hl).mt e
  · exact (rs.otr i a z).2.2.tup e
theorem isKeys_rep (rs : RepS W A0 μ O H σ S) : ∀ {kvs : List (List Key × V)} {bs : List Addr}, IsKeys H kvs bs → (∀ p ∈ kvs, p.1.length ≤ sizeLine) → Reps W (Av A0 μ O) μ H (kvs.map fun p => D.tup (p.1.map keyD)) (bs.map V.ref)
  | _, _, .nil, _ => reps_nil
  | _, _, .cons e r, h => reps_cons (by
      simp only [Rep]
      exact ⟨_, _, rfl, ⟨rs.noTup e, e⟩, by rw [List.length_map]; exact h _ List.mem_cons_self, keysD_rep _⟩) (isKeys_rep rs r fun p hp => h p (List.mem_cons_of_mem _ hp))
theorem bt_list2 (hK : X.K = W.K) (hc : X.calm = true) : CallR X (.type "list") (r1F W Wx list2M) := CallR.imp (CallR.or call_list_of (CallR.or (call_listD hc) (call_list_dT hc))) fun xs H Q ⟨v, σ, A0, μ, O, S, d, e, rs, r, p⟩ => by
  subst e
  cases d with
  | lst ds =>
    obtain ⟨a, xs, e, h1, h2, h3⟩ := rdb_list r
    subst e
    exact .inl ⟨a, xs, rfl, .inl (.inl h1), fun l hl => lay_lst rs h3 h2 hl p⟩
  | tup ds =>
    obtain ⟨a, xs, e, h1, h2, h3⟩ := rdb_tup r
    subst e
    exact .inl ⟨a, xs, rfl, .inr (by rw [hK]; exact h1), fun l hl => lay_lst rs h3 h2 hl p⟩
  | ktup ds =>
    obtain ⟨a, xs, e, h1, h2, h3⟩ := rdb_ktup r
    subst e
    exact .inl ⟨a, xs, rfl, .inr (by rw [hK]; exact h1), fun l hl => lay_lst rs h3 h2 hl p⟩
  | dic ks vs =>
    have p : PostF W Wx A0 μ O H σ ((if ks.length ≤ 16777216 then M.ret (D.lst (ks.map keyD)) else M.fail) S) Q := p
    split at p
    · rename_i hz
      obtain ⟨a, kvs, e, h1, h2, h3⟩ := rdb_dic r
      subst e; subst h2
      refine .inr (.inl ⟨a, kvs, rfl, .inl h1, fun l hl => ?_⟩)
      have e : (kvs.map fun kv => kV kv.1) = (kvs.map (·.1)).map kV := by rw [List.map_map]; rfl
      rw [e]
      exact lay_lst rs (keysD_rep _) (by rw [sizeLine_eq, List.length_map]; exact hz) hl p
    · exact p.elim
  | dicT ks vs =>
    have p : PostF W Wx A0 μ O H σ ((if ks.length ≤ 16777216 ∧ (ks.all fun k => decide (k.length ≤ 16777216)) = true then M.ret (D.lst (ks.map fun k => .tup (k.map keyD))) else M.fail) S) Q := p
    split at p
    · rename_i hz
      obtain ⟨a, kvs, e, h1, h2, h3⟩ := rdb_dicT r
      subst e; subst h2
      refine .inr (.inr ⟨a, kvs, rfl, .inl h1, fun l bs hl hb => ?_⟩)
      have e : ((kvs.map (·.1)).map fun k => D.tup (k.map keyD)) = kvs.map fun q => D.tup (q.1.map keyD) := by rw [List.map_map]; rfl
      rw [e] at p
      refine lay_lst rs (isKeys_rep rs hb fun q hq => ?_) (by rw [sizeLine_eq, List.length_map]; have := hz.1; rwa [List.length_map] at this) hl p
      have := List.all_eq_true.mp hz.2 q.1 (List.mem_map.mpr ⟨q, hq, rfl⟩)
      rw [sizeLine_eq]
      exact of_decide_eq_true this
    · exact p.elim
  | _ => exact p.elim
end
end DL
end
section
set_option Elab.async false
set_option linter.all false
set_option maxRecDepth 100000
namespace DL
open PySem PySem.Spec L2
/-! ### which shared objects data name -/
mutual
def locsB (n : Nat) : D → Bool
  | .loc l => decide (l < n)
  | .tup ds => locsBs n ds
  | .ktup ds => locsBs n ds
  | .klst ds => locsBs n ds
  | .lst ds => locsBs n ds
  | .dic _ vs => locsBs n vs
  | .dicT _ vs => locsBs n vs
  | .obj _ _ vs => locsBs n vs
  | .fn _ vs => locsBs n vs
  | _ => true
def locsBs (n : Nat) : List D → Bool
  | [] => true
  | d :: ds => locsB n d && locsBs n ds
end
mutual
theorem Rep.locs {W : Wd} {A : Addr → Prop} {μ : List Addr} {H : Hp} : ∀ (d : D) (v : V), Rep W A μ H d v → locsB μ.length d = true
  | .non, v, h => rfl
  | .bl b, v, h => rfl
  | .int b, v, h => rfl
  | .str b, v, h => rfl
  | .ty b, v, h => rfl
  | .loc l, v, h => by
    simp only [Rep] at h
    obtain ⟨a, h1, _⟩ := h
    exact decide_eq_true (List.getElem?_eq_some_iff.mp h1).1
  | .tup ds, v, h => by simp only [Rep] at h; obtain ⟨_, _, _, _, _, h4⟩ := h; simp only [locsB]; exact Reps.locs _ _ h4
  | .ktup ds, v, h => by simp only [Rep] at h; obtain ⟨_, _, _, _, _, h4⟩ := h; simp only [locsB]; exact Reps.locs _ _ h4
  | .klst ds, v, h => by simp only [Rep] at h; obtain ⟨_, _, _, _, _, h4⟩ := h; simp only [locsB]; exact Reps.locs _ _ h4
  | .lst ds, v, h => by simp only [Rep] at h; obtain ⟨_, _, _, _, _, h4⟩ := h; simp only [locsB]; exact Reps.locs _ _ h4
  | .dic ks vs, v, h => by simp only [Rep] at h; obtain ⟨_, _, _, _, _, h4⟩ := h; simp only [locsB]; exact Reps.locs _ _ h4
  | .dicT ks vs, v, h => by simp only [Rep] at h; obtain ⟨_, _, _, _, _, h4⟩ := h; simp only [locsB]; exact Reps.locs _ _ h4
  | .obj c fs vs, v, h => by simp only [Rep] at h; obtain ⟨_, _, _, _, _, _, h4⟩ := h; simp only [locsB]; exact Reps.locs _ _ h4
  | .fn i vs, v, h => by simp only [Rep] at h; obtain ⟨_, _, _, _, _, _, _, _, _, _, _, _, h4⟩ := h; simp only [locsB]; exact Reps.locs _ _ h4
theorem Reps.locs {W : Wd} {A : Addr → Prop} {μ : List Addr} {H : Hp} : ∀ (ds : List D) (vs : List V), Reps W A μ H ds vs → locsBs μ.length ds = true
  | [], vs, h => rfl
  | d :: ds, vs, h => by
    simp only [Reps] at h
    obtain ⟨v, r, _, h2, h3⟩ := h
    simp only [locsBs, Rep.locs _ _ h2, Reps.locs _ _ h3, Bool.and_self]
end
mutual
theorem Rep.cut {W : Wd} {A : Addr → Prop} {μ r : List Addr} {H : Hp} : ∀ (d : D) (v : V), locsB μ.length d = true → Rep W A (μ ++ r) H d v → Rep W A μ H d v
  | .non, v, _, h => by simpa only [Rep] using h
  | .bl b, v, _, h => by simpa only [Rep] using h
  | .int b, v, _, h => by simpa only [Rep] using h
  | .str b, v, _, h => by simpa only [Rep] using h
  | .ty b, v, _, h => by simpa only [Rep] using h
  | .loc l, v, hl, h => by
    simp only [Rep] at h ⊢
    obtain ⟨a, h1, h2⟩ := h
    rw [List.getElem?_append_left (of_decide_eq_true hl)] at h1
    exact ⟨a, h1, h2⟩
  | .tup ds, v, hl, h => by simp only [Rep] at h ⊢; obtain ⟨a, xs, h1, h2, h3, h4⟩ := h; exact ⟨a, xs, h1, h2, h3, Reps.cut _ _ (by simpa only [locsB] using hl) h4⟩
  | .ktup ds, v, hl, h => by simp only [Rep] at h ⊢; obtain ⟨a, xs, h1, h2, h3, h4⟩ := h; exact ⟨a, xs, h1, h2, h3, Reps.cut _ _ (by simpa only [locsB] using hl) h4⟩
  | .klst ds, v, hl, h => by simp only [Rep] at h ⊢; obtain ⟨a, xs, h1, h2, h3, h4⟩ := h; exact ⟨a, xs, h1, h2, h3, Reps.cut _ _ (by simpa only [locsB] using hl) h4⟩
  | .lst ds, v, hl, h => by simp only [Rep] at h ⊢; obtain ⟨a, xs, h1, h2, h3, h4⟩ := h; exact ⟨a, xs, h1, h2, h3, Reps.cut _ _ (by simpa only [locsB] using hl) h4⟩
  | .dic ks vs, v, hl, h => by simp only [Rep] at h ⊢; obtain ⟨a, xs, h1, h2, h3, h4⟩ := h; exact ⟨a, xs, h1, h2, h3, Reps.cut _ _ (by simpa only [locsB] using hl) h4⟩
  | .dicT ks vs, v, hl, h => by simp only [Rep] at h ⊢; obtain ⟨a, xs, h1, h2, h3, h4⟩ := h; exact ⟨a, xs, h1, h2, h3, Reps.cut _ _ (by simpa only [locsB] using hl) h4⟩
  | .obj c fs vs, v, hl, h => by simp only [Rep] at h ⊢; obtain ⟨a, dx, xs, h1, h2, h3, h4⟩ := h; exact ⟨a, dx, xs, h1, h2, h3, Reps.cut _ _ (by simpa only [locsB] using hl) h4⟩
  | .fn i vs, v, hl, h => by simp only [Rep] at h ⊢; obtain ⟨f, c, cl, L, ws, h1, h2, h3, h4, h5, h6, h7, h8⟩ := h; exact ⟨f, c, cl, L, ws, h1, h2, h3, h4, h5, h6, h7, Reps.cut _ _ (by simpa only [locsB] using hl) h8⟩
theorem Reps.cut {W : Wd} {A : Addr → Prop} {μ r : List Addr} {H : Hp} : ∀ (ds : List D) (vs : List V), locsBs μ.length ds = true → Reps W A (μ ++ r) H ds vs → Reps W A μ H ds vs
  | [], vs, _, h => by simpa only [Reps] using h
  | d :: ds, vs, hl, h => by
    simp only [locsBs, Bool.and_eq_true] at hl
    simp only [Reps] at h ⊢
    obtain ⟨v, r, h1, h2, h3⟩ := h
    exact ⟨v, r, h1, Rep.cut _ _ hl.1 h2, Reps.cut _ _ hl.2 h3⟩
end
section
variable {W : Wd} {Wx : WX} {X : Cx} {A A' A0 A1 : Addr → Prop} {μ μ1 μ' r : List Addr} {O : Nat → Option Addr} {H H1 H' : Hp} {σ : St} {S S1 S' : Stt} {a x dx : Addr} {d : D} {o e : Expr} {f g : M D} {pos p pos' : Pos}
theorem Own.locs (h : Own W A μ H d a) : locsB μ.length d = true := by
  cases d with
  | lst ds => obtain ⟨_, _, _, h⟩ := h; simp only [locsB]; exact Reps.locs _ _ h
  | dic ks vs => obtain ⟨_, _, _, h⟩ := h; simp only [locsB]; exact Reps.locs _ _ h
  | dicT ks vs => obtain ⟨_, _, _, h⟩ := h; simp only [locsB]; exact Reps.locs _ _ h
  | obj c fs vs => obtain ⟨_, _, _, _, h⟩ := h; simp only [locsB]; exact Reps.locs _ _ h
  | _ => exact h.elim
theorem Own.cut (hl : locsB μ.length d = true) (h : Own W A (μ ++ r) H d a) : Own W A μ H d a := by
  cases d with
  | lst ds => obtain ⟨xs, h1, h2, h⟩ := h; exact ⟨xs, h1, h2, Reps.cut _ _ (by simpa only [locsB] using hl) h⟩
  | dic ks vs => obtain ⟨xs, h1, h2, h⟩ := h; exact ⟨xs, h1, h2, Reps.cut _ _ (by simpa only [locsB] using hl) h⟩
  | dicT ks vs => obtain ⟨xs, h1, h2, h⟩ := h; exact ⟨xs, h1, h2, Reps.cut _ _ (by simpa only [locsB] using hl) h⟩
  | obj c fs vs => obtain ⟨y, xs, h1, h2, h⟩ := h; exact ⟨y, xs, h1, h2, Reps.cut _ _ (by simpa only [locsB] using hl) h⟩
  | _ => exact h.elim
/-- the last shared object is shared no more -/
theorem RepS.unshare (rs : RepS W A0 (μ ++ [x]) O H σ S) (hs : ∀ (i : Nat) (s : Sl), S.sl[i]? = some s → (∀ d, s = Sl.d d → locsB μ.length d = true) ∧ ∀ d, s = Sl.own d → locsB μ.length d = true) (ho : ∀ d ∈ S.ob.take μ.length, locsB μ.length d = true) :
    RepS W A0 μ O H σ { S with ob := S.ob.take μ.length } := by
  have sub : ∀ a, Av A0 μ O a → Av A0 (μ ++ [x]) O a := fun a z => by
    rcases z with z | z | z
    · exact .inl z
    · exact .inr (.inl (List.mem_append_left _ z))
    · exact .inr (.inr z)
  have l : Le (Av A0 (μ ++ [x]) O) (Av A0 μ O) (μ ++ [x]) (μ ++ [x]) H H := Le.same (fun _ _ h => h) sub
  have hlen : S.ob.length = μ.length + 1 := by rw [rs.obl]; simp
  have hnd := List.nodup_append.mp rs.nd
  refine ⟨fun i => ?_, rs.oinj, fun i a h => ?_, by simp; omega, fun k d a h1 h2 => ?_, hnd.1, rs.atr, rs.tab, rs.len⟩
  · have q := rs.sl i
    show SlOk W (Av A0 μ O) μ O H i (S.sl[i]?) (σ[i]?)
    cases e : S.sl[i]? with
    | none => trivial
    | some s =>
      rw [e] at q
      cases s with
      | no => trivial
      | d y => obtain ⟨v, h1, h2⟩ := q; exact ⟨v, h1, Rep.cut _ _ ((hs i _ e).1 y rfl) (Rep.le l _ _ h2)⟩
      | own y => obtain ⟨a, h1, h2, h3⟩ := q; exact ⟨a, h1, h2, Own.cut ((hs i _ e).2 y rfl) (h3.le l rfl)⟩
  · obtain ⟨h1, h2, h3⟩ := rs.otr i a h
    exact ⟨h1, fun z => h2 (List.mem_append_left _ z), h3⟩
  · have h1 : (S.ob.take μ.length)[k]? = some d := h1
    have hk := (List.getElem?_eq_some_iff.mp h1).1
    have hk2 : k < μ.length := by simp at hk; omega
    have h1' : S.ob[k]? = some d := by rw [List.getElem?_take_of_lt hk2] at h1; exact h1
    exact Own.cut (ho d (List.mem_of_getElem? h1)) ((rs.obs k d a h1' (by rw [List.getElem?_append_left hk2]; exact h2)).le l rfl)

/-! ### fields -/
theorem rd2_obj {c : Nat} {fs : List Str} {ds : List D} {v : V} (h : Rd2 W A μ H (.obj c fs ds) v) : ∃ a dx fvs, v = .ref a ∧ H a = some (.ins (W.cls c) dx fvs) ∧ fvs.map (·.1) = fs ∧ Reps W A μ H ds (fvs.map (·.2)) := by
  rcases h with h | ⟨a, e, y, xs, h1, h2, h3⟩
  · simp only [Rep] at h
    obtain ⟨a, y, xs, e, ⟨_, h1⟩, h2, h3⟩ := h
    exact ⟨a, y, xs, e, h1, h2, h3⟩
  · exact ⟨a, y, xs, e, h1, h2, h3⟩
theorem lookF_val {nm : Str} : ∀ {kvs : List (Str × V)} {ks : List Str} {ws : List D} {d : D}, kvs.map (·.1) = ks → Reps W A μ H ws (kvs.map (·.2)) → lookK ks ws nm = some d → ∃ v, kvs.lookup nm = some v ∧ Rep W A μ H d v
  | [], ks, ws, d, h1, h2, h => by subst h1; simp [lookK] at h
  | (k0, v0) :: kvs, ks, ws, d, h1, h2, h => by
    subst h1
    cases ws with
    | nil => simp [lookK] at h
    | cons w ws =>
      simp only [List.map_cons, Reps] at h2
      obtain ⟨v, vs, e, r1, r2⟩ := h2
      cases e
      have h : (if k0 = nm then some w else lookK (kvs.map (·.1)) ws nm) = some d := h
      by_cases hk : k0 = nm
      · rw [if_pos hk] at h
        cases h
        have hb : (nm == k0) = true := beq_iff_eq.mpr hk.symm
        exact ⟨v0, by simp only [List.lookup, hb], r1⟩
      · rw [if_neg hk] at h
        have hb : (nm == k0) = false := beq_eq_false_iff_ne.mpr fun z => hk z.symm
        obtain ⟨v, h3, h4⟩ := lookF_val rfl r2 h
        exact ⟨v, by simp only [List.lookup, hb]; exact h3, h4⟩
def objOf (S : Stt) (c : Nat) (x : D) : Option (List Str × List D) := match deref S x with
  | some (.obj c' fs vs) => if c' = c then some (fs, vs) else none
  | _ => none
theorem objOf_at (rs : RepS W A0 μ O H σ S) {c : Nat} {x : D} {q : List Str × List D} {v : V} (h : objOf S c x = some q) (r : Rep W (Av A0 μ O) μ H x v) : ∃ a dx fvs, v = .ref a ∧ H a = some (.ins (W.cls c) dx fvs) ∧ fvs.map (·.1) = q.1 ∧ Reps W (Av A0 μ O) μ H q.2 (fvs.map (·.2)) := by
  unfold objOf at h
  cases e : deref S x with
  | none => rw [e] at h; cases h
  | some y =>
    rw [e] at h
    cases y with
    | obj c' fs vs =>
      dsimp only at h
      split at h
      · rename_i hc
        subst hc
        cases h
        exact rd2_obj (deref_rd2 rs e (.inl r))
      · cases h
    | _ => cases h
def fldM (c : Nat) (nm : Str) (f : M D) : M D := M.bnd f fun x S => match objOf S c x with
  | some q => (match lookK q.1 q.2 nm with
    | some d => .ok d S
    | none => .stuck)
  | none => .stuck
theorem de_fld {c : Nat} {nm : Str} (hK : X.K = W.K) (cl : Cls W.K (W.cls c)) (na : NoAttr W.K (W.cls c) nm) (he : PE X e (tD W Wx f)) (hb : attributeBase e nm X.env (eval e X.env) = eval e X.env := by rfl) : PE X (.Attribute e nm pos) (tD W Wx (fldM c nm f)) :=
  PE.imp (pe_fld he hb) fun σ H Q h => tG_mono (tG_bind (rl := rlD W) h) fun v H1 ⟨A0, μ1, O, S1, x, rs1, r1, p1⟩ => by
    cases hq : objOf S1 c x with
    | none => rw [hq] at p1; exact p1.elim
    | some q =>
      rw [hq] at p1
      dsimp only at p1
      cases hd : lookK q.1 q.2 nm with
      | none => rw [hd] at p1; exact p1.elim
      | some d =>
        rw [hd] at p1
        obtain ⟨a, dx, fvs, e, h1, h2, h3⟩ := objOf_at rs1 hq r1
        obtain ⟨w, h4, h5⟩ := lookF_val h2 h3 hd
        exact ⟨a, _, dx, fvs, w, e, h1, by rw [hK]; exact cl, by rw [hK]; exact na, h4, tG_ret (rl := rlD W) rs1 p1 h5⟩
/-- the fields behind a store -/
def putFs (nm : Str) : List Str → List Str
  | [] => [nm]
  | g :: r => if g = nm then g :: r else g :: putFs nm r
def putVs (nm : Str) (d : D) : List Str → List D → List D
  | g :: r, v :: vs => if g = nm then d :: vs else v :: putVs nm d r vs
  | _, vs => vs ++ [d]
theorem putF_rep {nm : Str} {d : D} {v : V} (rd : Rep W A μ H d v) : ∀ {kvs : List (Str × V)} {ws : List D}, Reps W A μ H ws (kvs.map (·.2)) → (putF nm v kvs).map (·.1) = putFs nm (kvs.map (·.1)) ∧ Reps W A μ H (putVs nm d (kvs.map (·.1)) ws) ((putF nm v kvs).map (·.2))
  | [], ws, r => by
    simp only [List.map_nil, Reps] at r
    cases ws with
    | nil => exact ⟨rfl, reps_cons rd reps_nil⟩
    | cons w ws => simp [Reps] at r
  | (k0, v0) :: kvs, ws, r => by
    cases ws with
    | nil => simp [Reps] at r
    | cons w ws =>
      simp only [List.map_cons, Reps] at r
      obtain ⟨u, us, e, r1, r2⟩ := r
      cases e
      rw [show putF nm v ((k0, v0) :: kvs) = (if k0 = nm then (k0, v) :: kvs else (k0, v0) :: putF nm v kvs) from rfl]
      show _ ∧ Reps W A μ H (if k0 = nm then d :: ws else w :: putVs nm d (kvs.map (·.1)) ws) _
      by_cases hk : k0 = nm
      · rw [if_pos hk, if_pos hk]
        exact ⟨by show k0 :: _ = (if k0 = nm then k0 :: _ else _); rw [if_pos hk], reps_cons rd r2⟩
      · rw [if_neg hk, if_neg hk]
        obtain ⟨i1, i2⟩ := putF_rep (nm := nm) rd r2
        exact ⟨by show k0 :: _ = (if k0 = nm then _ else k0 :: _); rw [if_neg hk, i1], reps_cons r1 i2⟩
/-- name.nm = value, the object one's own or shared -/
def fldS (i c : Nat) (nm : Str) (u : M D) : M Fl := M.bnd u fun d S => match chgAt S i with
  | some (.obj c' fs vs) => if c' = c ∧ fs.length < 1000 then .ok .nx (putAt S i (.obj c (putFs nm fs) (putVs nm d fs vs))) else .stuck
  | _ => .stuck
theorem ds_fld {i c : Nat} {nm : Str} {value : Expr} (hK : X.K = W.K) (cl : Cls W.K (W.cls c)) (na : NoAttr W.K (W.cls c) nm) (ho : PE X o (tVar i)) (hv : PE X value (tD W Wx f)) (hs : swapsWith value (some (.Attribute o nm pos')) pos.line X.env = pure false := by rfl) :
    PS X (.Assign [.Attribute o nm pos'] value pos) (tS W Wx (fldS i c nm f)) := PS.imp (ps_fld ho hv hs) fun D σ H ⟨A0, μ, O, S, rs, p⟩ => by
  refine tG_mono (PostS.bindE (rl := rlD W) rs p) fun v H1 ⟨μ1, S1, d, st, rs1, r1, q⟩ => ?_
  cases hc : chgAt S1 i with
  | none => rw [hc] at q; exact q.elim
  | some y =>
    rw [hc] at q
    cases y with
    | obj c' fs vs =>
      dsimp only at q
      split at q
      · rename_i hz
        obtain ⟨rfl, hz⟩ := hz
        obtain ⟨a, es, hch, ow, fin⟩ := chg_at rs1 hc
        obtain ⟨dx, fvs, h1, h2, h3⟩ := ow
        subst h2
        refine ⟨_, es, a, _, dx, fvs, rfl, h1, by rw [hK]; exact cl, by rw [hK]; exact na, by simpa using hz, ?_⟩
        have l := chg_le (A0 := A0) (H := H1) hch (.ins (W.cls c') dx (putF nm v fvs))
        obtain ⟨k1, k2⟩ := putF_rep (nm := nm) (Rep.le l _ _ r1) (Reps.le l _ _ h3)
        exact q σ _ μ1 O (.of (chg_step hch (by rw [h1]; exact fun z => by cases z) _)) (fin _ _ ⟨dx, _, upd_same, k1, k2⟩)
      · exact q.elim
    | _ => exact q.elim
end
end DL
end
section
set_option Elab.async false
set_option linter.all false
set_option maxRecDepth 100000
namespace DL
open PySem PySem.Spec L2
theorem takes_WF {X : Cx} : Takes X WF := fun _ _ ⟨_, _, _, _, _, _, _, _, _, _, _, _, _, _, _, _, w⟩ => w.elim
theorem CtxOk.blk {X : Cx} {W : Wd} {Wx : WX} {k : Nat} (C : CtxOk X W Wx k) (scope : Scope) (s : Shared) (H : Hp) (A : Addr) (cl : List (Str × Addr)) (fp : List Addr) : CtxOk (blkCx X scope s H A cl fp) W WF k := ⟨C.K, C.calm, C.nd, C.room, PassesOwn.never, takes_WF⟩
section
variable {W : Wd} {Wx : WX} {X : Cx} {A A' A0 A1 : Addr → Prop} {μ μ1 μ' r : List Addr} {O : Nat → Option Addr} {H H1 H' : Hp} {σ : St} {S S1 S' : Stt} {a : Addr} {d : D} {o e : Expr} {f g : M D} {pos p pos' : Pos}
/-! ### objects are made -/
theorem run_makeS {CX : CXT} {k : Nat} {f C : Addr} {fd : FuncData} {ps : List Str} {sp : Sp} {E : XK} {pins : List (Addr × Obj)} {s : Shared} {Q : VK} {us : List Value} {vs : List V} (M : Mk X.K C f) (F : FnOk X.prog X.w X.K X.mg X.base CX k f fd ps sp) (hr : Room (k + 1) X.A) (hb : Binds X.K fd ps [])
    (hx : PassesAt CX X σ E) (I : Inv X pins σ H s) (r : Vals vs us)
    (h : ∀ x dx, H x = none → H dx = none → dx ≠ x → sp (.ref x :: vs) (upd (upd H dx (.own x)) x (.ins C dx [])) (fun v H2 => v = .non ∧ Q (.ref x) H2) E) :
    wpAny (model X.prog X.w) X.A (call (.ref C) us) (EP X pins σ Q) X.xe s := by
  have hq := h (s.heap.objs.size + 1) s.heap.objs.size (I.hok.fresh (Nat.le_succ _)) (I.hok.fresh (Nat.le_refl _)) (Nat.ne_of_lt (Nat.lt_succ_self _))
  have I2 := Inv.made (C := C) I
  have r2 : Vals (V.ref (s.heap.objs.size + 1) :: vs) (Value.ref (s.heap.objs.size + 1) :: us) := .cons rfl r
  have hl : (Value.ref (s.heap.objs.size + 1) :: us ++ []).length = ps.length := by
    have e := r2.length
    rw [F.len _ _ _ _ hq] at e
    rw [List.append_nil]
    exact e.symm
  have b := hb _ (Value.ref (s.heap.objs.size + 1) :: us) I2.kIn hl
  rw [List.append_nil] at b
  refine wpAny_call (make_map (f := f) I.kIn M.makes M.init (beq_iff_eq.mp M.fn) (codeAny_mono (F.run _ X.stack _ _ ⟨Value.ref (s.heap.objs.size + 1) :: us, []⟩ (Value.ref (s.heap.objs.size + 1) :: us) _ _ E (hr.make C us [])
    (I2.env0.make C us []) b r2 hq) fun r s' hq' => ?_))
  cases r with
  | error e => exact hx pins _ _ e s' I2 hq'
  | ok fl =>
    cases fl with
    | ret u =>
      obtain ⟨v, H', I3, rv, ev, q3⟩ := I2.after hq'
      subst ev
      exact ⟨rv, ⟨V.ref (s.heap.objs.size + 1), H', I3, rfl, q3⟩⟩
    | next => exact False.elim hq'
    | brk => exact False.elim hq'
    | cont => exact False.elim hq'
def tMakeS (C : Addr) (sp : Sp) (E : St → XK) (t : TA) : TE := fun σ H Q => t σ H fun vs H1 => ∀ x dx, H1 x = none → H1 dx = none → dx ≠ x →
  sp (.ref x :: vs) (upd (upd H1 dx (.own x)) x (.ins C dx [])) (fun v H2 => v = .non ∧ Q (.ref x) H2) (E σ)
theorem pe_makeS {CX : CXT} {k : Nat} {f C : Addr} {fd : FuncData} {ps : List Str} {sp : Sp} {E : St → XK} {x : Str} {e : Expr} {es : List Expr} {t : TA} (M : Mk X.K C f) (F : FnOk X.prog X.w X.K X.mg X.base CX k f fd ps sp) (hr : Room (k + 1) X.A) (hg : Gl X x) (hm : X.mg x = some (.ref C)) (hb : Binds X.K fd ps []) (hx : ∀ σ, PassesAt CX X σ (E σ))
    (ha : PA X (e :: es) t) (hdb : (x == ("__debug__" : Str)) = false := by decide) (he : starEach (e :: es) X.env = (false, eval e X.env) :: starEach es X.env := by rfl) (hpl : (backTo pos (starEach es X.env)).any (·.1) = false := by rfl) :
    PE X (.Call (.Name x p) (e :: es) [] pos) (tMakeS C sp E t) := by
  refine ⟨fun pins s σ H Q I h => ?_⟩
  refine wpAny_Call_Name_kw (ld_glob I hg hm ?_ hdb)
  refine PySem.W.callWith_K (h₀ := X.base) I.ok.mod.kin M.kp (thn (ha.run pos pins s σ H _ I h) fun us s1 ⟨vs, H1, I1, r, q⟩ => ⟨I1.kIn, ?_⟩) he hpl
  exact run_makeS M F hr hb (hx σ) I1 r q
theorem callF_sl {F : Fn} {ds : List D} {S S' : Stt} {d : D} (h : callF F ds S = .ok d S') : S'.sl = S.sl := by
  unfold callF after at h
  cases e : F ds S.ob with
  | ok d1 S1 => rw [e] at h; cases h; rfl
  | exn c q S1 => rw [e] at h; cases h
  | stuck => rw [e] at h; cases h
theorem callF_slx {F : Fn} {ds : List D} {S S' : Stt} {c : Nat} {q : Option (List Str × List D)} (h : callF F ds S = .exn c q S') : S'.sl = S.sl := by
  unfold callF after at h
  cases e : F ds S.ob with
  | ok d1 S1 => rw [e] at h; cases h
  | exn c q S1 => rw [e] at h; cases h; rfl
  | stuck => rw [e] at h; cases h
/-- the shared objects but the last: it is named nowhere -/
def lastOff (n : Nat) (ob : List D) : Bool := ob.length == n + 1 && (ob.take n).all (locsB n)
def payOff (n : Nat) : Option (List Str × List D) → Bool
  | none => true
  | some q => locsBs n q.2
/-- a value's class: the object is made, then it does not change any more -/
def mkV (c : Nat) (F : Fn) (ds : List D) : M D := fun S => match callF F (.loc S.ob.length :: ds) { S with ob := S.ob ++ [.obj c [] []] } with
  | .ok .non S' => (match S'.ob[S.ob.length]? with
    | some x => if lastOff S.ob.length S'.ob = true ∧ locsB S.ob.length x = true then .ok x { S' with ob := S'.ob.take S.ob.length } else .stuck
    | none => .stuck)
  | .exn c' q S' => if lastOff S.ob.length S'.ob = true ∧ payOff S.ob.length q = true then .exn c' q { S' with ob := S'.ob.take S.ob.length } else .stuck
  | _ => .stuck
def makeV (c : Nat) (F : Fn) (fs : List (M D)) : M D := M.bnd (seqM fs) (mkV c F)
/-- the other kind: it is changed later on -/
def mkL (c : Nat) (F : Fn) (ds : List D) : M D := fun S => match callF F (.loc S.ob.length :: ds) { S with ob := S.ob ++ [.obj c [] []] } with
  | .ok .non S' => .ok (.loc S.ob.length) S'
  | .exn c' q S' => .exn c' q S'
  | _ => .stuck
def makeL (c : Nat) (F : Fn) (fs : List (M D)) : M D := M.bnd (seqM fs) (mkL c F)
/-- the new object among the shared ones -/
theorem made_at {c : Nat} {x dx : Addr} (rs : RepS W A0 μ O H σ S) (h1 : H x = none) (h2 : H dx = none) (hne : dx ≠ x) :
    RepS W A0 (μ ++ [x]) O (upd (upd H dx (.own x)) x (.ins (W.cls c) dx [])) σ { S with ob := S.ob ++ [.obj c [] []] } ∧ (∀ b u, H b = some u → upd (upd H dx (.own x)) x (.ins (W.cls c) dx []) b = some u) := by
  have k1 := upd_keep (o := .own x) h2
  have hx : upd H dx (.own x) x = none := by rw [upd_ne (Ne.symm hne)]; exact h1
  have rs1 := rs.same k1
  obtain ⟨na, rs2, ow⟩ := fresh_own (o := .ins (W.cls c) dx []) (d := .obj c [] []) rs1 hx fun A hA => ⟨dx, [], upd_same, rfl, reps_nil⟩
  exact ⟨rs2.share na ow, fun b u e => upd_keep hx b u (k1 b u e)⟩
theorem sl_locs (rs : RepS W A0 μ O H σ S) : ∀ (i : Nat) (s : Sl), S.sl[i]? = some s → (∀ d, s = Sl.d d → locsB μ.length d = true) ∧ ∀ d, s = Sl.own d → locsB μ.length d = true := fun i s e => by
  have q := rs.sl i
  rw [e] at q
  refine ⟨fun d z => ?_, fun d z => ?_⟩
  · subst z; obtain ⟨v, _, r⟩ := q; exact Rep.locs _ _ r
  · subst z; obtain ⟨a, _, _, r⟩ := q; exact Own.locs r
theorem made_step {c : Nat} {x dx : Addr} (rs : RepS W A0 μ O H σ S) (h1 : H x = none) (h2 : H dx = none) (hne : dx ≠ x) {H' : Hp} (st : Step (Ch (μ ++ [x]) O) (μ ++ [x]) (μ ++ [x] ++ r) (upd (upd H dx (.own x)) x (.ins (W.cls c) dx [])) H') : Step (Ch μ O) μ μ H H' := by
  obtain ⟨_, kp⟩ := made_at (c := c) rs h1 h2 hne
  refine ⟨⟨[], by simp⟩, fun b h n => absurd h n, fun b u e n t => st.keep b u (kp b u e) (fun z => ?_) t, fun b e => ?_⟩
  · rcases z with z | z
    · rcases List.mem_append.mp z with z | z
      · exact n (.inl z)
      · rw [List.mem_singleton.mp z, h1] at e; cases e
    · exact n (.inr z)
  · have := st.alive b e
    cases q : H b with
    | none => rfl
    | some u => rw [kp b u q] at this; cases this
theorem made_stepL {c : Nat} {x dx : Addr} (rs : RepS W A0 μ O H σ S) (h1 : H x = none) (h2 : H dx = none) (hne : dx ≠ x) {H' : Hp} (st : Step (Ch (μ ++ [x]) O) (μ ++ [x]) μ' (upd (upd H dx (.own x)) x (.ins (W.cls c) dx [])) H') : Step (Ch μ O) μ μ' H H' := by
  obtain ⟨_, kp⟩ := made_at (c := c) rs h1 h2 hne
  refine ⟨?_, fun b h n => ?_, fun b u e n t => st.keep b u (kp b u e) (fun z => ?_) t, fun b e => ?_⟩
  · obtain ⟨r, e⟩ := st.ext
    exact ⟨x :: r, by rw [e]; simp⟩
  · by_cases hb : b = x
    · subst hb; exact h1
    · have := st.new b h (fun z => by
        rcases List.mem_append.mp z with z | z
        · exact n z
        · exact hb (List.mem_singleton.mp z))
      cases q : H b with
      | none => rfl
      | some u => rw [kp b u q] at this; cases this
  · rcases z with z | z
    · rcases List.mem_append.mp z with z | z
      · exact n (.inl z)
      · rw [List.mem_singleton.mp z, h1] at e; cases e
    · exact n (.inr z)
  · have := st.alive b e
    cases q : H b with
    | none => rfl
    | some u => rw [kp b u q] at this; cases this
theorem off_nil {x : Addr} {n : Nat} (rs : RepS W A0 (μ ++ [x] ++ r) O H σ S') (hn : n = μ.length) (h : lastOff n S'.ob = true) : r = [] := by
  subst hn
  unfold lastOff at h
  rw [Bool.and_eq_true, beq_iff_eq] at h
  have := rs.obl
  rw [h.1] at this
  simp at this
  exact this
theorem mkV_sp {c : Nat} {F : Fn} {ds : List D} {vs : List V} {Q : VK} (rs : RepS W A0 μ O H σ S) (rd : Reps W (Av A0 μ O) μ H ds vs) (p : PostG W Wx (rlD W) A0 μ O H σ (mkV c F ds S) Q) {x dx : Addr} (h1 : H x = none) (h2 : H dx = none) (hne : dx ≠ x) :
    spD W F (.ref x :: vs) (upd (upd H dx (.own x)) x (.ins (W.cls c) dx [])) (fun v H2 => v = .non ∧ Q (.ref x) H2) (WE Wx σ) := by
  obtain ⟨rs1, kp⟩ := made_at (c := c) rs h1 h2 hne
  have hn : S.ob.length = μ.length := rs.obl
  have nx := rs.fresh h1
  have lx : Le (Av A0 μ O) (Av A0 (μ ++ [x]) O) μ (μ ++ [x]) H (upd (upd H dx (.own x)) x (.ins (W.cls c) dx [])) := ⟨fun k b h => by rw [List.getElem?_append_left (List.getElem?_eq_some_iff.mp h).1]; exact h, fun b u e n _ => ⟨kp b u e, fun z => by
    rcases z with z | z | z
    · exact n (.inl z)
    · rcases List.mem_append.mp z with z | z
      · exact n (.inr (.inl z))
      · rw [List.mem_singleton.mp z, h1] at e; cases e
    · exact n (.inr (.inr z))⟩⟩
  refine spD_of (Wx := Wx) rs1 (reps_cons (d := .loc S.ob.length) ?_ (Reps.le lx _ _ rd)) ?_
  · simp only [Rep]
    exact ⟨x, by rw [hn, List.getElem?_append_right (Nat.le_refl _)]; simp, rfl⟩
  · unfold mkV at p
    cases e : callF F (.loc S.ob.length :: ds) { S with ob := S.ob ++ [.obj c [] []] } with
    | stuck => rw [e] at p; exact p
    | exn c' q S' =>
      rw [e] at p
      dsimp only at p
      split at p
      · rename_i hoff
        have esl := callF_slx e
        have cut : ∀ {H' μ'}, Step (Ch (μ ++ [x]) O) (μ ++ [x]) μ' (upd (upd H dx (.own x)) x (.ins (W.cls c) dx [])) H' → RepS W A0 μ' O H' σ S' → μ' = μ ++ [x] ∧ Step (Ch μ O) μ μ H H' ∧ RepS W A0 μ O H' σ { S' with ob := S'.ob.take S.ob.length } := fun {H' μ'} st rs' => by
          obtain ⟨r, er⟩ := st.ext
          subst er
          have e0 := off_nil rs' hn hoff.1
          subst e0
          refine ⟨by simp, made_step rs h1 h2 hne st, ?_⟩
          rw [List.append_nil] at rs'
          rw [hn]
          refine rs'.unshare (fun i s h => sl_locs rs i s (by rw [esl] at h; exact h)) fun d hd => ?_
          have := hoff.1
          unfold lastOff at this
          rw [Bool.and_eq_true, List.all_eq_true, hn] at this
          exact this.2 d hd
        cases q with
        | none =>
          intro H' μ' st rs'
          obtain ⟨_, k2, k3⟩ := cut st rs'
          exact p H' μ k2 k3
        | some q =>
          intro H' μ' dd xs st rs' hl hd r'
          obtain ⟨k1, k2, k3⟩ := cut st rs'
          subst k1
          refine p H' μ dd xs k2 k3 hl hd (Reps.cut (r := [x]) _ _ (by rw [← hn]; exact hoff.2) (Reps.le (Le.same (fun _ _ h => h) fun b z => ?_) _ _ r'))
          rcases z with z | z | z
          · exact .inl z
          · exact .inr (.inl (List.mem_append_left _ z))
          · exact .inr (.inr z)
      · exact p.elim
    | ok d S' =>
      rw [e] at p
      cases d with
      | non =>
        dsimp only at p
        cases ex : S'.ob[S.ob.length]? with
        | none => rw [ex] at p; exact p.elim
        | some y =>
          rw [ex] at p
          dsimp only at p
          split at p
          · rename_i hoff
            have esl := callF_sl e
            intro v H' μ' st rs' rv
            refine ⟨by simpa only [rlD, Rep] using rv, ?_⟩
            obtain ⟨r, er⟩ := st.ext
            subst er
            have e0 := off_nil rs' hn hoff.1
            subst e0
            have st2 := made_step rs h1 h2 hne st
            rw [List.append_nil] at rs'
            have rs2 : RepS W A0 μ O H' σ { S' with ob := S'.ob.take S.ob.length } := by
              rw [hn]
              refine rs'.unshare (fun i s h => sl_locs rs i s (by rw [esl] at h; exact h)) fun d hd => ?_
              have := hoff.1
              unfold lastOff at this
              rw [Bool.and_eq_true, List.all_eq_true, hn] at this
              exact this.2 d hd
            have ow := rs'.obs S.ob.length y x ex (by rw [hn, List.getElem?_append_right (Nat.le_refl _)]; simp)
            have sub : ∀ b, Av A0 μ O b → Av A0 (μ ++ [x]) O b := fun b z => by
              rcases z with z | z | z
              · exact .inl z
              · exact .inr (.inl (List.mem_append_left _ z))
              · exact .inr (.inr z)
            have ow2 : Own W (Av A0 μ O) μ H' y x := Own.cut (r := [x]) (by rw [← hn]; exact hoff.2) (ow.le (Le.same (fun _ _ h => h) sub) rfl)
            exact p (.ref x) H' μ st2 rs2 (Own.rep ow2 nx)
          · exact p.elim
      | _ => exact p.elim
theorem mkL_sp {c : Nat} {F : Fn} {ds : List D} {vs : List V} {Q : VK} (rs : RepS W A0 μ O H σ S) (rd : Reps W (Av A0 μ O) μ H ds vs) (p : PostG W Wx (rlD W) A0 μ O H σ (mkL c F ds S) Q) {x dx : Addr} (h1 : H x = none) (h2 : H dx = none) (hne : dx ≠ x) :
    spD W F (.ref x :: vs) (upd (upd H dx (.own x)) x (.ins (W.cls c) dx [])) (fun v H2 => v = .non ∧ Q (.ref x) H2) (WE Wx σ) := by
  obtain ⟨rs1, kp⟩ := made_at (c := c) rs h1 h2 hne
  have hn : S.ob.length = μ.length := rs.obl
  have lx : Le (Av A0 μ O) (Av A0 (μ ++ [x]) O) μ (μ ++ [x]) H (upd (upd H dx (.own x)) x (.ins (W.cls c) dx [])) := ⟨fun k b h => by rw [List.getElem?_append_left (List.getElem?_eq_some_iff.mp h).1]; exact h, fun b u e n _ => ⟨kp b u e, fun z => by
    rcases z with z | z | z
    · exact n (.inl z)
    · rcases List.mem_append.mp z with z | z
      · exact n (.inr (.inl z))
      · rw [List.mem_singleton.mp z, h1] at e; cases e
    · exact n (.inr (.inr z))⟩⟩
  refine spD_of (Wx := Wx) rs1 (reps_cons (d := .loc S.ob.length) ?_ (Reps.le lx _ _ rd)) ?_
  · simp only [Rep]
    exact ⟨x, by rw [hn, List.getElem?_append_right (Nat.le_refl _)]; simp, rfl⟩
  · unfold mkL at p
    cases e : callF F (.loc S.ob.length :: ds) { S with ob := S.ob ++ [.obj c [] []] } with
    | stuck => rw [e] at p; exact p
    | exn c' q S' =>
      rw [e] at p
      cases q with
      | none => exact fun H' μ' st rs' => p H' μ' (made_stepL rs h1 h2 hne st) rs'
      | some q => exact fun H' μ' dd xs st rs' => p H' μ' dd xs (made_stepL rs h1 h2 hne st) rs'
    | ok d S' =>
      rw [e] at p
      cases d with
      | non =>
        intro v H' μ' st rs' rv
        refine ⟨by simpa only [rlD, Rep] using rv, p (.ref x) H' μ' (made_stepL rs h1 h2 hne st) rs' ?_⟩
        simp only [rlD, Rep]
        obtain ⟨r, er⟩ := st.ext
        exact ⟨x, by rw [er, hn, List.append_assoc, List.getElem?_append_right (Nat.le_refl _)]; simp, rfl⟩
      | _ => exact p.elim
/-- a class of the module, its __init__ -/
def GMk (P : Program) (w : World) (K : PySem.W.Frag) (mg : Str → Option Value) (base : Heap) (k : Nat) (x : Str) (ps : List Str) (W : Wd) (c : Nat) (F : Fn) : Prop :=
  ∃ g fd, mg x = some (.ref (W.cls c)) ∧ Mk K (W.cls c) g ∧ Binds K fd ps [] ∧ FnOk P w K mg base (L2.CX P w) k g fd ps (spD W F)
theorem de_makeV {c : Nat} {x : Str} {ps : List Str} {F : Fn} {fs : List (M D)} {j k : Nat} {e : Expr} {es : List Expr} (C : CtxOk X W Wx j) (G : GMk X.prog X.w X.K X.mg X.base k x ps W c F) (hk : k + 1 ≤ j) (hg : Gl X x) (ha : PA X (e :: es) (tDA W Wx (seqM fs)))
    (hdb : (x == ("__debug__" : Str)) = false := by decide) (he : starEach (e :: es) X.env = (false, eval e X.env) :: starEach es X.env := by rfl) (hpl : (backTo pos (starEach es X.env)).any (·.1) = false := by rfl) :
    PE X (.Call (.Name x p) (e :: es) [] pos) (tD W Wx (makeV c F fs)) := by
  obtain ⟨g, fd, hm, mk, hb, ok⟩ := G
  refine PE.imp (pe_makeS (E := WE Wx) mk ok (C.room.mono hk) hg hm hb (fun σ => passAt C.takes σ) ha hdb he hpl) fun σ H Q h => ?_
  refine tG_mono (tG_bind (rl := rlA W) h) fun vs H1 ⟨A0, μ1, O, S1, ds, rs1, r1, p1⟩ => fun x dx h1 h2 hne => mkV_sp rs1 r1 p1 h1 h2 hne
theorem de_makeL {c : Nat} {x : Str} {ps : List Str} {F : Fn} {fs : List (M D)} {j k : Nat} {e : Expr} {es : List Expr} (C : CtxOk X W Wx j) (G : GMk X.prog X.w X.K X.mg X.base k x ps W c F) (hk : k + 1 ≤ j) (hg : Gl X x) (ha : PA X (e :: es) (tDA W Wx (seqM fs)))
    (hdb : (x == ("__debug__" : Str)) = false := by decide) (he : starEach (e :: es) X.env = (false, eval e X.env) :: starEach es X.env := by rfl) (hpl : (backTo pos (starEach es X.env)).any (·.1) = false := by rfl) :
    PE X (.Call (.Name x p) (e :: es) [] pos) (tD W Wx (makeL c F fs)) := by
  obtain ⟨g, fd, hm, mk, hb, ok⟩ := G
  refine PE.imp (pe_makeS (E := WE Wx) mk ok (C.room.mono hk) hg hm hb (fun σ => passAt C.takes σ) ha hdb he hpl) fun σ H Q h => ?_
  refine tG_mono (tG_bind (rl := rlA W) h) fun vs H1 ⟨A0, μ1, O, S1, ds, rs1, r1, p1⟩ => fun x dx h1 h2 hne => mkL_sp rs1 r1 p1 h1 h2 hne
end
end DL
end
section
set_option Elab.async false
set_option linter.all false
set_option maxRecDepth 100000
namespace DL
open PySem PySem.Spec L2
/-! ### == and != of two objects of a class with an own __eq__ -/
section
variable {prog : Program} {w : World} {A : Around} {E : Value → Shared → Prop} {s : Shared} {K : PySem.W.Frag} {x y C f L : Addr} {ox : Obj} {od : Option Obj} {h₀ : Heap} {m : Str → Option Value} {tb : Value}
theorem ifBound_ne {M : Model} {args : List Value} {Q : Option Value → Shared → Prop} (X : K.In s.heap) (I : PySem.W.InstAt s.heap x ox C od) (hs : PySem.W.findIn K (.ref C) "__ne__" = some (some (.builtin "object.__ne__")))
    (h : wpAny M A (call (.builtin "object.__ne__") (.ref x :: args)) (fun v => Q (some v)) E s) : wpAny M A (callSpecialIfBound? (.ref x) "__ne__" args) Q E s := by
  simp only [callSpecialIfBound?, bindSpecialIfBound?]
  refine wpAny_holding (wpAny_bind (wpAny_bind (wpAny_bind (I.type.here ((PySem.W.looks_findIn X hs).here ?_)))))
  refine wpAny_bind (wpAny_askSetting (wpAny_ite ?_))
  have fin : wpAny M A (call (.builtin "object.__ne__") ([.ref x] ++ args) >>= fun v => pure (some v)) Q E s := wpAny_bind (wpAny_mono h (fun v s' h' => wpAny_pure h') fun _ _ h' => h')
  split
  · exact wpAny_bind (wpAny_of_eq (F.cmp_object.ne.bind _) (wpAny_pure (by exact fin)))
  · exact wpAny_tryCatch (wpAny_bind (wpAny_of_eq (F.cmp_object.ne.bind _) (wpAny_pure (by exact fin))))
theorem ne_body {Q : Fin → Shared → Prop} (hu : A.units < cLine) (X : K.In s.heap) (I : PySem.W.InstAt s.heap x ox C od) (hs : PySem.W.findIn K (.ref C) "__eq__" = some (some (.ref f))) (hf : PySem.W.isFn K (.ref f) = true)
    (h : wpAny (model prog w) A (call (.ref f) [.ref x, .ref y]) (fun v s' => ∃ b, v = .bool b ∧ Q (.done (.ret (.bool (!b)))) s') E s) : wpAny (model prog w) A (Builtin.«object.__ne__» ⟨[.ref x, .ref y], []⟩) Q E s := by
  unfold Builtin.«object.__ne__»
  refine wpAny_bind (wpAny_of_eq (a := ((Value.ref x : Value), [Value.ref y])) (by first | rfl | (simp only [slotArgs]; rfl)) ?_)
  refine wpAny_bind (wpAny_cRoomFor hu ?_)
  refine wpAny_bind (PySem.W.ifBound_K X I hs hf (wpAny_mono h (fun v s' hv => ?_) fun _ _ e => e))
  obtain ⟨b, rfl, q⟩ := hv
  exact wpAny_bind (wpAny_truthy_bool (wpAny_pure q))
theorem ne_rich {Q : Value → Shared → Prop} (hu : A.units + 1 < cLine) (Fr : PyProof.Rows.Fr h₀ L s.heap m) (X₀ : K.In h₀) (I : PySem.W.InstAt s.heap x ox C od) (hb : PySem.W.Looks (model prog w) s.heap (typeOf (.ref y)) tb) (hn : PySem.W.notFirst K C tb = true) (ho : PySem.W.mroIn K C (.type "object") = some true)
    (hne : PySem.W.findIn K (.ref C) "__ne__" = some (some (.builtin "object.__ne__"))) (hs : PySem.W.findIn K (.ref C) "__eq__" = some (some (.ref f))) (hf : PySem.W.isFn K (.ref f) = true)
    (h : wpAny (model prog w) A.in1 (call (.ref f) [.ref x, .ref y]) (fun v s' => ∃ b, v = .bool b ∧ Q (.bool (!b)) s') E s) : wpAny (model prog w) A (richCompare .NotEq (.ref x) (.ref y)) Q E s := by
  have X := X₀.keeps Fr.keep
  have one : wpAny (model prog w) A (tryCompare (.ref x) (cmpInfo .NotEq).2.1 (.ref y)) (fun r s' => ∃ v, r = some v ∧ Q v s') E s := by
    unfold tryCompare
    refine wpAny_bind (ifBound_ne X I hne ?_)
    refine wpAny_call (codeAny_call_builtin F.cmp_object.ne.plain F.cmpEntry_ne (PySem.W.check_slot F.cmpKind_ne F.cmpSplit_ne (I.type.andThen (PySem.W.looks_mroIn X ho)) (F.cmpArgs_ne _ _) ?_))
    refine ne_body (A := A.in1) (by show A.units + 1 < cLine; exact hu) X I hs hf (wpAny_mono h (fun v s' hv => ?_) fun _ _ e => e)
    obtain ⟨b, e, q⟩ := hv
    exact ⟨b, e, wpAny_pure ⟨_, rfl, q⟩⟩
  unfold richCompare
  simp only [oneThing_ref]
  refine wpAny_holding (wpAny_bind (wpAny_cRoomFor (Nat.lt_of_succ_lt hu) ?_))
  refine wpAny_bind (I.type.here (wpAny_bind (hb.here ?_)))
  split
  · rename_i q
    have e : PySem.W.subIn K tb (.ref C) = some false := by
      rcases Bool.or_eq_true_iff.mp hn with e | e
      · rw [beq_iff_eq.mp e] at q; simp at q
      · exact beq_iff_eq.mp e
    refine wpAny_bind ((PySem.W.looks_subIn X e).here ?_)
    simp only [Bool.false_eq_true, if_false]
    refine wpAny_bind (wpAny_mono one (fun r s' z => ?_) fun _ _ e => e)
    obtain ⟨v, rfl, hq⟩ := z
    exact wpAny_pure hq
  · refine wpAny_bind (wpAny_pure ?_)
    simp only [Bool.false_eq_true, if_false]
    refine wpAny_bind (wpAny_mono one (fun r s' z => ?_) fun _ _ e => e)
    obtain ⟨v, rfl, hq⟩ := z
    exact wpAny_pure hq
end
/-- what an own == has of the class -/
structure EqC (K : PySem.W.Frag) (C f : Addr) : Prop where
  eq : PySem.W.findIn K (.ref C) "__eq__" = some (some (.ref f))
  fn : PySem.W.isFn K (.ref f) = true
  ne : PySem.W.findIn K (.ref C) "__ne__" = some (some (.builtin "object.__ne__"))
  ob : PySem.W.mroIn K C (.type "object") = some true
/-- a class with an own == -/
def GEq (P : Program) (w : World) (K : PySem.W.Frag) (mg : Str → Option Value) (base : Heap) (k : Nat) (ps : List Str) (W : Wd) (c : Nat) (F : Fn) : Prop :=
  ∃ g fd, EqC K (W.cls c) g ∧ Binds K fd ps [] ∧ FnOk P w K mg base (L2.CX P w) k g fd ps (spD W F)
def eqo (neg : Bool) (c : Nat) (F : Fn) (x y : D) : M D := fun S => match objOf S c x, objOf S c y with
  | some _, some _ => (match callF F [x, y] S with
    | .ok (.bl b) S' => .ok (.bl (if neg then !b else b)) S'
    | _ => .stuck)
  | _, _ => .stuck
def eqoM := eqo false
def neoM := eqo true
section
variable {W : Wd} {Wx : WX} {X : Cx} {A A' A0 A1 : Addr → Prop} {μ μ1 μ' r : List Addr} {O : Nat → Option Addr} {H H1 H' : Hp} {σ : St} {S S1 S' : Stt} {d : D} {o e : Expr} {f g : M D} {pos p pos' : Pos}
/-- the own == runs, somewhere below -/
theorem run_eqo {σ' : St} {k : Nat} {fa : Addr} {fd : FuncData} {ps : List Str} {F : Fn} {pins : List (Addr × Obj)} {s : Shared} {Ar : Around} {a b : Addr} {dx dy : D} {d : D} (Fn : FnOk X.prog X.w X.K X.mg X.base (L2.CX X.prog X.w) k fa fd ps (spD W F)) (hb : Binds X.K fd ps [])
    (I : Inv X pins σ H s) (hr : Room k Ar) (hfr : Ar.frames = X.A.frames) (rs : RepS W A0 μ O H σ' S) (r1 : Rep W (Av A0 μ O) μ H dx (.ref a)) (r2 : Rep W (Av A0 μ O) μ H dy (.ref b)) (hc : callF F [dx, dy] S = .ok d S') {R : Value → Shared → Prop}
    (fin : ∀ v u s' H' μ', Step (Ch μ O) μ μ' H H' → RepS W A0 μ' O H' σ' S' → Rep W (Av A0 μ' O) μ' H' d v → Inv X pins σ H' s' → RelV v u → R u s') : wpAny (model X.prog X.w) Ar (call (.ref fa) [.ref a, .ref b]) R X.xe s := by
  have hsp : spD W F [.ref a, .ref b] H (fun v H' => ∃ μ', Step (Ch μ O) μ μ' H H' ∧ RepS W A0 μ' O H' σ' S' ∧ Rep W (Av A0 μ' O) μ' H' d v) (WE WF σ') := by
    refine spD_of (Wx := WF) rs (reps_cons r1 (reps_cons r2 reps_nil)) ?_
    rw [hc]
    exact fun v H' μ' st rs' r => ⟨μ', st, rs', r⟩
  have e0 : Env0 X.prog X.w X.K X.mg X.base Ar X.stack s H := by
    have e := I.env0
    exact ⟨by rw [hfr]; exact e.frames, e.mod, e.bs, e.bsz, e.funs, e.frf, e.hok, e.bare⟩
  have hl := Fn.len _ _ _ _ hsp
  have rv : Vals [V.ref a, V.ref b] [Value.ref a, Value.ref b] := .cons rfl (.cons rfl .nil)
  refine wpAny_call (codeAny_mono (Fn.run Ar X.stack s H ⟨[.ref a, .ref b], []⟩ [.ref a, .ref b] [.ref a, .ref b] _ (WE WF σ') hr e0 (by
    have := hb s [.ref a, .ref b] I.kIn (by simpa using hl)
    simpa using this) rv hsp) fun r s' hq => ?_)
  cases r with
  | error e =>
    obtain ⟨_, _, _, _, _, _, _, _, _, _, _, _, z⟩ := hq
    exact z.elim
  | ok fl =>
    cases fl with
    | ret u =>
      obtain ⟨v, H', I', rw', μ', st, rs', r'⟩ := I.after hq
      exact fin v u s' H' μ' st rs' r' I' rw'
    | next => exact False.elim hq
    | brk => exact False.elim hq
    | cont => exact False.elim hq
theorem notFirst_self {K : PySem.W.Frag} {C : Addr} : PySem.W.notFirst K C (.ref C) = true := by simp [PySem.W.notFirst]
/-- both sides data -/
def rDD (W : Wd) (Wx : WX) (op : D → D → M D) : R2 := fun x y H Q => ∃ σ A0 μ O S dx dy, RepS W A0 μ O H σ S ∧ Rep W (Av A0 μ O) μ H dx x ∧ Rep W (Av A0 μ O) μ H dy y ∧ PostG W Wx (rlD W) A0 μ O H σ (op dx dy S) Q
theorem op2_impD {op : D → D → M D} {Q : VK} (h : tD W Wx (op2 f g op) σ H Q) : tOp (rDD W Wx op) (tD W Wx f) (tD W Wx g) σ H Q := by
  refine tG_mono (tG_bind (rl := rlD W) h) fun v H1 ⟨A0, μ1, O, S1, x, rs1, r1, p1⟩ => ?_
  refine tG_mono (tG_bindK (rl := rlD W) keeps_rep rs1 r1 p1) fun w H2 ⟨μ2, S2, y, rs2, r2, ry, p2⟩ => ?_
  exact ⟨σ, A0, μ2, O, S2, x, y, rs2, r2, ry, p2⟩
theorem de_cmpD {o : CmpOp} {op : D → D → M D} {a b : Expr} (ho : OpR X (compareOp o) (rDD W Wx op)) (ha : PE X a (tD W Wx f)) (hb : PE X b (tD W Wx g)) (hm : behindInMarks o b = false) : PE X (.Compare a [o] [b] pos) (tD W Wx (op2 f g op)) := PE.imp (pe_cmpR ho ha hb hm) fun σ H Q h => op2_impD h
theorem dt_cmpD {o : CmpOp} {op : D → D → M D} {a b : Expr} (ho : OpR X (compareOp o) (rDD W Wx op)) (ha : PE X a (tD W Wx f)) (hb : PE X b (tD W Wx g)) (hm : behindInMarks o b = false) : PT X (.Compare a [o] [b] pos) (tDB W Wx (M.bnd (op2 f g op) bool1)) :=
  PT.imp (pt_cmpR ho ha hb hm) fun σ H Q h => op2_impD (bool1_imp h)
theorem eqo_case {neg : Bool} {c : Nat} {F : Fn} {dx dy : D} {Q : VK} (p : PostG W Wx (rlD W) A0 μ O H σ (eqo neg c F dx dy S) Q) : ∃ q1 q2 b S', objOf S c dx = some q1 ∧ objOf S c dy = some q2 ∧ callF F [dx, dy] S = .ok (.bl b) S' ∧ PostG W Wx (rlD W) A0 μ O H σ (.ok (.bl (if neg then !b else b)) S') Q := by
  unfold eqo at p
  cases h1 : objOf S c dx with
  | none => rw [h1] at p; exact p.elim
  | some q1 =>
    rw [h1] at p
    cases h2 : objOf S c dy with
    | none => rw [h2] at p; exact p.elim
    | some q2 =>
      rw [h2] at p
      cases hc : callF F [dx, dy] S with
      | exn _ _ _ => rw [hc] at p; exact p.elim
      | stuck => rw [hc] at p; exact p.elim
      | ok d S' =>
        rw [hc] at p
        cases d with
        | bl b => exact ⟨q1, q2, b, S', rfl, rfl, rfl, p⟩
        | _ => exact p.elim
theorem op_eqoM {c k : Nat} {ps : List Str} {F : Fn} {j : Nat} (C : CtxOk X W Wx j) (G : GEq X.prog X.w X.K X.mg X.base k ps W c F) (hk : k ≤ j) : OpR X (compareOp .Eq) (rDD W Wx (eqoM c F)) := by
  rintro pins s σ H x y v u Q I rx ry ⟨σ', A0, μ, O, S, dx, dy, rs, r1, r2, p⟩
  obtain ⟨g, fd, ec, hb, ok⟩ := G
  obtain ⟨q1, q2, b, S', o1, o2, hc, p⟩ := eqo_case p
  obtain ⟨a1, z1, f1, e1, g1, _, _⟩ := objOf_at rs o1 r1
  obtain ⟨a2, z2, f2, e2, g2, _, _⟩ := objOf_at rs o2 r2
  subst e1; subst e2
  obtain rfl : v = Value.ref a1 := rx
  obtain rfl : u = Value.ref a2 := ry
  obtain ⟨mA, J, _⟩ := ins_get I.hok g1
  obtain ⟨mB, J', _⟩ := ins_get I.hok g2
  obtain ⟨od, J, _⟩ := J.look
  obtain ⟨od', J', _⟩ := J'.look
  obtain ⟨m, hF⟩ := I.fr
  show wpAny (model X.prog X.w) X.A (richCompare .Eq (.ref a1) (.ref a2)) (EP X pins σ Q) X.xe s
  refine PySem.W.cmp_K (op := .Eq) (tb := .ref (W.cls c)) (by have := room12 C.room; unfold depthLine at this; omega) hF I.ok.mod.kin J J'.type notFirst_self ec.eq ec.fn ?_
  refine run_eqo ok hb I (C.room.mono hk) rfl rs r1 r2 hc fun w u' s' H' μ' st rs' rw' I' ru => ?_
  have e : w = .bl b := by simpa only [Rep] using rw'
  subst e
  cases ru
  show EP X pins σ Q (.bool b) s'
  exact ⟨.bl b, H', I', rfl, p (.bl b) H' μ' st rs' (by simp only [rlD, Rep]; rfl)⟩
theorem op_neoM {c k : Nat} {ps : List Str} {F : Fn} {j : Nat} (C : CtxOk X W Wx j) (G : GEq X.prog X.w X.K X.mg X.base k ps W c F) (hk : k + 1 ≤ j) : OpR X (compareOp .NotEq) (rDD W Wx (neoM c F)) := by
  rintro pins s σ H x y v u Q I rx ry ⟨σ', A0, μ, O, S, dx, dy, rs, r1, r2, p⟩
  obtain ⟨g, fd, ec, hb, ok⟩ := G
  obtain ⟨q1, q2, b, S', o1, o2, hc, p⟩ := eqo_case p
  obtain ⟨a1, z1, f1, e1, g1, _, _⟩ := objOf_at rs o1 r1
  obtain ⟨a2, z2, f2, e2, g2, _, _⟩ := objOf_at rs o2 r2
  subst e1; subst e2
  obtain rfl : v = Value.ref a1 := rx
  obtain rfl : u = Value.ref a2 := ry
  obtain ⟨mA, J, _⟩ := ins_get I.hok g1
  obtain ⟨mB, J', _⟩ := ins_get I.hok g2
  obtain ⟨od, J, _⟩ := J.look
  obtain ⟨od', J', _⟩ := J'.look
  obtain ⟨m, hF⟩ := I.fr
  show wpAny (model X.prog X.w) X.A (richCompare .NotEq (.ref a1) (.ref a2)) (EP X pins σ Q) X.xe s
  refine ne_rich (tb := .ref (W.cls c)) (by have := room12 C.room; unfold depthLine at this; omega) hF I.ok.mod.kin J J'.type notFirst_self ec.ob ec.ne ec.eq ec.fn ?_
  refine run_eqo (Ar := X.A.in1) ok hb I (C.room.mono hk).in1 rfl rs r1 r2 hc fun w u' s' H' μ' st rs' rw' I' ru => ?_
  have e : w = .bl b := by simpa only [Rep] using rw'
  subst e
  cases ru
  exact ⟨b, rfl, .bl (!b), H', I', rfl, p (.bl (!b)) H' μ' st rs' (by simp only [rlD, Rep]; rfl)⟩
/-! ### properties, methods, isinstance of an own class -/
def noX {α : Type} (f : M α) : M α := fun S => match f S with
  | .ok a S' => .ok a S'
  | _ => .stuck
def propM (c : Nat) (F : Fn) (f : M D) : M D := M.bnd f fun x S => match objOf S c x with
  | some _ => noX (callF F [x]) S
  | none => .stuck
/-- a property of a class -/
def GPr (P : Program) (w : World) (K : PySem.W.Frag) (mg : Str → Option Value) (base : Heap) (k : Nat) (nm : Str) (ps : List Str) (W : Wd) (c : Nat) (F : Fn) : Prop :=
  ∃ p g fd, Cls K (W.cls c) ∧ PropOf K (W.cls c) nm p g ∧ Binds K fd ps [] ∧ FnOk P w K mg base (L2.CX P w) k g fd ps (spD W F)
theorem de_prop {c k j : Nat} {nm : Str} {ps : List Str} {F : Fn} (C : CtxOk X W Wx j) (G : GPr X.prog X.w X.K X.mg X.base k nm ps W c F) (hk : k + 1 ≤ j) (he : PE X e (tD W Wx f)) (hb : attributeBase e nm X.env (eval e X.env) = eval e X.env := by rfl) : PE X (.Attribute e nm pos) (tD W Wx (propM c F f)) := by
  obtain ⟨p, g, fd, cl, hp, hbi, ok⟩ := G
  refine PE.imp (pe_prop (E := fun _ _ _ => False) (dvs := []) (ds := []) he cl hp ok (C.room.mono hk) hbi .nil (fun _ _ _ _ _ _ _ z => by obtain ⟨_, _, _, _, _, _, _, _, _, _, _, _, z⟩ := z; exact z.elim) hb) fun σ H Q h => ?_
  refine tG_mono (tG_bind (rl := rlD W) h) fun v H1 ⟨A0, μ1, O, S1, x, rs1, r1, p1⟩ => ?_
  cases hq : objOf S1 c x with
  | none => rw [hq] at p1; exact p1.elim
  | some q =>
    rw [hq] at p1
    obtain ⟨a, dx, fvs, e, h1, _, _⟩ := objOf_at rs1 hq r1
    subst e
    refine ⟨a, dx, fvs, rfl, h1, ?_⟩
    have p2 : PostG W WF (rlD W) A0 μ1 O H1 σ (callF F [x] S1) Q := by
      have p1 : PostG W Wx (rlD W) A0 μ1 O H1 σ (noX (callF F [x]) S1) Q := p1
      unfold noX at p1
      cases hc : callF F [x] S1 with
      | ok d S' => rw [hc] at p1; exact p1
      | exn _ _ _ => rw [hc] at p1; exact p1.elim
      | stuck => rw [hc] at p1; exact p1
    exact spD_of (Wx := WF) rs1 (reps_cons r1 reps_nil) p2
/-- a method of a class -/
def GMe (P : Program) (w : World) (K : PySem.W.Frag) (mg : Str → Option Value) (base : Heap) (k : Nat) (nm : Str) (ps : List Str) (W : Wd) (c : Nat) (F : Fn) : Prop :=
  ∃ g fd, Cls K (W.cls c) ∧ Meth K (W.cls c) nm g ∧ Binds K fd ps [] ∧ FnOk P w K mg base (L2.CX P w) k g fd ps (spD W F)
def methM (c : Nat) (nm : Str) (F : Fn) (f : M D) (fs : List (M D)) : M D := M.bnd f fun x S => match objOf S c x with
  | some q => if (q.1.any fun g => decide (g = nm)) = true then .stuck else (M.bnd (seqM fs) fun xs => callF F (x :: xs)) S
  | none => .stuck
def tMethS (C : Addr) (m : Str) (sp : Sp) (E : St → XK) (ta : TE) (t : TA) : TE := fun σ H Q => ta σ H fun x H1 => ∃ a dx fs, x = .ref a ∧ H1 a = some (.ins C dx fs) ∧ fs.lookup m = none ∧ t σ H1 fun vs H2 => sp (x :: vs) H2 Q (E σ)
theorem pe_methT {CX : CXT} {k : Nat} {fa C : Addr} {fd : FuncData} {ps : List Str} {sp : Sp} {E : St → XK} {m : Str} {apos : Pos} {es : List Expr} {ta : TE} {t : TA} {pl : Sem Bool} (he : PE X o ta) (c : Cls X.K C) (hm : Meth X.K C m fa) (F : FnOk X.prog X.w X.K X.mg X.base CX k fa fd ps sp) (hr : Room k X.A) (hb : Binds X.K fd ps []) (hx : ∀ σ, PassesAt CX X σ (E σ)) (ha : PA X (e :: es) t)
    (hst : starEach (e :: es) X.env = (false, eval e X.env) :: starEach es X.env := by rfl) (hpl : (backTo pos (starEach es X.env)).any (·.1) = false := by rfl)
    (ht : eval (.Call (.Attribute o m apos) (e :: es) [] pos) X.env = (do
      let ov ← eval o X.env
      standAt apos.atName
      let (f, first) ← holding [ov] (getMethod ov m pl)
      callWith pos f first (backTo pos (starEach (e :: es) X.env)) (backToKw pos (keywordEach [] X.env))) := by rfl) :
    PE X (.Call (.Attribute o m apos) (e :: es) [] pos) (tMethS C m sp E ta t) := by
  refine ⟨fun pins s σ H Q I h => ?_⟩
  refine PySem.W.methodCall_KW (pl := pl) (thn (he.run pins s σ H _ I h) fun u s1 ⟨x, H1, I1, rx, a, dx, fs, ex, ea, l, q⟩ => ?_) ht
  subst ex
  obtain rfl : u = Value.ref a := rx
  refine getmeth_ok I1 ea c hm l ?_
  refine PySem.W.callWith_K (first := [.ref a]) (h₀ := X.base) I.ok.mod.kin hm.kp (thn (ha.run pos pins s1 σ H1 _ I1 q) fun us s2 ⟨vs, H2, I2, r, q2⟩ => ⟨I2.kIn, ?_⟩) hst hpl
  exact run_fnS (us := .ref a :: us) (vs := .ref a :: vs) F hr hb (hx σ) I2 (.cons rfl r) q2
theorem pe_methT0 {CX : CXT} {k : Nat} {fa C : Addr} {fd : FuncData} {ps : List Str} {sp : Sp} {E : St → XK} {m : Str} {apos : Pos} {ta : TE} {pl : Sem Bool} (he : PE X o ta) (c : Cls X.K C) (hm : Meth X.K C m fa) (F : FnOk X.prog X.w X.K X.mg X.base CX k fa fd ps sp) (hr : Room k X.A) (hb : Binds X.K fd ps []) (hx : ∀ σ, PassesAt CX X σ (E σ))
    (ht : eval (.Call (.Attribute o m apos) [] [] pos) X.env = (do
      let ov ← eval o X.env
      standAt apos.atName
      let (f, first) ← holding [ov] (getMethod ov m pl)
      callWith pos f first (backTo pos (starEach [] X.env)) (backToKw pos (keywordEach [] X.env))) := by rfl) :
    PE X (.Call (.Attribute o m apos) [] [] pos) (tMethS C m sp E ta tNil) := by
  refine ⟨fun pins s σ H Q I h => ?_⟩
  refine PySem.W.methodCall_KW (pl := pl) (thn (he.run pins s σ H _ I h) fun u s1 ⟨x, H1, I1, rx, a, dx, fs, ex, ea, l, q⟩ => ?_) ht
  subst ex
  obtain rfl : u = Value.ref a := rx
  refine getmeth_ok I1 ea c hm l ?_
  exact PySem.W.callWith_K0 (first := [.ref a]) I1.kIn hm.kp (run_fnS (us := [.ref a]) (vs := [.ref a]) F hr hb (hx σ) I1 (.cons rfl .nil) q)
theorem lookup_no {nm : Str} : ∀ {fvs : List (Str × V)}, ((fvs.map (·.1)).any fun g => decide (g = nm)) = false → fvs.lookup nm = none
  | [], _ => rfl
  | (g, v) :: r, h => by
    simp only [List.map_cons, List.any_cons, Bool.or_eq_false_iff, decide_eq_false_iff_not] at h
    have hb : (nm == g) = false := beq_eq_false_iff_ne.mpr fun z => h.1 z.symm
    simp only [List.lookup, hb]
    exact lookup_no h.2
theorem meth_imp {c : Nat} {nm : Str} {F : Fn} {fs : List (M D)} {Q : VK} (h : tD W Wx (methM c nm F f fs) σ H Q) : tMethS (W.cls c) nm (spD W F) (WE Wx) (tD W Wx f) (tDA W Wx (seqM fs)) σ H Q := by
  refine tG_mono (tG_bind (rl := rlD W) h) fun v H1 ⟨A0, μ1, O, S1, x, rs1, r1, p1⟩ => ?_
  cases hq : objOf S1 c x with
  | none => rw [hq] at p1; exact p1.elim
  | some q =>
    rw [hq] at p1
    dsimp only at p1
    obtain ⟨a, dx, fvs, e, h1, h2, _⟩ := objOf_at rs1 hq r1
    subst e
    split at p1
    · exact p1.elim
    · rename_i hn
      have hn : (q.1.any fun g => decide (g = nm)) = false := (Bool.not_eq_true _).mp hn
      refine ⟨a, dx, fvs, rfl, h1, lookup_no (by rw [h2]; exact hn), ?_⟩
      refine tG_mono (tG_bindK (rl := rlA W) keeps_rep rs1 r1 p1) fun vs H2 ⟨μ2, S2, ds, rs2, r2, rd, p2⟩ => ?_
      exact spD_of rs2 (reps_cons r2 rd) p2
theorem de_meth {c k j : Nat} {nm : Str} {ps : List Str} {F : Fn} {fs : List (M D)} {es : List Expr} {apos : Pos} {pl : Sem Bool} (C : CtxOk X W Wx j) (G : GMe X.prog X.w X.K X.mg X.base k nm ps W c F) (hk : k ≤ j) (he : PE X o (tD W Wx f)) (ha : PA X (e :: es) (tDA W Wx (seqM fs)))
    (hst : starEach (e :: es) X.env = (false, eval e X.env) :: starEach es X.env := by rfl) (hpl : (backTo pos (starEach es X.env)).any (·.1) = false := by rfl)
    (ht : eval (.Call (.Attribute o nm apos) (e :: es) [] pos) X.env = (do
      let ov ← eval o X.env
      standAt apos.atName
      let (f, first) ← holding [ov] (getMethod ov nm pl)
      callWith pos f first (backTo pos (starEach (e :: es) X.env)) (backToKw pos (keywordEach [] X.env))) := by rfl) : PE X (.Call (.Attribute o nm apos) (e :: es) [] pos) (tD W Wx (methM c nm F f fs)) := by
  obtain ⟨g, fd, cl, hm, hb, ok⟩ := G
  exact PE.imp (pe_methT (E := WE Wx) he cl hm ok (C.room.mono hk) hb (fun σ => passAt C.takes σ) ha hst hpl ht) fun σ H Q h => meth_imp h
theorem de_meth0 {c k j : Nat} {nm : Str} {ps : List Str} {F : Fn} {apos : Pos} {pl : Sem Bool} (C : CtxOk X W Wx j) (G : GMe X.prog X.w X.K X.mg X.base k nm ps W c F) (hk : k ≤ j) (he : PE X o (tD W Wx f))
    (ht : eval (.Call (.Attribute o nm apos) [] [] pos) X.env = (do
      let ov ← eval o X.env
      standAt apos.atName
      let (f, first) ← holding [ov] (getMethod ov nm pl)
      callWith pos f first (backTo pos (starEach [] X.env)) (backToKw pos (keywordEach [] X.env))) := by rfl) : PE X (.Call (.Attribute o nm apos) [] [] pos) (tD W Wx (methM c nm F f [])) := by
  obtain ⟨g, fd, cl, hm, hb, ok⟩ := G
  refine PE.imp (pe_methT0 (E := WE Wx) he cl hm ok (C.room.mono hk) hb (fun σ => passAt C.takes σ) ht) fun σ H Q h => ?_
  have h := meth_imp h
  refine tG_mono h fun v H1 ⟨a, dx, fs, e, h1, h2, q⟩ => ⟨a, dx, fs, e, h1, h2, ?_⟩
  obtain ⟨A0, μ, O, S, rs, p⟩ := q
  exact p [] H1 μ (Step.refl _ _ _) rs reps_nil
/-- what isinstance asks of a class -/
structure IsC (K : PySem.W.Frag) (C : Addr) : Prop where
  cl : Cls K C
  ha : PySem.W.findIn K (.ref C) "__class__" = some (some (.builtin "object.__class__"))
  hn : PySem.W.specialIn K (.builtin "object.__class__") "__get__" = some (some (.builtin "getset_descriptor.__get__"))
  htk : PySem.W.takesIn K (.builtin "object.__class__") = some true
  hm : PySem.W.mroIn K C (.type "object") = some true
  self : PySem.W.kitOne K (.ref C) (.ref C) = some true
  tys : ∀ t ∈ ["NoneType", "bool", "int", "str", "list", "tuple", "dict"], PySem.W.kitOne K (.type t) (.ref C) = some false
def isoM (c : Nat) (f : M D) : M D := M.bnd f fun x S => match objOf S c x with
  | some _ => .ok (.bl true) S
  | none => (match tyD x with
    | some _ => .ok (.bl false) S
    | none => .stuck)
theorem de_iso {c : Nat} {x y : Str} {p1 p2 : Pos} (hK : X.K = W.K) (ic : IsC X.K (W.cls c)) (hg : Gl X x) (hm : X.mg x = none) (hv : bootBuiltins x = some (.builtin "isinstance")) (hgy : Gl X y) (hmy : X.mg y = some (.ref (W.cls c))) (ha : PE X e (tD W Wx f)) (hn : x ≠ "__name__" := by decide) (hdb : (x == ("__debug__" : Str)) = false := by decide) (hdy : (y == ("__debug__" : Str)) = false := by decide)
    (he : starEach [e, .Name y p2] X.env = (false, eval e X.env) :: starEach [.Name y p2] X.env := by rfl) (he2 : starEach [.Name y p2] X.env = (false, eval (.Name y p2) X.env) :: starEach [] X.env := by rfl) (hpl : (backTo pos (starEach [.Name y p2] X.env)).any (·.1) = false := by rfl) :
    PE X (.Call (.Name x p1) [e, .Name y p2] [] pos) (tD W Wx (isoM c f)) :=
  PE.imp (pe_callB call_isi hg hm hv (pa_cons ha (pa_cons (pe_glob (v := .ref (W.cls c)) hgy hmy rfl hdy) pa_nil he2) he) hn hdb he hpl) fun σ H Q h => by
    refine tG_mono (tG_bind (rl := rlD W) h) fun v H1 ⟨A0, μ1, O, S1, x, rs1, r1, p1⟩ => ?_
    show rIsi X.K [v, .ref (W.cls c)] H1 Q
    cases hq : objOf S1 c x with
    | some q =>
      rw [hq] at p1
      obtain ⟨a, dx, fvs, e, h1, h2, _⟩ := objOf_at rs1 hq r1
      subst e
      exact ⟨_, _, .ref (W.cls c), .ref (W.cls c), true, rfl, .own _, .base (.ins h1 ic.cl ic.ha ic.hn ic.htk ic.hm), ic.self, q_sc rs1 p1 (.bl true)⟩
    | none =>
      rw [hq] at p1
      dsimp only at p1
      cases ht : tyD x with
      | none => rw [ht] at p1; exact p1.elim
      | some t =>
        rw [ht] at p1
        obtain ⟨h1, h2⟩ := tyD_of (X := X) ht (.inl r1)
        exact ⟨v, _, .type t, .ref (W.cls c), false, rfl, .own _, .base h1, ic.tys t h2, q_sc rs1 p1 (.bl false)⟩
end
end DL
end
section
set_option Elab.async false
set_option linter.all false
set_option maxRecDepth 100000
namespace DL
open PySem PySem.Spec L2
/-! ### calls by name -/
def permL {α : Type} (ix : List Nat) (l : List α) : List α := ix.filterMap fun i => l[i]?
/-- the def binds n values and those of the keywords ks, the parameters as ix says -/
def KwB (K : PySem.W.Frag) (fd : FuncData) (ps : List Str) (n : Nat) (ks : List Str) (ix : List Nat) : Prop := ∀ (s : Shared) (us ws : List Value), K.In s.heap → us.length = n → ws.length = ks.length → BindsTo s fd ⟨us, ks.zip ws⟩ (ps.zip (permL ix (us ++ ws)))
theorem perm_vals {ix : List Nat} {xs : List V} {us : List Value} (h : Vals xs us) : Vals (permL ix xs) (permL ix us) := by
  unfold permL
  induction ix with
  | nil => exact .nil
  | cons i ix ih =>
    simp only [List.filterMap_cons]
    by_cases hi : i < xs.length
    · have hi2 : i < us.length := by rw [← h.length]; exact hi
      obtain ⟨u, hu, ru⟩ := h.get (List.getElem?_eq_getElem hi)
      rw [List.getElem?_eq_getElem hi, hu]
      exact .cons ru ih
    · rw [List.getElem?_eq_none (by omega), List.getElem?_eq_none (by rw [← h.length]; omega)]
      exact ih
theorem perm_reps {W : Wd} {A : Addr → Prop} {μ : List Addr} {H : Hp} {ix : List Nat} {ds : List D} {xs : List V} (h : Reps W A μ H ds xs) : Reps W A μ H (permL ix ds) (permL ix xs) := by
  unfold permL
  induction ix with
  | nil => exact reps_nil
  | cons i ix ih =>
    simp only [List.filterMap_cons]
    by_cases hi : i < ds.length
    · obtain ⟨v, hv, rv⟩ := reps_get h (List.getElem?_eq_getElem hi)
      rw [List.getElem?_eq_getElem hi, hv]
      exact reps_cons rv ih
    · rw [List.getElem?_eq_none (by omega), List.getElem?_eq_none (by rw [reps_length h]; omega)]
      exact ih
section
variable {W : Wd} {Wx : WX} {X : Cx} {A A' A0 A1 : Addr → Prop} {μ μ1 μ' r : List Addr} {O : Nat → Option Addr} {H H1 H' : Hp} {σ : St} {S S1 S' : Stt} {d : D} {o e : Expr} {es : List Expr} {f g : M D} {fs gs : List (M D)} {pos p pos' kpos apos : Pos} {kws : List Keyword} {nm : Option Str}
theorem PK.imp {t t' : TA} (h : PK X kws t) (i : ∀ σ H Q, t' σ H Q → t σ H Q) : PK X kws t' := ⟨fun pos pins s σ H Q I hq => h.run pos pins s σ H Q I (i σ H Q hq)⟩
theorem dk_nil : PK X [] (tDA W Wx (seqM [])) := PK.imp pk_nil fun σ H Q ⟨A0, μ, O, S, rs, p⟩ => tG_ret (rl := rlA W) rs p reps_nil
theorem dk_cons (ha : PE X e (tD W Wx f)) (hr : PK X kws (tDA W Wx (seqM fs))) : PK X (⟨nm, e, kpos⟩ :: kws) (tDA W Wx (seqM (f :: fs))) :=
  PK.imp (pk_cons ha hr) fun σ H Q h => tG_mono (tG_bind (rl := rlD W) h) fun v H1 ⟨A0, μ1, O, S1, x, rs1, r1, p1⟩ => by
    refine tG_mono (tG_bindK (rl := rlA W) keeps_rep rs1 r1 p1) fun w H2 ⟨μ2, S2, y, rs2, r2, ry, p2⟩ => ?_
    exact tG_ret (rl := rlA W) rs2 p2 (reps_cons r2 ry)
def tKw (sp : Sp) (n m : Nat) (ix : List Nat) (E : St → XK) (t tk : TA) : TE := fun σ H Q => t σ H fun vs H1 => tk σ H1 fun zs H2 => vs.length = n ∧ zs.length = m ∧ sp (permL ix (vs ++ zs)) H2 Q (E σ)
theorem run_fnKS {CX : CXT} {k : Nat} {fa : Addr} {fd : FuncData} {ps ks : List Str} {n : Nat} {ix : List Nat} {sp : Sp} {E : XK} {pins : List (Addr × Obj)} {s : Shared} {Q : VK} {us ws : List Value} {vs zs : List V} (F : FnOk X.prog X.w X.K X.mg X.base CX k fa fd ps sp) (hr : Room k X.A) (hb : KwB X.K fd ps n ks ix) (hx : PassesAt CX X σ E)
    (I : Inv X pins σ H s) (r : Vals vs us) (rz : Vals zs ws) (hn : vs.length = n) (hm : zs.length = ks.length) (h : sp (permL ix (vs ++ zs)) H Q E) : wpAny (model X.prog X.w) X.A (call (.ref fa) us (ks.zip ws)) (EP X pins σ Q) X.xe s := by
  have r2 := perm_vals (ix := ix) (r.append rz)
  refine wpAny_call (codeAny_mono (F.run X.A X.stack s H ⟨us, ks.zip ws⟩ (permL ix (us ++ ws)) _ Q E hr I.env0 (hb s us ws I.kIn (by rw [← r.length]; exact hn) (by rw [← rz.length]; exact hm)) r2 h) fun r s' hq => ?_)
  cases r with
  | error e => exact hx pins H s e s' I hq
  | ok fl =>
    cases fl with
    | ret u => exact I.after hq
    | next => exact False.elim hq
    | brk => exact False.elim hq
    | cont => exact False.elim hq
theorem pe_callKS {CX : CXT} {k : Nat} {fa : Addr} {fd : FuncData} {ps ks : List Str} {n : Nat} {ix : List Nat} {sp : Sp} {E : St → XK} {x : Str} {t tk : TA} (F : FnOk X.prog X.w X.K X.mg X.base CX k fa fd ps sp) (hr : Room k X.A) (hg : Gl X x) (hm : X.mg x = some (.ref fa)) (hk : PySem.W.keepIn X.K (.ref fa) = true) (hb : KwB X.K fd ps n ks ix) (hx : ∀ σ, PassesAt CX X σ (E σ))
    (ha : PA X (e :: es) t) (hkw : PK X kws tk) (hall : (backToKw pos (keywordEach kws X.env)).all (·.1.isSome) = true := by rfl) (hks : (backToKw pos (keywordEach kws X.env)).filterMap (·.1) = ks := by rfl)
    (hdb : (x == ("__debug__" : Str)) = false := by decide) (he : starEach (e :: es) X.env = (false, eval e X.env) :: starEach es X.env := by rfl)
    (hpl : ((backTo pos (starEach (e :: es) X.env)).any (·.1) || (backToKw pos (keywordEach kws X.env)).any (·.1.isNone)) = false := by rfl) :
    PE X (.Call (.Name x p) (e :: es) kws pos) (tKw sp n ks.length ix E t tk) := by
  refine ⟨fun pins s σ H Q I h => ?_⟩
  refine wpAny_Call_Name_kw (ld_glob I hg hm ?_ hdb)
  refine PySem.W.callWith_KW (h₀ := X.base) I.ok.mod.kin hk hall (thn (ha.run pos pins s σ H _ I h) fun us s1 ⟨vs, H1, I1, r, q⟩ => ?_) hpl he
  refine thn (hkw.run pos pins s1 σ H1 _ I1 q) fun ws s2 ⟨zs, H2, I2, rz, q1, q2, q3⟩ => ⟨I2.kIn, ?_⟩
  rw [hks]
  exact run_fnKS F hr hb (hx σ) I2 r rz q1 q2 q3
theorem pe_callKS0 {CX : CXT} {k : Nat} {fa : Addr} {fd : FuncData} {ps ks : List Str} {ix : List Nat} {sp : Sp} {E : St → XK} {x : Str} {tk : TA} (F : FnOk X.prog X.w X.K X.mg X.base CX k fa fd ps sp) (hr : Room k X.A) (hg : Gl X x) (hm : X.mg x = some (.ref fa)) (hk : PySem.W.keepIn X.K (.ref fa) = true) (hb : KwB X.K fd ps 0 ks ix) (hx : ∀ σ, PassesAt CX X σ (E σ))
    (hkw : PK X kws tk) (hall : (backToKw pos (keywordEach kws X.env)).all (·.1.isSome) = true := by rfl) (hks : (backToKw pos (keywordEach kws X.env)).filterMap (·.1) = ks := by rfl)
    (hdb : (x == ("__debug__" : Str)) = false := by decide) (hpl : ((backTo pos (starEach [] X.env)).any (·.1) || (backToKw pos (keywordEach kws X.env)).any (·.1.isNone)) = false := by rfl) :
    PE X (.Call (.Name x p) [] kws pos) (tKw sp 0 ks.length ix E tNil tk) := by
  refine ⟨fun pins s σ H Q I h => ?_⟩
  refine wpAny_Call_Name_kw (ld_glob I hg hm ?_ hdb)
  refine PySem.W.callWith_KW0 (h₀ := X.base) I.ok.mod.kin hk hall ?_ hpl
  refine thn (hkw.run pos pins s σ H _ I h) fun ws s2 ⟨zs, H2, I2, rz, q1, q2, q3⟩ => ⟨I2.kIn, ?_⟩
  rw [hks]
  exact run_fnKS (us := []) F hr hb (hx σ) I2 .nil rz q1 q2 q3
def kwM (ix : List Nat) (k : List D → M D) (fs gs : List (M D)) : M D := M.bnd (seqM fs) fun xs => M.bnd (seqM gs) fun ys => k (permL ix (xs ++ ys))
def callK (F : Fn) (ix : List Nat) (fs gs : List (M D)) : M D := kwM ix (callF F) fs gs
theorem seq_impK {α β : Type} {rl : Rl β α} {fs : List (M D)} {k : List D → M α} {Q : β → Hp → Prop} {P : List Addr → Hp → Prop} (kp : Keeps W A0 O σ P) (rs : RepS W A0 μ O H σ S) (hp : P μ H) (p : PostG W Wx rl A0 μ O H σ ((M.bnd (seqM fs) k) S) Q) :
    tDA W Wx (seqM fs) σ H (fun vs H1 => ∃ μ1 S1 ds, RepS W A0 μ1 O H1 σ S1 ∧ P μ1 H1 ∧ Reps W (Av A0 μ1 O) μ1 H1 ds vs ∧ ds.length = fs.length ∧ PostG W Wx rl A0 μ1 O H1 σ (k ds S1) Q) := by
  refine ⟨A0, μ, O, S, rs, ?_⟩
  unfold M.bnd at p
  cases e : seqM fs S with
  | ok a S1 =>
    rw [e] at p
    exact fun v H1 μ1 st rs1 r1 => ⟨μ1, S1, a, rs1, kp _ _ _ _ _ rs st hp, r1, seqM_length e, PostG.step st p⟩
  | exn c q S1 => rw [e] at p; exact p
  | stuck => rw [e] at p; exact p
theorem kw_imp {F : Fn} {ix : List Nat} {Q : VK} {t : TA} (ht : t = tDA W Wx (seqM fs) ∨ (t = tNil ∧ fs = [])) (h : tD W Wx (callK F ix fs gs) σ H Q) : tKw (spD W F) fs.length gs.length ix (WE Wx) t (tDA W Wx (seqM gs)) σ H Q := by
  have core : ∀ {A0 : Addr → Prop} {μ1 : List Addr} {O : Nat → Option Addr} {H1 : Hp} {S1 : Stt} {vs : List V} {ds : List D}, RepS W A0 μ1 O H1 σ S1 → Reps W (Av A0 μ1 O) μ1 H1 ds vs → ds.length = fs.length → PostG W Wx (rlD W) A0 μ1 O H1 σ ((M.bnd (seqM gs) fun ys => callF F (permL ix (ds ++ ys))) S1) Q →
      tDA W Wx (seqM gs) σ H1 (fun zs H2 => vs.length = fs.length ∧ zs.length = gs.length ∧ spD W F (permL ix (vs ++ zs)) H2 Q (WE Wx σ)) := fun {A0 μ1 O H1 S1 vs ds} rs1 r1 hl p1 => by
    refine tG_mono (seq_impK (rl := rlD W) keeps_reps rs1 r1 p1) fun zs H2 ⟨μ2, S2, ys, rs2, r2, ry, hl2, p2⟩ => ?_
    exact ⟨by rw [reps_length r1]; exact hl, by rw [reps_length ry]; exact hl2, spD_of rs2 (perm_reps (reps_append r2 ry)) p2⟩
  rcases ht with ht | ⟨ht, hf⟩
  · subst ht
    exact tG_mono (seq_imp h) fun vs H1 ⟨A0, μ1, O, S1, ds, rs1, r1, hl, p1⟩ => core rs1 r1 hl p1
  · subst ht; subst hf
    obtain ⟨A0, μ, O, S, rs, p⟩ := h
    exact core (vs := []) (ds := []) rs reps_nil rfl p
/-- a def of the module, called by name -/
def GKw (P : Program) (w : World) (K : PySem.W.Frag) (mg : Str → Option Value) (base : Heap) (k : Nat) (x : Str) (ps : List Str) (n : Nat) (ks : List Str) (ix : List Nat) (W : Wd) (F : Fn) : Prop :=
  ∃ f fd, mg x = some (.ref f) ∧ PySem.W.keepIn K (.ref f) = true ∧ KwB K fd ps n ks ix ∧ FnOk P w K mg base (L2.CX P w) k f fd ps (spD W F)
theorem de_callK {x : Str} {ps ks : List Str} {ix : List Nat} {F : Fn} {j k : Nat} (C : CtxOk X W Wx j) (G : GKw X.prog X.w X.K X.mg X.base k x ps fs.length ks ix W F) (hk : k ≤ j) (hg : Gl X x) (ha : PA X (e :: es) (tDA W Wx (seqM fs))) (hkw : PK X kws (tDA W Wx (seqM gs))) (hgl : gs.length = ks.length := by rfl)
    (hall : (backToKw pos (keywordEach kws X.env)).all (·.1.isSome) = true := by rfl) (hks : (backToKw pos (keywordEach kws X.env)).filterMap (·.1) = ks := by rfl)
    (hdb : (x == ("__debug__" : Str)) = false := by decide) (he : starEach (e :: es) X.env = (false, eval e X.env) :: starEach es X.env := by rfl)
    (hpl : ((backTo pos (starEach (e :: es) X.env)).any (·.1) || (backToKw pos (keywordEach kws X.env)).any (·.1.isNone)) = false := by rfl) : PE X (.Call (.Name x p) (e :: es) kws pos) (tD W Wx (callK F ix fs gs)) := by
  obtain ⟨g, fd, hm, hkp, hb, ok⟩ := G
  refine PE.imp (pe_callKS (E := WE Wx) ok (C.room.mono hk) hg hm hkp hb (fun σ => passAt C.takes σ) ha hkw hall hks hdb he hpl) fun σ H Q h => ?_
  rw [← hgl]
  exact kw_imp (.inl rfl) h
theorem de_callK0 {x : Str} {ps ks : List Str} {ix : List Nat} {F : Fn} {j k : Nat} (C : CtxOk X W Wx j) (G : GKw X.prog X.w X.K X.mg X.base k x ps 0 ks ix W F) (hk : k ≤ j) (hg : Gl X x) (hkw : PK X kws (tDA W Wx (seqM gs))) (hgl : gs.length = ks.length := by rfl)
    (hall : (backToKw pos (keywordEach kws X.env)).all (·.1.isSome) = true := by rfl) (hks : (backToKw pos (keywordEach kws X.env)).filterMap (·.1) = ks := by rfl)
    (hdb : (x == ("__debug__" : Str)) = false := by decide) (hpl : ((backTo pos (starEach [] X.env)).any (·.1) || (backToKw pos (keywordEach kws X.env)).any (·.1.isNone)) = false := by rfl) : PE X (.Call (.Name x p) [] kws pos) (tD W Wx (callK F ix [] gs)) := by
  obtain ⟨g, fd, hm, hkp, hb, ok⟩ := G
  refine PE.imp (pe_callKS0 (E := WE Wx) ok (C.room.mono hk) hg hm hkp hb (fun σ => passAt C.takes σ) hkw hall hks hdb hpl) fun σ H Q h => ?_
  rw [← hgl]
  exact kw_imp (fs := []) (.inr ⟨rfl, rfl⟩) h
end
end DL
end
section
set_option Elab.async false
set_option linter.all false
set_option maxRecDepth 100000
namespace DL
open PySem PySem.Spec L2
/-! ### cells of older frames that are known -/
def CellsZ (Z : Addr → Option V) (h : Heap) (H : Hp) : Prop := ∀ c v, Z c = some v → H c = none ∧ ∃ u, RelV v u ∧ h.IsCell c (some u)
theorem CellsZ.none {h : Heap} {H : Hp} : CellsZ (fun _ => Option.none) h H := fun _ _ e => by cases e
theorem CellsZ.later {X : Cx} {Z : Addr → Option V} {pins : List (Addr × Obj)} {σ : St} {H : Hp} {s : Shared} (C : CellsZ Z X.s_0.heap X.H_0) (hx : X.ex = []) (I : Inv X pins σ H s) : CellsZ Z s.heap H := fun c v e => by
  obtain ⟨n, u, r, o, ho, hd⟩ := C c v e
  have nx : c ∉ X.ex := by rw [hx]; simp
  refine ⟨I.base.free c o ho n nx, u, r, ?_⟩
  obtain ⟨sl, q⟩ := I.base.any ho n nx
  exact ⟨_, q, hd⟩
/-- of a running def's body -/
structure CtxZ (X : Cx) (Z : Addr → Option V) : Prop where
  ex : X.ex = []
  cells : CellsZ Z X.s_0.heap X.H_0
theorem relV_inj {x y : V} {u : Value} (h1 : L2.RelV x u) (h2 : L2.RelV y u) : x = y := by
  cases x with
  | non => cases (show u = Value.none from h1); cases y <;> first | rfl | (obtain ⟨_, h2⟩ := h2; cases h2 <;> rfl) | (cases h2 <;> rfl)
  | bl b => cases (show u = Value.bool b from h1); cases y <;> first | (obtain ⟨_, h2⟩ := h2; cases h2 <;> rfl) | (cases h2 <;> rfl)
  | int i => obtain ⟨t, e⟩ := (show ∃ t, u = Value.int i t from h1); cases e; cases y <;> first | (obtain ⟨_, h2⟩ := h2; cases h2 <;> rfl) | (cases h2 <;> rfl)
  | str i => obtain ⟨t, e⟩ := (show ∃ t, u = Value.str i t from h1); cases e; cases y <;> first | (obtain ⟨_, h2⟩ := h2; cases h2 <;> rfl) | (cases h2 <;> rfl)
  | byt i => obtain ⟨t, e⟩ := (show ∃ t, u = Value.bytes i t from h1); cases e; cases y <;> first | (obtain ⟨_, h2⟩ := h2; cases h2 <;> rfl) | (cases h2 <;> rfl)
  | flt i => obtain ⟨t, e⟩ := (show ∃ t, u = Value.float i t from h1); cases e; cases y <;> first | (obtain ⟨_, h2⟩ := h2; cases h2 <;> rfl) | (cases h2 <;> rfl)
  | ref a => cases (show u = Value.ref a from h1); cases y <;> first | (obtain ⟨_, h2⟩ := h2; cases h2 <;> rfl) | (cases h2 <;> rfl)
  | ty n => cases (show u = Value.type n from h1); cases y <;> first | (obtain ⟨_, h2⟩ := h2; cases h2 <;> rfl) | (cases h2 <;> rfl)
/-! ### more cells known -/
theorem CapD.more {Z Z' : Addr → Option V} (hz : ∀ c v, Z c = some v → Z' c = some v) {L : Lam} {cl : List (Str × Addr)} {ws : List V} (h : CapD Z L cl ws) : CapD Z' L cl ws := by
  refine ⟨?_, h.only, h.inj⟩
  have e := h.at_
  refine List.ext_getElem? fun i => ?_
  have ei := congrArg (fun l => l[i]?) e
  simp only [List.getElem?_map] at ei ⊢
  cases hy : L.fr[i]? with
  | none => rw [hy] at ei; simpa using ei
  | some y =>
    rw [hy] at ei
    cases hw : ws[i]? with
    | none => rw [hw] at ei; simp at ei
    | some w =>
      rw [hw] at ei
      simp only [Option.map_some, Option.some.injEq] at ei ⊢
      obtain ⟨c, h1, h2⟩ := Option.bind_eq_some_iff.mp ei
      rw [h1]
      exact hz c w h2
mutual
theorem Rep.more {W : Wd} {Z' : Addr → Option V} (hz : ∀ c v, W.Z c = some v → Z' c = some v) {A : Addr → Prop} {μ : List Addr} {H : Hp} : ∀ (d : D) (v : V), Rep W A μ H d v → Rep (W.withZ Z') A μ H d v
  | .non, v, h => by simpa only [Rep] using h
  | .bl b, v, h => by simpa only [Rep] using h
  | .int b, v, h => by simpa only [Rep] using h
  | .str b, v, h => by simpa only [Rep] using h
  | .ty b, v, h => by simpa only [Rep] using h
  | .loc l, v, h => by simpa only [Rep] using h
  | .tup ds, v, h => by simp only [Rep] at h ⊢; obtain ⟨a, xs, h1, h2, h3, h4⟩ := h; exact ⟨a, xs, h1, h2, h3, Reps.more hz _ _ h4⟩
  | .ktup ds, v, h => by simp only [Rep] at h ⊢; obtain ⟨a, xs, h1, h2, h3, h4⟩ := h; exact ⟨a, xs, h1, h2, h3, Reps.more hz _ _ h4⟩
  | .klst ds, v, h => by simp only [Rep] at h ⊢; obtain ⟨a, xs, h1, h2, h3, h4⟩ := h; exact ⟨a, xs, h1, h2, h3, Reps.more hz _ _ h4⟩
  | .lst ds, v, h => by simp only [Rep] at h ⊢; obtain ⟨a, xs, h1, h2, h3, h4⟩ := h; exact ⟨a, xs, h1, h2, h3, Reps.more hz _ _ h4⟩
  | .dic ks vs, v, h => by simp only [Rep] at h ⊢; obtain ⟨a, xs, h1, h2, h3, h4⟩ := h; exact ⟨a, xs, h1, h2, h3, Reps.more hz _ _ h4⟩
  | .dicT ks vs, v, h => by simp only [Rep] at h ⊢; obtain ⟨a, xs, h1, h2, h3, h4⟩ := h; exact ⟨a, xs, h1, h2, h3, Reps.more hz _ _ h4⟩
  | .obj c fs vs, v, h => by simp only [Rep] at h ⊢; obtain ⟨a, dx, xs, h1, h2, h3, h4⟩ := h; exact ⟨a, dx, xs, h1, h2, h3, Reps.more hz _ _ h4⟩
  | .fn i vs, v, h => by simp only [Rep] at h ⊢; obtain ⟨f, c, cl, L, ws, h1, h2, h3, h4, h5, h6, h7, h8⟩ := h; exact ⟨f, c, cl, L, ws, h1, h2, h3, h4, h5, h6, h7.more hz, Reps.more hz _ _ h8⟩
theorem Reps.more {W : Wd} {Z' : Addr → Option V} (hz : ∀ c v, W.Z c = some v → Z' c = some v) {A : Addr → Prop} {μ : List Addr} {H : Hp} : ∀ (ds : List D) (vs : List V), Reps W A μ H ds vs → Reps (W.withZ Z') A μ H ds vs
  | [], vs, h => by simpa only [Reps] using h
  | d :: ds, vs, h => by
    simp only [Reps] at h ⊢
    obtain ⟨v, r, h1, h2, h3⟩ := h
    exact ⟨v, r, h1, Rep.more hz _ _ h2, Reps.more hz _ _ h3⟩
end
theorem Own.more {W : Wd} {Z' : Addr → Option V} (hz : ∀ c v, W.Z c = some v → Z' c = some v) {A : Addr → Prop} {μ : List Addr} {H : Hp} {d : D} {a : Addr} (h : Own W A μ H d a) : Own (W.withZ Z') A μ H d a := by
  cases d with
  | lst ds => obtain ⟨xs, h1, h2, h3⟩ := h; exact ⟨xs, h1, h2, Reps.more hz _ _ h3⟩
  | dic ks vs => obtain ⟨xs, h1, h2, h3⟩ := h; exact ⟨xs, h1, h2, Reps.more hz _ _ h3⟩
  | dicT ks vs => obtain ⟨xs, h1, h2, h3⟩ := h; exact ⟨xs, h1, h2, Reps.more hz _ _ h3⟩
  | obj c fs vs => obtain ⟨dx, xs, h1, h2, h3⟩ := h; exact ⟨dx, xs, h1, h2, Reps.more hz _ _ h3⟩
  | _ => exact h.elim
/-! ### a lambda by its body -/
abbrev nfOf (L : Lam) (cl : List (Str × Addr)) (c : Addr) : NdefX.NF := ⟨L.name, L.qual, L.params, [], L.scope, cl, c⟩
/-- a lambda's promise: from what it captured -/
structure NZ (P : Program) (w : World) (K : PySem.W.Frag) (mg : Str → Option Value) (base : Heap) (k : Nat) (W : Wd) (L : Lam) (G : List D → Fn) : Prop where
  run : ∀ (Z : Addr → Option V) (A : Around) (outer : List Env) (s : Shared) (H : Hp) (us : List Value) (vs : List V) (Q : VK) (E : XK) (A0 : Addr → Prop) (μ : List Addr) (cv ds ob : List D) (f c : Addr) (cl : List (Str × Addr)) (ws : List V),
    Room k A → Env0 P w K mg base A outer s H → H f = some (LamO f L cl c) → H c = some (LamX.CodeO c L.qual) → CellsZ Z s.heap H → CapD Z L cl ws → RepS (W.withZ Z) A0 μ O0 H [] ⟨[], ob⟩ → Reps (W.withZ Z) (Av A0 μ O0) μ H cv ws → Reps (W.withZ Z) (Av A0 μ O0) μ H ds vs → Vals vs us →
    PostG (W.withZ Z) (wE E) (rlD (W.withZ Z)) A0 μ O0 H [] (G cv ds ob) Q → codeAny (model P w) A (.call (.ref f) ⟨us, []⟩) (CR (L2.CX P w) outer P w H s Q E) s
/-- n slots, m parameters -/
def lamM (n m : Nat) (e : M D) : List D → Fn := fun cv ds ob => if ds.length = m then (match e ⟨ds.map .d ++ (cv.map .d ++ List.replicate (n - m - cv.length) .no), ob⟩ with
  | .ok d S => .ok d ⟨[], S.ob⟩
  | .exn c p S => .exn c p ⟨[], S.ob⟩
  | .stuck => .stuck) else .stuck
theorem lamO_at {P : Program} {w : World} {H : Hp} {h : Heap} {f c : Addr} {L : Lam} {cl : List (Str × Addr)} (hok : HOk P w H h) (e : H f = some (LamO f L cl c)) : ∃ (od : Option Addr) (sl : Array (Option Value)) (pm ctv : Value), h.get? f = some (⟨.type "function", od, .func (PySem.W.kla_fn L.name L.qual L.params L.body L.scope cl pm (.ref c) ctv), sl⟩ : Obj) := by
  obtain ⟨z, _, _⟩ := hok f _ e
  exact z
theorem cells_at {Z : Addr → Option V} {h : Heap} {H : Hp} {L : Lam} {cl : List (Str × Addr)} {ws : List V} (C : CellsZ Z h H) (q : CapD Z L cl ws) : NdefX.CellsAt cl L.fr (ws.map some) h H := by
  have hl : L.fr.length = ws.length := by have := congrArg List.length q.at_; simpa using this
  have at' : ∀ (i : Nat) (y : Str), L.fr[i]? = some y → ∃ c v, cl.lookup y = some c ∧ Z c = some v ∧ ws[i]? = some v := fun i y e => by
    have ei := congrArg (fun l => l[i]?) q.at_
    simp only [List.getElem?_map, e, Option.map_some] at ei
    cases hw : ws[i]? with
    | none => rw [hw] at ei; simp at ei
    | some w =>
      rw [hw] at ei
      simp only [Option.map_some, Option.some.injEq] at ei
      obtain ⟨c, h1, h2⟩ := Option.bind_eq_some_iff.mp ei
      exact ⟨c, w, h1, h2, rfl⟩
  refine ⟨by simp [hl], fun y c e => ?_, q.inj, fun i y e => ?_⟩
  · obtain ⟨i, hi⟩ := List.mem_iff_getElem?.mp (q.only y c e)
    obtain ⟨c', v, h1, h2, _⟩ := at' i y hi
    rw [e] at h1; cases h1
    obtain ⟨n, u, _, z⟩ := C c v h2
    exact ⟨n, _, z⟩
  · obtain ⟨c, v, h1, h2, h3⟩ := at' i y e
    refine ⟨c, h1, fun v' hv => ?_⟩
    rw [List.getElem?_map, h3] at hv
    simp only [Option.map_some, Option.some.injEq] at hv
    subst hv
    obtain ⟨_, u, r, z⟩ := C c v h2
    exact ⟨u, r, z⟩
theorem repS_startF {W : Wd} {A0 : Addr → Prop} {μ : List Addr} {H : Hp} {N : List Str} {ds cv ob : List D} {vs ws : List V} (rs : RepS W A0 μ O0 H [] ⟨[], ob⟩) (r : Reps W (Av A0 μ O0) μ H ds vs) (rc : Reps W (Av A0 μ O0) μ H cv ws) :
    RepS W A0 μ O0 H (NdefX.startF N vs (ws.map some)) ⟨ds.map .d ++ (cv.map .d ++ List.replicate (N.length - ds.length - cv.length) Sl.no), ob⟩ := by
  have hl := reps_length r
  have hl2 := reps_length rc
  refine ⟨fun i => ?_, rs.oinj, rs.otr, rs.obl, rs.obs, rs.nd, rs.atr, rs.tab, ?_⟩
  · show SlOk W (Av A0 μ O0) μ O0 H i ((ds.map Sl.d ++ (cv.map Sl.d ++ List.replicate (N.length - ds.length - cv.length) Sl.no))[i]?) ((NdefX.startF N vs (ws.map some))[i]?)
    unfold NdefX.startF
    by_cases h : i < ds.length
    · obtain ⟨v, hv, rv⟩ := reps_get r (List.getElem?_eq_getElem h)
      have e1 : (ds.map Sl.d ++ (cv.map Sl.d ++ List.replicate (N.length - ds.length - cv.length) Sl.no))[i]? = some (.d ds[i]) := by
        rw [List.getElem?_append_left (by simpa using h), List.getElem?_map, List.getElem?_eq_getElem h]
        rfl
      have e2 : (vs.map some ++ (ws.map some ++ List.replicate (N.length - vs.length - (ws.map some).length) none))[i]? = some (some v) := by
        rw [List.getElem?_append_left (by simp; omega), List.getElem?_map, hv]
        rfl
      rw [e1, e2]
      exact ⟨v, rfl, rv⟩
    · by_cases h2 : i - ds.length < cv.length
      · obtain ⟨v, hv, rv⟩ := reps_get rc (List.getElem?_eq_getElem h2)
        have e1 : (ds.map Sl.d ++ (cv.map Sl.d ++ List.replicate (N.length - ds.length - cv.length) Sl.no))[i]? = some (.d cv[i - ds.length]) := by
          rw [List.getElem?_append_right (by simpa using h), List.length_map, List.getElem?_append_left (by simpa using h2), List.getElem?_map, List.getElem?_eq_getElem h2]
          rfl
        have e2 : (vs.map some ++ (ws.map some ++ List.replicate (N.length - vs.length - (ws.map some).length) none))[i]? = some (some v) := by
          have hv' : ws[i - (vs.map some).length]? = some v := by
            have e : (vs.map some).length = ds.length := by rw [List.length_map, hl]
            rw [e]; exact hv
          rw [List.getElem?_append_right (by simp; omega), List.getElem?_append_left (by simp; omega), List.getElem?_map, hv']
          rfl
        rw [e1, e2]
        exact ⟨v, rfl, rv⟩
      · have e1 : (ds.map Sl.d ++ (cv.map Sl.d ++ List.replicate (N.length - ds.length - cv.length) Sl.no))[i]? = (List.replicate (N.length - ds.length - cv.length) Sl.no)[i - ds.length - cv.length]? := by
          rw [List.getElem?_append_right (by simpa using h), List.length_map, List.getElem?_append_right (by rw [List.length_map]; omega), List.length_map]
        rw [e1, List.getElem?_replicate]
        split
        · trivial
        · trivial
  · show (ds.map Sl.d ++ (cv.map Sl.d ++ List.replicate (N.length - ds.length - cv.length) Sl.no)).length = (NdefX.startF N vs (ws.map some)).length
    unfold NdefX.startF
    simp [hl, hl2]
/-- THE RULE for a lambda -/
theorem nz_D {P : Program} {w : World} {K : PySem.W.Frag} {mg : Str → Option Value} {base : Heap} {k : Nat} {W : Wd} {L : Lam} {N ps : List Str} {e : M D} (hK : K = W.K) (S : NdefX.NScope N ps L.fr L.scope)
    (hb : ∀ (cl : List (Str × Addr)) (pm ctv : Value) (c : Addr) (us : List Value), us.length = ps.length → bindArgs (PySem.W.kla_fn L.name L.qual L.params L.body L.scope cl pm (.ref c) ctv) ⟨us, []⟩ = pure (ps.zip us))
    (hbody : ∀ (Z : Addr → Option V) (cl : List (Str × Addr)) (f c : Addr) (A : Around) (outer : List Env) (s : Shared) (H : Hp) (E : XK), CtxOk (NdefX.ncx (L2.CX P w) P w K mg base N (nfOf L cl c) f A outer s H E) (W.withZ Z) (wE E) k → CtxZ (NdefX.ncx (L2.CX P w) P w K mg base N (nfOf L cl c) f A outer s H E) Z →
      PE (NdefX.ncx (L2.CX P w) P w K mg base N (nfOf L cl c) f A outer s H E) L.body (tD (W.withZ Z) (wE E) e)) :
    NZ P w K mg base (k + 1) W L (lamM N.length ps.length e) := by
  refine ⟨fun Z A outer s H us vs Q E A0 μ cv ds ob f c cl ws hr e0 hf hc C q rs rcv rd rv p => ?_⟩
  have hvl : vs.length = ps.length := by
    rw [reps_length rd]
    unfold lamM at p
    by_cases h : ds.length = ps.length
    · exact h
    · rw [if_neg h] at p; exact p.elim
  have hul : us.length = ps.length := by rw [← rv.length]; exact hvl
  have lim : s.heap.NoLimit := e0.mod.nolimit.keeps fun b o e => (e0.bs b o e).1
  obtain ⟨od, sl, pm, ctv, ho⟩ := lamO_at e0.hok hf
  refine PySem.W.kla_callFunE hr.depth ho rfl S.co S.gen rfl (NdefX.codeO_at e0.hok hc) ?_
  rw [hb cl pm ctv c us hul]
  refine wpAny_pure (wpAny_newFunctionEnv S.nocell (fun ⟨n, _⟩ hy => S.par n (List.of_mem_zip hy).1) (fun h₁ hns hsb => ⟨lim.fresh _ hsb, ?_⟩) S.kind)
  show codeAny _ _ (.expr L.body (NdefX.envF (nfOf L cl c) f s.heap.objs.size)) _ _
  have kp : ∀ b o, s.heap.get? b = some o → h₁.get? b = some o := fun b o e => hsb.extBut b o (Nat.ne_of_lt (Heap.lt_size e)) (Heap.get?_push_of_some _ e)
  have I : Inv (NdefX.ncx (L2.CX P w) P w K mg base N (nfOf L cl c) f A outer s H E) [] (NdefX.startF N vs (ws.map some)) H { s with heap := h₁, toks := s.toks + (ps.zip us).length } :=
    NdefX.inv_startN (F := nfOf L cl c) S hr.hd e0 hvl rv (cells_at C q) hns kp
  have cx : CtxOk (NdefX.ncx (L2.CX P w) P w K mg base N (nfOf L cl c) f A outer s H E) (W.withZ Z) (wE E) k := ⟨hK, rfl, S.nd, hr.deeper _, passes_of rfl, takes_of rfl rfl rfl rfl⟩
  have B := hbody Z cl f c A outer s H E cx ⟨rfl, C⟩
  have rs1 := repS_startF (N := N) rs rd rcv
  have hdl : ds.length = ps.length := by rw [← reps_length rd]; exact hvl
  have t : tD (W.withZ Z) (wE E) e (NdefX.startF N vs (ws.map some)) H Q := by
    refine ⟨A0, μ, O0, _, rs1, ?_⟩
    unfold lamM at p
    rw [if_pos hdl, ← hdl] at p
    cases ee : e ⟨ds.map .d ++ (cv.map .d ++ List.replicate (N.length - ds.length - cv.length) Sl.no), ob⟩ with
    | ok d S1 =>
      rw [ee] at p
      exact fun v H' μ' st rs' r' => p v H' μ' st rs'.drop r'
    | exn c' q' S1 =>
      rw [ee] at p
      cases q' with
      | none => exact fun H' μ' st rs' => p H' μ' st rs'.drop
      | some z => exact fun H' μ' dd xs st rs' hl hd r' => p H' μ' dd xs st rs'.drop hl hd r'
    | stuck => rw [ee] at p; exact p
  refine PySem.W.kla_codeExpr (wpAny_mono (B.run [] _ _ H Q I t) (fun v s' hq => ?_) fun e s' hq => hq)
  obtain ⟨w', H', J', rv', q'⟩ := hq
  exact ⟨w', H', J'.os, J'.bare, J'.base, J'.hok, rv', q'⟩
end DL
end
section
set_option Elab.async false
set_option linter.all false
set_option maxRecDepth 100000
namespace DL
open PySem PySem.Spec L2
/-! ### defs that are handed functions -/
structure FnZ (P : Program) (w : World) (K : PySem.W.Frag) (mg : Str → Option Value) (base : Heap) (k : Nat) (f : Addr) (fd : FuncData) (ps : List Str) (W : Wd) (F : Fn) : Prop where
  len : ∀ (Z : Addr → Option V) (A0 : Addr → Prop) (μ : List Addr) (H : Hp) (E : XK) (ds ob : List D) (Q : VK), PostG (W.withZ Z) (wE E) (rlD (W.withZ Z)) A0 μ O0 H [] (F ds ob) Q → ds.length = ps.length
  run : ∀ (Z : Addr → Option V) (A : Around) (outer : List Env) (s : Shared) (H : Hp) (args : Args) (us : List Value) (vs : List V) (Q : VK) (E : XK) (A0 : Addr → Prop) (μ : List Addr) (ds ob : List D),
    Room k A → Env0 P w K mg base A outer s H → BindsTo s fd args (ps.zip us) → Vals vs us → CellsZ Z s.heap H → RepS (W.withZ Z) A0 μ O0 H [] ⟨[], ob⟩ → Reps (W.withZ Z) (Av A0 μ O0) μ H ds vs →
    PostG (W.withZ Z) (wE E) (rlD (W.withZ Z)) A0 μ O0 H [] (F ds ob) Q → codeAny (model P w) A (.call (.ref f) args) (CR (L2.CX P w) outer P w H s Q E) s
section
variable {W : Wd} {Wx : WX} {X : Cx} {A0 A1 : Addr → Prop} {μ μ1 μ' : List Addr} {O O1 O' : Nat → Option Addr} {H H1 H' : Hp} {σ σ' : St} {S S' : Stt} {pos p : Pos}
/-- THE RULE for such a def -/
theorem fn_DZ {P : Program} {w : World} {K : PySem.W.Frag} {mg : Str → Option Value} {base : Heap} {x qual : Str} {st : Stmt} {f : Addr} {fd : FuncData} {N ps : List Str} {k : Nat} {b : M Fl} (hK : K = W.K) (F : Fun K x qual st f fd) (Sc : FnScope N ps (defScope st))
    (hb : ∀ (cdv : Value) (A : Around) (outer : List Env) (s : Shared) (H : Hp) (E : XK) (Z : Addr → Option V), fd.code = cdv → CtxOk (cxOf (L2.CX P w) P w K mg base N qual (defScope st) f cdv A outer s H E) (W.withZ Z) (wE E) k → CtxZ (cxOf (L2.CX P w) P w K mg base N qual (defScope st) f cdv A outer s H E) Z →
      PSs (cxOf (L2.CX P w) P w K mg base N qual (defScope st) f cdv A outer s H E) (defBody st) (tS (W.withZ Z) (wE E) b)) :
    FnZ P w K mg base (k + 1) f fd ps W (fnM N.length ps.length b) := by
  have hlen : ∀ (Z : Addr → Option V) (A0 : Addr → Prop) (μ : List Addr) (H : Hp) (E : XK) (ds ob : List D) (Q : VK), PostG (W.withZ Z) (wE E) (rlD (W.withZ Z)) A0 μ O0 H [] (fnM N.length ps.length b ds ob) Q → ds.length = ps.length := fun Z A0 μ H E ds ob Q p => by
    unfold fnM at p
    by_cases e : ds.length = ps.length
    · exact e
    · rw [if_neg e] at p
      exact p.elim
  refine ⟨hlen, fun Z A outer s H args us vs Q E A0 μ ds ob hr e0 hbt r C rs rd p => ?_⟩
  have hdl := hlen Z A0 μ H E ds ob Q p
  have hvl : vs.length = ps.length := by rw [reps_length rd]; exact hdl
  obtain ⟨oc, od, kV, doc, pm, an, cdv, ct, osl, rfl, lk, hcd⟩ := F.ex
  refine LamX.run_ofS lk hcd Sc hr e0 hbt r hvl fun hr2 => ⟨_, hb cdv A outer s H E Z rfl ⟨hK, rfl, Sc.nd, hr2, passes_of rfl, takes_of rfl rfl rfl rfl⟩ ⟨rfl, C⟩, A0, μ, O0, _, repS_start (N := N) rs rd, ?_⟩
  unfold fnM at p
  rw [if_pos hdl, ← hdl] at p
  cases e : b ⟨ds.map .d ++ List.replicate (N.length - ds.length) Sl.no, ob⟩ with
  | ok fl S1 =>
    rw [e] at p
    intro σ' H' μ' O' st rs'
    have stp : Step (Ch μ O0) μ μ' H H' := st.st
    have av := av0 (A0 := A0) (μ := μ')
    cases fl with
    | rt d => exact fun v rv => p v H' μ' stp rs'.drop (by show Rep (W.withZ Z) (Av A0 μ' O0) μ' H' d v; rw [av]; exact rv)
    | nx => exact p .non H' μ' stp rs'.drop DL.Sc.non.rep
    | bk => exact p.elim
    | ct => exact p.elim
  | exn c q S1 =>
    rw [e] at p
    cases q with
    | none => exact fun σ' H' μ' O' st rs' => p H' μ' st.st rs'.drop
    | some z =>
      intro σ' H' μ' O' dd xs st rs' hl hd r'
      refine p H' μ' dd xs st.st rs'.drop hl hd (Reps.le (Le.same (fun _ _ h => h) fun a z => ?_) _ _ r')
      rcases z with z | z | ⟨i, z⟩
      · exact .inl z
      · exact .inr (.inl z)
      · cases z
  | stuck => rw [e] at p; exact p
/-- from within a frame -/
theorem enter_post {F : Fn} {ds : List D} {Q : VK} (rs : RepS W A0 μ O H σ S) (p : PostG W Wx (rlD W) A0 μ O H σ (callF F ds S) Q) : PostG W (wE (WE Wx σ)) (rlD W) (fun a => A0 a ∨ ∃ i, O i = some a) μ O0 H [] (F ds S.ob) Q := by
  unfold callF at p
  cases e : F ds S.ob with
  | ok d S' =>
    rw [e] at p
    intro v H' μ' st rs' r'
    obtain ⟨st1, rs1⟩ := rs.leave st rs'
    exact p v H' μ' st1 rs1 (leave_rep r')
  | exn c q S' =>
    rw [e] at p
    cases q with
    | none =>
      intro H' μ' st rs'
      obtain ⟨st1, rs1⟩ := rs.leave st rs'
      exact p H' μ' st1 rs1
    | some z =>
      intro H' μ' dd xs st rs' hl hd r'
      obtain ⟨st1, rs1⟩ := rs.leave st rs'
      exact p H' μ' dd xs st1 rs1 hl hd (leave_reps r')
  | stuck => rw [e] at p; exact p
/-- such a def of the module, called by its name -/
def GFnZ (P : Program) (w : World) (K : PySem.W.Frag) (mg : Str → Option Value) (base : Heap) (k : Nat) (x : Str) (ps : List Str) (W : Wd) (F : Fn) : Prop :=
  ∃ f fd, mg x = some (.ref f) ∧ PySem.W.keepIn K (.ref f) = true ∧ Binds K fd ps [] ∧ FnZ P w K mg base k f fd ps W F
theorem run_Z {Z : Addr → Option V} {k : Nat} {f : Addr} {fd : FuncData} {ps : List Str} {F : Fn} {pins : List (Addr × Obj)} {s : Shared} {Q : VK} {us : List Value} {vs : List V} {ds : List D} (Fz : FnZ X.prog X.w X.K X.mg X.base k f fd ps W F) (hr : Room k X.A) (hb : Binds X.K fd ps []) (tk : Takes X Wx)
    (I : Inv X pins σ H s) (C : CellsZ Z s.heap H) (r : Vals vs us) (rs : RepS (W.withZ Z) A0 μ O H σ S) (rd : Reps (W.withZ Z) (Av A0 μ O) μ H ds vs) (p : PostG (W.withZ Z) Wx (rlD (W.withZ Z)) A0 μ O H σ (callF F ds S) Q) :
    wpAny (model X.prog X.w) X.A (call (.ref f) us) (EP X pins σ Q) X.xe s := by
  have p' := enter_post rs p
  have hl : us.length = ps.length := by rw [← r.length, reps_length rd]; exact Fz.len Z _ _ _ _ _ _ _ p'
  have b := hb s us I.kIn (by rw [List.append_nil]; exact hl)
  rw [List.append_nil] at b
  have rd' : Reps (W.withZ Z) (Av (fun a => A0 a ∨ ∃ i, O i = some a) μ O0) μ H ds vs := by rw [av_enter_eq]; exact rd
  refine wpAny_call (codeAny_mono (Fz.run Z X.A X.stack s H ⟨us, []⟩ us vs Q (WE Wx σ) _ μ ds S.ob hr I.env0 b r C rs.enter rd' p') fun r s' hq => ?_)
  cases r with
  | error e => exact passAt tk σ pins H s e s' I hq
  | ok fl =>
    cases fl with
    | ret u => exact I.after hq
    | next => exact False.elim hq
    | brk => exact False.elim hq
    | cont => exact False.elim hq
theorem de_callZ {x : Str} {ps : List Str} {F : Fn} {fs : List (M D)} {f : M D} {j k : Nat} {e : Expr} {es : List Expr} (C : CtxOk X W Wx j) (CZ : CtxZ X W.Z) (G : GFnZ X.prog X.w X.K X.mg X.base k x ps W F) (hk : k ≤ j) (hg : Gl X x) (ha : PA X (e :: es) (tDA W Wx (seqM (f :: fs))))
    (hdb : (x == ("__debug__" : Str)) = false := by decide) (he : starEach (e :: es) X.env = (false, eval e X.env) :: starEach es X.env := by rfl) (hpl : (backTo pos (starEach es X.env)).any (·.1) = false := by rfl) :
    PE X (.Call (.Name x p) (e :: es) [] pos) (tD W Wx (callE F (f :: fs))) := by
  obtain ⟨g, fd, hm, hkp, hb, ok⟩ := G
  refine ⟨fun pins s σ H Q I h => ?_⟩
  refine wpAny_Call_Name_kw (ld_glob I hg hm ?_ hdb)
  refine PySem.W.callWith_K (h₀ := X.base) I.ok.mod.kin hkp (thn (ha.run pos pins s σ H _ I (tG_bind (rl := rlA W) h)) fun us s1 ⟨vs, H1, I1, r, q⟩ => ⟨I1.kIn, ?_⟩) he hpl
  obtain ⟨A0, μ1, O, S1, ds, rs1, r1, p1⟩ := q
  exact run_Z (Z := W.Z) ok (C.room.mono hk) hb C.takes I1 (CZ.cells.later CZ.ex I1) r rs1 r1 p1
/-! ### a name that holds a lambda, called -/
def callFnM (Λ : Nat → List D → Fn) (i : Nat) (fs : List (M D)) : M D := fun S => match S.sl[i]? with
  | some (.d (.fn j cv)) => (M.bnd (seqM fs) fun xs => callF (Λ j cv) xs) S
  | _ => .stuck
def GLam (P : Program) (w : World) (K : PySem.W.Frag) (mg : Str → Option Value) (base : Heap) (k : Nat) (W : Wd) (Λ : Nat → List D → Fn) : Prop := ∀ j L, W.lam j = some L → NZ P w K mg base k W L (Λ j)
theorem lam_at {pins : List (Addr × Obj)} {s : Shared} {f c : Addr} {L : Lam} {cl : List (Str × Addr)} (I : Inv X pins σ H s) (e : H f = some (LamO f L cl c)) : PySem.W.FnAt f s.heap := by
  obtain ⟨od, sl, pm, ctv, ho⟩ := lamO_at I.hok e
  exact ⟨_, od, _, sl, ho⟩
theorem run_NZ {Z : Addr → Option V} {k : Nat} {f c : Addr} {L : Lam} {cl : List (Str × Addr)} {ws : List V} {cv : List D} {G : List D → Fn} {pins : List (Addr × Obj)} {s : Shared} {Q : VK} {us : List Value} {vs : List V} {ds : List D} (Fz : NZ X.prog X.w X.K X.mg X.base k W L G) (hr : Room k X.A) (tk : Takes X Wx)
    (I : Inv X pins σ H s) (C : CellsZ Z s.heap H) (hf : H f = some (LamO f L cl c)) (hc : H c = some (LamX.CodeO c L.qual)) (cd : CapD Z L cl ws) (r : Vals vs us) (rs : RepS (W.withZ Z) A0 μ O H σ S) (rc : Reps (W.withZ Z) (Av A0 μ O) μ H cv ws) (rd : Reps (W.withZ Z) (Av A0 μ O) μ H ds vs)
    (p : PostG (W.withZ Z) Wx (rlD (W.withZ Z)) A0 μ O H σ (callF (G cv) ds S) Q) : wpAny (model X.prog X.w) X.A (call (.ref f) us) (EP X pins σ Q) X.xe s := by
  have p' := enter_post rs p
  have rd' : Reps (W.withZ Z) (Av (fun a => A0 a ∨ ∃ i, O i = some a) μ O0) μ H ds vs := by rw [av_enter_eq]; exact rd
  have rc' : Reps (W.withZ Z) (Av (fun a => A0 a ∨ ∃ i, O i = some a) μ O0) μ H cv ws := by rw [av_enter_eq]; exact rc
  refine wpAny_call (codeAny_mono (Fz.run Z X.A X.stack s H us vs Q (WE Wx σ) _ μ cv ds S.ob f c cl ws hr I.env0 hf hc C cd rs.enter rc' rd' r p') fun r s' hq => ?_)
  cases r with
  | error e => exact passAt tk σ pins H s e s' I hq
  | ok fl =>
    cases fl with
    | ret u => exact I.after hq
    | next => exact False.elim hq
    | brk => exact False.elim hq
    | cont => exact False.elim hq
theorem de_callFn {Λ : Nat → List D → Fn} {x : Str} {fs : List (M D)} {f : M D} {i j k : Nat} {e : Expr} {es : List Expr} (C : CtxOk X W Wx j) (CZ : CtxZ X W.Z) (G : GLam X.prog X.w X.K X.mg X.base k W Λ) (hk : k ≤ j) (hN : X.N[i]? = some x) (hv : Vis X.env.scope x) (ha : PA X (e :: es) (tDA W Wx (seqM (f :: fs))))
    (hdb : (x == ("__debug__" : Str)) = false := by decide) (hcd : (x == ("__classdict__" : Str)) = false := by decide) (he : starEach (e :: es) X.env = (false, eval e X.env) :: starEach es X.env := by rfl) (hpl : (backTo pos (starEach es X.env)).any (·.1) = false := by rfl) :
    PE X (.Call (.Name x p) (e :: es) [] pos) (tD W Wx (callFnM Λ i (f :: fs))) := by
  refine ⟨fun pins s σ H Q I h => ?_⟩
  obtain ⟨A0, μ, O, S, rs, p⟩ := h
  unfold callFnM at p
  have hi := rs.sl i
  cases es' : S.sl[i]? with
  | none => rw [es'] at p; exact p.elim
  | some sl =>
    rw [es'] at p hi
    cases sl with
    | no => exact p.elim
    | own _ => exact p.elim
    | d y =>
      cases y with
      | fn jj cv =>
        obtain ⟨v0, hs, r0⟩ := hi
        have r0' := r0
        simp only [Rep] at r0'
        obtain ⟨fa, c, cl, L, ws, ev, hL, _, _, hf, hc, cd, rc⟩ := r0'
        subst ev
        refine wpAny_Call_Name_kw (thn ((pe_var (pos := _) hN hv hdb hcd).run pins s σ H (fun v H1 => v = .ref fa ∧ H1 = H) I ⟨.ref fa, hs, rfl, rfl⟩) fun u s1 ⟨v, H1, I1, r1, q1⟩ => ?_)
        obtain ⟨ev, eH⟩ := q1
        subst ev
        rw [eH] at I1
        obtain rfl : u = Value.ref fa := r1
        refine PySem.W.callWith_F (first := []) (lam_at I1 hf) (thn (ha.run pos pins s1 σ H _ I1 (tG_bindK (rl := rlA W) keeps_rep rs r0 p)) fun us s2 ⟨vs, H2, I2, r, q⟩ => ?_) he hpl
        obtain ⟨μ2, S2, ds, rs2, r2, rd, p2⟩ := q
        have r2' : Rep W (Av A0 μ2 O) μ2 H2 (.fn jj cv) (.ref fa) := r2
        simp only [Rep] at r2'
        obtain ⟨fa', c', cl', L', ws', ev, hL', _, _, hf', hc', cd', rc'⟩ := r2'
        cases ev
        refine ⟨lam_at I2 hf', ?_⟩
        show wpAny _ _ (call (.ref fa) us) _ _ _
        exact run_NZ (Z := W.Z) (G jj L' hL') (C.room.mono hk) C.takes I2 (CZ.cells.later CZ.ex I2) hf' hc' cd' r rs2 rc' rd p2
      | _ => exact p.elim
end
end DL
end
section
set_option Elab.async false
set_option linter.all false
set_option maxRecDepth 100000
namespace DL
open PySem PySem.Spec L2
/-! ### a lambda is made -/
section
variable {X : Cx} {pins : List (Addr × Obj)} {σ : L2.St} {H : Hp} {s : Shared}
theorem inv_lam {L : Lam} {cl : List (Str × Addr)} {c : Addr} {t' : Nat} {pm ctv : Value} (I : Inv X pins σ H s) :
    Inv X pins σ (upd H s.heap.objs.size (LamO s.heap.objs.size L cl c)) { s with heap := s.heap.push (PySem.W.kla_obj L.name L.qual L.params L.body L.scope cl pm c ctv), toks := t' } := by
  refine I.laid (a := s.heap.objs.size) (fun b u e => Heap.get?_push_of_some _ e) (Nat.le_refl _) ?_
  have e : (s.heap.push (PySem.W.kla_obj L.name L.qual L.params L.body L.scope cl pm c ctv)).get? s.heap.objs.size = some (PySem.W.kla_obj L.name L.qual L.params L.body L.scope cl pm c ctv) := Heap.get?_push_size _ rfl
  exact ⟨⟨_, _, pm, ctv, e⟩, ⟨_, e⟩, fun h1 h2 ⟨od, sl, p, t, z⟩ st => ⟨od, sl, p, t, st _ z⟩⟩
theorem lam_make3 {T : List NdefX.NTab} {nm : Nat → Nat → Str} {c P : Addr} {L : Lam} {pos : Pos} {E : Value → Shared → Prop} {Q : Value → Shared → Prop} (I : Inv X pins σ H s) (TB : LamX.TabB X.base X.mg c P) (hcode : X.env.code = .ref c)
    (hm : (P, nm) ∈ T) (hn : nm pos.line pos.col = X.env.qual ++ "<lambda>") (hL1 : L.name = "<lambda>") (hL2 : L.qual = X.env.qual ++ "<lambda>") (hu : ∀ p ∈ T, p.1 = P → p.2 = nm) (hT : NdefX.TabsN T H) (hdef : defaultsOf L.params X.env = ([], [])) (hfree : ∀ y ∈ L.scope.names, y.2 = .free → ∃ c, X.env.cells.lookup y.1 = some c)
    (h : ∀ (f c' : Addr) (H1 : Hp) (s' : Shared), Inv X pins σ H1 s' → LamX.ExtN H H1 → (∀ b, H1 b = Option.none → H b = Option.none) → NdefX.TabsN T H1 → H f = none → H1 f = some (LamO f L (cloFrom X.env.cells L.scope.names []) c') → H1 c' = some (LamX.CodeO c' L.qual) → Q (.ref f) s') :
    wpAny (model X.prog X.w) X.A (eval (.Lambda L.params L.body L.scope pos) X.env) Q E s := by
  obtain ⟨ps, hP, ht, ha⟩ := (show NdefX.TabN H P nm from hT _ hm)
  have hn : nm pos.line pos.col = L.qual := by rw [hn, hL2]
  refine PySem.W.kla_eval hdef ?_
  have bP : s.heap.BuiltinsAt X.mg P := TB.bm.keeps I.bk
  have hP' : s.heap.get? P = some { cls := .none, data := .fields ps } := I.hok P _ hP
  rw [← hL2, show (("<lambda>" : Str)) = L.name from hL1.symm]
  cases hc : codeAmong pos ps.toList with
  | none =>
    refine PySem.W.kla_makeFunction (mg := X.mg) (c := c) (P := P) (ps := ps) (closure_ok hfree) I.ok.glob (I.mod.glob.keeps I.bk) hcode (TB.code.keeps I.bk) hP' ht hc TB.gP bP fun c' ctv h' tk hx hge hlt hrec htb => ?_
    obtain ⟨c2, oc, vs, t, e2, hoc, hd, hv⟩ := hrec
    cases e2
    have nC : H c' = none := I.hok.fresh hge
    have I1 := LamX.inv_table (t' := tk) (more := #[rawInt pos.line, rawInt pos.col, .ref c']) (h' := h') I hP (fun b o hb e => hx b o hb e) htb hge ⟨oc, vs, t, hoc, hd, hv⟩
    have hE : LamX.ExtN H (upd (upd H P (.tbl (ps ++ #[rawInt pos.line, rawInt pos.col, .ref c']))) c' (LamX.CodeO c' L.qual)) := fun b o e n => by
      rw [upd_ne (ne_of_none e nC), upd_ne (fun z => n ps (Option.some.inj (e.symm.trans (by rw [z]; exact hP))))]
      exact e
    have eL : (ps ++ #[rawInt pos.line, rawInt pos.col, .ref c']).toList = ps.toList ++ [rawInt pos.line, rawInt pos.col, .ref c'] := by simp
    have T1 : NdefX.TabsN T (upd (upd H P (.tbl (ps ++ #[rawInt pos.line, rawInt pos.col, .ref c']))) c' (LamX.CodeO c' L.qual)) := fun p hp => by
      by_cases hb : p.1 = P
      · rw [hu p hp hb, hb]
        refine ⟨_, by rw [upd_ne (ne_of_none hP nC), upd_same], by rw [eL]; exact PySem.TriplesOk_snoc _ _ _ _ ht, fun p' cv hcv => ?_⟩
        rw [eL] at hcv
        rcases NdefX.among_app2 _ ht hcv with z | ⟨z, z1, z2⟩
        · obtain ⟨c0, e1, e2⟩ := ha p' cv z
          exact ⟨c0, e1, hE _ _ e2 LamX.codeO_ne⟩
        · refine ⟨c', z, ?_⟩
          rw [← z1, ← z2, hn]
          exact upd_same
      · obtain ⟨ps', a1, a2, a3⟩ := hT p hp
        refine ⟨ps', by rw [upd_ne (ne_of_none a1 nC), upd_ne hb]; exact a1, a2, fun p' cv hcv => ?_⟩
        obtain ⟨c0, e1, e2⟩ := a3 p' cv hcv
        exact ⟨c0, e1, hE _ _ e2 LamX.codeO_ne⟩
    have nF := I1.hok.fresh (Nat.le_refl _)
    have I2 := inv_lam (L := L) (cl := cloFrom X.env.cells L.scope.names []) (c := c') (t' := tk) (pm := (X.mg "__name__").getD .none) (ctv := ctv) I1
    refine h h'.objs.size c' _ _ I2 (fun b o e n => ?_) (fun b e => NdefX.upd_none (NdefX.upd_none (NdefX.upd_none e))) (T1.ext fun b o e => ?_) (I.hok.fresh (Nat.le_trans hge (Nat.le_of_lt hlt))) upd_same ?_
    · have e1 := hE b o e n
      exact (upd_ne (ne_of_none e1 nF)).trans e1
    · exact (upd_ne (ne_of_none e nF)).trans e
    · exact (upd_ne (Nat.ne_of_lt hlt)).trans upd_same
  | some cv =>
    obtain ⟨c', e, hco⟩ := ha pos cv hc
    subst e
    rw [hn] at hco
    refine PySem.W.kla_makeFunctionHit (mg := X.mg) (c := c) (P := P) (ps := ps) (closure_ok hfree) I.ok.glob (I.mod.glob.keeps I.bk) hcode (TB.code.keeps I.bk) hP' ht hc bP fun ctv h' tk hx hsz => ?_
    have I1 : Inv X pins σ H { s with heap := h', toks := tk } := I.kept hx
    have nF : H h'.objs.size = none := I1.hok.fresh (Nat.le_refl _)
    have I2 := inv_lam (L := L) (cl := cloFrom X.env.cells L.scope.names []) (c := c') (t' := tk) (pm := (X.mg "__name__").getD .none) (ctv := ctv) I1
    refine h h'.objs.size c' _ _ I2 (fun b o e n => ?_) (fun b e => NdefX.upd_none e) (hT.ext fun b o e => ?_) nF upd_same ?_
    · exact (upd_ne (ne_of_none e nF)).trans e
    · exact (upd_ne (ne_of_none e nF)).trans e
    · exact (upd_ne (ne_of_none hco nF)).trans hco
end
/-! ### data without captured names -/
mutual
def fnFree : D → Bool
  | .tup ds => fnFrees ds
  | .ktup ds => fnFrees ds
  | .klst ds => fnFrees ds
  | .lst ds => fnFrees ds
  | .dic _ vs => fnFrees vs
  | .dicT _ vs => fnFrees vs
  | .obj _ _ vs => fnFrees vs
  | .fn _ vs => vs.isEmpty
  | _ => true
def fnFrees : List D → Bool
  | [] => true
  | d :: ds => fnFree d && fnFrees ds
end
mutual
theorem Rep.less {W : Wd} {Z' : Addr → Option V} {A : Addr → Prop} {μ : List Addr} {H : Hp} : ∀ (d : D) (v : V), fnFree d = true → Rep (W.withZ Z') A μ H d v → Rep W A μ H d v
  | .non, v, _, h => by simpa only [Rep] using h
  | .bl b, v, _, h => by simpa only [Rep] using h
  | .int b, v, _, h => by simpa only [Rep] using h
  | .str b, v, _, h => by simpa only [Rep] using h
  | .ty b, v, _, h => by simpa only [Rep] using h
  | .loc l, v, _, h => by simpa only [Rep] using h
  | .tup ds, v, hl, h => by simp only [Rep] at h ⊢; obtain ⟨a, xs, h1, h2, h3, h4⟩ := h; exact ⟨a, xs, h1, h2, h3, Reps.less _ _ (by simpa only [fnFree] using hl) h4⟩
  | .ktup ds, v, hl, h => by simp only [Rep] at h ⊢; obtain ⟨a, xs, h1, h2, h3, h4⟩ := h; exact ⟨a, xs, h1, h2, h3, Reps.less _ _ (by simpa only [fnFree] using hl) h4⟩
  | .klst ds, v, hl, h => by simp only [Rep] at h ⊢; obtain ⟨a, xs, h1, h2, h3, h4⟩ := h; exact ⟨a, xs, h1, h2, h3, Reps.less _ _ (by simpa only [fnFree] using hl) h4⟩
  | .lst ds, v, hl, h => by simp only [Rep] at h ⊢; obtain ⟨a, xs, h1, h2, h3, h4⟩ := h; exact ⟨a, xs, h1, h2, h3, Reps.less _ _ (by simpa only [fnFree] using hl) h4⟩
  | .dic ks vs, v, hl, h => by simp only [Rep] at h ⊢; obtain ⟨a, xs, h1, h2, h3, h4⟩ := h; exact ⟨a, xs, h1, h2, h3, Reps.less _ _ (by simpa only [fnFree] using hl) h4⟩
  | .dicT ks vs, v, hl, h => by simp only [Rep] at h ⊢; obtain ⟨a, xs, h1, h2, h3, h4⟩ := h; exact ⟨a, xs, h1, h2, h3, Reps.less _ _ (by simpa only [fnFree] using hl) h4⟩
  | .obj c fs vs, v, hl, h => by simp only [Rep] at h ⊢; obtain ⟨a, dx, xs, h1, h2, h3, h4⟩ := h; exact ⟨a, dx, xs, h1, h2, h3, Reps.less _ _ (by simpa only [fnFree] using hl) h4⟩
  | .fn i vs, v, hl, h => by
    simp only [Rep] at h ⊢
    obtain ⟨f, c, cl, L, ws, h1, h2, h3, h4, h5, h6, h7, h8⟩ := h
    cases vs with
    | nil =>
      simp only [Reps] at h8
      subst h8
      have h7 : CapD Z' L cl [] := h7
      have e : L.fr = [] := by have := h7.at_; simpa using this
      exact ⟨f, c, cl, L, [], h1, h2, h3, h4, h5, h6, ⟨by rw [e]; rfl, h7.only, h7.inj⟩, by simp only [Reps]⟩
    | cons _ _ => simp [fnFree] at hl
theorem Reps.less {W : Wd} {Z' : Addr → Option V} {A : Addr → Prop} {μ : List Addr} {H : Hp} : ∀ (ds : List D) (vs : List V), fnFrees ds = true → Reps (W.withZ Z') A μ H ds vs → Reps W A μ H ds vs
  | [], vs, _, h => by simpa only [Reps] using h
  | d :: ds, vs, hl, h => by
    simp only [fnFrees, Bool.and_eq_true] at hl
    simp only [Reps] at h ⊢
    obtain ⟨v, r, h1, h2, h3⟩ := h
    exact ⟨v, r, h1, Rep.less _ _ hl.1 h2, Reps.less _ _ hl.2 h3⟩
end
section
variable {W : Wd} {Wx : WX} {X : Cx} {A A0 A1 : Addr → Prop} {μ μ1 μ' : List Addr} {O O1 O' : Nat → Option Addr} {H H1 H2 H' : Hp} {σ σ' : St} {S S' : Stt} {pos p : Pos} {Z' : Addr → Option V}
theorem Own.less {d : D} {a : Addr} (hl : fnFree d = true) (h : Own (W.withZ Z') A μ H d a) : Own W A μ H d a := by
  cases d with
  | lst ds => obtain ⟨xs, h1, h2, h3⟩ := h; exact ⟨xs, h1, h2, Reps.less _ _ (by simpa only [fnFree] using hl) h3⟩
  | dic ks vs => obtain ⟨xs, h1, h2, h3⟩ := h; exact ⟨xs, h1, h2, Reps.less _ _ (by simpa only [fnFree] using hl) h3⟩
  | dicT ks vs => obtain ⟨xs, h1, h2, h3⟩ := h; exact ⟨xs, h1, h2, Reps.less _ _ (by simpa only [fnFree] using hl) h3⟩
  | obj c fs vs => obtain ⟨dx, xs, h1, h2, h3⟩ := h; exact ⟨dx, xs, h1, h2, Reps.less _ _ (by simpa only [fnFree] using hl) h3⟩
  | _ => exact h.elim
theorem RepS.more (hz : ∀ c v, W.Z c = some v → Z' c = some v) (rs : RepS W A0 μ O H σ S) : RepS (W.withZ Z') A0 μ O H σ S := by
  refine ⟨fun i => ?_, rs.oinj, rs.otr, rs.obl, fun k d a h1 h2 => (rs.obs k d a h1 h2).more hz, rs.nd, rs.atr, rs.tab, rs.len⟩
  have q := rs.sl i
  cases e : S.sl[i]? with
  | none => trivial
  | some x =>
    rw [e] at q
    cases x with
    | no => trivial
    | d y => obtain ⟨v, h1, h2⟩ := q; exact ⟨v, h1, Rep.more hz _ _ h2⟩
    | own y => obtain ⟨a, h1, h2, h3⟩ := q; exact ⟨a, h1, h2, h3.more hz⟩
/-- tables have grown, and there is more -/
theorem RepS.extN (rs : RepS W A0 μ O H σ S) (e : LamX.ExtN H H1) (t : NdefX.TabsN W.T H1) : RepS W A0 μ O H1 σ S ∧ Le (Av A0 μ O) (Av A0 μ O) μ μ H H1 := by
  have l : Le (Av A0 μ O) (Av A0 μ O) μ μ H H1 := ⟨fun _ _ h => h, fun a o h n tt => ⟨e a o h tt, n⟩⟩
  have al : ∀ a, Mt H a → H1 a = H a := fun a ⟨o, q, m⟩ => by
    rw [q, e a o q (fun ps z => by subst z; exact m)]
  have nn : ∀ a, Mt H a → Mt H1 a := fun a h => by
    obtain ⟨o, q, m⟩ := h
    exact ⟨o, by rw [al a ⟨o, q, m⟩]; exact q, m⟩
  refine ⟨⟨fun i => (rs.sl i).imp l fun a h => ⟨h, fun _ => al a (rs.otr i a h).2.2⟩, rs.oinj, fun i a h => ?_, rs.obl, fun k d a h1 h2 => ?_, rs.nd, fun a h => nn a (rs.atr a h), t, rs.len⟩, l⟩
  · obtain ⟨h1, h2, h3⟩ := rs.otr i a h
    exact ⟨h1, h2, nn a h3⟩
  · have o := rs.obs k d a h1 h2
    exact o.le l (al a o.mt)
theorem RepS.noExt (rs : RepS W A0 μ O H σ S) {a : Addr} {q : Heap → Prop} (e : H a = some (.ext q)) : ¬ Av A0 μ O a := fun z => by
  rcases z with z | z | ⟨i, z⟩
  · exact (rs.atr a z).ext e
  · obtain ⟨l, hl⟩ := List.mem_iff_getElem?.mp z
    have hll : l < μ.length := (List.getElem?_eq_some_iff.mp hl).1
    rw [← rs.obl] at hll
    exact Mt.ext (rs.obs l _ a (List.getElem?_eq_getElem hll) hl).mt e
  · exact (rs.otr i a z).2.2.ext e
end
end DL
end
section
set_option Elab.async false
set_option linter.all false
set_option maxRecDepth 100000
namespace DL
open PySem PySem.Spec L2
/-! ### a call whose last argument is a lambda -/
/-- where a lambda is made: the facts of its text -/
structure LamAt (X : Cx) (W : Wd) (li : Nat) (L : Lam) (js : List Nat) (pos : Pos) : Prop where
  lam : W.lam li = some L
  tb : ∃ (c P : Addr) (nm : Nat → Nat → Str), LamX.TabB X.base X.mg c P ∧ X.env.code = .ref c ∧ (P, nm) ∈ W.T ∧ nm pos.line pos.col = X.env.qual ++ "<lambda>" ∧ ∀ p ∈ W.T, p.1 = P → p.2 = nm
  name : L.name = "<lambda>"
  qual : L.qual = X.env.qual ++ "<lambda>"
  deflt : defaultsOf L.params X.env = ([], [])
  free : ∀ y ∈ L.scope.names, y.2 = .free → X.env.scope.names.lookup y.1 = some .cell ∨ X.env.scope.names.lookup y.1 = some .free
  fr : ∀ y ∈ L.fr, (y, NameKind.free) ∈ L.scope.names
  frs : ∀ y ∈ L.scope.names, y.2 = .free → y.1 ∈ L.fr
  at_ : js.map (fun j => X.N[j]?) = L.fr.map some
def caps (sl : List Sl) : List Nat → Option (List D)
  | [] => some []
  | j :: js => match sl[j]?, caps sl js with
    | some (.d x), some xs => some (x :: xs)
    | _, _ => none
def slFree : Sl → Bool
  | .own d => fnFree d
  | _ => true
def lamRes (S : Stt) : Res D → Res D
  | .ok d S' => if S.sl.all slFree && (fnFree d && fnFrees S'.ob) then .ok d S' else .stuck
  | .exn c p S' => if S.sl.all slFree && (fnFrees S'.ob && (match p with | none => true | some q => fnFrees q.2)) then .exn c p S' else .stuck
  | .stuck => .stuck
def callLamM (F : Fn) (li : Nat) (js : List Nat) (fs : List (M D)) : M D := M.bnd (seqM fs) fun xs S => match caps S.sl js with
  | some cs => lamRes S (callF F (xs ++ [.fn li cs]) S)
  | none => .stuck
section
variable {W : Wd} {Wx : WX} {X : Cx} {A0 A1 : Addr → Prop} {μ μ1 μ' : List Addr} {O O1 O' : Nat → Option Addr} {H H1 H2 H' : Hp} {σ σ' : St} {S S' : Stt} {pos p : Pos} {Z' : Addr → Option V}
theorem caps_at (rs : RepS W A0 μ O H σ S) : ∀ {js : List Nat} {cs : List D}, caps S.sl js = some cs → ∃ ws : List V, js.map (NdefX.slotAt σ) = ws.map some ∧ Reps W (Av A0 μ O) μ H cs ws
  | [], cs, h => by
    simp only [caps, Option.some.injEq] at h
    subst h
    exact ⟨[], rfl, reps_nil⟩
  | j :: js, cs, h => by
    unfold caps at h
    have q := rs.sl j
    cases e : S.sl[j]? with
    | none => rw [e] at h; simp at h
    | some x =>
      rw [e] at h q
      cases x with
      | no => simp at h
      | own _ => simp at h
      | d y =>
        cases e2 : caps S.sl js with
        | none => rw [e2] at h; simp at h
        | some xs =>
          rw [e2] at h
          simp only [Option.some.injEq] at h
          subst h
          obtain ⟨v, h1, h2⟩ := q
          obtain ⟨ws, h3, h4⟩ := caps_at rs e2
          exact ⟨v :: ws, by rw [List.map_cons, NdefX.slotAt_of h1, h3]; rfl, reps_cons h2 h4⟩
/-- the cells that a new lambda captured, and those known before -/
noncomputable def capZ (Z : Addr → Option V) (L : Lam) (cl : List (Str × Addr)) (js : List Nat) (σ : St) : Addr → Option V := fun c =>
  match (L.fr.zip js).find? (fun p => decide (cl.lookup p.1 = some c)) with
  | some p => NdefX.slotAt σ p.2
  | none => Z c
theorem capZ_in {Z : Addr → Option V} {L : Lam} {cl : List (Str × Addr)} {js : List Nat} {N : List Str} (hN : N.Nodup) (inj : ∀ x y c, cl.lookup x = some c → cl.lookup y = some c → x = y) (at_ : js.map (fun j => N[j]?) = L.fr.map some)
    {i : Nat} {y : Str} {c : Addr} (hy : L.fr[i]? = some y) (hc : cl.lookup y = some c) : ∃ j, js[i]? = some j ∧ capZ Z L cl js σ c = NdefX.slotAt σ j := by
  have atI : ∀ {i : Nat} {y : Str}, L.fr[i]? = some y → ∃ j, js[i]? = some j ∧ N[j]? = some y := fun {i y} e => by
    have q := congrArg (fun l => l[i]?) at_
    simp only [List.getElem?_map, e, Option.map_some] at q
    cases ej : js[i]? with
    | none => rw [ej] at q; simp at q
    | some j =>
      rw [ej] at q
      simp only [Option.map_some, Option.some.injEq] at q
      exact ⟨j, rfl, q⟩
  obtain ⟨j, hj, hNj⟩ := atI hy
  refine ⟨j, hj, ?_⟩
  unfold capZ
  have mem : (y, j) ∈ L.fr.zip js := by
    refine List.mem_iff_getElem?.mpr ⟨i, ?_⟩
    rw [List.getElem?_zip_eq_some]
    exact ⟨hy, hj⟩
  cases e : (L.fr.zip js).find? (fun p => decide (cl.lookup p.1 = some c)) with
  | none =>
    have := List.find?_eq_none.mp e _ mem
    simp [hc] at this
  | some p =>
    have h1 := List.find?_some e
    simp only [decide_eq_true_eq] at h1
    have h2 := List.mem_of_find?_eq_some e
    obtain ⟨i', hi'⟩ := List.mem_iff_getElem?.mp h2
    rw [List.getElem?_zip_eq_some] at hi'
    obtain ⟨j', hj', hNj'⟩ := atI hi'.1
    rw [hi'.2] at hj'; cases hj'
    have ey : p.1 = y := inj _ _ _ h1 hc
    rw [ey] at hNj'
    have : p.2 = j := by
      have hl : p.2 < N.length := (List.getElem?_eq_some_iff.mp hNj').1
      exact (List.getElem?_inj hl hN).mp (hNj'.trans hNj.symm)
    show NdefX.slotAt σ p.2 = _
    rw [this]
theorem capZ_out {Z : Addr → Option V} {L : Lam} {cl : List (Str × Addr)} {js : List Nat} {c : Addr} : capZ Z L cl js σ c = Z c ∨ ∃ (i : Nat) (y : Str) (j : Nat), L.fr[i]? = some y ∧ js[i]? = some j ∧ cl.lookup y = some c ∧ capZ Z L cl js σ c = NdefX.slotAt σ j := by
  unfold capZ
  cases e : (L.fr.zip js).find? (fun p => decide (cl.lookup p.1 = some c)) with
  | none => exact .inl rfl
  | some p =>
    have h1 := List.find?_some e
    simp only [decide_eq_true_eq] at h1
    obtain ⟨i', hi'⟩ := List.mem_iff_getElem?.mp (List.mem_of_find?_eq_some e)
    rw [List.getElem?_zip_eq_some] at hi'
    exact .inr ⟨i', p.1, p.2, hi'.1, hi'.2, h1, rfl⟩
theorem capZ_all {Z : Addr → Option V} {L : Lam} {cl : List (Str × Addr)} {js : List Nat} {h : Heap} (C : CellsZ Z h H) {ws : List V} (hw : js.map (NdefX.slotAt σ) = ws.map some) (D : NdefX.CellsAt cl L.fr (js.map (NdefX.slotAt σ)) h H) : CellsZ (capZ Z L cl js σ) h H ∧ ∀ c v, Z c = some v → capZ Z L cl js σ c = some v := by
  have one : ∀ {c : Addr} {v : V}, (∃ (i : Nat) (y : Str) (j : Nat), L.fr[i]? = some y ∧ js[i]? = some j ∧ cl.lookup y = some c ∧ NdefX.slotAt σ j = some v) → H c = none ∧ ∃ u, RelV v u ∧ h.IsCell c (some u) := fun {c v} ⟨i, y, j, h1, h2, h3, h4⟩ => by
    refine ⟨(D.all _ _ h3).1, ?_⟩
    obtain ⟨c', e1, e2⟩ := D.has i y h1
    rw [h3] at e1; cases e1
    exact e2 v (by rw [List.getElem?_map, h2, Option.map_some, h4])
  refine ⟨fun c v e => ?_, fun c v e => ?_⟩
  · rcases capZ_out (Z := Z) (L := L) (cl := cl) (js := js) (σ := σ) (c := c) with z | ⟨i, y, j, h1, h2, h3, h4⟩
    · rw [z] at e; exact C c v e
    · exact one ⟨i, y, j, h1, h2, h3, by rw [← h4]; exact e⟩
  · rcases capZ_out (Z := Z) (L := L) (cl := cl) (js := js) (σ := σ) (c := c) with z | ⟨i, y, j, h1, h2, h3, h4⟩
    · rw [z]; exact e
    · cases e2 : NdefX.slotAt σ j with
      | none =>
        have q := congrArg (fun l => l[i]?) hw
        simp only [List.getElem?_map, h2, Option.map_some, e2] at q
        cases ew : ws[i]? with
        | none => rw [ew] at q; simp at q
        | some w => rw [ew] at q; simp at q
      | some v2 =>
        obtain ⟨_, u2, r2, o2, a2, b2⟩ := one ⟨i, y, j, h1, h2, h3, e2⟩
        obtain ⟨_, u1, r1, o1, a1, b1⟩ := C c v e
        rw [a2] at a1; cases a1
        rw [b2] at b1
        have : u2 = u1 := by injection b1 with z; injection z
        subst this
        rw [h4, e2, relV_inj r2 r1]
theorem capZ_cap {Z : Addr → Option V} {L : Lam} {cl : List (Str × Addr)} {js : List Nat} {N : List Str} {ws : List V} (hN : N.Nodup) (inj : ∀ x y c, cl.lookup x = some c → cl.lookup y = some c → x = y) (at_ : js.map (fun j => N[j]?) = L.fr.map some) (has : ∀ (i : Nat) (y : Str), L.fr[i]? = some y → ∃ c, cl.lookup y = some c)
    (only : ∀ y c, cl.lookup y = some c → y ∈ L.fr) (hw : js.map (NdefX.slotAt σ) = ws.map some) : CapD (capZ Z L cl js σ) L cl ws := by
  refine ⟨?_, only, inj⟩
  refine List.ext_getElem? fun i => ?_
  have hl : L.fr.length = ws.length := by
    have h1 := congrArg List.length at_
    have h2 := congrArg List.length hw
    simp only [List.length_map] at h1 h2
    omega
  simp only [List.getElem?_map]
  cases e : L.fr[i]? with
  | none =>
    have : ws[i]? = none := by
      rw [List.getElem?_eq_none_iff] at e ⊢
      omega
    rw [this]; rfl
  | some y =>
    obtain ⟨c, hc⟩ := has i y e
    obtain ⟨j, hj, hz⟩ := capZ_in (Z := Z) (σ := σ) hN inj at_ e hc
    have q := congrArg (fun l => l[i]?) hw
    simp only [List.getElem?_map, hj, Option.map_some] at q
    show some ((cl.lookup y).bind (capZ Z L cl js σ)) = _
    rw [hc]
    show some (capZ Z L cl js σ c) = _
    rw [hz, q]
/-- the lambda itself -/
def tLam (W : Wd) (L : Lam) (cells : List (Str × Addr)) : TE := fun _ H Q => NdefX.TabsN W.T H ∧ ∀ (f c' : Addr) (H1 : Hp), LamX.ExtN H H1 → (∀ b, H1 b = Option.none → H b = Option.none) → NdefX.TabsN W.T H1 → H f = none → H1 f = some (LamO f L (cloFrom cells L.scope.names []) c') → H1 c' = some (LamX.CodeO c' L.qual) → Q (.ref f) H1
theorem de_lam {li : Nat} {L : Lam} {js : List Nat} {pos : Pos} (A : LamAt X W li L js pos) : PE X (.Lambda L.params L.body L.scope pos) (tLam W L X.env.cells) := by
  refine ⟨fun pins s σ H Q I ⟨hT, h⟩ => ?_⟩
  have ok := I.ok
  obtain ⟨c, P, nm, TB, hcode, hm, hn, hu⟩ := A.tb
  refine lam_make3 I TB hcode hm hn A.name A.qual hu hT A.deflt (fun y hy e => (A.free y hy e).elim (fun z => ok.has _ (.inl z)) fun z => ok.has _ (.inr z)) fun f c' H1 s' I1 hx hn hT1 hf h1 h2 => ?_
  exact ⟨.ref f, H1, I1, rfl, h f c' H1 hx hn hT1 hf h1 h2⟩
def tDAL (W : Wd) (Wx : WX) (tl : TE) (fs : List (M D)) : TA := fun σ H Q => tDA W Wx (seqM fs) σ H fun vs H1 => tl σ H1 fun w H2 => Q (vs ++ [w]) H2
theorem dal_nil {e : Expr} {tl : TE} (hl : PE X e tl) (hs : starEach [e] X.env = [(false, eval e X.env)] := by rfl) : PA X [e] (tDAL W Wx tl []) :=
  PA.imp (pa_cons hl pa_nil hs) fun σ H Q h => by
    obtain ⟨A0, μ, O, S, rs, p⟩ := h
    exact tG_ret (rl := rlA W) rs p reps_nil
theorem dal_cons {e : Expr} {es : List Expr} {f : M D} {fs : List (M D)} {tl : TE} (ha : PE X e (tD W Wx f)) (hr : PA X es (tDAL W Wx tl fs)) (hs : starEach (e :: es) X.env = (false, eval e X.env) :: starEach es X.env := by rfl) : PA X (e :: es) (tDAL W Wx tl (f :: fs)) :=
  PA.imp (pa_cons ha hr hs) fun σ H Q h => tG_mono (tG_bind (rl := rlD W) h) fun v H1 ⟨A0, μ1, O, S1, x, rs1, r1, p1⟩ => by
    refine tG_mono (tG_bindK (rl := rlA W) keeps_rep rs1 r1 p1) fun w H2 ⟨μ2, S2, y, rs2, r2, ry, p2⟩ => ?_
    exact tG_ret (rl := rlA W) rs2 p2 (reps_cons r2 ry)
/-- back from a run that knew more -/
theorem lam_back {r : Res D} {Q : VK} (rs : RepS W A0 μ O H σ S) (hr : ∀ a S', r = .ok a S' → S'.sl = S.sl) (hr2 : ∀ c q S', r = .exn c q S' → S'.sl = S.sl) (p : PostG W Wx (rlD W) A0 μ O H σ (lamRes S r) Q) : PostG (W.withZ Z') Wx (rlD (W.withZ Z')) A0 μ O H σ r Q := by
  have back : ∀ {S' : Stt} {H' : Hp} {μ' : List Addr}, S'.sl = S.sl → S.sl.all slFree = true → fnFrees S'.ob = true → Step (Ch μ O) μ μ' H H' → RepS (W.withZ Z') A0 μ' O H' σ S' → RepS W A0 μ' O H' σ S' := fun {S' H' μ'} e h1 h2 st rs' => by
    refine ⟨fun i => ?_, rs'.oinj, rs'.otr, rs'.obl, fun k d a e1 e2 => ?_, rs'.nd, rs'.atr, rs'.tab, rs'.len⟩
    · have q := rs.sl i
      have q' := rs'.sl i
      rw [e] at q' ⊢
      cases es : S.sl[i]? with
      | none => trivial
      | some x =>
        rw [es] at q q'
        cases x with
        | no => trivial
        | d y => obtain ⟨v, z1, z2⟩ := q; exact ⟨v, z1, Rep.step z2 st rs⟩
        | own y =>
          obtain ⟨a, z1, z2, z3⟩ := q'
          have hf : slFree (.own y) = true := List.all_eq_true.mp h1 _ (List.mem_of_getElem? es)
          exact ⟨a, z1, z2, Own.less hf z3⟩
    · have o := rs'.obs k d a e1 e2
      refine Own.less ?_ o
      have : ∀ {ds : List D} {k : Nat} {d : D}, fnFrees ds = true → ds[k]? = some d → fnFree d = true := fun {ds} => by
        induction ds with
        | nil => intro k d _ h; simp at h
        | cons x xs ih =>
          intro k d hf h
          simp only [fnFrees, Bool.and_eq_true] at hf
          cases k with
          | zero => simp at h; subst h; exact hf.1
          | succ k => exact ih hf.2 (by simpa using h)
      exact this h2 e1
  cases er : r with
  | stuck => rw [er] at p; exact p
  | ok d S' =>
    rw [er] at p
    unfold lamRes at p
    simp only at p
    split at p
    · rename_i hc
      simp only [Bool.and_eq_true] at hc
      exact fun v H' μ' st rs' r' => p v H' μ' st (back (hr _ _ er) hc.1 hc.2.2 st rs') (Rep.less _ _ hc.2.1 r')
    · exact p.elim
  | exn c q S' =>
    rw [er] at p
    cases q with
    | none =>
      unfold lamRes at p
      simp only at p
      split at p
      · rename_i hc
        simp only [Bool.and_eq_true] at hc
        exact fun H' μ' st rs' => p H' μ' st (back (hr2 _ _ _ er) hc.1 hc.2.1 st rs')
      · exact p.elim
    | some z =>
      unfold lamRes at p
      simp only at p
      split at p
      · rename_i hc
        simp only [Bool.and_eq_true] at hc
        exact fun H' μ' dd xs st rs' hl hd r' => p H' μ' dd xs st (back (hr2 _ _ _ er) hc.1 hc.2.1 st rs') hl hd (Reps.less _ _ hc.2.2 r')
      · exact p.elim
theorem de_callLam {x : Str} {ps : List Str} {F : Fn} {li : Nat} {L : Lam} {js : List Nat} {fs : List (M D)} {j k : Nat} {e : Expr} {es : List Expr} {lpos : Pos} (C : CtxOk X W Wx j) (CZ : CtxZ X W.Z) (A : LamAt X W li L js lpos) (G : GFnZ X.prog X.w X.K X.mg X.base k x ps W F) (hk : k ≤ j) (hg : Gl X x)
    (ha : PA X (e :: es) (tDAL W Wx (tLam W L X.env.cells) fs))
    (hdb : (x == ("__debug__" : Str)) = false := by decide) (he : starEach (e :: es) X.env = (false, eval e X.env) :: starEach es X.env := by rfl) (hpl : (backTo pos (starEach es X.env)).any (·.1) = false := by rfl) :
    PE X (.Call (.Name x p) (e :: es) [] pos) (tD W Wx (callLamM F li js fs)) := by
  obtain ⟨g, fd, hm, hkp, hb, fz⟩ := G
  refine ⟨fun pins s σ H Q I h => ?_⟩
  have ok := I.ok
  refine wpAny_Call_Name_kw (ld_glob I hg hm ?_ hdb)
  have h' : tDAL W Wx (tLam W L X.env.cells) fs σ H (fun us H2 => ∃ A0 μ O S ds cs ws f c', RepS W A0 μ O H2 σ S ∧ Reps W (Av A0 μ O) μ H2 ds (us.dropLast) ∧ us = us.dropLast ++ [.ref f] ∧ caps S.sl js = some cs ∧ js.map (NdefX.slotAt σ) = ws.map some ∧ Reps W (Av A0 μ O) μ H2 cs ws ∧ H2 f = some (LamO f L (cloFrom X.env.cells L.scope.names []) c') ∧ H2 c' = some (LamX.CodeO c' L.qual) ∧ PostG W Wx (rlD W) A0 μ O H2 σ (lamRes S (callF F (ds ++ [.fn li cs]) S)) Q) := by
    refine tG_mono (tG_bind (rl := rlA W) h) fun vs H1 ⟨A0, μ1, O, S1, ds, rs1, r1, p1⟩ => ⟨rs1.tab, fun f c' H2 hx hn hT hf h1 h2 => ?_⟩
    cases ec : caps S1.sl js with
    | none => rw [ec] at p1; exact p1.elim
    | some cs =>
      rw [ec] at p1
      obtain ⟨ws, w1, w2⟩ := caps_at rs1 ec
      obtain ⟨rs2, le⟩ := rs1.extN hx hT
      have st : Step (Ch μ1 O) μ1 μ1 H1 H2 := ⟨⟨[], by simp⟩, fun a h n => absurd h n, fun a o h _ tt => hx a o h tt, hn⟩
      exact ⟨A0, μ1, O, S1, ds, cs, ws, f, c', rs2, by rw [List.dropLast_concat]; exact Reps.le le _ _ r1, by rw [List.dropLast_concat], ec, w1, Reps.le le _ _ w2, h1, h2, PostG.step st p1⟩
  refine PySem.W.callWith_K (h₀ := X.base) I.ok.mod.kin hkp (thn (ha.run pos pins s σ H _ I h') fun us s1 ⟨vs, H1, I1, r, q⟩ => ⟨I1.kIn, ?_⟩) he hpl
  obtain ⟨A0, μ, O, S, ds, cs, ws, f, c', rs, rd, evs, ec, hw, rc, hf, hc, p1⟩ := q
  have cp : NdefX.Caps X (cloFrom X.env.cells L.scope.names []) L.fr js := NdefX.Caps.made ok A.free A.fr A.at_
  have CA := NdefX.cells_of I1 cp
  obtain ⟨cz, hz⟩ := capZ_all (L := L) (CZ.cells.later CZ.ex I1) hw CA
  have only : ∀ y c, (cloFrom X.env.cells L.scope.names []).lookup y = some c → y ∈ L.fr := fun y c e => by
    rcases cloFrom_mem (PySem.mem_of_lookup e) with hm | ⟨h1, h2⟩
    · cases hm
    · exact A.frs _ h1 rfl
  have cd : CapD (capZ W.Z L (cloFrom X.env.cells L.scope.names []) js σ) L (cloFrom X.env.cells L.scope.names []) ws := capZ_cap C.nd CA.inj A.at_ (fun i y e => by obtain ⟨c, z, _⟩ := CA.has i y e; exact ⟨c, z⟩) only hw
  have rs' := rs.more hz
  have nf : ¬ Av A0 μ O f := rs.noExt hf
  have nc : ¬ Av A0 μ O c' := rs.noExt hc
  have rl : Rep (W.withZ (capZ W.Z L (cloFrom X.env.cells L.scope.names []) js σ)) (Av A0 μ O) μ H1 (.fn li cs) (.ref f) := by
    simp only [Rep]
    exact ⟨f, c', _, L, ws, rfl, A.lam, nf, nc, hf, hc, cd, Reps.more hz _ _ rc⟩
  have rv : Reps (W.withZ (capZ W.Z L (cloFrom X.env.cells L.scope.names []) js σ)) (Av A0 μ O) μ H1 (ds ++ [.fn li cs]) vs := by
    rw [evs]
    have : ∀ {ds : List D} {us : List V}, Reps W (Av A0 μ O) μ H1 ds us → Reps (W.withZ (capZ W.Z L (cloFrom X.env.cells L.scope.names []) js σ)) (Av A0 μ O) μ H1 (ds ++ [.fn li cs]) (us ++ [.ref f]) := fun {ds} => by
      induction ds with
      | nil => intro us z; simp only [Reps] at z; subst z; exact reps_cons rl reps_nil
      | cons d ds ih => intro us z; simp only [Reps] at z; obtain ⟨v, vs', e, z1, z2⟩ := z; subst e; exact reps_cons (Rep.more hz _ _ z1) (ih z2)
    exact this rd
  refine run_Z (W := W) (Z := capZ W.Z L (cloFrom X.env.cells L.scope.names []) js σ) fz (C.room.mono hk) hb C.takes I1 cz r rs' rv (lam_back rs ?_ ?_ p1)
  · intro a S' er
    unfold callF at er
    cases e2 : F (ds ++ [.fn li cs]) S.ob with
    | ok d S2 => rw [e2] at er; simp only [after] at er; cases er; rfl
    | exn c q S2 => rw [e2] at er; simp only [after] at er; cases er
    | stuck => rw [e2] at er; simp only [after] at er; cases er
  · intro a q S' er
    unfold callF at er
    cases e2 : F (ds ++ [.fn li cs]) S.ob with
    | ok d S2 => rw [e2] at er; simp only [after] at er; cases er
    | exn c q S2 => rw [e2] at er; simp only [after] at er; cases er; rfl
    | stuck => rw [e2] at er; simp only [after] at er; cases er
end
end DL
end
section
set_option Elab.async false
set_option linter.all false
set_option maxRecDepth 100000
namespace DL
open PySem PySem.Spec L2
/-! ### {k: v} -/
def disp1M (f g : M D) : M D := M.bnd f fun k => M.bnd g fun v S => match keyOf k with
  | some kk => .ok (.dic [kk] [v]) S
  | none => .stuck
section
variable {W : Wd} {Wx : WX} {X : Cx} {A0 A1 : Addr → Prop} {μ μ1 μ' : List Addr} {O O1 O' : Nat → Option Addr} {H H1 H2 H' : Hp} {σ σ' : St} {S S' : Stt} {pos p : Pos}
/-- a thing that all data keep off is written anew -/
theorem RepS.offM {D0 : Addr} {o o' : HO} (rs : RepS W (plus A0 D0) μ O H σ S) (hD : H D0 = some o) (m1 : MutD o) (m2 : MutD o') (hm : D0 ∉ μ) :
    RepS W (plus A0 D0) μ O (upd H D0 o') σ S ∧ Le (Av (plus A0 D0) μ O) (Av (plus A0 D0) μ O) μ μ H (upd H D0 o') := by
  have l : Le (Av (plus A0 D0) μ O) (Av (plus A0 D0) μ O) μ μ H (upd H D0 o') := ⟨fun _ _ h => h, fun a o h n t => ⟨by
    rw [upd_ne (fun z => n (.inl (.inr z)))]; exact h, n⟩⟩
  have nn : ∀ a, Mt H a → Mt (upd H D0 o') a := fun a h => by
    by_cases e : a = D0
    · subst e; exact ⟨_, upd_same, m2⟩
    · obtain ⟨o, q, m⟩ := h
      exact ⟨o, by rw [upd_ne e]; exact q, m⟩
  refine ⟨⟨fun i => (rs.sl i).imp l fun a h => ⟨h, fun _ => upd_ne (fun z => (rs.otr i a h).1 (.inr z))⟩, rs.oinj, fun i a h => ?_, rs.obl, fun k d a h1 h2 => ?_, rs.nd, fun a h => nn a (rs.atr a h), fun p hp => ?_, rs.len⟩, l⟩
  · obtain ⟨h1, h2, h3⟩ := rs.otr i a h
    exact ⟨h1, h2, nn a h3⟩
  · exact (rs.obs k d a h1 h2).le l (upd_ne (fun z => hm (z ▸ List.mem_of_getElem? h2)))
  · obtain ⟨ps, q1, q2, q3⟩ := rs.tab p hp
    have ne : ∀ {b : Addr} {u : HO}, H b = some u → ¬ MutD u → b ≠ D0 := fun h n z => by
      subst z; rw [hD] at h; cases h; exact n m1
    refine ⟨ps, by rw [upd_ne (ne q1 fun z => z)]; exact q1, q2, fun pos cv hc => ?_⟩
    obtain ⟨c, z1, z2⟩ := q3 pos cv hc
    exact ⟨c, z1, by rw [upd_ne (ne z2 fun z => z)]; exact z2⟩
theorem exn_more {c : Nat} {q : Option (List Str × List D)} {P : Addr → Prop} (h : ExnP W Wx A0 μ O H σ c q S') (hp : ∀ a, A0 a → P a) : ExnP W Wx P μ O H σ c q S' := by
  cases q with
  | none => exact fun H' μ' st rs => h H' μ' st (rs.fewer hp)
  | some z => exact fun H' μ' dd xs st rs hl hd r => h H' μ' dd xs st (rs.fewer hp) hl hd (Reps.le (Le.same (fun _ _ h => h) fun a y => y.imp (hp a) id) _ _ r)
theorem df_disp1 {ek ev : Expr} {f g : M D} (hk : PE X ek (tD W Wx f)) (hv : PE X ev (tD W Wx g)) : PE X (.Dict [some ek] [ev] pos) (tF W Wx (disp1M f g)) := by
  refine PE.imp (pe_disp (pps_cons hk hv pps_nil) rfl rfl (by simp) (by simp)) fun σ H Q ⟨A0, μ, O, S, rs, p⟩ => ?_
  intro a ha
  obtain ⟨na, rs0, _⟩ := fresh_own (o := .dK []) (d := .dic [] []) rs ha fun A hA => ⟨[], upd_same, rfl, reps_nil⟩
  have st0 : Step (Ch μ O) μ μ H (upd H a (.dK [])) := Step.same (upd_keep ha)
  show tD W Wx f σ (upd H a (.dK [])) fun x H1 => tD W Wx g σ H1 fun y H2 => H2 a = some (.dK []) ∧ ∃ kvs : List (Key × V), [(x, y)] = kvs.map (fun kv => (kV kv.1, kv.2)) ∧ kvs.length ≤ 15 ∧ Q (.ref a) (upd H2 a (.dK (mergeK [] kvs)))
  refine ⟨plus A0 a, μ, O, S, rs0, ?_⟩
  unfold disp1M M.bnd at p
  cases ef : f S with
  | stuck => rw [ef] at p; exact p
  | exn c q S1 => rw [ef] at p; exact exn_more (ExnP.step st0 p) fun _ h => .inl h
  | ok dk S1 =>
    rw [ef] at p
    intro x H1 μ1 st1 rs1 rx
    refine ⟨plus A0 a, μ1, O, S1, rs1, ?_⟩
    dsimp only at p
    cases eg : g S1 with
    | stuck => rw [eg] at p; exact p
    | exn c q S2 => rw [eg] at p; exact exn_more (ExnP.step (st0.ch st1) p) fun _ h => .inl h
    | ok dv S2 =>
      rw [eg] at p
      intro y H2 μ2 st2 rs2 ry
      dsimp only at p
      cases ek : keyOf dk with
      | none => rw [ek] at p; exact p.elim
      | some kk =>
        rw [ek] at p
        have nch : ¬ Ch μ O a := fun z => na (.inr z)
        have h1 : H1 a = some (.dK []) := st1.keep a _ upd_same nch fun _ z => by cases z
        have nm1 : a ∉ μ1 := fun z => by
          have q1 : a ∉ μ := fun z => nch (.inl z)
          have := st1.new a z q1
          rw [upd_same] at this; cases this
        have nch1 : ¬ Ch μ1 O a := fun z => z.elim nm1 fun z => nch (.inr z)
        have h2 : H2 a = some (.dK []) := st2.keep a _ h1 nch1 fun _ z => by cases z
        have nm2 : a ∉ μ2 := fun z => by
          have := st2.new a z nm1
          rw [h1] at this; cases this
        have stA := st0.ch (st1.ch st2)
        obtain ⟨rs3, l3⟩ := rs2.offM (o' := .dK [(kk, y)]) h2 trivial trivial nm2
        refine ⟨h2, [(kk, y)], by rw [keyOf_rep ek rx]; rfl, by simp, ?_⟩
        have stB : Step (Ch μ O) μ μ2 H (upd H2 a (.dK [(kk, y)])) := ⟨stA.ext, stA.new, fun b o hb n tt => by
          rw [upd_ne (fun z => by subst z; rw [ha] at hb; cases hb)]
          exact stA.keep b o hb n tt, fun b hb => by
          by_cases z : b = a
          · subst z; exact ha
          · rw [upd_ne z] at hb; exact stA.alive b hb⟩
        refine p a _ μ2 stB ha (fun z => ?_) rs3 ⟨[(kk, y)], upd_same, rfl, ?_⟩
        · rcases z with z | z | z
          · exact na (.inl z)
          · exact nm2 z
          · exact nch (.inr z)
        · exact reps_cons (Rep.le l3 _ _ ry) reps_nil
/-! ### written dicts, read by a text -/
def kgetM (kvs : List (Str × D)) (f : M D) : M D := M.bnd f fun x => match x with
  | .str z => (match kvs.lookup z with
    | some d => M.ret d
    | none => M.fail)
  | _ => M.fail
def KDic (K : PySem.W.Frag) (w : World) (a : Addr) (kvs : List (Str × D)) : Prop := ∀ z d, kvs.lookup z = some d → ∃ v, KDct K w a z v ∧ KRep K d v
theorem de_kget {o b : Expr} {a : Addr} {kvs : List (Str × D)} {f : M D} (hK : X.K = W.K) (ho : PE X o (tC (.ref a))) (hb : PE X b (tD W Wx f)) (kd : KDic X.K X.w a kvs) (hs : PlainIx b) : PE X (.Subscript o b pos) (tD W Wx (kgetM kvs f)) :=
  PE.imp (pe_ix ix_kdict ho hb hs) fun σ H Q h => by
    refine tG_mono (tG_bind (rl := rlD W) h) fun y H1 ⟨A0, μ1, O, S1, x, rs1, r1, p1⟩ => ?_
    cases x with
    | str z =>
      dsimp only at p1
      cases e : kvs.lookup z with
      | none => rw [e] at p1; exact p1.elim
      | some d =>
        rw [e] at p1
        obtain ⟨v, k1, k2⟩ := kd z d e
        exact ⟨a, z, v, rfl, rep_str r1, k1, tG_ret (rl := rlD W) rs1 p1 (k2 W _ _ _ hK.symm)⟩
    | _ => exact p1.elim
end
end DL
end
section
set_option Elab.async false
set_option linter.all false
set_option maxRecDepth 100000
namespace DL
open PySem PySem.Spec L2
section
variable {W : Wd} {Wx : WX} {X : Cx} {A0 A1 : Addr → Prop} {μ μ1 μ' : List Addr} {O O1 O' : Nat → Option Addr} {H H1 H2 H' : Hp} {σ σ' : St} {S S' : Stt} {pos p : Pos}
/-- f() -/
theorem de_call0 {x : Str} {F : Fn} {j k : Nat} (C : CtxOk X W Wx j) (G : GFn X.prog X.w X.K X.mg X.base k x [] W F) (hk : k ≤ j) (hg : Gl X x) (hdb : (x == ("__debug__" : Str)) = false := by decide) : PE X (.Call (.Name x p) [] [] pos) (tD W Wx (callF F [])) := by
  obtain ⟨g, fd, hm, hkp, hb, ok⟩ := G
  refine ⟨fun pins s σ H Q I h => ?_⟩
  obtain ⟨A0, μ, O, S, rs, p⟩ := h
  refine wpAny_Call_Name_kw (ld_glob I hg hm ?_ hdb)
  exact PySem.W.callWith_K0 I.kIn hkp (run_fnS (us := []) (E := WE Wx) ok (C.room.mono hk) hb (passAt C.takes σ) I .nil (spD_of rs reps_nil p))
/-- a def that calls itself: the promise of no turn -/
theorem gfn_stuck {P : Program} {w : World} {K : PySem.W.Frag} {mg : Str → Option Value} {base : Heap} {k : Nat} {x : Str} {ps : List Str} {f : Addr} {fd : FuncData} (hm : mg x = some (.ref f)) (hk : PySem.W.keepIn K (.ref f) = true) (hb : Binds K fd ps []) : GFn P w K mg base k x ps W (fun _ _ => .stuck) :=
  ⟨f, fd, hm, hk, hb, ⟨fun vs H Q E ⟨_, _, _, _, _, _, _, p⟩ => p.elim, fun A outer s H args us vs Q E _ _ _ _ ⟨_, _, _, _, _, _, _, p⟩ => p.elim⟩⟩
def recN (B : Fn → Fn) : Nat → Fn
  | 0 => fun _ _ => .stuck
  | n + 1 => B (recN B n)
theorem gfn_rec {P : Program} {w : World} {K : PySem.W.Frag} {mg : Str → Option Value} {base : Heap} {k0 : Nat} {x : Str} {ps : List Str} {f : Addr} {fd : FuncData} {B : Fn → Fn} (hm : mg x = some (.ref f)) (hk : PySem.W.keepIn K (.ref f) = true) (hb : Binds K fd ps [])
    (st : ∀ (k : Nat) (F : Fn), k0 ≤ k → GFn P w K mg base k x ps W F → FnOk P w K mg base (L2.CX P w) (k + 1) f fd ps (spD W (B F))) : ∀ n, GFn P w K mg base (k0 + n) x ps W (recN B n)
  | 0 => gfn_stuck hm hk hb
  | n + 1 => ⟨f, fd, hm, hk, hb, st (k0 + n) _ (Nat.le_add_right _ _) (gfn_rec hm hk hb st n)⟩
end
/-! ### the law -/
theorem reps_ints {W : Wd} {A : Addr → Prop} {μ : List Addr} {H : Hp} : ∀ (ns : List Int), Reps W A μ H (ns.map .int) (ns.map V.int)
  | [] => reps_nil
  | n :: ns => reps_cons (Sc.rep (.int n)) (reps_ints ns)
theorem law_at {l : PySem.W.OpenLaw} {w : World} {K : PySem.W.Frag} {k n : Nat} {x : Str} {mg : Str → Option Value} {fa : Addr} {h : Heap} {fd : FuncData} {W : Wd} {F : Fn} (hK : K = W.K) (hn : n ≤ sizeLine) (cs : List (Addr × Addr))
    (h1 : ∀ p ∈ cs, h.get? p.2 = some { cls := .none, data := .fields #[] }) (h2 : ∀ p ∈ cs, K.lookup p.2 = none) (h3 : ∀ p ∈ cs, PySem.W.CodeHd h p.1 p.2) (hb : ∀ (s : Shared) (u : Value), BindsTo s fd ⟨[u], []⟩ [(x, u)])
    (hT : ∀ p ∈ W.T, ∃ q ∈ cs, q.2 = p.1) (hF : ∀ base : Heap, K.In base → base.Ns mainGlobals mg → (∀ p ∈ cs, LamX.TabB base mg p.1 p.2) → FnOk l.prog w K mg base (L2.CX l.prog w) k fa fd [x] (spD W F))
    (ht : ∀ ns : List Int, ns.length ≤ n → (∀ z ∈ ns, Builtin.Int.intBits z ≤ 1048576) → ∃ S, F [.klst (ns.map .int)] [] = .ok (.bl true) S) : LamX.LawAtS l w K (L2.CX l.prog w) k n x mg fa h := by
  refine ⟨fd, cs, spD W F, h1, h2, h3, hb, fun H a ns hl hz hc hs => ?_, hF⟩
  obtain ⟨S, e⟩ := ht ns hl hz
  refine ⟨fun _ => none, fun _ => False, [], [.klst (ns.map .int)], [], ?_, ?_, ?_⟩
  · refine ⟨fun i => by simp [SlOk], fun i j a h => (nomatch h), fun i a h => (nomatch h), rfl, fun k d a h => by simp at h, List.nodup_nil, fun a h => h.elim, fun p hp => ?_, rfl⟩
    obtain ⟨q, hq, eq⟩ := hT p hp
    exact NdefX.TabN.nil (by rw [← eq]; exact hc q hq)
  · refine reps_cons ?_ reps_nil
    simp only [Rep]
    refine ⟨a, ns.map V.int, rfl, ?_, by simp; omega, reps_ints ns⟩
    have na : ¬ Av (fun _ => False) [] O0 a := fun z => by
      rcases z with z | z | ⟨i, z⟩
      · exact z
      · cases z
      · cases z
    rcases hs with hs | hs
    · exact .inl ⟨na, hs⟩
    · exact .inr (.inr (by rw [← show K = (W.withZ fun _ => none).K from hK]; exact hs))
  · rw [e]
    exact fun v H' μ' st rs r => by
      have r : Rep (W.withZ fun _ => none) (Av (fun _ => False) μ' O0) μ' H' (.bl true) v := r
      simpa only [Rep] using r
end DL
end
section
set_option Elab.async false
set_option linter.all false
set_option maxRecDepth 100000
namespace DL
open PySem PySem.Spec L2
section
variable {W : Wd} {Wx : WX} {X : Cx} {A0 A1 : Addr → Prop} {μ μ1 μ' : List Addr} {O O1 O' : Nat → Option Addr} {H H1 H2 H' : Hp} {σ σ' : St} {S S' : Stt} {pos p : Pos} {a b e : Expr} {f g : M D}
/-! ### names of the module -/
theorem de_gint {x : Str} {n : Int} (hg : Gl X x) (hm : ∃ t, X.mg x = some (.int n t)) (hd : (x == ("__debug__" : Str)) = false := by decide) : PE X (.Name x pos) (tD W Wx (M.ret (.int n))) := by
  obtain ⟨t, e⟩ := hm
  exact de_sc (pe_glob (v := .int n) hg e ⟨t, rfl⟩ hd) (.int n)
theorem de_gstr {x y : Str} (hg : Gl X x) (hm : ∃ t, X.mg x = some (.str y t)) (hd : (x == ("__debug__" : Str)) = false := by decide) : PE X (.Name x pos) (tD W Wx (M.ret (.str y))) := by
  obtain ⟨t, e⟩ := hm
  exact de_sc (pe_glob (v := .str y) hg e ⟨t, rfl⟩ hd) (.str y)
theorem de_gK {x : Str} {d : D} {g : Addr} (hg : Gl X x) (hm : X.mg x = some (.ref g)) (k : KRep W.K d (.ref g)) (hd : (x == ("__debug__" : Str)) = false := by decide) : PE X (.Name x pos) (tD W Wx (M.ret d)) :=
  de_K (pe_glob (v := .ref g) hg hm rfl hd) k
/-! ### -e -/
def negF : D → M D
  | .int i => M.ret (.int (-i))
  | _ => M.fail
def negM (f : M D) : M D := M.bnd f negF
theorem de_neg (ha : PE X a (tD W Wx f)) : PE X (.UnaryOp .USub a pos) (tD W Wx (negM f)) := PE.imp (pe_un un_neg ha) fun σ H Q h => by
  refine tG_mono (tG_bind (rl := rlD W) h) fun v H1 ⟨A0, μ1, O, S1, x, rs1, r1, p1⟩ => ?_
  cases x with
  | int i => exact ⟨i, rep_int r1, q_sc rs1 p1 (.int _)⟩
  | _ => exact p1.elim
/-! ### a name that this frame owns, compared -/
def rRR (W : Wd) (Wx : WX) (op : D → D → M D) : R2 := fun x y H Q => ∃ σ A0 μ O S dx dy, RepS W A0 μ O H σ S ∧ Rdb W A0 O μ H dx x ∧ Rdb W A0 O μ H dy y ∧ PostG W Wx (rlD W) A0 μ O H σ (op dx dy S) Q
theorem op_eqR {k : Nat} (C : CtxOk X W Wx k) : OpR X (compareOp .Eq) (rRR W Wx eqM) := by
  intro pins s σ H x y v u Q I rx ry h
  obtain ⟨σ', A0, μ, O, S, dx, dy, rs, r1, r2, p⟩ := h
  obtain ⟨A', r2⟩ := rdb_rep r2
  obtain ⟨A1, r1⟩ := rdb_rep r1
  unfold eqM at p
  cases e : eqF depthLine dx dy with
  | none => rw [e] at p; exact p.elim
  | some b =>
    rw [e] at p
    exact rcAt_D I C.K (by have := room12 C.room; omega) e r1 r2 rx ry X.prog X.w _ _ (post_bl I rs p)
theorem op_neR {k : Nat} (C : CtxOk X W Wx k) : OpR X (compareOp .NotEq) (rRR W Wx neM) := by
  intro pins s σ H x y v u Q I rx ry h
  obtain ⟨σ', A0, μ, O, S, dx, dy, rs, r1, r2, p⟩ := h
  obtain ⟨A', r2⟩ := rdb_rep r2
  obtain ⟨A1, r1⟩ := rdb_rep r1
  unfold neM at p
  cases e : eqF depthLine dx dy with
  | none => rw [e] at p; exact p.elim
  | some b =>
    rw [e] at p
    exact neAt_D I C.K (by have := room12 C.room; omega) e r1 r2 rx ry X.prog X.w _ _ (post_bl I rs p)
def cmpV (i : Nat) (g : M D) (op : D → D → M D) : M D := fun S => if hasV i S = true then (M.bnd g fun y S => match atV i S with
  | some x => op x y S
  | none => .stuck) S else .stuck
theorem cmpV_imp {i : Nat} {op : D → D → M D} {σ : St} {H : Hp} {Q : VK} (h : tD W Wx (cmpV i g op) σ H Q) : tOp (rRR W Wx op) (tVar i) (tR W Wx g) σ H Q := by
  obtain ⟨A0, μ, O, S, rs, p⟩ := h
  unfold cmpV at p
  by_cases hv : hasV i S = true
  · rw [if_pos hv] at p
    obtain ⟨v, ev⟩ := hasV_at rs hv
    refine ⟨v, ev, tG_mono (tG_bind (rl := rlR W) ⟨A0, μ, O, S, rs, p⟩) fun w H2 ⟨A0, μ2, O, S2, y, rs2, ry, p2⟩ => ?_⟩
    cases e : atV i S2 with
    | none => rw [e] at p2; exact p2.elim
    | some x =>
      rw [e] at p2
      exact ⟨σ, A0, μ2, O, S2, x, y, rs2, atV_at rs2 e ev, ry, p2⟩
  · rw [if_neg hv] at p
    exact p.elim
theorem de_cmpV {i : Nat} {o : CmpOp} {op : D → D → M D} (ho : OpR X (compareOp o) (rRR W Wx op)) (ha : PE X a (tVar i)) (hb : PE X b (tR W Wx g)) (hm : behindInMarks o b = false) : PE X (.Compare a [o] [b] pos) (tD W Wx (cmpV i g op)) := PE.imp (pe_cmpR ho ha hb hm) fun σ H Q h => cmpV_imp h
theorem dt_cmpV {i : Nat} {o : CmpOp} {op : D → D → M D} (ho : OpR X (compareOp o) (rRR W Wx op)) (ha : PE X a (tVar i)) (hb : PE X b (tR W Wx g)) (hm : behindInMarks o b = false) : PT X (.Compare a [o] [b] pos) (tDB W Wx (M.bnd (cmpV i g op) bool1)) :=
  PT.imp (pt_cmpR ho ha hb hm) fun σ H Q h => cmpV_imp (bool1_imp h)
/-! ### tests by values -/
theorem dt_val (ha : PE X a (tD W Wx f)) (he : ∀ whole, isTrue a X.env whole = (do let v ← whole; standAt a.pos; holding [v] (truthy v)) := by intro _; rfl) (hK : X.K = W.K) : PT X a (tDB W Wx (M.bnd f tru)) := dt_truth hK (de_R ha) he
end

/-! ### defs that are handed functions, called with data alone -/
def fnfM (F : Fn) : Fn := fun ds ob => if fnFrees ds && fnFrees ob then (match F ds ob with
  | .ok d S => if fnFree d && fnFrees S.ob then .ok d S else .stuck
  | .exn c p S => if fnFrees S.ob && (match p with | none => true | some q => fnFrees q.2) then .exn c p S else .stuck
  | .stuck => .stuck) else .stuck
section
variable {W : Wd} {A0 : Addr → Prop} {μ : List Addr} {O : Nat → Option Addr} {H : Hp} {Z' : Addr → Option V}
theorem fnFrees_at : ∀ {ds : List D} {k : Nat} {d : D}, fnFrees ds = true → ds[k]? = some d → fnFree d = true
  | [], _, _, _, h => by simp at h
  | x :: xs, 0, d, hf, h => by
    simp only [fnFrees, Bool.and_eq_true] at hf
    simp at h; subst h; exact hf.1
  | x :: xs, k + 1, d, hf, h => by
    simp only [fnFrees, Bool.and_eq_true] at hf
    exact fnFrees_at hf.2 (by simpa using h)
theorem RepS.lessO {ob : List D} (hl : fnFrees ob = true) (rs : RepS (W.withZ Z') A0 μ O0 H [] ⟨[], ob⟩) : RepS W A0 μ O0 H [] ⟨[], ob⟩ :=
  ⟨fun i => by simp [SlOk], rs.oinj, rs.otr, rs.obl, fun k d a h1 h2 => Own.less (fnFrees_at hl h1) (rs.obs k d a h1 h2), rs.nd, rs.atr, rs.tab, rs.len⟩
end
theorem fnok_of_Z {P : Program} {w : World} {K : PySem.W.Frag} {mg : Str → Option Value} {base : Heap} {k : Nat} {f : Addr} {fd : FuncData} {ps : List Str} {W : Wd} {F : Fn} (Fz : FnZ P w K mg base k f fd ps W F) (hsl : ∀ ds ob d S, F ds ob = .ok d S → S.sl = []) (hsx : ∀ ds ob c q S, F ds ob = .exn c q S → S.sl = []) : FnOk P w K mg base (L2.CX P w) k f fd ps (spD W (fnfM F)) := by
  have key : ∀ (Z : Addr → Option V) (A0 : Addr → Prop) (μ : List Addr) (H : Hp) (E : XK) (ds ob : List D) (Q : VK), PostG (W.withZ Z) (wE E) (rlD (W.withZ Z)) A0 μ O0 H [] (fnfM F ds ob) Q →
      fnFrees ds = true ∧ fnFrees ob = true ∧ PostG (W.withZ fun _ => none) (wE E) (rlD (W.withZ fun _ => none)) A0 μ O0 H [] (F ds ob) Q := fun Z A0 μ H E ds ob Q p => by
    unfold fnfM at p
    by_cases h : (fnFrees ds && fnFrees ob) = true
    · rw [if_pos h] at p
      simp only [Bool.and_eq_true] at h
      refine ⟨h.1, h.2, ?_⟩
      cases e : F ds ob with
      | stuck => rw [e] at p; exact p
      | ok d S =>
        rw [e] at p
        dsimp only at p
        have e0 := hsl _ _ _ _ e
        split at p
        · rename_i hc
          simp only [Bool.and_eq_true] at hc
          intro v H' μ' st rs r
          have r1 : Rep (W.withZ fun _ => none) (Av A0 μ' O0) μ' H' d v := r
          obtain ⟨sl, ob'⟩ := S
          subst e0
          exact p v H' μ' st (RepS.lessO (W := W.withZ Z) (Z' := fun _ => none) hc.2 rs) (Rep.less (W := W.withZ Z) (Z' := fun _ => none) _ _ hc.1 r1)
        · exact p.elim
      | exn c q S =>
        rw [e] at p
        dsimp only at p
        have e0 := hsx _ _ _ _ _ e
        obtain ⟨sl, ob'⟩ := S
        subst e0
        cases q with
        | none =>
          dsimp only at p
          split at p
          · rename_i hc
            simp only [Bool.and_eq_true] at hc
            exact fun H' μ' st rs => p H' μ' st (RepS.lessO (W := W.withZ Z) (Z' := fun _ => none) hc.1 rs)
          · exact p.elim
        | some z =>
          dsimp only at p
          split at p
          · rename_i hc
            simp only [Bool.and_eq_true] at hc
            exact fun H' μ' dd xs st rs hl hd r => p H' μ' dd xs st (RepS.lessO (W := W.withZ Z) (Z' := fun _ => none) hc.1 rs) hl hd (Reps.less (W := W.withZ Z) (Z' := fun _ => none) _ _ hc.2 r)
          · exact p.elim
    · rw [if_neg h] at p
      exact p.elim
  refine ⟨fun vs H Q E ⟨Z, A0, μ, ds, ob, rs, r, p⟩ => ?_, fun A outer s H args us vs Q E hr e0 hb hv ⟨Z, A0, μ, ds, ob, rs, r, p⟩ => ?_⟩
  · rw [reps_length r]
    exact Fz.len _ _ _ _ _ _ _ _ (key _ _ _ _ _ _ _ _ p).2.2
  · obtain ⟨h1, h2, p'⟩ := key _ _ _ _ _ _ _ _ p
    exact Fz.run (fun _ => none) A outer s H args us vs Q E A0 μ ds ob hr e0 hb hv (fun c v h => by cases h) (RepS.lessO (W := W.withZ fun _ => none) (Z' := Z) h2 rs) (Reps.less (W := W.withZ fun _ => none) (Z' := Z) _ _ h1 r) p'
theorem fnM_sl {n m : Nat} {b : M Fl} {ds ob : List D} {d : D} {S : Stt} (h : fnM n m b ds ob = .ok d S) : S.sl = [] := by
  unfold fnM at h
  split at h
  · split at h <;> cases h <;> rfl
  · cases h
theorem fnM_slx {n m : Nat} {b : M Fl} {ds ob : List D} {c : Nat} {q : Option (List Str × List D)} {S : Stt} (h : fnM n m b ds ob = .exn c q S) : S.sl = [] := by
  unfold fnM at h
  split at h
  · split at h <;> cases h <;> rfl
  · cases h
theorem fnok_of_M {P : Program} {w : World} {K : PySem.W.Frag} {mg : Str → Option Value} {base : Heap} {k : Nat} {f : Addr} {fd : FuncData} {ps : List Str} {W : Wd} {n m : Nat} {b : M Fl} (Fz : FnZ P w K mg base k f fd ps W (fnM n m b)) : FnOk P w K mg base (L2.CX P w) k f fd ps (spD W (fnfM (fnM n m b))) :=
  fnok_of_Z Fz (fun _ _ _ _ h => fnM_sl h) fun _ _ _ _ _ h => fnM_slx h
/-! ### tables of lambdas -/
def one (j : Nat) (G : List D → Fn) : Nat → List D → Fn := fun i => if i = j then G else fun _ _ _ => .stuck
theorem nz_stuck {P : Program} {w : World} {K : PySem.W.Frag} {mg : Str → Option Value} {base : Heap} {k : Nat} {W : Wd} {L : Lam} : NZ P w K mg base k W L (fun _ _ _ => .stuck) :=
  ⟨fun Z A outer s H us vs Q E A0 μ cv ds ob f c cl ws _ _ _ _ _ _ _ _ _ _ p => p.elim⟩
theorem nz_Z {P : Program} {w : World} {K : PySem.W.Frag} {mg : Str → Option Value} {base : Heap} {k : Nat} {W : Wd} {Z0 Z : Addr → Option V} {L : Lam} {G : List D → Fn} (h : NZ P w K mg base k (W.withZ Z0) L G) : NZ P w K mg base k (W.withZ Z) L G := ⟨h.run⟩
theorem glam_Z {P : Program} {w : World} {K : PySem.W.Frag} {mg : Str → Option Value} {base : Heap} {k : Nat} {W : Wd} {Z0 Z : Addr → Option V} {Λ : Nat → List D → Fn} (h : GLam P w K mg base k (W.withZ Z0) Λ) : GLam P w K mg base k (W.withZ Z) Λ := fun j L e => nz_Z (h j L e)
theorem NZ.mono {P : Program} {w : World} {K : PySem.W.Frag} {mg : Str → Option Value} {base : Heap} {j k : Nat} {W : Wd} {L : Lam} {G : List D → Fn} (h : NZ P w K mg base j W L G) (hk : j ≤ k) : NZ P w K mg base k W L G :=
  ⟨fun Z A outer s H us vs Q E A0 μ cv ds ob f c cl ws hr => h.run Z A outer s H us vs Q E A0 μ cv ds ob f c cl ws (hr.mono hk)⟩
theorem glam_one {P : Program} {w : World} {K : PySem.W.Frag} {mg : Str → Option Value} {base : Heap} {k : Nat} {W : Wd} {j : Nat} {L : Lam} {G : List D → Fn} (hj : W.lam j = some L) (h : NZ P w K mg base k W L G) : GLam P w K mg base k W (one j G) := by
  intro i L' hi
  unfold one
  by_cases e : i = j
  · subst e
    rw [if_pos rfl]
    rw [hj] at hi
    cases hi
    exact h
  · rw [if_neg e]
    exact nz_stuck
/-! ### what the head tells -/
theorem reps_sc {W : Wd} {A : Addr → Prop} {μ : List Addr} {H : Hp} : ∀ ys : List Str, Reps W A μ H (ys.map D.str) (ys.map V.str) := reps_strs
def ktupB (K : PySem.W.Frag) (x : Str) (ys : List Str) : Bool := He.tupB K x (ys.map He.Dv.str) && (match K.lookup (He.ga K x) with
  | some o => decide (o.dict = none) && decide (o.cls = .type "tuple")
  | none => false)
theorem map_dv {K : PySem.W.Frag} (ys : List Str) : (ys.map He.Dv.str).map (He.Dv.v K) = ys.map V.str := by
  rw [List.map_map]
  rfl
theorem ktup_of {K : PySem.W.Frag} {x : Str} {ys : List Str} (h : ktupB K x ys = true) : KTup K ys (.ref (He.ga K x)) := by
  obtain ⟨h1, h2⟩ := He.ba h
  have t := He.tupB_ok h1 (fun _ => none)
  rw [map_dv] at t
  cases e : K.lookup (He.ga K x) with
  | none => rw [e] at h2; cases h2
  | some o =>
    rw [e] at h2
    obtain ⟨h3, h4⟩ := He.ba h2
    exact ⟨_, o, _, rfl, e, of_decide_eq_true h4, of_decide_eq_true h3, t, rfl⟩
theorem krep_strs {K : PySem.W.Frag} {x : Str} {ys : List Str} (h : He.tupB K x (ys.map He.Dv.str) = true) (hz : ys.length ≤ 1000) : KRep K (.ktup (ys.map .str)) (.ref (He.ga K x)) := by
  intro W A μ H e
  have t := He.tupB_ok h (fun _ => none)
  rw [map_dv] at t
  simp only [Rep]
  exact ⟨_, _, rfl, by rw [e]; exact t, by rw [List.length_map]; exact small_le hz, reps_strs ys⟩
theorem kdic_of {K : PySem.W.Frag} {w : World} {a : Addr} {es : Array DictEntry} {n : Nat} {kvs : List (Str × He.Dv)} {ds : List (Str × D)} (D : KDict K w a es n) (h : He.valsB K a kvs = true)
    (hs : ∀ z d, ds.lookup z = some d → ∃ q ∈ kvs, q.1 = z ∧ Sc (q.2.v K) d) : KDic K w a ds := by
  intro z d e
  obtain ⟨q, hq, e1, sc⟩ := hs z d e
  obtain ⟨u, hu, r⟩ := He.valsB_ok h hq
  subst e1
  exact ⟨_, ⟨es, n, u, D.at_, D.lit, hu, r⟩, fun W A μ H _ => sc.rep⟩
def isCB (K : PySem.W.Frag) (C : Addr) : Bool := (decide (PySem.W.findIn K (.ref C) "__class__" = some (some (.builtin "object.__class__"))) && (decide (PySem.W.specialIn K (.builtin "object.__class__") "__get__" = some (some (.builtin "getset_descriptor.__get__"))) &&
  (decide (PySem.W.takesIn K (.builtin "object.__class__") = some true) && (decide (PySem.W.mroIn K C (.type "object") = some true) && (decide (PySem.W.kitOne K (.ref C) (.ref C) = some true) &&
    (["NoneType", "bool", "int", "str", "list", "tuple", "dict"].all fun t => decide (PySem.W.kitOne K (.type t) (.ref C) = some false)))))))
theorem isC_of {K : PySem.W.Frag} {C : Addr} (cl : Cls K C) (h : isCB K C = true) : IsC K C := by
  obtain ⟨h1, h⟩ := He.ba h
  obtain ⟨h2, h⟩ := He.ba h
  obtain ⟨h3, h⟩ := He.ba h
  obtain ⟨h4, h⟩ := He.ba h
  obtain ⟨h5, h6⟩ := He.ba h
  exact ⟨cl, of_decide_eq_true h1, of_decide_eq_true h2, of_decide_eq_true h3, of_decide_eq_true h4, of_decide_eq_true h5, fun t ht => of_decide_eq_true (List.all_eq_true.mp h6 t ht)⟩
def eqCB (K : PySem.W.Frag) (C f : Addr) : Bool := decide (PySem.W.findIn K (.ref C) "__eq__" = some (some (.ref f))) && (PySem.W.isFn K (.ref f) && (decide (PySem.W.findIn K (.ref C) "__ne__" = some (some (.builtin "object.__ne__"))) && decide (PySem.W.mroIn K C (.type "object") = some true)))
theorem eqC_of {K : PySem.W.Frag} {C f : Addr} (h : eqCB K C f = true) : EqC K C f := by
  obtain ⟨h1, h⟩ := He.ba h
  obtain ⟨h2, h⟩ := He.ba h
  obtain ⟨h3, h4⟩ := He.ba h
  exact ⟨of_decide_eq_true h1, h2, of_decide_eq_true h3, of_decide_eq_true h4⟩
/-- a property's getter -/
def pgA (K : PySem.W.Frag) (C f : Str) : Addr := match PySem.W.recIn K (He.ma K (He.ga K C) f) "property" with
  | some (.ref g :: _) => g
  | _ => 0
def propB (K : PySem.W.Frag) (C f : Str) : Bool := decide (PySem.W.findIn K (.ref (He.ga K C)) f = some (some (.ref (He.ma K (He.ga K C) f)))) && (decide (PySem.W.specialIn K (.ref (He.ma K (He.ga K C) f)) "__get__" = some (some (.builtin "property.__get__"))) &&
  (decide (PySem.W.takesIn K (.ref (He.ma K (He.ga K C) f)) = some true) && (match PySem.W.recIn K (He.ma K (He.ga K C) f) "property" with
    | some (.ref _ :: _) => true
    | _ => false)))
theorem prop_of {K : PySem.W.Frag} {C f : Str} (h : propB K C f = true) : PropOf K (He.ga K C) f (He.ma K (He.ga K C) f) (pgA K C f) := by
  obtain ⟨h1, h⟩ := He.ba h
  obtain ⟨h2, h⟩ := He.ba h
  obtain ⟨h3, h4⟩ := He.ba h
  refine ⟨of_decide_eq_true h1, of_decide_eq_true h2, of_decide_eq_true h3, ?_⟩
  unfold pgA
  split at h4
  · rename_i g r e
    rw [e]
    exact ⟨r, rfl⟩
  · cases h4
end DL
end
section
set_option Elab.async false
set_option linter.all false
set_option maxRecDepth 100000
namespace DL
open PySem PySem.Spec L2 He
/-! ### the head's Hook: facts, defs, getters, tables, code tables, more -/
def exB (exs : List (PySem.W.Frag → Bool)) (gt : List He5.DefA) (K : PySem.W.Frag) : Bool := (exs.all fun f => f K) && gt.all fun d => d.ok K
structure SaysP (fa : List Fa) (fn : List DefD) (gt : List He5.DefA) (ts : List Tab) (tf : List Defn) (exs : List (PySem.W.Frag → Bool)) (w : World) (h : Heap) (K : PySem.W.Frag) : Prop where
  x : SaysX fa fn ts tf (exB exs gt) w h K
  g : (gt.map fun d => He5.fnA K (d.at_ K)) = gt.map He5.DefA.val
abbrev AlP : Type := AlX × List He.FnW
def obsP (n : Nat) (fa : List Fa) (fn : List DefD) (gt : List He5.DefA) (ts : List Tab) (tf : List Defn) (exs : List (PySem.W.Frag → Bool)) (g : Addr → Option Obj) : AlP := (obsX n fa fn ts tf (exB exs gt) g, gt.map fun d => He5.fnA (frT g (asD g n)) (d.at_ (frT g (asD g n))))
def valP (fn : List DefD) (gt : List He5.DefA) (ts : List Tab) (w : World) : AlP := (valX fn ts w, gt.map He5.DefA.val)
def hookP (n : Nat) (fa : List Fa) (fn : List DefD) (gt : List He5.DefA) (ts : List Tab) (tf : List Defn) (exs : List (PySem.W.Frag → Bool)) : PySem.W.Hook where
  α := AlP
  obs := fun s => obsP n fa fn gt ts tf exs s.heap.get?
  val := fun w => valP fn gt ts w
  says := fun w h => ∃ K : PySem.W.Frag, K.In h ∧ SaysP fa fn gt ts tf exs w h K
  of := fun _ _ e => ⟨_, frT_in, ⟨saysX_of (congrArg (fun z : AlP => z.1) e), congrArg (fun z : AlP => z.2) e⟩⟩
  keeps := fun _ _ _ ⟨K, hK, c⟩ k => ⟨K, PySem.W.Frag.In.keeps hK k, ⟨⟨c.x.t, c.x.more, c.x.hd, c.x.out, fun p hp => k _ _ (c.x.empty p hp)⟩, c.g⟩⟩
theorem obsP_eq {n : Nat} {fa : List Fa} {fn : List DefD} {gt : List He5.DefA} {ts : List Tab} {tf : List Defn} {exs : List (PySem.W.Frag → Bool)} {g : Addr → Option Obj} {s : Shared} (h : ∀ a, g a = s.heap.get? a) : obsP n fa fn gt ts tf exs g = (hookP n fa fn gt ts tf exs).obs s := by
  have e : g = s.heap.get? := funext h
  rw [e] <;> rfl
/-! ### what a law's text leans on -/
structure Tx (fa : List Fa) (fn : List DefD) (gt : List He5.DefA) (ts : List Tab) (tf : List Defn) (exs : List (PySem.W.Frag → Bool)) (w : World) (K : PySem.W.Frag) (mg : Str → Option Value) (base : Heap) : Prop where
  X : K.In base
  G : base.Ns mainGlobals mg
  c : ∃ h, SaysP fa fn gt ts tf exs w h K
  tb : ∀ p ∈ tf, LamX.TabB base mg (cT K p).1 (cT K p).2
section
variable {fa : List Fa} {fn : List DefD} {gt : List He5.DefA} {ts : List Tab} {tf : List Defn} {exs : List (PySem.W.Frag → Bool)} {w : World} {K : PySem.W.Frag} {mg : Str → Option Value} {base : Heap} (T : Tx fa fn gt ts tf exs w K mg base)
include T
theorem Tx.f (i : Nat) {f : Fa} (h : fa[i]? = some f := by rfl) : f.ok K = true := by
  obtain ⟨_, c⟩ := T.c
  exact c.x.t.d.fact i h
theorem Tx.free (i : Nat) {x : Str} (h : fa[i]? = some (.free x) := by rfl) : mg x = none := free_ok T.X T.G (T.f i h)
theorem Tx.glo (i : Nat) {x : Str} (h : fa[i]? = some (.glo x) := by rfl) : mg x = some (.ref (ga K x)) := glo_ok T.X T.G (T.f i h)
theorem Tx.int (i : Nat) {x : Str} {n : Int} (h : fa[i]? = some (.int x n) := by rfl) : ∃ t, mg x = some (.int n t) := int_ok T.X T.G (T.f i h)
theorem Tx.str (i : Nat) {x z : Str} (h : fa[i]? = some (.str x z) := by rfl) : ∃ t, mg x = some (.str z t) := str_ok T.X T.G (T.f i h)
theorem Tx.cls (i : Nat) {x : Str} (h : fa[i]? = some (.cls x) := by rfl) : Cls K (ga K x) := cls_ok (T.f i h)
theorem Tx.noat (i : Nat) {x f : Str} (h : fa[i]? = some (.noat x f) := by rfl) : NoAttr K (ga K x) f := noat_ok (T.f i h)
theorem Tx.meth (i : Nat) {x m : Str} (h : fa[i]? = some (.meth x m) := by rfl) : Meth K (ga K x) m (ma K (ga K x) m) := meth_ok (T.f i h)
theorem Tx.mkr (i : Nat) {x : Str} (h : fa[i]? = some (.mkr x) := by rfl) : Mk K (ga K x) (ma K (ga K x) "__init__") := mkr_ok (T.f i h)
theorem Tx.dfn (i : Nat) {d : DefD} (h : fn[i]? = some d := by rfl) : ∃ fd, FunD K d.name d.qual d.params d.body d.scope (d.dvs K) (d.kws K) (fAd K d.at_) fd := by
  obtain ⟨_, c⟩ := T.c
  exact c.x.t.d.def_ i h
theorem Tx.ex (i : Nat) {f : PySem.W.Frag → Bool} (h : exs[i]? = some f := by rfl) : f K = true := by
  obtain ⟨_, c⟩ := T.c
  exact List.all_eq_true.mp (ba c.x.more).1 f (List.mem_of_getElem? h)
theorem Tx.tab (i : Nat) {t : Tab} (h : ts[i]? = some t := by rfl) : ∃ es n, KDict K w (t.1 K) es n := by
  obtain ⟨_, c⟩ := T.c
  exact c.x.t.tab i h
theorem Tx.gtr (i : Nat) {d : He5.DefA} (h : gt[i]? = some d := by rfl) : ∃ fd, FunD K d.name d.qual d.params d.body d.scope (d.dvs K) (d.kws K) (d.at_ K) fd := by
  obtain ⟨_, c⟩ := T.c
  have c2 := (ba c.x.more).2
  have e2 : (gt.map fun d => He5.fnA K (d.at_ K))[i]? = (gt.map He5.DefA.val)[i]? := by rw [c.g]
  rw [List.getElem?_map, List.getElem?_map, h] at e2
  exact He5.DefA.funD (Option.some.inj e2) (List.all_eq_true.mp c2 d (List.mem_of_getElem? h))
theorem Tx.tbl (i : Nat) {p : Defn} (h : tf[i]? = some p := by rfl) : LamX.TabB base mg (cT K p).1 (cT K p).2 := T.tb p (List.mem_of_getElem? h)
end
/-- the code object of a def -/
theorem code_of {K : PySem.W.Frag} {x qual : Str} {params : Arguments} {body : List Stmt} {scope : Scope} {dvs : List V} {kws : List (Str × V)} {p : Defn} {fd : FuncData} (F : FunD K x qual params body scope dvs kws (fAd K p) fd) : fd.code = .ref (cT K p).1 := by
  obtain ⟨oc, od, dV, kV, doc, pm, an, cdv, ct, osl, rfl, lk, hcd, _, _⟩ := F.ex
  obtain ⟨c, e⟩ := codeIn_ref hcd
  subst e
  show Value.ref c = .ref (codeOf K p)
  rw [codeOf_eq lk rfl]
/-- the tables of lambdas -/
def tabsW (K : PySem.W.Frag) (tf : List (Defn × Str)) : List NdefX.NTab := tf.map fun p => ((cT K p.1).2, fun _ _ => p.2 ++ "<lambda>")
def tabsNd (tf : List (Defn × Str)) (K : PySem.W.Frag) : Bool := decide ((tf.map fun p => (cT K p.1).2).Nodup)
theorem tabs_at {K : PySem.W.Frag} {tf : List (Defn × Str)} (i : Nat) {p : Defn × Str} (h : tf[i]? = some p) (nd : tabsNd tf K = true) : ((cT K p.1).2, fun _ _ => p.2 ++ "<lambda>") ∈ tabsW K tf ∧ ∀ q ∈ tabsW K tf, q.1 = (cT K p.1).2 → q.2 = fun _ _ => p.2 ++ "<lambda>" := by
  have nd := of_decide_eq_true nd
  refine ⟨List.mem_map.mpr ⟨p, List.mem_of_getElem? h, rfl⟩, fun q hq e => ?_⟩
  obtain ⟨r, hr, rfl⟩ := List.mem_map.mp hq
  obtain ⟨j, hj⟩ := List.mem_iff_getElem?.mp hr
  have e1 : (tf.map fun p => (cT K p.1).2)[i]? = some (cT K p.1).2 := by rw [List.getElem?_map, h]; rfl
  have e2 : (tf.map fun p => (cT K p.1).2)[j]? = some (cT K p.1).2 := by rw [List.getElem?_map, hj]; exact congrArg some e
  have := nodup_at nd e1 e2
  subst this
  rw [h] at hj
  cases hj
  rfl
/-- keywords bound -/
theorem kwB_of {K : PySem.W.Frag} {x qual : Str} {params : Arguments} {body : List Stmt} {scope : Scope} {kws : List (Str × V)} {f : Addr} {fd : FuncData} {ps ks : List Str} {n : Nat} {ix : List Nat} (F : FunD K x qual params body scope [] kws f fd)
    (h : ∀ (kV doc pm : Value) (an : Option Addr) (cdv ct : Value) (us ws : List Value), us.length = n → ws.length = ks.length → bindArgs (PySem.W.fnOf x qual params body scope .none kV doc pm an cdv ct) ⟨us, ks.zip ws⟩ = pure (ps.zip (permL ix (us ++ ws)))) : KwB K fd ps n ks ix := by
  obtain ⟨oc, od, dV, kV, doc, pm, an, cdv, ct, osl, rfl, lk, hcd, hD, hK⟩ := F.ex
  rcases hD with ⟨_, rfl⟩ | ⟨e, _⟩
  · exact fun s us ws _ h1 h2 => .of_eq (h kV doc pm an cdv ct us ws h1 h2)
  · exact absurd rfl e
/-! ### written dicts -/
def dvD : He.Dv → D
  | .int i => .int i
  | .str x => .str x
  | .bl b => .bl b
  | _ => .non
def dvOk : He.Dv → Bool
  | .non => true
  | .int _ => true
  | .str _ => true
  | .bl _ => true
  | _ => false
theorem dv_sc {K : PySem.W.Frag} {v : He.Dv} (h : dvOk v = true) : Sc (v.v K) (dvD v) := by
  cases v with
  | non => exact .non
  | bl b => exact .bl b
  | int i => exact .int i
  | str x => exact .str x
  | _ => cases h
def dvDs (kvs : List (Str × He.Dv)) : List (Str × D) := kvs.map fun q => (q.1, dvD q.2)
theorem dvDs_at : ∀ {kvs : List (Str × He.Dv)} {z : Str} {d : D}, (dvDs kvs).lookup z = some d → ∃ q ∈ kvs, q.1 = z ∧ d = dvD q.2
  | [], z, d, h => by cases h
  | q :: r, z, d, h => by
    have h : (match z == q.1 with | true => some (dvD q.2) | false => (dvDs r).lookup z) = some d := h
    cases e : (z == q.1) with
    | true =>
      rw [e] at h
      exact ⟨q, List.mem_cons_self, (beq_iff_eq.mp e).symm, (Option.some.inj h).symm⟩
    | false =>
      rw [e] at h
      obtain ⟨p, h1, h2⟩ := dvDs_at (kvs := r) h
      exact ⟨p, List.mem_cons_of_mem _ h1, h2⟩
theorem kdic_dv {K : PySem.W.Frag} {w : World} {a : Addr} {es : Array DictEntry} {n : Nat} {kvs : List (Str × He.Dv)} (D : KDict K w a es n) (h : He.valsB K a kvs = true) (ok : (kvs.all fun q => dvOk q.2) = true) : KDic K w a (dvDs kvs) :=
  kdic_of D h fun z d e => by
    obtain ⟨q, h1, h2, h3⟩ := dvDs_at e
    subst h3
    exact ⟨q, h1, h2, dv_sc (List.all_eq_true.mp ok q h1)⟩
/-! ### paths into a text -/
def pass0 : Stmt := .Pass ⟨0, 0, 0, 0⟩
def non0 : Expr := .Constant .none 0 ⟨0, 0, 0, 0⟩
def bodyAt (i : Nat) (st : Stmt) : Stmt := (defBody st).getD i pass0
def clsAt (i : Nat) : Stmt → Stmt
  | .ClassDef (body := b) .. => b.getD i pass0
  | _ => pass0
def valS : Stmt → Expr
  | .Return (some e) _ => e
  | .Expr e _ => e
  | .Assign _ e _ => e
  | .For _ e _ _ _ => e
  | .If e _ _ _ => e
  | .While e _ _ _ => e
  | _ => non0
def inS (i : Nat) : Stmt → Stmt
  | .For _ _ b _ _ => b.getD i pass0
  | .If _ b _ _ => b.getD i pass0
  | .While _ b _ _ => b.getD i pass0
  | .With _ b _ => b.getD i pass0
  | .Try b _ _ _ _ => b.getD i pass0
  | _ => pass0
def elS (i : Nat) : Stmt → Stmt
  | .For _ _ _ b _ => b.getD i pass0
  | .If _ _ b _ => b.getD i pass0
  | _ => pass0
def argE (i : Nat) : Expr → Expr
  | .Call _ as _ _ => as.getD i non0
  | .BoolOp _ as _ => as.getD i non0
  | .List as _ => as.getD i non0
  | .Tuple as _ _ => as.getD i non0
  | _ => non0
def kwE (i : Nat) : Expr → Expr
  | .Call _ _ ks _ => (ks.map fun k => k.value).getD i non0
  | _ => non0
def fstE : Expr → Expr
  | .IfExp t _ _ _ => t
  | .UnaryOp _ e _ => e
  | .Compare e _ _ _ => e
  | .BinOp e _ _ _ => e
  | .Subscript e _ _ => e
  | .Attribute e _ _ => e
  | .Call e _ _ _ => e
  | .ListComp e _ _ _ => e
  | _ => non0
def sndE : Expr → Expr
  | .IfExp _ b _ _ => b
  | .Compare _ _ es _ => es.getD 0 non0
  | .BinOp _ _ e _ => e
  | .Subscript _ e _ => e
  | _ => non0
def trdE : Expr → Expr
  | .IfExp _ _ b _ => b
  | _ => non0
def lamArgs : Expr → Arguments
  | .Lambda a _ _ _ => a
  | _ => ⟨[], [], none, [], [], none, []⟩
def lamBody : Expr → Expr
  | .Lambda _ b _ _ => b
  | _ => non0
def lamScope : Expr → Scope
  | .Lambda _ _ s _ => s
  | _ => ⟨.function, [], false, false, []⟩
end DL
end
section
set_option Elab.async false
set_option linter.all false
set_option maxRecDepth 100000
namespace DL
open PySem PySem.Spec L2
/-! ### a, b, c = x, y, z, some of them things of this frame's own -/
def pSl (k : Bool) (d : D) : Sl := if k then .own d else .d d
def setAll (sl : List Sl) : List (Nat × Bool) → List D → List Sl
  | (i, k) :: is, d :: ds => (setAll sl is ds).set i (pSl k d)
  | _, _ => sl
def setV (σ : St) : List (Nat × Bool) → List V → St
  | (i, _) :: is, v :: vs => (setV σ is vs).set i (some v)
  | _, _ => σ
def parN (is : List (Nat × Bool)) (fs : List (M D)) : M Fl := M.bnd (seqM fs) fun ds S => .ok .nx { S with sl := setAll S.sl is ds }
def tK (W : Wd) (Wx : WX) (k : Bool) (f : M D) : TE := match k with
  | true => tF W Wx f
  | false => tD W Wx f
def tPN (W : Wd) (Wx : WX) : List Bool → List (M D) → TA
  | k :: ks, f :: fs => tCons (tK W Wx k f) (tPN W Wx ks fs)
  | _, _ => tNil
def ItsOk (W : Wd) (A : Addr → Prop) (μ : List Addr) (H : Hp) : List Bool → List D → List V → List Addr → Prop
  | [], [], [], [] => True
  | true :: ks, d :: ds, v :: vs, a :: as => v = .ref a ∧ Own W A μ H d a ∧ ItsOk W A μ H ks ds vs as
  | false :: ks, d :: ds, v :: vs, as => Rep W A μ H d v ∧ ItsOk W A μ H ks ds vs as
  | _, _, _, _ => False
section
variable {W : Wd} {Wx : WX} {X : Cx} {A0 A1 A2 A : Addr → Prop} {μ μ0 μ1 μ2 μ' : List Addr} {O O' : Nat → Option Addr} {H H0 H1 H2 H' : Hp} {σ σ' : St} {S S1 S' : Stt} {pos : Pos}
abbrev pls (A1 : Addr → Prop) (as : List Addr) : Addr → Prop := fun x => A1 x ∨ x ∈ as
structure ParR (W : Wd) (A1 : Addr → Prop) (μ : List Addr) (O : Nat → Option Addr) (H : Hp) (σ : St) (ks : List Bool) (ds : List D) (vs : List V) (as : List Addr) (μ1 : List Addr) (H1 : Hp) (S1 : Stt) : Prop where
  st : Step (Ch μ O) μ μ1 H H1
  nn : ∀ a ∈ as, H a = none
  na : ∀ a ∈ as, ¬ Av A1 μ1 O a
  nd : as.Nodup
  rs : RepS W (pls A1 as) μ1 O H1 σ S1
  its : ItsOk W (Av (pls A1 as) μ1 O) μ1 H1 ks ds vs as
theorem pls_cons {a : Addr} {as : List Addr} : pls (plus A1 a) as = pls A1 (a :: as) := funext fun x => propext (by
  show ((A1 x ∨ x = a) ∨ x ∈ as) ↔ (A1 x ∨ x ∈ a :: as)
  rw [List.mem_cons, or_assoc])
theorem pls_nil : pls A1 [] = A1 := funext fun x => propext (by
  show (A1 x ∨ x ∈ ([] : List Addr)) ↔ A1 x
  simp)
theorem par_vals {F : FK} : ∀ (ks : List Bool) (fs : List (M D)) {A1 : Addr → Prop} {μ : List Addr} {H : Hp} {S : Stt} {Q : List V → Hp → Prop} {k : List D → M Fl}, ks.length = fs.length → RepS W A1 μ O H σ S → (∀ x, A0 x → A1 x) → Step (Ch μ0 O) μ0 μ H0 H → PostS W Wx A0 μ0 O H0 ((M.bnd (seqM fs) k) S) F →
    (∀ vs H1 μ1 ds S1 as, ParR W A1 μ O H σ ks ds vs as μ1 H1 S1 → PostS W Wx A0 μ0 O H0 (k ds S1) F → Q vs H1) → tPN W Wx ks fs σ H Q
  | [], [], A1, μ, H, S, Q, k, _, rs, s, st0, p, n => by
    refine n [] H μ [] S [] ⟨Step.refl _ _ _, (fun _ h => by cases h), (fun _ h => by cases h), List.nodup_nil, ?_, trivial⟩ p
    rw [pls_nil]
    exact rs
  | kb :: ks, f :: fs, A1, μ, H, S, Q, k, hl, rs, s, st0, p, n => by
    have hl' : ks.length = fs.length := by simpa using hl
    have p : PostS W Wx A0 μ0 O H0 ((M.bnd f fun x => M.bnd (seqM fs) fun xs => k (x :: xs)) S) F := by
      have e : (M.bnd (seqM (f :: fs)) k) S = (M.bnd f fun x => M.bnd (seqM fs) fun xs => k (x :: xs)) S := by
        show (M.bnd (M.bnd f fun x => M.bnd (seqM fs) fun xs => M.ret (x :: xs)) k) S = _
        unfold M.bnd
        cases f S with
        | ok a S1 =>
          dsimp only
          cases seqM fs S1 <;> rfl
        | exn c q S1 => rfl
        | stuck => rfl
      rw [← e]
      exact p
    show tCons (tK W Wx kb f) (tPN W Wx ks fs) σ H Q
    cases kb with
    | false =>
      refine postD_bind rs s st0 p fun v H1 μ1 d S1 st rs1 r1 p1 => ?_
      refine par_vals ks fs hl' rs1 s (st0.ch st) p1 fun vs H2 μ2 ds S2 as R p2 => n (v :: vs) H2 μ2 (d :: ds) S2 as ⟨st.ch R.st, fun a ha => st.alive a (R.nn a ha), R.na, R.nd, R.rs, ?_, R.its⟩ p2
      have l : Le (Av A1 μ1 O) (Av (pls A1 as) μ2 O) μ1 μ2 H1 H2 := later_le R rs1
      exact Rep.le l _ _ r1
    | true =>
      refine postF_bind rs s st0 p fun a H1 μ1 d S1 st ha na rs1 ow p1 => ?_
      refine par_vals ks fs hl' rs1 (fun x h => .inl (s x h)) (st0.ch st) p1 fun vs H2 μ2 ds S2 as R p2 => n (.ref a :: vs) H2 μ2 (d :: ds) S2 (a :: as) ⟨st.ch R.st, fun b hb => ?_, fun b hb => ?_, ?_, ?_, rfl, ?_, ?_⟩ p2
      · rcases List.mem_cons.mp hb with e | hb
        · rw [e]; exact ha
        · exact st.alive b (R.nn b hb)
      · rcases List.mem_cons.mp hb with e | hb
        · rw [e]; exact (own_later rs1 na ow R.st).1
        · exact fun z => R.na b hb (z.imp .inl id)
      · refine List.nodup_cons.mpr ⟨fun h => ?_, R.nd⟩
        exact R.na a h (.inl (.inr rfl))
      · rw [← pls_cons]; exact R.rs
      · have l : Le (Av (plus A1 a) μ1 O) (Av (pls (plus A1 a) as) μ2 O) μ1 μ2 H1 H2 := later_le R rs1
        rw [pls_cons] at l
        exact ow.le l (own_kept R.st (fun z => na (.inr z)) ow)
      · rw [← pls_cons]; exact R.its
  | [], _ :: _, _, _, _, _, _, _, h, _, _, _, _, _ => by simp at h
  | _ :: _, [], _, _, _, _, _, _, h, _, _, _, _, _ => by simp at h
where
  later_le {A1 : Addr → Prop} {μ : List Addr} {H : Hp} {S : Stt} {ks : List Bool} {ds : List D} {vs : List V} {as : List Addr} {μ1 : List Addr} {H1 : Hp} {S1 : Stt} (R : ParR W A1 μ O H σ ks ds vs as μ1 H1 S1) (rs : RepS W A1 μ O H σ S) : Le (Av A1 μ O) (Av (pls A1 as) μ1 O) μ μ1 H H1 := by
    have l := R.st.le rs
    refine ⟨l.at_, fun b o hb nb tt => ⟨(l.keep b o hb nb tt).1, fun z => ?_⟩⟩
    rcases z with (z | z) | z
    · exact nb (.inl z)
    · rw [R.nn b z] at hb; cases hb
    · exact (l.keep b o hb nb tt).2 (.inr z)
/-- the slots told -/
def ownO (O : Nat → Option Addr) : List (Nat × Bool) → List Addr → Nat → Option Addr
  | (i, true) :: is, a :: as => updO (ownO O is as) i a
  | (_, false) :: is, as => ownO O is as
  | _, _ => O
theorem own_in {is : List (Nat × Bool)} : ∀ {as : List Addr} {k : Nat} {b : Addr}, ownO O is as k = some b → (∃ j, O j = some b) ∨ b ∈ as := by
  induction is with
  | nil => intro as k b h; exact .inl ⟨k, h⟩
  | cons p is ih =>
    obtain ⟨i, kb⟩ := p
    cases kb with
    | false =>
      intro as k b h
      have h : ownO O is as k = some b := by cases as <;> exact h
      exact ih h
    | true =>
      intro as k b h
      cases as with
      | nil => exact .inl ⟨k, h⟩
      | cons a as =>
        have h : updO (ownO O is as) i a k = some b := h
        unfold updO at h
        split at h
        · cases h; exact .inr List.mem_cons_self
        · rcases ih h with z | z
          · exact .inl z
          · exact .inr (List.mem_cons_of_mem _ z)
theorem par_set : ∀ (is : List (Nat × Bool)) {A0 : Addr → Prop} {ds : List D} {vs : List V} {as : List Addr}, (∀ a ∈ as, ¬ Av A0 μ O a) → as.Nodup → RepS W (pls A0 as) μ O H σ S → ItsOk W (Av (pls A0 as) μ O) μ H (is.map (·.2)) ds vs as →
    RepS W A0 μ (ownO O is as) H (setV σ is vs) { S with sl := setAll S.sl is ds }
  | [], A0, ds, vs, as, na, nd, rs, its => by
    cases ds with
    | cons => exact its.elim
    | nil =>
      cases vs with
      | cons => exact its.elim
      | nil =>
        cases as with
        | cons => exact its.elim
        | nil =>
          rw [pls_nil] at rs
          exact rs
  | (i, false) :: is, A0, ds, vs, as, na, nd, rs, its => by
    cases ds with
    | nil => exact its.elim
    | cons d ds =>
      cases vs with
      | nil => exact its.elim
      | cons v vs =>
        obtain ⟨r1, its⟩ := its
        have q := par_set is na nd rs its
        have e : ownO O ((i, false) :: is) as = ownO O is as := by cases as <;> rfl
        rw [e]
        refine q.setd (Rep.le (Le.same (fun _ _ h => h) fun x z => ?_) _ _ r1)
        rcases z with z | z | ⟨k, z⟩
        · exact .inl (.inl z)
        · exact .inr (.inl z)
        · rcases own_in z with z | z
          · exact .inr (.inr z)
          · exact .inl (.inr z)
  | (i, true) :: is, A0, ds, vs, as, na, nd, rs, its => by
    cases ds with
    | nil => exact its.elim
    | cons d ds =>
      cases vs with
      | nil => exact its.elim
      | cons v vs =>
        cases as with
        | nil => exact its.elim
        | cons a as =>
          obtain ⟨e1, ow, its⟩ := its
          subst e1
          have nd' := List.nodup_cons.mp nd
          rw [← pls_cons] at rs its
          have q := par_set is (A0 := plus A0 a) (fun b hb z => by
            rcases z with (z | z) | z
            · exact na b (List.mem_cons_of_mem _ hb) (.inl z)
            · subst z; exact nd'.1 hb
            · exact na b (List.mem_cons_of_mem _ hb) (.inr z)) nd'.2 rs its
          show RepS W A0 μ (updO (ownO O is as) i a) H ((setV σ is vs).set i (some (.ref a))) { S with sl := (setAll S.sl is ds).set i (.own d) }
          refine q.seto (fun z => ?_) (ow.le (Le.same (fun _ _ h => h) fun x z => ?_) rfl)
          · rcases z with z | z | ⟨k, z⟩
            · exact na a List.mem_cons_self (.inl z)
            · exact na a List.mem_cons_self (.inr (.inl z))
            · rcases own_in z with z | z
              · exact na a List.mem_cons_self (.inr (.inr z))
              · exact nd'.1 z
          · rcases z with (z | z) | z | ⟨k, z⟩
            · exact .inl (.inl z)
            · subst z; exact .inl (.inr List.mem_cons_self)
            · exact .inr (.inl z)
            · rcases own_in z with z | z
              · exact .inr (.inr z)
              · exact .inl (.inr (List.mem_cons_of_mem _ z))
theorem its_len : ∀ {ks : List Bool} {ds : List D} {vs : List V} {as : List Addr}, ItsOk W A μ H ks ds vs as → vs.length = ks.length
  | [], [], [], [], _ => rfl
  | true :: ks, d :: ds, v :: vs, a :: as, h => by simp [its_len h.2.2]
  | false :: ks, d :: ds, v :: vs, as, h => by
    have h : Rep W A μ H d v ∧ ItsOk W A μ H ks ds vs as := by cases as <;> exact h
    simp [its_len h.2]
  | [], _ :: _, _, _, h => by cases h
  | [], [], _ :: _, _, h => by cases h
  | [], [], [], _ :: _, h => by cases h
  | true :: _, [], _, _, h => by cases h
  | true :: _, _ :: _, [], _, h => by cases h
  | true :: _, _ :: _, _ :: _, [], h => by cases h
  | false :: _, [], _, as, h => by cases as <;> cases h
  | false :: _, _ :: _, [], as, h => by cases as <;> cases h
theorem its_le : ∀ {ks : List Bool} {ds : List D} {vs : List V} {as : List Addr}, Le A A μ μ H H' → (∀ a, (∃ o, H a = some o) → H' a = H a) → ItsOk W A μ H ks ds vs as → ItsOk W A μ H' ks ds vs as
  | [], [], [], [], _, _, _ => trivial
  | true :: ks, d :: ds, v :: vs, a :: as, l, k, h => ⟨h.1, h.2.1.le l (k a (by obtain ⟨o, e, _⟩ := h.2.1.there; exact ⟨o, e⟩)), its_le l k h.2.2⟩
  | false :: ks, d :: ds, v :: vs, as, l, k, h => by
    have h : Rep W A μ H d v ∧ ItsOk W A μ H ks ds vs as := by cases as <;> exact h
    have q : Rep W A μ H' d v ∧ ItsOk W A μ H' ks ds vs as := ⟨Rep.le l _ _ h.1, its_le l k h.2⟩
    cases as <;> exact q
  | [], _ :: _, _, _, _, _, h => by cases h
  | [], [], _ :: _, _, _, _, h => by cases h
  | [], [], [], _ :: _, _, _, h => by cases h
  | true :: _, [], _, _, _, _, h => by cases h
  | true :: _, _ :: _, [], _, _, _, h => by cases h
  | true :: _, _ :: _, _ :: _, [], _, _, h => by cases h
  | false :: _, [], _, as, _, _, h => by cases as <;> cases h
  | false :: _, _ :: _, [], as, _, _, h => by cases as <;> cases h
/-- the end of all of them -/
theorem par_end {is : List (Nat × Bool)} {ds : List D} {vs : List V} {as : List Addr} {F : FK} (R : ParR W A0 μ O H σ (is.map (·.2)) ds vs as μ1 H1 S1) (p : PostS W Wx A0 μ O H (.ok .nx { S1 with sl := setAll S1.sl is ds }) F) (he : ∀ b o, H1 b = some o → H' b = some o) : F .nx μ1 (ownO O is as) (setV σ is vs) H' { S1 with sl := setAll S1.sl is ds } := by
  have its := its_le (Le.same he fun _ h => h) (fun a ⟨o, e⟩ => by rw [he a o e, e]) R.its
  have rs := par_set is R.na R.nd (R.rs.same he) its
  refine p _ H' μ1 (ownO O is as) ⟨R.st.ch (Step.same he), fun k b z => ?_⟩ rs
  rcases own_in z with z | z
  · exact .inl z
  · exact .inr (R.nn b z)
section
variable {e1 e2 e3 : Expr} {f1 f2 f3 : M D} {i j l : Nat} {k1 k2 k3 : Bool} {x y z : Str} {px py pz pt pt2 : Pos} {kt kt2 : Nat}
theorem ds_par2 (hc : X.calm = true) (hN : X.N.Nodup) (hi : X.N[i]? = some x) (hj : X.N[j]? = some y) (hij : i ≠ j) (hx : X.env.scope.names.lookup x = some .local) (hy : X.env.scope.names.lookup y = some .local)
    (h1 : PE X e1 (tK W Wx k1 f1)) (h2 : PE X e2 (tK W Wx k2 f2)) (hw : swappedStores [.Tuple [.Name x px, .Name y py] kt pt] (.Tuple [e1, e2] kt2 pt2) X.env = pure (some [x, y]))
    (hs : swapsWithSole [.Tuple [.Name x px, .Name y py] kt pt] (.Tuple [e1, e2] kt2 pt2) pos.line X.env = pure false := by rfl) (hs1 : starEach [e1, e2] X.env = (false, eval e1 X.env) :: starEach [e2] X.env := by rfl) (hs2 : starEach [e2] X.env = (false, eval e2 X.env) :: starEach [] X.env := by rfl) :
    PS X (.Assign [.Tuple [.Name x px, .Name y py] kt pt] (.Tuple [e1, e2] kt2 pt2) pos) (tS W Wx (parN [(i, k1), (j, k2)] [f1, f2])) := PS.imp (ps_par hc hN hi hj hij hx hy (pa_cons h1 (pa_cons h2 pa_nil hs2) hs1) hw hs) fun D σ H ⟨A0, μ, O, S, rs, p⟩ => by
  refine par_vals (W := W) (Wx := Wx) [k1, k2] [f1, f2] rfl rs (fun _ h => h) (Step.refl _ _ _) p fun vs H1 μ1 ds S1 as R p1 => ?_
  have hl := its_len R.its
  obtain ⟨v, w, rfl⟩ : ∃ v w, vs = [v, w] := by
    match vs, hl with
    | [v, w], _ => exact ⟨v, w, rfl⟩
  refine ⟨v, w, rfl, ?_⟩
  rw [← List.set_comm _ _ (Ne.symm hij)]
  exact par_end (is := [(i, k1), (j, k2)]) R p1 fun _ _ h => h
theorem ds_par3 (hc : X.calm = true) (hN : X.N.Nodup) (hi : X.N[i]? = some x) (hj : X.N[j]? = some y) (hl : X.N[l]? = some z) (hij : i ≠ j) (hil : i ≠ l) (hjl : j ≠ l) (hx : X.env.scope.names.lookup x = some .local) (hy : X.env.scope.names.lookup y = some .local) (hz : X.env.scope.names.lookup z = some .local)
    (h1 : PE X e1 (tK W Wx k1 f1)) (h2 : PE X e2 (tK W Wx k2 f2)) (h3 : PE X e3 (tK W Wx k3 f3)) (hw : swappedStores [.Tuple [.Name x px, .Name y py, .Name z pz] kt pt] (.Tuple [e1, e2, e3] kt2 pt2) X.env = pure (some [x, y, z]))
    (hs : swapsWithSole [.Tuple [.Name x px, .Name y py, .Name z pz] kt pt] (.Tuple [e1, e2, e3] kt2 pt2) pos.line X.env = pure false := by rfl) (hs1 : starEach [e1, e2, e3] X.env = (false, eval e1 X.env) :: starEach [e2, e3] X.env := by rfl) (hs2 : starEach [e2, e3] X.env = (false, eval e2 X.env) :: starEach [e3] X.env := by rfl) (hs3 : starEach [e3] X.env = (false, eval e3 X.env) :: starEach [] X.env := by rfl) :
    PS X (.Assign [.Tuple [.Name x px, .Name y py, .Name z pz] kt pt] (.Tuple [e1, e2, e3] kt2 pt2) pos) (tS W Wx (parN [(i, k1), (j, k2), (l, k3)] [f1, f2, f3])) := PS.imp (ps_par3 hc hN hi hj hl hij hil hjl hx hy hz (pa_cons h1 (pa_cons h2 (pa_cons h3 pa_nil hs3) hs2) hs1) hw hs) fun D σ H ⟨A0, μ, O, S, rs, p⟩ => by
  refine par_vals (W := W) (Wx := Wx) [k1, k2, k3] [f1, f2, f3] rfl rs (fun _ h => h) (Step.refl _ _ _) p fun vs H1 μ1 ds S1 as R p1 => ?_
  have hl := its_len R.its
  obtain ⟨u, v, w, rfl⟩ : ∃ u v w, vs = [u, v, w] := by
    match vs, hl with
    | [u, v, w], _ => exact ⟨u, v, w, rfl⟩
  refine ⟨u, v, w, rfl, ?_⟩
  have q := par_end (is := [(i, k1), (j, k2), (l, k3)]) R p1 fun _ _ h => h
  have e : ((σ.set l (some w)).set j (some v)).set i (some u) = ((σ.set i (some u)).set j (some v)).set l (some w) := by
    rw [List.set_comm _ _ (Ne.symm hij), List.set_comm (some w) _ (Ne.symm hil), List.set_comm _ _ (Ne.symm hjl)]
  rw [← e]
  exact q
/-- by a tuple: names that are captured -/
theorem ds_tup2 (hc : X.calm = true) (hN : X.N.Nodup) (hi : X.N[i]? = some x) (hj : X.N[j]? = some y) (hij : i ≠ j) (hx : Loc X.env.scope x) (hy : Loc X.env.scope y)
    (h1 : PE X e1 (tK W Wx k1 f1)) (h2 : PE X e2 (tK W Wx k2 f2))
    (hfx : X.fn x = true ∨ X.env.scope.names.lookup x = some .local := by first | exact .inl rfl | exact .inr rfl) (hfy : X.fn y = true ∨ X.env.scope.names.lookup y = some .local := by first | exact .inl rfl | exact .inr rfl)
    (hs : swapsWithSole [.Tuple [.Name x px, .Name y py] kt pt] (.Tuple [e1, e2] kt2 pt2) pos.line X.env = pure false := by rfl) (hw : swappedStores [.Tuple [.Name x px, .Name y py] kt pt] (.Tuple [e1, e2] kt2 pt2) X.env = pure none := by rfl)
    (ha1 : (assignEach [.Tuple [.Name x px, .Name y py] kt pt] X.env).map (·.2) = [assign (.Tuple [.Name x px, .Name y py] kt pt) X.env] := by rfl)
    (hs1 : starEach [e1, e2] X.env = (false, eval e1 X.env) :: starEach [e2] X.env := by rfl) (hs2 : starEach [e2] X.env = (false, eval e2 X.env) :: starEach [] X.env := by rfl)
    (hn : (assignEach [.Name x px, .Name y py] X.env).length = 2 := by rfl) (hst : (assignEach [.Name x px, .Name y py] X.env).findIdx? (·.1) = none := by rfl)
    (ht1 : (assignEach [.Name x px, .Name y py] X.env).map (·.2) = assign (.Name x px) X.env :: (assignEach [.Name y py] X.env).map (·.2) := by rfl) (ht2 : (assignEach [.Name y py] X.env).map (·.2) = assign (.Name y py) X.env :: (assignEach [] X.env).map (·.2) := by rfl) :
    PS X (.Assign [.Tuple [.Name x px, .Name y py] kt pt] (.Tuple [e1, e2] kt2 pt2) pos) (tS W Wx (parN [(i, k1), (j, k2)] [f1, f2])) :=
  PS.imp (ps_asg (pe_tup (pa_cons h1 (pa_cons h2 pa_nil hs2) hs1)) (pg_tup hc (pgs_cons (pg_name hN hi hx hfx) (pgs_cons (pg_name hN hj hy hfy) pgs_nil ht2) ht1) hn hst) hs hw ha1) fun D σ H ⟨A0, μ, O, S, rs, p⟩ => by
  refine par_vals (W := W) (Wx := Wx) [k1, k2] [f1, f2] rfl rs (fun _ h => h) (Step.refl _ _ _) p fun vs H1 μ1 ds S1 as R p1 => ?_
  have hl := its_len R.its
  obtain ⟨v, w, rfl⟩ : ∃ v w, vs = [v, w] := by
    match vs, hl with
    | [v, w], _ => exact ⟨v, w, rfl⟩
  refine ⟨small_le (by simp), fun p hp => ?_⟩
  refine ⟨p, [v, w], rfl, .inl (.inl upd_same), rfl, ?_⟩
  have q := par_end (is := [(i, k1), (j, k2)]) (H' := upd H1 p (.tup [v, w])) R p1 (upd_keep hp)
  refine ⟨v, [w], rfl, w, [], rfl, rfl, ?_⟩
  rw [List.set_comm _ _ hij]
  exact q
end
end
end DL
end
section
set_option Elab.async false
set_option linter.all false
set_option maxRecDepth 100000
namespace LW
open PySem PySem.Spec L2 DL
def WHN : Nat := 100000
def RECN : Nat := 6
def K_WORDS : List Str := ["all", "back", "book", "bright", "case", "chance", "colour", "cut", "draw", "first", "game", "in", "none", "of", "once", "open", "out", "paint", "place", "proper", "quit", "rule", "short", "single", "take", "tie", "two", "undo", "way", "web", "win", "yes"]
def K_ORDER : List Str := ["place", "tie"]
def KV_LONG : List (Str × He.Dv) := [("place", (.int 2)), ("tie", (.int 4))]
def KD_LONG : List (Str × D) := dvDs KV_LONG
def T_OWN : Str := "place tie"
def K_OWN : List Str := ["place", "tie"]
def m__law_beam : M Fl := seqS (ifV (M.bnd (op2 (op2 (vget 0) (M.ret (.int 0)) ixM) (M.ret (.int 0)) gtM) bool1) (seqS (asgS (op2 (op2 (vget 0) (M.ret (.int 0)) ixM) (vget 1) divmodM) (tgT [subT 0 (M.ret (.int 0)), setN 2])) (retS (vget 2))) (skip)) (seqS (asgS (op2 (op2 (vget 0) (M.ret (.int 2)) ixM) (M.ret (.int 1)) addM) (subT 0 (M.ret (.int 2)))) (seqS (asgS (op2 (M.bnd (op2 (op2 (op2 (op2 (vget 0) (M.ret (.int 1)) ixM) (op2 (op2 (M.bnd (op2 (vget 0) (M.ret (.int 1)) ixM) intM) (M.ret (.int 9769)) modM) (M.ret (.int 50021)) addM) mulM) (op2 (M.ret (.int 10267)) (op2 (vget 0) (M.ret (.int 2)) ixM) mulM) addM) (M.ret (.int 227)) addM) intM) (M.ret (.int 2147482549)) modM) (subT 0 (M.ret (.int 1)))) (retS (op2 (M.bnd (op2 (op2 (vget 0) (M.ret (.int 1)) ixM) (M.ret (.int 563)) fdivM) intM) (vget 1) modM))))
def F__law_beam : Fn := fnM 3 2 m__law_beam
def m__law_of : M Fl := retS (op2 (vget 1) (callE F__law_beam [vget 0, M.bnd (vget 1) lenM]) ixM)
def F__law_of : Fn := fnM 2 2 m__law_of
def m__law_own : M Fl := retS (m1M (M.ret (.str "place tie")) (M.ret (.str " ")) splitM)
def F__law_own : Fn := fnM 0 0 m__law_own
def m__law_names : M Fl := seqS (asgS (m1M (M.ret (.str "all back book bright case chance colour cut draw first game in none of once open out paint place proper quit rule short")) (M.ret (.str " ")) splitM) (setN 2)) (seqS (parN [(3, false), (4, true)] [op2 (vget 2) (m1M (M.ret (.str "single take tie two undo way web win yes zzzzzzzz zzzzzzzy")) (M.ret (.str " ")) splitM) addM, lstE []]) (seqS (forS (rng1M (vget 1)) (setN 5) (seqS (asgS (M.ret (.str "")) (setN 6)) (seqS (forS (rng1M (op2 (M.ret (.int 1)) (callE F__law_of [vget 0, lstE [M.ret (.int 0), M.ret (.int 0), M.ret (.int 1), M.ret (.int 2), M.ret (.int 7)]]) addM)) (setN 7) (asgS (op2 (vget 6) (callE F__law_of [vget 0, M.ret (.str "abcdefghijklmnopqrstuvwxyz")]) addM) (setN 6))) (seqS (asgS (callE F__law_of [vget 0, lstE [M.ret (.str "a"), M.ret (.str "b"), M.ret (.str "webs"), vget 6, vget 6, vget 6, vget 6]]) (setN 6)) (exprS (appM 4 (op2 (lcM [8] (itemsM (op2 (lstE [vget 6]) (lcM [9] (itemsM (M.ret (.str "abcdefghijklmnopqrstuvwxyz"))) (setN 9) (M.ret true) (op2 (slE (vget 6) (M.ret none) (M.bnd (M.ret (.int 7)) partOf)) (vget 9) addM)) addM)) (setN 8) (M.bnd (op2 (vget 8) (op2 (op2 (vget 3) (vgetR 4) addM) (callF F__law_own []) addM) notInM) bool1) (vget 8)) (M.ret (.int 0)) ixM))))))) (retS (M.bnd (M.bnd (vgetR 4) sortM) tupM))))
def F__law_names : Fn := fnM 10 2 m__law_names
def m__law_web : M Fl := seqS (parS 4 5 .d .own (callE F__law_names [vget 0, op2 (vget 1) (callE F__law_beam [vget 0, op2 (op2 (vget 2) (vget 1) subM) (M.ret (.int 1)) addM]) addM]) (M.ret (.dicT [] []))) (seqS (forS (rng2M (M.ret (.int 1)) (M.bnd (vget 4) lenM)) (setN 6) (asgS (M.ret (.bl true)) (subT 5 (tupE [op2 (vget 4) (ifV (M.bnd (op2 (callE F__law_beam [vget 0, M.ret (.int 2)]) (M.ret (.int 0)) eqM) bool1) (callE F__law_beam [vget 0, vget 6]) (op2 (vget 6) (M.ret (.int 1)) subM)) ixM, op2 (vget 4) (vget 6) ixM])))) (seqS (forS (rng1M (ifV (M.bnd (op2 (M.bnd (vget 4) lenM) (M.ret (.int 2)) gtM) bool1) (callE F__law_of [vget 0, lstE [M.ret (.int 0), M.ret (.int 1), M.ret (.int 2), M.ret (.int 3)]]) (M.ret (.int 0)))) (setN 7) (seqS (asgS (callE F__law_beam [vget 0, op2 (M.bnd (vget 4) lenM) (M.ret (.int 1)) subM]) (setN 8)) (seqS (asgS (tupE [op2 (vget 4) (vget 8) ixM, op2 (vget 4) (op2 (op2 (vget 8) (M.ret (.int 1)) addM) (callE F__law_beam [vget 0, op2 (op2 (M.bnd (vget 4) lenM) (vget 8) subM) (M.ret (.int 1)) subM]) addM) ixM]) (setN 9)) (ifV (M.bnd (op2 (M.bnd (vgetR 5) lenM) (vget 3) ltM) bool1) (asgS (M.ret (.bl true)) (subT 5 (vget 9))) (skip))))) (retS (tupE [vget 4, M.bnd (M.bnd (M.bnd (vgetR 5) list2M) sortM) tupM]))))
def F__law_web : Fn := fnM 10 4 m__law_web
def m_wrong_in (Λ : Nat → List D → Fn) : M Fl := seqS (ifV (orB (notB (M.bnd (op2 (vget 0) (M.ret (.ty "tuple")) isiM) tru)) (M.bnd (op2 (M.bnd (vget 0) lenM) (vget 1) ltM) bool1)) (retS (lstE [M.ret .non])) (skip)) (seqS (forS (enumM (vget 0)) (tgT [setN 4, setN 5]) (ifV (orB (M.bnd (op2 (vget 4) (vget 2) eqM) bool1) (notB (M.bnd (callFnM Λ 3 [slE (vget 0) (M.ret none) (M.bnd (vget 4) partOf), vget 5]) tru))) (retS (lstE [vget 4])) (skip))) (retS (lstE [])))
def F_wrong_in (Λ : Nat → List D → Fn) : Fn := fnM 6 4 (m_wrong_in Λ)
def m_is_word : M Fl := retS (andV (op2 (vget 0) (M.ret (.ty "str")) isiM) (andV (op2 (vget 0) (M.ret (.str "")) neM) (M.bnd (lcM [1] (itemsM (vget 0)) (setN 1) (M.ret true) (op2 (vget 1) (M.ret (.str "abcdefghijklmnopqrstuvwxyz")) inM)) allM)))
def F_is_word : Fn := fnM 2 1 m_is_word
def m_is_name : M Fl := retS (andV (callE F_is_word [vget 0]) (andV (op2 (M.bnd (vget 0) lenM) (M.ret (.int 8)) leM) (op2 (vget 0) (M.ret (.ktup (K_WORDS.map .str))) notInM)))
def F_is_name : Fn := fnM 1 1 m_is_name
def m_are_below : M Fl := retS (orV (op2 (vget 0) (tupE []) eqM) (op2 (op2 (vget 0) (negM (M.ret (.int 1))) ixM) (vget 1) ltM))
def F_are_below : Fn := fnM 2 2 m_are_below
def LF_0 : List D → Fn := lamM 2 2 (andV (callE F_is_name [vget 1]) (callE F_are_below [vget 0, vget 1]))
def m_wrong_in_places : M Fl := retS (callLamM (F_wrong_in (one 0 LF_0)) 0 [] [vget 0, M.ret (.int 2), M.ret (.int 6)])
def F_wrong_in_places : Fn := fnfM (fnM 1 1 m_wrong_in_places)
def m_is_tuple_of : M Fl := retS (andV (op2 (vget 0) (M.ret (.ty "tuple")) isiM) (op2 (M.bnd (vget 0) lenM) (vget 1) eqM))
def F_is_tuple_of : Fn := fnM 2 2 m_is_tuple_of
def m_is_pair : M Fl := retS (callE F_is_tuple_of [vget 0, M.ret (.int 2)])
def F_is_pair : Fn := fnM 1 1 m_is_pair
def m_is_one_of : M Fl := retS (andV (op2 (vget 0) (M.ret (.ty "str")) isiM) (op2 (vget 0) (vget 1) inM))
def F_is_one_of : Fn := fnM 2 2 m_is_one_of
def m_is_tie_of : M Fl := retS (andV (callE F_is_pair [vget 1]) (andV (callE F_is_one_of [op2 (vget 1) (M.ret (.int 0)) ixM, vget 0]) (andV (callE F_is_one_of [op2 (vget 1) (M.ret (.int 1)) ixM, vget 0]) (op2 (op2 (vget 1) (M.ret (.int 0)) ixM) (op2 (vget 1) (M.ret (.int 1)) ixM) ltM))))
def F_is_tie_of : Fn := fnM 2 2 m_is_tie_of
def LF_1 : List D → Fn := lamM 3 2 (andV (callE F_is_tie_of [vget 2, vget 1]) (callE F_are_below [vget 0, vget 1]))
def m_wrong_in_ties : M Fl := retS (callLamM (F_wrong_in (one 1 LF_1)) 1 [0] [vget 1, M.ret (.int 1), M.ret (.int 9)])
def F_wrong_in_ties : Fn := fnfM (fnM 2 2 m_wrong_in_ties)
def m_beside : M Fl := retS (lcM [2, 3] (itemsM (vget 0)) (tgT [setN 2, setN 3]) (M.bnd (op2 (vget 1) (tupE [vget 2, vget 3]) inM) bool1) (ifV (M.bnd (op2 (vget 3) (vget 1) eqM) bool1) (vget 2) (vget 3)))
def F_beside : Fn := fnM 4 2 m_beside
def m_do_hang : M Fl := seqS (parS 2 3 .own .own (disp1M (op2 (vget 0) (M.ret (.int 0)) ixM) (M.ret (.bl true))) (lstE [op2 (vget 0) (M.ret (.int 0)) ixM])) (seqS (whileM WHN (M.bnd (cmpV 3 (lstE []) neM) bool1) (forS (itemsM (callE F_beside [vget 1, popM 3])) (setN 4) (ifV (M.bnd (op2 (vget 4) (vgetR 2) notInM) bool1) (seqS (asgS (M.ret (.bl true)) (subT 2 (vget 4))) (exprS (appM 3 (vget 4)))) (skip)))) (retS (op2 (M.bnd (vgetR 2) lenM) (M.bnd (vget 0) lenM) eqM)))
def F_do_hang : Fn := fnM 5 2 m_do_hang
def m_Web___init__ : M Fl := seqS (forS (itemsM (callE F_wrong_in_places [vget 1])) (setN 3) (M.fail)) (seqS (forS (itemsM (callE F_wrong_in_ties [vget 1, vget 2])) (setN 3) (M.fail)) (seqS (ifV (notB (M.bnd (callE F_do_hang [vget 1, vget 2]) tru)) (M.fail) (skip)) (fldS 0 0 "all_told" (tupE [vget 1, vget 2]))))
def F_Web___init__ : Fn := fnM 4 3 m_Web___init__
def m__law_made : M Fl := retS (makeV 0 F_Web___init__ [op2 (vget 0) (M.ret (.int 0)) ixM, op2 (vget 0) (M.ret (.int 1)) ixM])
def F__law_made : Fn := fnM 1 1 m__law_made
def m__law_begin : M Fl := retS (M.bnd (lcM [2] (itemsM (op2 (vget 1) (M.ret (.int 1)) ixM)) (setN 2) (M.ret true) (callE F__law_of [vget 0, lstE [M.ret .non, M.ret .non, M.ret (.int 0), M.ret (.int 1), M.ret (.int 8), callE F__law_beam [vget 0, M.ret (.int 9)]]])) tupM)
def F__law_begin : Fn := fnM 3 2 m__law_begin
def m__law_text : M Fl := seqS (setO 2 (lcM [6] (itemsM (op2 (vget 0) (M.ret (.int 0)) ixM)) (setN 6) (M.ret true) (m1M (M.ret (.str " ")) (lstE [M.ret (.str "place"), vget 6]) joinM))) (seqS (forS (zipM (op2 (vget 0) (M.ret (.int 1)) ixM) (vget 1)) (tgT [tgT [setN 3, setN 4], setN 5]) (exprS (appM 2 (m1M (M.ret (.str " ")) (lstE [M.ret (.str "tie"), vget 3, vget 4, ifV (M.bnd (op2 (vget 5) (M.ret .non) isM) bool1) (M.ret (.str "-")) (M.bnd (vget 5) strM)]) joinM)))) (retS (M.bnd (vgetR 2) tupM)))
def F__law_text : Fn := fnM 7 2 m__law_text
def m__law_same (F : Fn) : M Fl := seqS (ifV (orB (M.bnd (op2 (vget 1) (M.ret (.ty "tuple")) isiM) tru) (M.bnd (op2 (vget 1) (M.ret (.ty "list")) isiM) tru)) (seqS (ifV (orB (M.bnd (op2 (op2 (vget 0) (M.ret (.ty "tuple")) isiM) (op2 (vget 1) (M.ret (.ty "tuple")) isiM) neM) bool1) (M.bnd (op2 (op2 (vget 0) (M.ret (.ty "list")) isiM) (op2 (vget 1) (M.ret (.ty "list")) isiM) neM) bool1)) (retS (M.ret (.bl false))) (skip)) (retS (andV (op2 (M.bnd (vget 0) lenM) (M.bnd (vget 1) lenM) eqM) (M.bnd (lcM [2, 3] (zipM (vget 0) (vget 1)) (tgT [setN 2, setN 3]) (M.ret true) (callE F [vget 2, vget 3])) allM)))) (skip)) (seqS (ifV (M.bnd (op2 (vget 1) (M.ret .non) isM) bool1) (retS (op2 (vget 0) (M.ret .non) isM)) (skip)) (seqS (ifV (M.bnd (op2 (vget 1) (M.ret (.ty "int")) isiM) tru) (retS (andV (op2 (vget 0) (M.ret (.ty "int")) isiM) (andV (op2 (op2 (vget 0) (M.ret (.ty "bool")) isiM) (op2 (vget 1) (M.ret (.ty "bool")) isiM) eqM) (op2 (vget 0) (vget 1) eqM)))) (skip)) (retS (andV (op2 (vget 1) (M.ret (.ty "str")) isiM) (andV (op2 (vget 0) (M.ret (.ty "str")) isiM) (op2 (vget 0) (vget 1) eqM))))))
def F__law_same : Fn := recN (fun F => fnM 4 2 (m__law_same F)) 6
def m_check_web : M Fl := ifV (notB (M.bnd (isoM 0 (vget 0)) tru)) (M.fail) (skip)
def F_check_web : Fn := fnM 1 1 m_check_web
def LF_2 (Λ : Nat → List D → Fn) : List D → Fn := lamM 3 2 (callFnM Λ 2 [vget 1])
def m_wrong_in_all (Λ : Nat → List D → Fn) : M Fl := retS (ifV (M.bnd (callE F_is_tuple_of [vget 0, vget 1]) tru) (callLamM (F_wrong_in (one 2 (LF_2 Λ))) 2 [2] [vget 0, vget 1, vget 1]) (lstE [M.ret .non]))
def F_wrong_in_all (Λ : Nat → List D → Fn) : Fn := fnM 3 3 (m_wrong_in_all Λ)
def m_is_whole : M Fl := retS (andV (op2 (vget 0) (M.ret (.ty "int")) isiM) (notV (op2 (vget 0) (M.ret (.ty "bool")) isiM)))
def F_is_whole : Fn := fnM 1 1 m_is_whole
def m_is_between : M Fl := retS (andV (callE F_is_whole [vget 0]) (chainM (vget 1) (vget 0) (vget 2) leM leM))
def F_is_between : Fn := fnM 3 3 m_is_between
def m_is_colour : M Fl := retS (callE F_is_between [vget 0, M.ret (.int 0), M.ret (.int 8)])
def F_is_colour : Fn := fnM 1 1 m_is_colour
def LF_3 : List D → Fn := lamM 1 1 (orV (op2 (vget 0) (M.ret .non) isM) (callE F_is_colour [vget 0]))
def m_wrong_in_beginning : M Fl := retS (callLamM (F_wrong_in_all (one 3 LF_3)) 3 [] [vget 0, vget 1])
def F_wrong_in_beginning : Fn := fnfM (fnM 2 2 m_wrong_in_beginning)
def m_Web_ties : M Fl := retS (op2 (fldM 0 "all_told" (vget 0)) (M.ret (.int 1)) ixM)
def F_Web_ties : Fn := fnM 1 1 m_Web_ties
def m_check_beginning : M Fl := seqS (exprS (callE F_check_web [vget 0])) (forS (itemsM (callE F_wrong_in_beginning [vget 1, M.bnd (propM 0 F_Web_ties (vget 0)) lenM])) (setN 2) (M.fail))
def F_check_beginning : Fn := fnM 3 2 m_check_beginning
def m_Web_places : M Fl := retS (op2 (fldM 0 "all_told" (vget 0)) (M.ret (.int 0)) ixM)
def F_Web_places : Fn := fnM 1 1 m_Web_places
def m_colour_told : M Fl := retS (ifV (M.bnd (op2 (vget 0) (M.ret .non) isM) bool1) (M.ret (.str "-")) (M.bnd (vget 0) strM))
def F_colour_told : Fn := fnM 1 1 m_colour_told
def m_rows_by : M Fl := seqS (setO 2 (lcM [3] (itemsM (propM 0 F_Web_places (vget 0))) (setN 3) (M.ret true) (joinsM [fmtM (M.ret (.str "place")), M.ret (.str " "), fmtM (vget 3)] Str.empty))) (seqS (exprS (extM 2 (lcM [4, 5, 6] (zipM (propM 0 F_Web_ties (vget 0)) (vget 1)) (tgT [tgT [setN 4, setN 5], setN 6]) (M.ret true) (joinsM [fmtM (M.ret (.str "tie")), M.ret (.str " "), fmtM (vget 4), M.ret (.str " "), fmtM (vget 5), M.ret (.str " "), fmtM (callE F_colour_told [vget 6])] Str.empty)))) (retS (M.bnd (vgetR 2) tupM)))
def F_rows_by : Fn := fnM 7 2 m_rows_by
def m_web_rows : M Fl := seqS (exprS (callE F_check_beginning [vget 0, vget 1])) (retS (callE F_rows_by [vget 0, vget 1]))
def F_web_rows : Fn := fnM 2 2 m_web_rows
def m_is_figures : M Fl := seqS (ifV (orB (M.bnd (op2 (vget 0) (M.ret (.str "")) eqM) bool1) (orB (M.bnd (op2 (M.bnd (vget 0) lenM) (M.ret (.int 400)) gtM) bool1) (notB (M.bnd (M.bnd (lcM [1] (itemsM (vget 0)) (setN 1) (M.ret true) (op2 (vget 1) (M.ret (.str "0123456789")) inM)) allM) tru)))) (retS (M.ret (.bl false))) (skip)) (retS (orV (op2 (vget 0) (M.ret (.str "0")) eqM) (op2 (op2 (vget 0) (M.ret (.int 0)) ixM) (M.ret (.str "0")) neM)))
def F_is_figures : Fn := fnM 2 1 m_is_figures
def m_told_row : M Fl := seqS (asgS (ifV (M.bnd (op2 (vget 0) (M.ret (.ty "str")) isiM) tru) (M.bnd (m1M (vget 0) (M.ret (.str " ")) splitM) tupM) (tupE [M.ret (.str "")])) (setN 1)) (seqS (ifV (orB (M.bnd (op2 (op2 (vget 1) (M.ret (.int 0)) ixM) (M.ret (.ktup (K_ORDER.map .str))) notInM) bool1) (orB (M.bnd (op2 (M.bnd (vget 1) lenM) (kgetM KD_LONG (op2 (vget 1) (M.ret (.int 0)) ixM)) neM) bool1) (notB (M.bnd (M.bnd (lcM [2] (itemsM (slE (vget 1) (M.bnd (M.ret (.int 1)) partOf) (M.bnd (M.ret (.int 3)) partOf))) (setN 2) (M.ret true) (callE F_is_word [vget 2])) allM) tru)))) (retS (tupE [])) (skip)) (retS (ifV (orB (M.bnd (op2 (op2 (vget 1) (M.ret (.int 0)) ixM) (M.ret (.str "place")) eqM) bool1) (orB (M.bnd (op2 (op2 (vget 1) (M.ret (.int 3)) ixM) (M.ret (.str "-")) eqM) bool1) (M.bnd (callE F_is_figures [op2 (vget 1) (M.ret (.int 3)) ixM]) tru))) (vget 1) (tupE []))))
def F_told_row : Fn := fnM 3 1 m_told_row
def m_wrong_in_lines : M Fl := seqS (ifV (orB (notB (M.bnd (op2 (vget 0) (M.ret (.ty "tuple")) isiM) tru)) (M.bnd (op2 (vget 0) (tupE []) eqM) bool1)) (retS (lstE [M.ret .non])) (skip)) (seqS (asgS (M.ret (.str "place")) (setN 1)) (seqS (forS (enumM (lcM [4] (itemsM (vget 0)) (setN 4) (M.ret true) (callE F_told_row [vget 4]))) (tgT [setN 2, setN 3]) (seqS (ifV (orB (M.bnd (op2 (vget 3) (tupE []) eqM) bool1) (M.bnd (op2 (idxM K_ORDER (op2 (vget 3) (M.ret (.int 0)) ixM)) (idxM K_ORDER (vget 1)) ltM) bool1)) (retS (lstE [vget 2])) (skip)) (asgS (op2 (vget 3) (M.ret (.int 0)) ixM) (setN 1)))) (retS (lstE []))))
def F_wrong_in_lines : Fn := fnM 5 1 m_wrong_in_lines
def m_told_by : M Fl := seqS (asgS (lcM [4] (itemsM (vget 0)) (setN 4) (M.ret true) (callE F_told_row [vget 4])) (setN 1)) (seqS (asgS (lcM [5] (itemsM (vget 1)) (setN 5) (M.bnd (op2 (op2 (vget 5) (M.ret (.int 0)) ixM) (M.ret (.str "tie")) eqM) bool1) (vget 5)) (setN 2)) (seqS (asgS (M.bnd (lcM [5] (itemsM (vget 2)) (setN 5) (M.ret true) (ifV (M.bnd (op2 (op2 (vget 5) (M.ret (.int 3)) ixM) (M.ret (.str "-")) eqM) bool1) (M.ret .non) (M.bnd (op2 (vget 5) (M.ret (.int 3)) ixM) intM))) tupM) (setN 3)) (retS (tupE [M.bnd (lcM [5] (itemsM (vget 1)) (setN 5) (M.bnd (op2 (op2 (vget 5) (M.ret (.int 0)) ixM) (M.ret (.str "place")) eqM) bool1) (op2 (vget 5) (M.ret (.int 1)) ixM)) tupM, M.bnd (lcM [5] (itemsM (vget 2)) (setN 5) (M.ret true) (slE (vget 5) (M.bnd (M.ret (.int 1)) partOf) (M.bnd (M.ret (.int 3)) partOf))) tupM, vget 3]))))
def F_told_by : Fn := fnM 6 1 m_told_by
def m_read_web : M Fl := seqS (forS (itemsM (callE F_wrong_in_lines [vget 0])) (setN 1) (M.fail)) (seqS (asgS (callE F_told_by [vget 0]) (tgT [setN 2, setN 3, setN 4])) (seqS (asgS (makeV 0 F_Web___init__ [vget 2, vget 3]) (setN 5)) (seqS (exprS (callE F_check_beginning [vget 5, vget 4])) (retS (tupE [vget 5, vget 4])))))
def F_read_web : Fn := fnM 6 1 m_read_web
def m_Web_parts : M Fl := retS (fldM 0 "all_told" (vget 0))
def F_Web_parts : Fn := fnM 1 1 m_Web_parts
def m_Web___eq__ : M Fl := retS (andV (isoM 0 (vget 1)) (op2 (propM 0 F_Web_parts (vget 0)) (propM 0 F_Web_parts (vget 1)) eqM))
def F_Web___eq__ : Fn := fnM 2 2 m_Web___eq__
def m__law_right : M Fl := seqS (forS (rng1M (M.ret (.int 4))) (setN 1) (seqS (asgS (callE F__law_web [vget 0, M.ret (.int 2), M.ret (.int 6), M.ret (.int 9)]) (setN 2)) (seqS (parS 3 4 .d .d (callE F__law_made [vget 2]) (callE F__law_begin [vget 0, vget 2])) (seqS (asgS (callE F__law_text [vget 2, vget 4]) (setN 5)) (seqS (ifV (notB (M.bnd (callE F__law_same [lstE [callE F_web_rows [vget 3, vget 4], callK F_web_rows [1, 0] [] [vget 4, vget 3]], lstE [vget 5, vget 5]]) tru)) (retS (M.ret (.bl false))) (skip)) (seqS (forS (itemsM (lstE [callE F_read_web [vget 5], callK F_read_web [0] [] [vget 5], callE F_read_web [callE F_web_rows [vget 3, vget 4]]])) (setN 6) (ifV (orB (notB (M.bnd (op2 (vget 6) (M.ret (.ty "tuple")) isiM) tru)) (orB (M.bnd (op2 (M.bnd (vget 6) lenM) (M.ret (.int 2)) neM) bool1) (orB (notB (M.bnd (callE F__law_same [lstE [propM 0 F_Web_parts (op2 (vget 6) (M.ret (.int 0)) ixM), op2 (vget 6) (M.ret (.int 1)) ixM], lstE [vget 2, vget 4]]) tru)) (M.bnd (op2 (op2 (vget 6) (M.ret (.int 0)) ixM) (vget 3) (neoM 0 F_Web___eq__)) bool1)))) (retS (M.ret (.bl false))) (skip))) (seqS (parS 7 8 .d .d (callE F__law_web [vget 0, M.ret (.int 2), M.ret (.int 3), M.ret (.int 3)]) (callE F__law_begin [vget 0, vget 2])) (seqS (asgS (callE F__law_begin [vget 0, vget 7]) (setN 9)) (ifV (orB (M.bnd (op2 (op2 (callE F_web_rows [callE F__law_made [vget 7], vget 9]) (vget 5) eqM) (op2 (tupE [vget 7, vget 9]) (tupE [vget 2, vget 4]) eqM) neM) bool1) (M.bnd (op2 (op2 (callE F_web_rows [vget 3, vget 8]) (vget 5) eqM) (op2 (vget 8) (vget 4) eqM) neM) bool1)) (retS (M.ret (.bl false))) (skip)))))))))) (retS (M.ret (.bl true)))
def F__law_right : Fn := fnM 10 1 m__law_right
def m__law_loft : M Fl := seqS (asgS (ifV (M.bnd (op2 (vget 1) (M.bnd (vget 0) lenM) ltM) bool1) (M.bnd (op2 (vget 0) (vget 1) ixM) intM) (M.ret (.int 0))) (setN 2)) (seqS (asgS (op2 (M.ret (.int 7621)) (op2 (M.ret (.int 499)) (vget 1) mulM) addM) (setN 3)) (seqS (forS (itemsM (op2 (slE (vget 0) (M.ret none) (M.bnd (M.ret (.int 9)) partOf)) (lstE [vget 2]) addM)) (setN 4) (asgS (op2 (M.bnd (op2 (op2 (op2 (vget 3) (M.ret (.int 14563)) mulM) (op2 (M.bnd (vget 4) intM) (M.ret (.int 2147482003)) modM) addM) (M.ret (.int 197)) addM) intM) (M.ret (.int 2147482549)) modM) (setN 3))) (retLoc (lstE [ifV (orB (M.bnd (op2 (vget 2) (M.ret (.int 0)) ltM) bool1) (M.bnd (op2 (vget 2) (op2 (M.ret (.int 10)) (M.ret (.int 16)) powM) geM) bool1)) (op2 (M.bnd (vget 2) absM) (op2 (M.ret (.int 10)) (M.ret (.int 60)) powM) modM) (M.ret (.int 0)), vget 3, M.ret (.int 0)]))))
def F__law_loft : Fn := fnM 5 2 m__law_loft
def m_law : M Fl := retS (M.bnd (lcM [1] (rng1M (op2 (M.ret (.int 1)) (op2 (M.bnd (vget 0) lenM) (M.ret (.int 3)) minM) maxM)) (setN 1) (M.ret true) (callE F__law_right [callE F__law_loft [vget 0, vget 1]])) allM)
def F_law : Fn := fnM 2 1 m_law
end LW
end
section
set_option Elab.async false
set_option linter.all false
set_option maxRecDepth 100000
namespace LW
open PySem PySem.Spec L2 DL
abbrev PP : Program := PySem.Challenge.pw_rainbowways_k83_whole_texts_of_webs
def top (i : Nat) : Stmt := PP.main.body.getD i pass0
abbrev st__law_beam : Stmt := top 59
theorem sc__law_beam : FnScope ["loft", "many", "figure"] ["loft", "many"] (defScope st__law_beam) := ⟨rfl, rfl, rfl, by decide +kernel, rfl, by decide +kernel, by decide +kernel⟩
def d__law_beam : He.DefD := ⟨("_law_beam", none), "_law_beam", "_law_beam", defArgs st__law_beam, defBody st__law_beam, defScope st__law_beam, [], []⟩
abbrev st__law_of : Stmt := top 60
theorem sc__law_of : FnScope ["loft", "some"] ["loft", "some"] (defScope st__law_of) := ⟨rfl, rfl, rfl, by decide +kernel, rfl, by decide +kernel, by decide +kernel⟩
def d__law_of : He.DefD := ⟨("_law_of", none), "_law_of", "_law_of", defArgs st__law_of, defBody st__law_of, defScope st__law_of, [], []⟩
abbrev st__law_own : Stmt := top 62
theorem sc__law_own : FnScope [] [] (defScope st__law_own) := ⟨rfl, rfl, rfl, by decide +kernel, rfl, by decide +kernel, by decide +kernel⟩
def d__law_own : He.DefD := ⟨("_law_own", none), "_law_own", "_law_own", defArgs st__law_own, defBody st__law_own, defScope st__law_own, [], []⟩
abbrev st__law_names : Stmt := top 63
theorem sc__law_names : FnScope ["loft", "many", "words", "bad", "found", "lap", "word", "spot", "each", "sign"] ["loft", "many"] (defScope st__law_names) := ⟨rfl, rfl, rfl, by decide +kernel, rfl, by decide +kernel, by decide +kernel⟩
def d__law_names : He.DefD := ⟨("_law_names", none), "_law_names", "_law_names", defArgs st__law_names, defBody st__law_names, defScope st__law_names, [], []⟩
abbrev st__law_web : Stmt := top 64
theorem sc__law_web : FnScope ["loft", "least", "most", "many", "places", "ties", "k", "lap", "one", "pair"] ["loft", "least", "most", "many"] (defScope st__law_web) := ⟨rfl, rfl, rfl, by decide +kernel, rfl, by decide +kernel, by decide +kernel⟩
def d__law_web : He.DefD := ⟨("_law_web", none), "_law_web", "_law_web", defArgs st__law_web, defBody st__law_web, defScope st__law_web, [], []⟩
abbrev st_wrong_in : Stmt := top 11
theorem sc_wrong_in : FnScope ["value", "least", "most", "is_right", "index", "each"] ["value", "least", "most", "is_right"] (defScope st_wrong_in) := ⟨rfl, rfl, rfl, by decide +kernel, rfl, by decide +kernel, by decide +kernel⟩
def d_wrong_in : He.DefD := ⟨("wrong_in", none), "wrong_in", "wrong_in", defArgs st_wrong_in, defBody st_wrong_in, defScope st_wrong_in, [], []⟩
abbrev st_is_word : Stmt := top 7
theorem sc_is_word : FnScope ["value", "sign"] ["value"] (defScope st_is_word) := ⟨rfl, rfl, rfl, by decide +kernel, rfl, by decide +kernel, by decide +kernel⟩
def d_is_word : He.DefD := ⟨("is_word", none), "is_word", "is_word", defArgs st_is_word, defBody st_is_word, defScope st_is_word, [], []⟩
abbrev st_is_name : Stmt := top 8
theorem sc_is_name : FnScope ["value"] ["value"] (defScope st_is_name) := ⟨rfl, rfl, rfl, by decide +kernel, rfl, by decide +kernel, by decide +kernel⟩
def d_is_name : He.DefD := ⟨("is_name", none), "is_name", "is_name", defArgs st_is_name, defBody st_is_name, defScope st_is_name, [], []⟩
abbrev st_are_below : Stmt := top 13
theorem sc_are_below : FnScope ["ahead", "value"] ["ahead", "value"] (defScope st_are_below) := ⟨rfl, rfl, rfl, by decide +kernel, rfl, by decide +kernel, by decide +kernel⟩
def d_are_below : He.DefD := ⟨("are_below", none), "are_below", "are_below", defArgs st_are_below, defBody st_are_below, defScope st_are_below, [], []⟩
abbrev Lm_0 : Lam := ⟨"<lambda>", "wrong_in_places.<locals>.<lambda>", lamArgs (argE 3 (valS (bodyAt 0 (top 19)))), lamBody (argE 3 (valS (bodyAt 0 (top 19)))), lamScope (argE 3 (valS (bodyAt 0 (top 19)))), []⟩
abbrev st_wrong_in_places : Stmt := top 19
theorem sc_wrong_in_places : FnScope ["value"] ["value"] (defScope st_wrong_in_places) := ⟨rfl, rfl, rfl, by decide +kernel, rfl, by decide +kernel, by decide +kernel⟩
def d_wrong_in_places : He.DefD := ⟨("wrong_in_places", none), "wrong_in_places", "wrong_in_places", defArgs st_wrong_in_places, defBody st_wrong_in_places, defScope st_wrong_in_places, [], []⟩
abbrev st_is_tuple_of : Stmt := top 9
theorem sc_is_tuple_of : FnScope ["value", "many"] ["value", "many"] (defScope st_is_tuple_of) := ⟨rfl, rfl, rfl, by decide +kernel, rfl, by decide +kernel, by decide +kernel⟩
def d_is_tuple_of : He.DefD := ⟨("is_tuple_of", none), "is_tuple_of", "is_tuple_of", defArgs st_is_tuple_of, defBody st_is_tuple_of, defScope st_is_tuple_of, [], []⟩
abbrev st_is_pair : Stmt := top 10
theorem sc_is_pair : FnScope ["value"] ["value"] (defScope st_is_pair) := ⟨rfl, rfl, rfl, by decide +kernel, rfl, by decide +kernel, by decide +kernel⟩
def d_is_pair : He.DefD := ⟨("is_pair", none), "is_pair", "is_pair", defArgs st_is_pair, defBody st_is_pair, defScope st_is_pair, [], []⟩
abbrev st_is_one_of : Stmt := top 6
theorem sc_is_one_of : FnScope ["value", "words"] ["value", "words"] (defScope st_is_one_of) := ⟨rfl, rfl, rfl, by decide +kernel, rfl, by decide +kernel, by decide +kernel⟩
def d_is_one_of : He.DefD := ⟨("is_one_of", none), "is_one_of", "is_one_of", defArgs st_is_one_of, defBody st_is_one_of, defScope st_is_one_of, [], []⟩
abbrev st_is_tie_of : Stmt := top 20
theorem sc_is_tie_of : FnScope ["places", "value"] ["places", "value"] (defScope st_is_tie_of) := ⟨rfl, rfl, rfl, by decide +kernel, rfl, by decide +kernel, by decide +kernel⟩
def d_is_tie_of : He.DefD := ⟨("is_tie_of", none), "is_tie_of", "is_tie_of", defArgs st_is_tie_of, defBody st_is_tie_of, defScope st_is_tie_of, [], []⟩
abbrev Lm_1 : Lam := ⟨"<lambda>", "wrong_in_ties.<locals>.<lambda>", lamArgs (argE 3 (valS (bodyAt 0 (top 21)))), lamBody (argE 3 (valS (bodyAt 0 (top 21)))), lamScope (argE 3 (valS (bodyAt 0 (top 21)))), ["places"]⟩
abbrev st_wrong_in_ties : Stmt := top 21
theorem sc_wrong_in_ties : FnScope ["places", "value"] ["places", "value"] (defScope st_wrong_in_ties) := ⟨rfl, rfl, rfl, by decide +kernel, rfl, by decide +kernel, by decide +kernel⟩
def d_wrong_in_ties : He.DefD := ⟨("wrong_in_ties", none), "wrong_in_ties", "wrong_in_ties", defArgs st_wrong_in_ties, defBody st_wrong_in_ties, defScope st_wrong_in_ties, [], []⟩
abbrev st_beside : Stmt := top 22
theorem sc_beside : FnScope ["ties", "place", "one", "other"] ["ties", "place"] (defScope st_beside) := ⟨rfl, rfl, rfl, by decide +kernel, rfl, by decide +kernel, by decide +kernel⟩
def d_beside : He.DefD := ⟨("beside", none), "beside", "beside", defArgs st_beside, defBody st_beside, defScope st_beside, [], []⟩
abbrev st_do_hang : Stmt := top 23
theorem sc_do_hang : FnScope ["places", "ties", "found", "line", "there"] ["places", "ties"] (defScope st_do_hang) := ⟨rfl, rfl, rfl, by decide +kernel, rfl, by decide +kernel, by decide +kernel⟩
def d_do_hang : He.DefD := ⟨("do_hang", none), "do_hang", "do_hang", defArgs st_do_hang, defBody st_do_hang, defScope st_do_hang, [], []⟩
abbrev st_Web___init__ : Stmt := clsAt 0 (top 36)
theorem sc_Web___init__ : FnScope ["self", "places", "ties", "index"] ["self", "places", "ties"] (defScope st_Web___init__) := ⟨rfl, rfl, rfl, by decide +kernel, rfl, by decide +kernel, by decide +kernel⟩
def d_Web___init__ : He.DefD := ⟨("Web", some "__init__"), "__init__", "Web.__init__", defArgs st_Web___init__, defBody st_Web___init__, defScope st_Web___init__, [], []⟩
abbrev st__law_made : Stmt := top 65
theorem sc__law_made : FnScope ["web"] ["web"] (defScope st__law_made) := ⟨rfl, rfl, rfl, by decide +kernel, rfl, by decide +kernel, by decide +kernel⟩
def d__law_made : He.DefD := ⟨("_law_made", none), "_law_made", "_law_made", defArgs st__law_made, defBody st__law_made, defScope st__law_made, [], []⟩
abbrev st__law_begin : Stmt := top 67
theorem sc__law_begin : FnScope ["loft", "web", "tie"] ["loft", "web"] (defScope st__law_begin) := ⟨rfl, rfl, rfl, by decide +kernel, rfl, by decide +kernel, by decide +kernel⟩
def d__law_begin : He.DefD := ⟨("_law_begin", none), "_law_begin", "_law_begin", defArgs st__law_begin, defBody st__law_begin, defScope st__law_begin, [], []⟩
abbrev st__law_text : Stmt := top 66
theorem sc__law_text : FnScope ["web", "beginning", "rows", "one", "two", "colour", "place"] ["web", "beginning"] (defScope st__law_text) := ⟨rfl, rfl, rfl, by decide +kernel, rfl, by decide +kernel, by decide +kernel⟩
def d__law_text : He.DefD := ⟨("_law_text", none), "_law_text", "_law_text", defArgs st__law_text, defBody st__law_text, defScope st__law_text, [], []⟩
abbrev st__law_same : Stmt := top 61
theorem sc__law_same : FnScope ["told", "due", "one", "two"] ["told", "due"] (defScope st__law_same) := ⟨rfl, rfl, rfl, by decide +kernel, rfl, by decide +kernel, by decide +kernel⟩
def d__law_same : He.DefD := ⟨("_law_same", none), "_law_same", "_law_same", defArgs st__law_same, defBody st__law_same, defScope st__law_same, [], []⟩
abbrev st_check_web : Stmt := top 37
theorem sc_check_web : FnScope ["web"] ["web"] (defScope st_check_web) := ⟨rfl, rfl, rfl, by decide +kernel, rfl, by decide +kernel, by decide +kernel⟩
def d_check_web : He.DefD := ⟨("check_web", none), "check_web", "check_web", defArgs st_check_web, defBody st_check_web, defScope st_check_web, [], []⟩
abbrev Lm_2 : Lam := ⟨"<lambda>", "wrong_in_all.<locals>.<lambda>", lamArgs (argE 3 (sndE (valS (bodyAt 0 (top 12))))), lamBody (argE 3 (sndE (valS (bodyAt 0 (top 12))))), lamScope (argE 3 (sndE (valS (bodyAt 0 (top 12))))), ["is_right"]⟩
abbrev st_wrong_in_all : Stmt := top 12
theorem sc_wrong_in_all : FnScope ["value", "many", "is_right"] ["value", "many", "is_right"] (defScope st_wrong_in_all) := ⟨rfl, rfl, rfl, by decide +kernel, rfl, by decide +kernel, by decide +kernel⟩
def d_wrong_in_all : He.DefD := ⟨("wrong_in_all", none), "wrong_in_all", "wrong_in_all", defArgs st_wrong_in_all, defBody st_wrong_in_all, defScope st_wrong_in_all, [], []⟩
abbrev st_is_whole : Stmt := top 4
theorem sc_is_whole : FnScope ["value"] ["value"] (defScope st_is_whole) := ⟨rfl, rfl, rfl, by decide +kernel, rfl, by decide +kernel, by decide +kernel⟩
def d_is_whole : He.DefD := ⟨("is_whole", none), "is_whole", "is_whole", defArgs st_is_whole, defBody st_is_whole, defScope st_is_whole, [], []⟩
abbrev st_is_between : Stmt := top 5
theorem sc_is_between : FnScope ["value", "least", "most"] ["value", "least", "most"] (defScope st_is_between) := ⟨rfl, rfl, rfl, by decide +kernel, rfl, by decide +kernel, by decide +kernel⟩
def d_is_between : He.DefD := ⟨("is_between", none), "is_between", "is_between", defArgs st_is_between, defBody st_is_between, defScope st_is_between, [], []⟩
abbrev st_is_colour : Stmt := top 24
theorem sc_is_colour : FnScope ["value"] ["value"] (defScope st_is_colour) := ⟨rfl, rfl, rfl, by decide +kernel, rfl, by decide +kernel, by decide +kernel⟩
def d_is_colour : He.DefD := ⟨("is_colour", none), "is_colour", "is_colour", defArgs st_is_colour, defBody st_is_colour, defScope st_is_colour, [], []⟩
abbrev Lm_3 : Lam := ⟨"<lambda>", "wrong_in_beginning.<locals>.<lambda>", lamArgs (argE 2 (valS (bodyAt 0 (top 26)))), lamBody (argE 2 (valS (bodyAt 0 (top 26)))), lamScope (argE 2 (valS (bodyAt 0 (top 26)))), []⟩
abbrev st_wrong_in_beginning : Stmt := top 26
theorem sc_wrong_in_beginning : FnScope ["value", "many"] ["value", "many"] (defScope st_wrong_in_beginning) := ⟨rfl, rfl, rfl, by decide +kernel, rfl, by decide +kernel, by decide +kernel⟩
def d_wrong_in_beginning : He.DefD := ⟨("wrong_in_beginning", none), "wrong_in_beginning", "wrong_in_beginning", defArgs st_wrong_in_beginning, defBody st_wrong_in_beginning, defScope st_wrong_in_beginning, [], []⟩
abbrev st_Web_ties : Stmt := clsAt 2 (top 36)
theorem sc_Web_ties : FnScope ["self"] ["self"] (defScope st_Web_ties) := ⟨rfl, rfl, rfl, by decide +kernel, rfl, by decide +kernel, by decide +kernel⟩
def d_Web_ties : He5.DefA := ⟨fun K => pgA K "Web" "ties", "ties", "Web.ties", defArgs st_Web_ties, defBody st_Web_ties, defScope st_Web_ties, [], []⟩
abbrev st_check_beginning : Stmt := top 39
theorem sc_check_beginning : FnScope ["web", "beginning", "index"] ["web", "beginning"] (defScope st_check_beginning) := ⟨rfl, rfl, rfl, by decide +kernel, rfl, by decide +kernel, by decide +kernel⟩
def d_check_beginning : He.DefD := ⟨("check_beginning", none), "check_beginning", "check_beginning", defArgs st_check_beginning, defBody st_check_beginning, defScope st_check_beginning, [], []⟩
abbrev st_Web_places : Stmt := clsAt 1 (top 36)
theorem sc_Web_places : FnScope ["self"] ["self"] (defScope st_Web_places) := ⟨rfl, rfl, rfl, by decide +kernel, rfl, by decide +kernel, by decide +kernel⟩
def d_Web_places : He5.DefA := ⟨fun K => pgA K "Web" "places", "places", "Web.places", defArgs st_Web_places, defBody st_Web_places, defScope st_Web_places, [], []⟩
abbrev st_colour_told : Stmt := top 52
theorem sc_colour_told : FnScope ["colour"] ["colour"] (defScope st_colour_told) := ⟨rfl, rfl, rfl, by decide +kernel, rfl, by decide +kernel, by decide +kernel⟩
def d_colour_told : He.DefD := ⟨("colour_told", none), "colour_told", "colour_told", defArgs st_colour_told, defBody st_colour_told, defScope st_colour_told, [], []⟩
abbrev st_rows_by : Stmt := top 53
theorem sc_rows_by : FnScope ["web", "beginning", "rows", "place", "one", "other", "colour"] ["web", "beginning"] (defScope st_rows_by) := ⟨rfl, rfl, rfl, by decide +kernel, rfl, by decide +kernel, by decide +kernel⟩
def d_rows_by : He.DefD := ⟨("rows_by", none), "rows_by", "rows_by", defArgs st_rows_by, defBody st_rows_by, defScope st_rows_by, [], []⟩
abbrev st_web_rows : Stmt := top 55
theorem sc_web_rows : FnScope ["web", "beginning"] ["web", "beginning"] (defScope st_web_rows) := ⟨rfl, rfl, rfl, by decide +kernel, rfl, by decide +kernel, by decide +kernel⟩
def d_web_rows : He.DefD := ⟨("web_rows", none), "web_rows", "web_rows", defArgs st_web_rows, defBody st_web_rows, defScope st_web_rows, [], []⟩
abbrev st_is_figures : Stmt := top 48
theorem sc_is_figures : FnScope ["word", "sign"] ["word"] (defScope st_is_figures) := ⟨rfl, rfl, rfl, by decide +kernel, rfl, by decide +kernel, by decide +kernel⟩
def d_is_figures : He.DefD := ⟨("is_figures", none), "is_figures", "is_figures", defArgs st_is_figures, defBody st_is_figures, defScope st_is_figures, [], []⟩
abbrev st_told_row : Stmt := top 49
theorem sc_told_row : FnScope ["value", "words", "word"] ["value"] (defScope st_told_row) := ⟨rfl, rfl, rfl, by decide +kernel, rfl, by decide +kernel, by decide +kernel⟩
def d_told_row : He.DefD := ⟨("told_row", none), "told_row", "told_row", defArgs st_told_row, defBody st_told_row, defScope st_told_row, [], []⟩
abbrev st_wrong_in_lines : Stmt := top 50
theorem sc_wrong_in_lines : FnScope ["value", "ahead", "index", "words", "row"] ["value"] (defScope st_wrong_in_lines) := ⟨rfl, rfl, rfl, by decide +kernel, rfl, by decide +kernel, by decide +kernel⟩
def d_wrong_in_lines : He.DefD := ⟨("wrong_in_lines", none), "wrong_in_lines", "wrong_in_lines", defArgs st_wrong_in_lines, defBody st_wrong_in_lines, defScope st_wrong_in_lines, [], []⟩
abbrev st_told_by : Stmt := top 51
theorem sc_told_by : FnScope ["rows", "told", "lines", "begun", "row", "words"] ["rows"] (defScope st_told_by) := ⟨rfl, rfl, rfl, by decide +kernel, rfl, by decide +kernel, by decide +kernel⟩
def d_told_by : He.DefD := ⟨("told_by", none), "told_by", "told_by", defArgs st_told_by, defBody st_told_by, defScope st_told_by, [], []⟩
abbrev st_read_web : Stmt := top 56
theorem sc_read_web : FnScope ["rows", "index", "places", "ties", "beginning", "web"] ["rows"] (defScope st_read_web) := ⟨rfl, rfl, rfl, by decide +kernel, rfl, by decide +kernel, by decide +kernel⟩
def d_read_web : He.DefD := ⟨("read_web", none), "read_web", "read_web", defArgs st_read_web, defBody st_read_web, defScope st_read_web, [], []⟩
abbrev st_Web_parts : Stmt := clsAt 3 (top 36)
theorem sc_Web_parts : FnScope ["self"] ["self"] (defScope st_Web_parts) := ⟨rfl, rfl, rfl, by decide +kernel, rfl, by decide +kernel, by decide +kernel⟩
def d_Web_parts : He5.DefA := ⟨fun K => pgA K "Web" "parts", "parts", "Web.parts", defArgs st_Web_parts, defBody st_Web_parts, defScope st_Web_parts, [], []⟩
abbrev st_Web___eq__ : Stmt := clsAt 4 (top 36)
theorem sc_Web___eq__ : FnScope ["self", "other"] ["self", "other"] (defScope st_Web___eq__) := ⟨rfl, rfl, rfl, by decide +kernel, rfl, by decide +kernel, by decide +kernel⟩
def d_Web___eq__ : He.DefD := ⟨("Web", some "__eq__"), "__eq__", "Web.__eq__", defArgs st_Web___eq__, defBody st_Web___eq__, defScope st_Web___eq__, [], []⟩
abbrev st__law_right : Stmt := top 68
theorem sc__law_right : FnScope ["loft", "lap", "web", "made", "beginning", "rows", "told", "other", "far", "two"] ["loft"] (defScope st__law_right) := ⟨rfl, rfl, rfl, by decide +kernel, rfl, by decide +kernel, by decide +kernel⟩
def d__law_right : He.DefD := ⟨("_law_right", none), "_law_right", "_law_right", defArgs st__law_right, defBody st__law_right, defScope st__law_right, [], []⟩
abbrev st__law_loft : Stmt := top 58
theorem sc__law_loft : FnScope ["script", "lap", "own", "stir", "cell"] ["script", "lap"] (defScope st__law_loft) := ⟨rfl, rfl, rfl, by decide +kernel, rfl, by decide +kernel, by decide +kernel⟩
def d__law_loft : He.DefD := ⟨("_law_loft", none), "_law_loft", "_law_loft", defArgs st__law_loft, defBody st__law_loft, defScope st__law_loft, [], []⟩
abbrev st_law : Stmt := top 69
theorem sc_law : FnScope ["script", "lap"] ["script"] (defScope st_law) := ⟨rfl, rfl, rfl, by decide +kernel, rfl, by decide +kernel, by decide +kernel⟩
def d_law : He.DefD := ⟨("law", none), "law", "law", defArgs st_law, defBody st_law, defScope st_law, [], []⟩
def FA : List He.Fa := [.free "len",
  .free "min",
  .free "max",
  .free "range",
  .free "divmod",
  .free "int",
  .glo "_law_beam",
  .glo "_law_of",
  .glo "_law_own",
  .free "sorted",
  .free "tuple",
  .glo "_law_names",
  .free "list",
  .glo "_law_web",
  .free "isinstance",
  .free "enumerate",
  .glo "wrong_in",
  .int "LEAST_PLACES" 2,
  .int "MOST_PLACES" 6,
  .free "str",
  .str "LETTERS" "abcdefghijklmnopqrstuvwxyz",
  .free "all",
  .glo "is_word",
  .int "MOST_LETTERS" 8,
  .glo "WORDS",
  .glo "is_name",
  .glo "are_below",
  .glo "wrong_in_places",
  .int "MOST_TIES" 9,
  .glo "is_tuple_of",
  .glo "is_pair",
  .glo "is_one_of",
  .glo "is_tie_of",
  .glo "wrong_in_ties",
  .glo "beside",
  .glo "do_hang",
  .cls "Web",
  .noat "Web" "all_told",
  .glo "Web",
  .mkr "Web",
  .glo "_law_made",
  .glo "_law_begin",
  .free "zip",
  .glo "_law_text",
  .free "bool",
  .glo "_law_same",
  .glo "check_web",
  .glo "wrong_in_all",
  .glo "is_whole",
  .glo "is_between",
  .int "MOST_COLOUR" 8,
  .glo "is_colour",
  .glo "wrong_in_beginning",
  .glo "check_beginning",
  .str "PLACE" "place",
  .str "TIE" "tie",
  .str "OPEN" "-",
  .glo "colour_told",
  .glo "rows_by",
  .glo "web_rows",
  .glo "ORDER",
  .glo "LONG",
  .int "MOST_FIGURES" 400,
  .str "FIGURES" "0123456789",
  .glo "is_figures",
  .glo "told_row",
  .glo "wrong_in_lines",
  .glo "told_by",
  .glo "read_web",
  .glo "_law_right",
  .free "abs",
  .glo "_law_loft",
  .glo "law"]
def FN : List He.DefD := [d__law_beam, d__law_of, d__law_own, d__law_names, d__law_web, d_wrong_in, d_is_word, d_is_name, d_are_below, d_wrong_in_places, d_is_tuple_of, d_is_pair, d_is_one_of, d_is_tie_of, d_wrong_in_ties, d_beside, d_do_hang, d_Web___init__, d__law_made, d__law_begin, d__law_text, d__law_same, d_check_web, d_wrong_in_all, d_is_whole, d_is_between, d_is_colour, d_wrong_in_beginning, d_check_beginning, d_colour_told, d_rows_by, d_web_rows, d_is_figures, d_told_row, d_wrong_in_lines, d_told_by, d_read_web, d_Web___eq__, d__law_right, d__law_loft, d_law]
def GT : List He5.DefA := [d_Web_ties, d_Web_places, d_Web_parts]
def TS : List He.Tab := [((fun K => He.ga K "LONG"), ["place", "tie"])]
def TFQ : List (He.Defn × Str) := [(("wrong_in_places", none), "wrong_in_places.<locals>."), (("wrong_in_ties", none), "wrong_in_ties.<locals>."), (("wrong_in_all", none), "wrong_in_all.<locals>."), (("wrong_in_beginning", none), "wrong_in_beginning.<locals>.")]
abbrev TF : List He.Defn := TFQ.map (·.1)
def EX : List (PySem.W.Frag → Bool) := [fun K => He.tupB K "WORDS" (K_WORDS.map He.Dv.str), tabsNd TFQ, fun K => propB K "Web" "ties", fun K => propB K "Web" "places", fun K => He.tupB K "ORDER" (K_ORDER.map He.Dv.str), fun K => ktupB K "ORDER" K_ORDER, fun K => propB K "Web" "parts", fun K => eqCB K (He.ga K "Web") (He.ma K (He.ga K "Web") "__eq__"), fun K => isCB K (He.ga K "Web"), fun K => He.valsB K (He.ga K "LONG") KV_LONG]
abbrev TT (w : World) (K : PySem.W.Frag) (mg : Str → Option Value) (base : Heap) : Prop := Tx FA FN GT TS TF EX w K mg base
def clsA (K : PySem.W.Frag) : Nat → Addr
  | 0 => He.ga K "Web"
  | _ => 0
def lamT : Nat → Option Lam
  | 0 => some Lm_0
  | 1 => some Lm_1
  | 2 => some Lm_2
  | 3 => some Lm_3
  | _ => none
def Wof (K : PySem.W.Frag) : Wd := ⟨K, clsA K, fun _ => .none, tabsW K TFQ, lamT, fun _ => none⟩
section
variable {w : World} {K : PySem.W.Frag} {mg : Str → Option Value} {base : Heap}
theorem ic_Web (T : TT w K mg base) : IsC K (He.ga K "Web") := isC_of (T.cls 36) (T.ex 8)
theorem kd_LONG (T : TT w K mg base) : KDic K w (He.ga K "LONG") KD_LONG := by
  obtain ⟨es, n, D⟩ := T.tab 0
  exact kdic_dv D (T.ex 9) rfl
theorem ok__law_beam (T : TT w K mg base) {fd : FuncData} (F : FunD K "_law_beam" "_law_beam" (defArgs st__law_beam) (defBody st__law_beam) (defScope st__law_beam) [] [] (He.fAd K ("_law_beam", none)) fd) : FnOk PP w K mg base (L2.CX PP w) 1 (He.fAd K ("_law_beam", none)) fd ["loft", "many"] (spD (Wof K) F__law_beam) := by
  refine fn_D (N := ["loft", "many", "figure"]) rfl (He5.fun_of F) sc__law_beam fun cdv A outer s H E Z C => ?_
  exact (dss_cons (ds_if (dt_cmp op_gtM (de_ix C (de_var (pe_var (i := 0) rfl (Or.inl rfl))) de_int (fun _ _ => rfl)) (de_R de_int) rfl) (dss_cons (ds_asg (de_b2 bt_divmod (by rfl) (T.free 4) rfl (de_ix C (de_var (pe_var (i := 0) rfl (Or.inl rfl))) de_int (fun _ _ => rfl)) (de_R (de_var (pe_var (i := 1) rfl (Or.inl rfl))))) (dg_tup C.K C.calm (dgs_cons (dg_sub C (pe_var (i := 0) rfl (Or.inl rfl)) de_int) (dgs_cons (dg_name (i := 2) C.nd rfl (Or.inl rfl)) dgs_nil)))) (dss_one (ds_ret (de_R (de_var (pe_var (i := 2) rfl (Or.inl rfl))))))) dss_nil) (dss_cons (ds_asg (de_op (op_addM C.K) (de_ix C (de_var (pe_var (i := 0) rfl (Or.inl rfl))) de_int (fun _ _ => rfl)) (de_R de_int)) (dg_sub C (pe_var (i := 0) rfl (Or.inl rfl)) de_int)) (dss_cons (ds_asg (de_op op_modM (de_t1 bt_int (by rfl) (T.free 5) rfl (de_R (de_op (op_addM C.K) (de_op (op_addM C.K) (de_op op_mulM (de_ix C (de_var (pe_var (i := 0) rfl (Or.inl rfl))) de_int (fun _ _ => rfl)) (de_R (de_op (op_addM C.K) (de_op op_modM (de_t1 bt_int (by rfl) (T.free 5) rfl (de_R (de_ix C (de_var (pe_var (i := 0) rfl (Or.inl rfl))) de_int (fun _ _ => rfl)))) (de_R de_int)) (de_R de_int)))) (de_R (de_op op_mulM de_int (de_R (de_ix C (de_var (pe_var (i := 0) rfl (Or.inl rfl))) de_int (fun _ _ => rfl)))))) (de_R de_int)))) (de_R de_int)) (dg_sub C (pe_var (i := 0) rfl (Or.inl rfl)) de_int)) (dss_one (ds_ret (de_R (de_op op_modM (de_t1 bt_int (by rfl) (T.free 5) rfl (de_R (de_op op_fdivM (de_ix C (de_var (pe_var (i := 0) rfl (Or.inl rfl))) de_int (fun _ _ => rfl)) (de_R de_int)))) (de_R (de_var (pe_var (i := 1) rfl (Or.inl rfl)))))))))))
theorem g__law_beam (T : TT w K mg base) (Z : Addr → Option V) : GFn PP w K mg base 1 "_law_beam" ["loft", "many"] ((Wof K).withZ Z) F__law_beam := by
  obtain ⟨fd, F⟩ := T.dfn 0 (d := d__law_beam)
  exact ⟨_, fd, (T.glo 6), F.kp, F.bindsN (ps := ["loft", "many"]) fun _ _ _ _ _ _ us hl => match us, hl with | [_, _], _ => rfl, ok__law_beam T F⟩
theorem ok__law_of (T : TT w K mg base) {fd : FuncData} (F : FunD K "_law_of" "_law_of" (defArgs st__law_of) (defBody st__law_of) (defScope st__law_of) [] [] (He.fAd K ("_law_of", none)) fd) : FnOk PP w K mg base (L2.CX PP w) 2 (He.fAd K ("_law_of", none)) fd ["loft", "some"] (spD (Wof K) F__law_of) := by
  refine fn_D (N := ["loft", "some"]) rfl (He5.fun_of F) sc__law_of fun cdv A outer s H E Z C => ?_
  exact (dss_one (ds_ret (de_R (de_ix C (de_var (pe_var (i := 1) rfl (Or.inl rfl))) (de_call C (g__law_beam T _) (by omega) (by rfl) (da_cons (de_var (pe_var (i := 0) rfl (Or.inl rfl))) (da_cons (de_b1 (bt_len C.K) (by rfl) (T.free 0) rfl (de_R (de_var (pe_var (i := 1) rfl (Or.inl rfl))))) da_nil))) (fun _ _ => rfl)))))
theorem g__law_of (T : TT w K mg base) (Z : Addr → Option V) : GFn PP w K mg base 2 "_law_of" ["loft", "some"] ((Wof K).withZ Z) F__law_of := by
  obtain ⟨fd, F⟩ := T.dfn 1 (d := d__law_of)
  exact ⟨_, fd, (T.glo 7), F.kp, F.bindsN (ps := ["loft", "some"]) fun _ _ _ _ _ _ us hl => match us, hl with | [_, _], _ => rfl, ok__law_of T F⟩
theorem ok__law_own (T : TT w K mg base) {fd : FuncData} (F : FunD K "_law_own" "_law_own" (defArgs st__law_own) (defBody st__law_own) (defScope st__law_own) [] [] (He.fAd K ("_law_own", none)) fd) : FnOk PP w K mg base (L2.CX PP w) 1 (He.fAd K ("_law_own", none)) fd [] (spD (Wof K) F__law_own) := by
  refine fn_D (N := []) rfl (He5.fun_of F) sc__law_own fun cdv A outer s H E Z C => ?_
  exact (dss_one (ds_ret (de_R (de_F (df_split de_str de_str)))))
theorem g__law_own (T : TT w K mg base) (Z : Addr → Option V) : GFn PP w K mg base 1 "_law_own" [] ((Wof K).withZ Z) F__law_own := by
  obtain ⟨fd, F⟩ := T.dfn 2 (d := d__law_own)
  exact ⟨_, fd, (T.glo 8), F.kp, F.bindsN (ps := []) fun _ _ _ _ _ _ us hl => match us, hl with | [], _ => rfl, ok__law_own T F⟩
theorem ok__law_names (T : TT w K mg base) {fd : FuncData} (F : FunD K "_law_names" "_law_names" (defArgs st__law_names) (defBody st__law_names) (defScope st__law_names) [] [] (He.fAd K ("_law_names", none)) fd) : FnOk PP w K mg base (L2.CX PP w) 3 (He.fAd K ("_law_names", none)) fd ["loft", "many"] (spD (Wof K) F__law_names) := by
  refine fn_D (N := ["loft", "many", "words", "bad", "found", "lap", "word", "spot", "each", "sign"]) rfl (He5.fun_of F) sc__law_names fun cdv A outer s H E Z C => ?_
  exact (dss_cons (ds_asg (de_F (df_split de_str de_str)) (dg_name (i := 2) C.nd rfl (Or.inl rfl))) (dss_cons (ds_tup2 (i := 3) (j := 4) (k1 := false) (k2 := true) C.calm C.nd rfl rfl (by decide) (Or.inr rfl) (Or.inr rfl) (de_op (op_addM C.K) (de_var (pe_var (i := 2) rfl (Or.inl rfl))) (de_R (de_F (df_split de_str de_str)))) (df_lst da_nil)) (dss_cons (ds_for C.pass C.calm (di_range1 (by rfl) (T.free 3) (da_cons (de_var (pe_var (i := 1) rfl (Or.inl rfl))) da_nil)) (dg_name (i := 5) C.nd rfl (Or.inl rfl)) (dss_cons (ds_asg de_str (dg_name (i := 6) C.nd rfl (Or.inr rfl))) (dss_cons (ds_for C.pass C.calm (di_range1 (by rfl) (T.free 3) (da_cons (de_op (op_addM C.K) de_int (de_R (de_call C (g__law_of T _) (by omega) (by rfl) (da_cons (de_var (pe_var (i := 0) rfl (Or.inl rfl))) (da_cons (de_F (df_lst (da_cons de_int (da_cons de_int (da_cons de_int (da_cons de_int (da_cons de_int da_nil))))))) da_nil))))) da_nil)) (dg_name (i := 7) C.nd rfl (Or.inl rfl)) (dss_one (ds_asg (de_op (op_addM C.K) (de_var (pe_var (i := 6) rfl (Or.inr (Or.inl rfl)))) (de_R (de_call C (g__law_of T _) (by omega) (by rfl) (da_cons (de_var (pe_var (i := 0) rfl (Or.inl rfl))) (da_cons de_str da_nil))))) (dg_name (i := 6) C.nd rfl (Or.inr rfl))))) (dss_cons (ds_asg (de_call C (g__law_of T _) (by omega) (by rfl) (da_cons (de_var (pe_var (i := 0) rfl (Or.inl rfl))) (da_cons (de_F (df_lst (da_cons de_str (da_cons de_str (da_cons de_str (da_cons (de_var (pe_var (i := 6) rfl (Or.inr (Or.inl rfl)))) (da_cons (de_var (pe_var (i := 6) rfl (Or.inr (Or.inl rfl)))) (da_cons (de_var (pe_var (i := 6) rfl (Or.inr (Or.inl rfl)))) (da_cons (de_var (pe_var (i := 6) rfl (Or.inr (Or.inl rfl)))) da_nil))))))))) da_nil))) (dg_name (i := 6) C.nd rfl (Or.inr rfl))) (dss_one (ds_expr (de_append (pe_var (i := 4) rfl (Or.inr (Or.inl rfl))) (de_ix C (de_F (df_lc (own := [("each", 8)]) C.calm C.nd (di_data C.K (de_op (op_addM C.K) (de_F (df_lst (da_cons (de_var (pe_var (i := 6) rfl (Or.inr (Or.inl rfl)))) da_nil))) (de_R (de_F (df_lc (own := [("sign", 9)]) C.calm C.nd (di_data C.K de_str) (blkOk_by (by kernel_rfl)) (fun _ _ _ _ _ => (dg_name (i := 9) (C.blk _ _ _ _ _ _).nd rfl (Or.inl rfl))) (fun _ _ _ _ _ => dts_nil) (fun _ _ _ _ _ => (de_op (op_addM (C.blk _ _ _ _ _ _).K) (de_slice (C.blk _ _ _ _ _ _) (de_var (pe_var (i := 6) rfl (Or.inr (Or.inl rfl)))) do_none (do_some de_int)) (de_R (de_var (pe_var (i := 9) rfl (Or.inl rfl))))))))))) (blkOk_by (by kernel_rfl)) (fun _ _ _ _ _ => (dg_name (i := 8) (C.blk _ _ _ _ _ _).nd rfl (Or.inl rfl))) (fun _ _ _ _ _ => (dts_one (dt_cmp (op_notInM (C.blk _ _ _ _ _ _)) (de_var (pe_var (i := 8) rfl (Or.inl rfl))) (de_R (de_op (op_addM (C.blk _ _ _ _ _ _).K) (de_op (op_addM (C.blk _ _ _ _ _ _).K) (de_var (pe_var (i := 3) rfl (Or.inr (Or.inl rfl)))) (de_varR (pe_var (i := 4) rfl (Or.inr (Or.inl rfl))))) (de_R (de_call0 (C.blk _ _ _ _ _ _) (g__law_own T _) (by omega) (by rfl))))) rfl))) (fun _ _ _ _ _ => (de_var (pe_var (i := 8) rfl (Or.inl rfl)))))) de_int (fun _ _ => rfl))))))))) (dss_one (ds_ret (de_R (de_t1 (bt_tuple C.K) (by rfl) (T.free 10) rfl (de_R (de_F (df_b1 (bt_sorted C) (by rfl) (T.free 9) rfl (de_varR (pe_var (i := 4) rfl (Or.inr (Or.inl rfl))))))))))))))
theorem g__law_names (T : TT w K mg base) (Z : Addr → Option V) : GFn PP w K mg base 3 "_law_names" ["loft", "many"] ((Wof K).withZ Z) F__law_names := by
  obtain ⟨fd, F⟩ := T.dfn 3 (d := d__law_names)
  exact ⟨_, fd, (T.glo 11), F.kp, F.bindsN (ps := ["loft", "many"]) fun _ _ _ _ _ _ us hl => match us, hl with | [_, _], _ => rfl, ok__law_names T F⟩
theorem ok__law_web (T : TT w K mg base) {fd : FuncData} (F : FunD K "_law_web" "_law_web" (defArgs st__law_web) (defBody st__law_web) (defScope st__law_web) [] [] (He.fAd K ("_law_web", none)) fd) : FnOk PP w K mg base (L2.CX PP w) 4 (He.fAd K ("_law_web", none)) fd ["loft", "least", "most", "many"] (spD (Wof K) F__law_web) := by
  refine fn_D (N := ["loft", "least", "most", "many", "places", "ties", "k", "lap", "one", "pair"]) rfl (He5.fun_of F) sc__law_web fun cdv A outer s H E Z C => ?_
  exact (dss_cons (ds_par_do (i := 4) (j := 5) C.calm C.nd rfl rfl (by decide) rfl rfl (de_call C (g__law_names T _) (by omega) (by rfl) (da_cons (de_var (pe_var (i := 0) rfl (Or.inl rfl))) (da_cons (de_op (op_addM C.K) (de_var (pe_var (i := 1) rfl (Or.inl rfl))) (de_R (de_call C (g__law_beam T _) (by omega) (by rfl) (da_cons (de_var (pe_var (i := 0) rfl (Or.inl rfl))) (da_cons (de_op (op_addM C.K) (de_op op_subM (de_var (pe_var (i := 2) rfl (Or.inl rfl))) (de_R (de_var (pe_var (i := 1) rfl (Or.inl rfl))))) (de_R de_int)) da_nil))))) da_nil))) df_dicT rfl) (dss_cons (ds_for C.pass C.calm (di_range2 (by rfl) (T.free 3) (da_cons de_int (da_cons (de_b1 (bt_len C.K) (by rfl) (T.free 0) rfl (de_R (de_var (pe_var (i := 4) rfl (Or.inl rfl))))) da_nil))) (dg_name (i := 6) C.nd rfl (Or.inl rfl)) (dss_one (ds_asg de_bl (dg_sub C (pe_var (i := 5) rfl (Or.inl rfl)) (de_tup (da_cons (de_ix C (de_var (pe_var (i := 4) rfl (Or.inl rfl))) (de_if (dt_cmp (op_eqM C) (de_call C (g__law_beam T _) (by omega) (by rfl) (da_cons (de_var (pe_var (i := 0) rfl (Or.inl rfl))) (da_cons de_int da_nil))) (de_R de_int) rfl) (de_call C (g__law_beam T _) (by omega) (by rfl) (da_cons (de_var (pe_var (i := 0) rfl (Or.inl rfl))) (da_cons (de_var (pe_var (i := 6) rfl (Or.inl rfl))) da_nil))) (de_op op_subM (de_var (pe_var (i := 6) rfl (Or.inl rfl))) (de_R de_int))) (fun _ _ => rfl)) (da_cons (de_ix C (de_var (pe_var (i := 4) rfl (Or.inl rfl))) (de_var (pe_var (i := 6) rfl (Or.inl rfl))) (fun _ _ => rfl)) da_nil))))))) (dss_cons (ds_for C.pass C.calm (di_range1 (by rfl) (T.free 3) (da_cons (de_if (dt_cmp op_gtM (de_b1 (bt_len C.K) (by rfl) (T.free 0) rfl (de_R (de_var (pe_var (i := 4) rfl (Or.inl rfl))))) (de_R de_int) rfl) (de_call C (g__law_of T _) (by omega) (by rfl) (da_cons (de_var (pe_var (i := 0) rfl (Or.inl rfl))) (da_cons (de_F (df_lst (da_cons de_int (da_cons de_int (da_cons de_int (da_cons de_int da_nil)))))) da_nil))) de_int) da_nil)) (dg_name (i := 7) C.nd rfl (Or.inl rfl)) (dss_cons (ds_asg (de_call C (g__law_beam T _) (by omega) (by rfl) (da_cons (de_var (pe_var (i := 0) rfl (Or.inl rfl))) (da_cons (de_op op_subM (de_b1 (bt_len C.K) (by rfl) (T.free 0) rfl (de_R (de_var (pe_var (i := 4) rfl (Or.inl rfl))))) (de_R de_int)) da_nil))) (dg_name (i := 8) C.nd rfl (Or.inl rfl))) (dss_cons (ds_asg (de_tup (da_cons (de_ix C (de_var (pe_var (i := 4) rfl (Or.inl rfl))) (de_var (pe_var (i := 8) rfl (Or.inl rfl))) (fun _ _ => rfl)) (da_cons (de_ix C (de_var (pe_var (i := 4) rfl (Or.inl rfl))) (de_op (op_addM C.K) (de_op (op_addM C.K) (de_var (pe_var (i := 8) rfl (Or.inl rfl))) (de_R de_int)) (de_R (de_call C (g__law_beam T _) (by omega) (by rfl) (da_cons (de_var (pe_var (i := 0) rfl (Or.inl rfl))) (da_cons (de_op op_subM (de_op op_subM (de_b1 (bt_len C.K) (by rfl) (T.free 0) rfl (de_R (de_var (pe_var (i := 4) rfl (Or.inl rfl))))) (de_R (de_var (pe_var (i := 8) rfl (Or.inl rfl))))) (de_R de_int)) da_nil))))) (fun _ _ => rfl)) da_nil))) (dg_name (i := 9) C.nd rfl (Or.inl rfl))) (dss_one (ds_if (dt_cmp (op_ltM C) (de_b1 (bt_len C.K) (by rfl) (T.free 0) rfl (de_varR (pe_var (i := 5) rfl (Or.inl rfl)))) (de_R (de_var (pe_var (i := 3) rfl (Or.inl rfl)))) rfl) (dss_one (ds_asg de_bl (dg_sub C (pe_var (i := 5) rfl (Or.inl rfl)) (de_var (pe_var (i := 9) rfl (Or.inl rfl)))))) dss_nil))))) (dss_one (ds_ret (de_R (de_tup (da_cons (de_var (pe_var (i := 4) rfl (Or.inl rfl))) (da_cons (de_t1 (bt_tuple C.K) (by rfl) (T.free 10) rfl (de_R (de_F (df_b1 (bt_sorted C) (by rfl) (T.free 9) rfl (de_R (de_F (df_t1 (bt_list2 C.K C.calm) (by rfl) (T.free 12) rfl (de_varR (pe_var (i := 5) rfl (Or.inl rfl)))))))))) da_nil)))))))))
theorem g__law_web (T : TT w K mg base) (Z : Addr → Option V) : GFn PP w K mg base 4 "_law_web" ["loft", "least", "most", "many"] ((Wof K).withZ Z) F__law_web := by
  obtain ⟨fd, F⟩ := T.dfn 4 (d := d__law_web)
  exact ⟨_, fd, (T.glo 13), F.kp, F.bindsN (ps := ["loft", "least", "most", "many"]) fun _ _ _ _ _ _ us hl => match us, hl with | [_, _, _, _], _ => rfl, ok__law_web T F⟩
theorem g_wrong_in (T : TT w K mg base) (Z0 : Addr → Option V) {k : Nat} {Λ : Nat → List D → Fn} (GL : GLam PP w K mg base k ((Wof K).withZ Z0) Λ) (hk : 0 ≤ k) : GFnZ PP w K mg base (k + 1) "wrong_in" ["value", "least", "most", "is_right"] ((Wof K).withZ Z0) (F_wrong_in Λ) := by
  obtain ⟨fd, F⟩ := T.dfn 5 (d := d_wrong_in)
  refine ⟨_, fd, (T.glo 16), F.kp, F.bindsN (ps := ["value", "least", "most", "is_right"]) fun _ _ _ _ _ _ us hl => match us, hl with | [_, _, _, _], _ => rfl, fn_DZ (N := ["value", "least", "most", "is_right", "index", "each"]) rfl (He5.fun_of F) sc_wrong_in fun cdv A outer s H E Z hcd C CZ => ?_⟩
  have GL : GLam PP w K mg base k ((Wof K).withZ Z) Λ := glam_Z GL
  exact (dss_cons (ds_if (PW.pt (dw_or (dt_not (dt_truth C.K (de_R (de_b2 bt_isi (by rfl) (T.free 14) rfl (de_var (pe_var (i := 0) rfl (Or.inl rfl))) (de_R (de_ty (by rfl) (T.free 10) (by rfl))))) (fun _ => rfl))) (dw_or1 (dt_cmp (op_ltM C) (de_b1 (bt_len C.K) (by rfl) (T.free 0) rfl (de_R (de_var (pe_var (i := 0) rfl (Or.inl rfl))))) (de_R (de_var (pe_var (i := 1) rfl (Or.inl rfl)))) rfl)))) (dss_one (ds_ret (de_R (de_F (df_lst (da_cons de_non da_nil)))))) dss_nil) (dss_cons (ds_for C.pass C.calm (di_enum C.K (by rfl) (T.free 15) (da_cons (de_var (pe_var (i := 0) rfl (Or.inl rfl))) da_nil)) (dg_tup C.K C.calm (dgs_cons (dg_name (i := 4) C.nd rfl (Or.inl rfl)) (dgs_cons (dg_name (i := 5) C.nd rfl (Or.inl rfl)) dgs_nil))) (dss_one (ds_if (PW.pt (dw_or (dt_cmp (op_eqM C) (de_var (pe_var (i := 4) rfl (Or.inl rfl))) (de_R (de_var (pe_var (i := 2) rfl (Or.inl rfl)))) rfl) (dw_or1 (dt_not (dt_truth C.K (de_R (de_callFn C CZ GL (by omega) (i := 3) rfl (Or.inl rfl) (da_cons (de_slice C (de_var (pe_var (i := 0) rfl (Or.inl rfl))) do_none (do_some (de_var (pe_var (i := 4) rfl (Or.inl rfl))))) (da_cons (de_var (pe_var (i := 5) rfl (Or.inl rfl))) da_nil)))) (fun _ => rfl)))))) (dss_one (ds_ret (de_R (de_F (df_lst (da_cons (de_var (pe_var (i := 4) rfl (Or.inl rfl))) da_nil)))))) dss_nil))) (dss_one (ds_ret (de_R (de_F (df_lst da_nil)))))))
theorem ok_is_word (T : TT w K mg base) {fd : FuncData} (F : FunD K "is_word" "is_word" (defArgs st_is_word) (defBody st_is_word) (defScope st_is_word) [] [] (He.fAd K ("is_word", none)) fd) : FnOk PP w K mg base (L2.CX PP w) 1 (He.fAd K ("is_word", none)) fd ["value"] (spD (Wof K) F_is_word) := by
  refine fn_D (N := ["value", "sign"]) rfl (He5.fun_of F) sc_is_word fun cdv A outer s H E Z C => ?_
  exact (dss_one (ds_ret (de_R (de_and (de_b2 bt_isi (by rfl) (T.free 14) rfl (de_var (pe_var (i := 0) rfl (Or.inl rfl))) (de_R (de_ty (by rfl) (T.free 19) (by rfl)))) (de_and (de_cmp (op_neM C) (de_var (pe_var (i := 0) rfl (Or.inl rfl))) (de_R de_str) rfl) (de_one (de_b1 (bt_all C.calm) (by rfl) (T.free 21) rfl (de_R (de_F (df_lc (own := [("sign", 1)]) C.calm C.nd (di_data C.K (de_var (pe_var (i := 0) rfl (Or.inl rfl)))) (blkOk_by (by kernel_rfl)) (fun _ _ _ _ _ => (dg_name (i := 1) (C.blk _ _ _ _ _ _).nd rfl (Or.inl rfl))) (fun _ _ _ _ _ => dts_nil) (fun _ _ _ _ _ => (de_cmp (op_inM (C.blk _ _ _ _ _ _)) (de_var (pe_var (i := 1) rfl (Or.inl rfl))) (de_R (de_gstr (by rfl) (T.str 20))) rfl))))))))))))
theorem g_is_word (T : TT w K mg base) (Z : Addr → Option V) : GFn PP w K mg base 1 "is_word" ["value"] ((Wof K).withZ Z) F_is_word := by
  obtain ⟨fd, F⟩ := T.dfn 6 (d := d_is_word)
  exact ⟨_, fd, (T.glo 22), F.kp, F.bindsN (ps := ["value"]) fun _ _ _ _ _ _ us hl => match us, hl with | [_], _ => rfl, ok_is_word T F⟩
theorem ok_is_name (T : TT w K mg base) {fd : FuncData} (F : FunD K "is_name" "is_name" (defArgs st_is_name) (defBody st_is_name) (defScope st_is_name) [] [] (He.fAd K ("is_name", none)) fd) : FnOk PP w K mg base (L2.CX PP w) 2 (He.fAd K ("is_name", none)) fd ["value"] (spD (Wof K) F_is_name) := by
  refine fn_D (N := ["value"]) rfl (He5.fun_of F) sc_is_name fun cdv A outer s H E Z C => ?_
  exact (dss_one (ds_ret (de_R (de_and (de_call C (g_is_word T _) (by omega) (by rfl) (da_cons (de_var (pe_var (i := 0) rfl (Or.inl rfl))) da_nil)) (de_and (de_cmp op_leM (de_b1 (bt_len C.K) (by rfl) (T.free 0) rfl (de_R (de_var (pe_var (i := 0) rfl (Or.inl rfl))))) (de_R (de_gint (by rfl) (T.int 23))) rfl) (de_one (de_cmp (op_notInM C) (de_var (pe_var (i := 0) rfl (Or.inl rfl))) (de_R (de_gK (by rfl) (T.glo 24) (krep_strs (T.ex 0) (by decide)))) rfl)))))))
theorem g_is_name (T : TT w K mg base) (Z : Addr → Option V) : GFn PP w K mg base 2 "is_name" ["value"] ((Wof K).withZ Z) F_is_name := by
  obtain ⟨fd, F⟩ := T.dfn 7 (d := d_is_name)
  exact ⟨_, fd, (T.glo 25), F.kp, F.bindsN (ps := ["value"]) fun _ _ _ _ _ _ us hl => match us, hl with | [_], _ => rfl, ok_is_name T F⟩
theorem ok_are_below (T : TT w K mg base) {fd : FuncData} (F : FunD K "are_below" "are_below" (defArgs st_are_below) (defBody st_are_below) (defScope st_are_below) [] [] (He.fAd K ("are_below", none)) fd) : FnOk PP w K mg base (L2.CX PP w) 1 (He.fAd K ("are_below", none)) fd ["ahead", "value"] (spD (Wof K) F_are_below) := by
  refine fn_D (N := ["ahead", "value"]) rfl (He5.fun_of F) sc_are_below fun cdv A outer s H E Z C => ?_
  exact (dss_one (ds_ret (de_R (de_or (de_cmp (op_eqM C) (de_var (pe_var (i := 0) rfl (Or.inl rfl))) (de_R (de_tup da_nil)) rfl) (de_one (de_cmp (op_ltM C) (de_ix C (de_var (pe_var (i := 0) rfl (Or.inl rfl))) (de_neg de_int) (fun _ _ => rfl)) (de_R (de_var (pe_var (i := 1) rfl (Or.inl rfl)))) rfl))))))
theorem g_are_below (T : TT w K mg base) (Z : Addr → Option V) : GFn PP w K mg base 1 "are_below" ["ahead", "value"] ((Wof K).withZ Z) F_are_below := by
  obtain ⟨fd, F⟩ := T.dfn 8 (d := d_are_below)
  exact ⟨_, fd, (T.glo 26), F.kp, F.bindsN (ps := ["ahead", "value"]) fun _ _ _ _ _ _ us hl => match us, hl with | [_, _], _ => rfl, ok_are_below T F⟩
theorem nz_0 (T : TT w K mg base) {Z0 : Addr → Option V} : NZ PP w K mg base 3 ((Wof K).withZ Z0) Lm_0 LF_0 := by
  refine nz_D (N := ["ahead", "each"]) (ps := ["ahead", "each"]) rfl (NdefX.nscope_by (by decide +kernel)) (fun _ _ _ _ us hl => match us, hl with | [_, _], _ => rfl) fun Z cl f c A outer s H E C CZ => ?_
  exact (de_and (de_call C (g_is_name T _) (by omega) (by rfl) (da_cons (de_var (pe_var (i := 1) rfl (Or.inl rfl))) da_nil)) (de_one (de_call C (g_are_below T _) (by omega) (by rfl) (da_cons (de_var (pe_var (i := 0) rfl (Or.inl rfl))) (da_cons (de_var (pe_var (i := 1) rfl (Or.inl rfl))) da_nil)))))
theorem lf_0 : ∀ y ∈ Lm_0.scope.names, y.2 = .free → (defScope (top 19)).names.lookup y.1 = some .cell ∨ (defScope (top 19)).names.lookup y.1 = some .free := by decide +kernel
theorem lfr_0 : ∀ y ∈ Lm_0.fr, (y, NameKind.free) ∈ Lm_0.scope.names := by decide +kernel
theorem lfs_0 : ∀ y ∈ Lm_0.scope.names, y.2 = .free → y.1 ∈ Lm_0.fr := by decide +kernel
theorem ok_wrong_in_places (T : TT w K mg base) {fd : FuncData} (F : FunD K "wrong_in_places" "wrong_in_places" (defArgs st_wrong_in_places) (defBody st_wrong_in_places) (defScope st_wrong_in_places) [] [] (He.fAd K ("wrong_in_places", none)) fd) : FnOk PP w K mg base (L2.CX PP w) 5 (He.fAd K ("wrong_in_places", none)) fd ["value"] (spD (Wof K) F_wrong_in_places) := by
  refine fnok_of_M (fn_DZ (N := ["value"]) rfl (He5.fun_of F) sc_wrong_in_places fun cdv A outer s H E Z hcd C CZ => ?_)
  have LA0 : LamAt (cxOf (L2.CX PP w) PP w K mg base ["value"] "wrong_in_places" (defScope st_wrong_in_places) (He.fAd K ("wrong_in_places", none)) cdv A outer s H E) ((Wof K).withZ Z) 0 Lm_0 [] ⟨36, 54, 36, 114⟩ := ⟨rfl, ⟨_, _, _, T.tbl 0, hcd.symm.trans (code_of (p := ("wrong_in_places", none)) F), (tabs_at (K := K) (tf := TFQ) (p := (("wrong_in_places", none), "wrong_in_places.<locals>.")) 0 rfl (T.ex 1)).1, rfl, (tabs_at (K := K) (tf := TFQ) (p := (("wrong_in_places", none), "wrong_in_places.<locals>.")) 0 rfl (T.ex 1)).2⟩, rfl, rfl, rfl, lf_0, lfr_0, lfs_0, rfl⟩
  exact (dss_one (ds_ret (de_R (de_callLam C CZ LA0 (g_wrong_in T _ (k := 3) (glam_one rfl ((nz_0 T).mono (by omega))) (by omega)) (by omega) (by rfl) (dal_cons (de_var (pe_var (i := 0) rfl (Or.inl rfl))) (dal_cons (de_gint (by rfl) (T.int 17)) (dal_cons (de_gint (by rfl) (T.int 18)) (dal_nil (de_lam LA0)))))))))
theorem g_wrong_in_places (T : TT w K mg base) (Z : Addr → Option V) : GFn PP w K mg base 5 "wrong_in_places" ["value"] ((Wof K).withZ Z) F_wrong_in_places := by
  obtain ⟨fd, F⟩ := T.dfn 9 (d := d_wrong_in_places)
  exact ⟨_, fd, (T.glo 27), F.kp, F.bindsN (ps := ["value"]) fun _ _ _ _ _ _ us hl => match us, hl with | [_], _ => rfl, ok_wrong_in_places T F⟩
theorem ok_is_tuple_of (T : TT w K mg base) {fd : FuncData} (F : FunD K "is_tuple_of" "is_tuple_of" (defArgs st_is_tuple_of) (defBody st_is_tuple_of) (defScope st_is_tuple_of) [] [] (He.fAd K ("is_tuple_of", none)) fd) : FnOk PP w K mg base (L2.CX PP w) 1 (He.fAd K ("is_tuple_of", none)) fd ["value", "many"] (spD (Wof K) F_is_tuple_of) := by
  refine fn_D (N := ["value", "many"]) rfl (He5.fun_of F) sc_is_tuple_of fun cdv A outer s H E Z C => ?_
  exact (dss_one (ds_ret (de_R (de_and (de_b2 bt_isi (by rfl) (T.free 14) rfl (de_var (pe_var (i := 0) rfl (Or.inl rfl))) (de_R (de_ty (by rfl) (T.free 10) (by rfl)))) (de_one (de_cmp (op_eqM C) (de_b1 (bt_len C.K) (by rfl) (T.free 0) rfl (de_R (de_var (pe_var (i := 0) rfl (Or.inl rfl))))) (de_R (de_var (pe_var (i := 1) rfl (Or.inl rfl)))) rfl))))))
theorem g_is_tuple_of (T : TT w K mg base) (Z : Addr → Option V) : GFn PP w K mg base 1 "is_tuple_of" ["value", "many"] ((Wof K).withZ Z) F_is_tuple_of := by
  obtain ⟨fd, F⟩ := T.dfn 10 (d := d_is_tuple_of)
  exact ⟨_, fd, (T.glo 29), F.kp, F.bindsN (ps := ["value", "many"]) fun _ _ _ _ _ _ us hl => match us, hl with | [_, _], _ => rfl, ok_is_tuple_of T F⟩
theorem ok_is_pair (T : TT w K mg base) {fd : FuncData} (F : FunD K "is_pair" "is_pair" (defArgs st_is_pair) (defBody st_is_pair) (defScope st_is_pair) [] [] (He.fAd K ("is_pair", none)) fd) : FnOk PP w K mg base (L2.CX PP w) 2 (He.fAd K ("is_pair", none)) fd ["value"] (spD (Wof K) F_is_pair) := by
  refine fn_D (N := ["value"]) rfl (He5.fun_of F) sc_is_pair fun cdv A outer s H E Z C => ?_
  exact (dss_one (ds_ret (de_R (de_call C (g_is_tuple_of T _) (by omega) (by rfl) (da_cons (de_var (pe_var (i := 0) rfl (Or.inl rfl))) (da_cons de_int da_nil))))))
theorem g_is_pair (T : TT w K mg base) (Z : Addr → Option V) : GFn PP w K mg base 2 "is_pair" ["value"] ((Wof K).withZ Z) F_is_pair := by
  obtain ⟨fd, F⟩ := T.dfn 11 (d := d_is_pair)
  exact ⟨_, fd, (T.glo 30), F.kp, F.bindsN (ps := ["value"]) fun _ _ _ _ _ _ us hl => match us, hl with | [_], _ => rfl, ok_is_pair T F⟩
theorem ok_is_one_of (T : TT w K mg base) {fd : FuncData} (F : FunD K "is_one_of" "is_one_of" (defArgs st_is_one_of) (defBody st_is_one_of) (defScope st_is_one_of) [] [] (He.fAd K ("is_one_of", none)) fd) : FnOk PP w K mg base (L2.CX PP w) 1 (He.fAd K ("is_one_of", none)) fd ["value", "words"] (spD (Wof K) F_is_one_of) := by
  refine fn_D (N := ["value", "words"]) rfl (He5.fun_of F) sc_is_one_of fun cdv A outer s H E Z C => ?_
  exact (dss_one (ds_ret (de_R (de_and (de_b2 bt_isi (by rfl) (T.free 14) rfl (de_var (pe_var (i := 0) rfl (Or.inl rfl))) (de_R (de_ty (by rfl) (T.free 19) (by rfl)))) (de_one (de_cmp (op_inM C) (de_var (pe_var (i := 0) rfl (Or.inl rfl))) (de_R (de_var (pe_var (i := 1) rfl (Or.inl rfl)))) rfl))))))
theorem g_is_one_of (T : TT w K mg base) (Z : Addr → Option V) : GFn PP w K mg base 1 "is_one_of" ["value", "words"] ((Wof K).withZ Z) F_is_one_of := by
  obtain ⟨fd, F⟩ := T.dfn 12 (d := d_is_one_of)
  exact ⟨_, fd, (T.glo 31), F.kp, F.bindsN (ps := ["value", "words"]) fun _ _ _ _ _ _ us hl => match us, hl with | [_, _], _ => rfl, ok_is_one_of T F⟩
theorem ok_is_tie_of (T : TT w K mg base) {fd : FuncData} (F : FunD K "is_tie_of" "is_tie_of" (defArgs st_is_tie_of) (defBody st_is_tie_of) (defScope st_is_tie_of) [] [] (He.fAd K ("is_tie_of", none)) fd) : FnOk PP w K mg base (L2.CX PP w) 3 (He.fAd K ("is_tie_of", none)) fd ["places", "value"] (spD (Wof K) F_is_tie_of) := by
  refine fn_D (N := ["places", "value"]) rfl (He5.fun_of F) sc_is_tie_of fun cdv A outer s H E Z C => ?_
  exact (dss_one (ds_ret (de_R (de_and (de_call C (g_is_pair T _) (by omega) (by rfl) (da_cons (de_var (pe_var (i := 1) rfl (Or.inl rfl))) da_nil)) (de_and (de_call C (g_is_one_of T _) (by omega) (by rfl) (da_cons (de_ix C (de_var (pe_var (i := 1) rfl (Or.inl rfl))) de_int (fun _ _ => rfl)) (da_cons (de_var (pe_var (i := 0) rfl (Or.inl rfl))) da_nil))) (de_and (de_call C (g_is_one_of T _) (by omega) (by rfl) (da_cons (de_ix C (de_var (pe_var (i := 1) rfl (Or.inl rfl))) de_int (fun _ _ => rfl)) (da_cons (de_var (pe_var (i := 0) rfl (Or.inl rfl))) da_nil))) (de_one (de_cmp (op_ltM C) (de_ix C (de_var (pe_var (i := 1) rfl (Or.inl rfl))) de_int (fun _ _ => rfl)) (de_R (de_ix C (de_var (pe_var (i := 1) rfl (Or.inl rfl))) de_int (fun _ _ => rfl))) rfl))))))))
theorem g_is_tie_of (T : TT w K mg base) (Z : Addr → Option V) : GFn PP w K mg base 3 "is_tie_of" ["places", "value"] ((Wof K).withZ Z) F_is_tie_of := by
  obtain ⟨fd, F⟩ := T.dfn 13 (d := d_is_tie_of)
  exact ⟨_, fd, (T.glo 32), F.kp, F.bindsN (ps := ["places", "value"]) fun _ _ _ _ _ _ us hl => match us, hl with | [_, _], _ => rfl, ok_is_tie_of T F⟩
theorem nz_1 (T : TT w K mg base) {Z0 : Addr → Option V} : NZ PP w K mg base 4 ((Wof K).withZ Z0) Lm_1 LF_1 := by
  refine nz_D (N := ["ahead", "each", "places"]) (ps := ["ahead", "each"]) rfl (NdefX.nscope_by (by decide +kernel)) (fun _ _ _ _ us hl => match us, hl with | [_, _], _ => rfl) fun Z cl f c A outer s H E C CZ => ?_
  exact (de_and (de_call C (g_is_tie_of T _) (by omega) (by rfl) (da_cons (de_var (pe_var (i := 2) rfl (Or.inr (Or.inr rfl)))) (da_cons (de_var (pe_var (i := 1) rfl (Or.inl rfl))) da_nil))) (de_one (de_call C (g_are_below T _) (by omega) (by rfl) (da_cons (de_var (pe_var (i := 0) rfl (Or.inl rfl))) (da_cons (de_var (pe_var (i := 1) rfl (Or.inl rfl))) da_nil)))))
theorem lf_1 : ∀ y ∈ Lm_1.scope.names, y.2 = .free → (defScope (top 21)).names.lookup y.1 = some .cell ∨ (defScope (top 21)).names.lookup y.1 = some .free := by decide +kernel
theorem lfr_1 : ∀ y ∈ Lm_1.fr, (y, NameKind.free) ∈ Lm_1.scope.names := by decide +kernel
theorem lfs_1 : ∀ y ∈ Lm_1.scope.names, y.2 = .free → y.1 ∈ Lm_1.fr := by decide +kernel
theorem ok_wrong_in_ties (T : TT w K mg base) {fd : FuncData} (F : FunD K "wrong_in_ties" "wrong_in_ties" (defArgs st_wrong_in_ties) (defBody st_wrong_in_ties) (defScope st_wrong_in_ties) [] [] (He.fAd K ("wrong_in_ties", none)) fd) : FnOk PP w K mg base (L2.CX PP w) 6 (He.fAd K ("wrong_in_ties", none)) fd ["places", "value"] (spD (Wof K) F_wrong_in_ties) := by
  refine fnok_of_M (fn_DZ (N := ["places", "value"]) rfl (He5.fun_of F) sc_wrong_in_ties fun cdv A outer s H E Z hcd C CZ => ?_)
  have LA1 : LamAt (cxOf (L2.CX PP w) PP w K mg base ["places", "value"] "wrong_in_ties" (defScope st_wrong_in_ties) (He.fAd K ("wrong_in_ties", none)) cdv A outer s H E) ((Wof K).withZ Z) 1 Lm_1 [0] ⟨40, 41, 40, 111⟩ := ⟨rfl, ⟨_, _, _, T.tbl 1, hcd.symm.trans (code_of (p := ("wrong_in_ties", none)) F), (tabs_at (K := K) (tf := TFQ) (p := (("wrong_in_ties", none), "wrong_in_ties.<locals>.")) 1 rfl (T.ex 1)).1, rfl, (tabs_at (K := K) (tf := TFQ) (p := (("wrong_in_ties", none), "wrong_in_ties.<locals>.")) 1 rfl (T.ex 1)).2⟩, rfl, rfl, rfl, lf_1, lfr_1, lfs_1, rfl⟩
  exact (dss_one (ds_ret (de_R (de_callLam C CZ LA1 (g_wrong_in T _ (k := 4) (glam_one rfl ((nz_1 T).mono (by omega))) (by omega)) (by omega) (by rfl) (dal_cons (de_var (pe_var (i := 1) rfl (Or.inl rfl))) (dal_cons de_int (dal_cons (de_gint (by rfl) (T.int 28)) (dal_nil (de_lam LA1)))))))))
theorem g_wrong_in_ties (T : TT w K mg base) (Z : Addr → Option V) : GFn PP w K mg base 6 "wrong_in_ties" ["places", "value"] ((Wof K).withZ Z) F_wrong_in_ties := by
  obtain ⟨fd, F⟩ := T.dfn 14 (d := d_wrong_in_ties)
  exact ⟨_, fd, (T.glo 33), F.kp, F.bindsN (ps := ["places", "value"]) fun _ _ _ _ _ _ us hl => match us, hl with | [_, _], _ => rfl, ok_wrong_in_ties T F⟩
theorem ok_beside (T : TT w K mg base) {fd : FuncData} (F : FunD K "beside" "beside" (defArgs st_beside) (defBody st_beside) (defScope st_beside) [] [] (He.fAd K ("beside", none)) fd) : FnOk PP w K mg base (L2.CX PP w) 1 (He.fAd K ("beside", none)) fd ["ties", "place"] (spD (Wof K) F_beside) := by
  refine fn_D (N := ["ties", "place", "one", "other"]) rfl (He5.fun_of F) sc_beside fun cdv A outer s H E Z C => ?_
  exact (dss_one (ds_ret (de_R (de_F (df_lc (own := [("one", 2), ("other", 3)]) C.calm C.nd (di_data C.K (de_var (pe_var (i := 0) rfl (Or.inl rfl)))) (blkOk_by (by kernel_rfl)) (fun _ _ _ _ _ => (dg_tup (C.blk _ _ _ _ _ _).K (C.blk _ _ _ _ _ _).calm (dgs_cons (dg_name (i := 2) (C.blk _ _ _ _ _ _).nd rfl (Or.inl rfl)) (dgs_cons (dg_name (i := 3) (C.blk _ _ _ _ _ _).nd rfl (Or.inl rfl)) dgs_nil)))) (fun _ _ _ _ _ => (dts_one (dt_cmp (op_inM (C.blk _ _ _ _ _ _)) (de_var (pe_var (i := 1) rfl (Or.inr (Or.inl rfl)))) (de_R (de_tup (da_cons (de_var (pe_var (i := 2) rfl (Or.inl rfl))) (da_cons (de_var (pe_var (i := 3) rfl (Or.inl rfl))) da_nil)))) rfl))) (fun _ _ _ _ _ => (de_if (dt_cmp (op_eqM (C.blk _ _ _ _ _ _)) (de_var (pe_var (i := 3) rfl (Or.inl rfl))) (de_R (de_var (pe_var (i := 1) rfl (Or.inr (Or.inl rfl))))) rfl) (de_var (pe_var (i := 2) rfl (Or.inl rfl))) (de_var (pe_var (i := 3) rfl (Or.inl rfl))))))))))
theorem g_beside (T : TT w K mg base) (Z : Addr → Option V) : GFn PP w K mg base 1 "beside" ["ties", "place"] ((Wof K).withZ Z) F_beside := by
  obtain ⟨fd, F⟩ := T.dfn 15 (d := d_beside)
  exact ⟨_, fd, (T.glo 34), F.kp, F.bindsN (ps := ["ties", "place"]) fun _ _ _ _ _ _ us hl => match us, hl with | [_, _], _ => rfl, ok_beside T F⟩
theorem ok_do_hang (T : TT w K mg base) {fd : FuncData} (F : FunD K "do_hang" "do_hang" (defArgs st_do_hang) (defBody st_do_hang) (defScope st_do_hang) [] [] (He.fAd K ("do_hang", none)) fd) : FnOk PP w K mg base (L2.CX PP w) 2 (He.fAd K ("do_hang", none)) fd ["places", "ties"] (spD (Wof K) F_do_hang) := by
  refine fn_D (N := ["places", "ties", "found", "line", "there"]) rfl (He5.fun_of F) sc_do_hang fun cdv A outer s H E Z C => ?_
  exact (dss_cons (ds_par_oo (i := 2) (j := 3) C.calm C.nd rfl rfl (by decide) rfl rfl (df_disp1 (de_ix C (de_var (pe_var (i := 0) rfl (Or.inl rfl))) de_int (fun _ _ => rfl)) de_bl) (df_lst (da_cons (de_ix C (de_var (pe_var (i := 0) rfl (Or.inl rfl))) de_int (fun _ _ => rfl)) da_nil)) rfl) (dss_cons (ds_while C.pass (dt_cmpV (op_neR C) (pe_var (i := 3) rfl (Or.inl rfl)) (de_R (de_F (df_lst da_nil))) rfl) (dss_one (ds_for C.pass C.calm (di_data C.K (de_call C (g_beside T _) (by omega) (by rfl) (da_cons (de_var (pe_var (i := 1) rfl (Or.inl rfl))) (da_cons (de_pop (pe_var (i := 3) rfl (Or.inl rfl))) da_nil)))) (dg_name (i := 4) C.nd rfl (Or.inl rfl)) (dss_one (ds_if (dt_cmp (op_notInM C) (de_var (pe_var (i := 4) rfl (Or.inl rfl))) (de_varR (pe_var (i := 2) rfl (Or.inl rfl))) rfl) (dss_cons (ds_asg de_bl (dg_sub C (pe_var (i := 2) rfl (Or.inl rfl)) (de_var (pe_var (i := 4) rfl (Or.inl rfl))))) (dss_one (ds_expr (de_append (pe_var (i := 3) rfl (Or.inl rfl)) (de_var (pe_var (i := 4) rfl (Or.inl rfl))))))) dss_nil))))) (dss_one (ds_ret (de_R (de_cmp (op_eqM C) (de_b1 (bt_len C.K) (by rfl) (T.free 0) rfl (de_varR (pe_var (i := 2) rfl (Or.inl rfl)))) (de_R (de_b1 (bt_len C.K) (by rfl) (T.free 0) rfl (de_R (de_var (pe_var (i := 0) rfl (Or.inl rfl)))))) rfl))))))
theorem g_do_hang (T : TT w K mg base) (Z : Addr → Option V) : GFn PP w K mg base 2 "do_hang" ["places", "ties"] ((Wof K).withZ Z) F_do_hang := by
  obtain ⟨fd, F⟩ := T.dfn 16 (d := d_do_hang)
  exact ⟨_, fd, (T.glo 35), F.kp, F.bindsN (ps := ["places", "ties"]) fun _ _ _ _ _ _ us hl => match us, hl with | [_, _], _ => rfl, ok_do_hang T F⟩
theorem ok_Web___init__ (T : TT w K mg base) {fd : FuncData} (F : FunD K "__init__" "Web.__init__" (defArgs st_Web___init__) (defBody st_Web___init__) (defScope st_Web___init__) [] [] (He.fAd K ("Web", some "__init__")) fd) : FnOk PP w K mg base (L2.CX PP w) 7 (He.fAd K ("Web", some "__init__")) fd ["self", "places", "ties"] (spD (Wof K) F_Web___init__) := by
  refine fn_D (N := ["self", "places", "ties", "index"]) rfl (He5.fun_of F) sc_Web___init__ fun cdv A outer s H E Z C => ?_
  exact (dss_cons (ds_for C.pass C.calm (di_data C.K (de_call C (g_wrong_in_places T _) (by omega) (by rfl) (da_cons (de_var (pe_var (i := 1) rfl (Or.inl rfl))) da_nil))) (dg_name (i := 3) C.nd rfl (Or.inl rfl)) (dss_one ds_never)) (dss_cons (ds_for C.pass C.calm (di_data C.K (de_call C (g_wrong_in_ties T _) (by omega) (by rfl) (da_cons (de_var (pe_var (i := 1) rfl (Or.inl rfl))) (da_cons (de_var (pe_var (i := 2) rfl (Or.inl rfl))) da_nil)))) (dg_name (i := 3) C.nd rfl (Or.inl rfl)) (dss_one ds_never)) (dss_cons (ds_if (dt_not (dt_truth C.K (de_R (de_call C (g_do_hang T _) (by omega) (by rfl) (da_cons (de_var (pe_var (i := 1) rfl (Or.inl rfl))) (da_cons (de_var (pe_var (i := 2) rfl (Or.inl rfl))) da_nil)))) (fun _ => rfl))) (dss_one ds_never) dss_nil) (dss_one (ds_fld (c := 0) C.K (T.cls 36) (T.noat 37) (pe_var (i := 0) rfl (Or.inl rfl)) (de_tup (da_cons (de_var (pe_var (i := 1) rfl (Or.inl rfl))) (da_cons (de_var (pe_var (i := 2) rfl (Or.inl rfl))) da_nil))))))))
theorem mk_Web (T : TT w K mg base) (Z : Addr → Option V) : GMk PP w K mg base 7 "Web" ["self", "places", "ties"] ((Wof K).withZ Z) 0 F_Web___init__ := by
  obtain ⟨fd, F⟩ := T.dfn 17 (d := d_Web___init__)
  exact ⟨_, fd, (T.glo 38), T.mkr 39, F.bindsN (ps := ["self", "places", "ties"]) fun _ _ _ _ _ _ us hl => match us, hl with | [_, _, _], _ => rfl, ok_Web___init__ T F⟩
theorem ok__law_made (T : TT w K mg base) {fd : FuncData} (F : FunD K "_law_made" "_law_made" (defArgs st__law_made) (defBody st__law_made) (defScope st__law_made) [] [] (He.fAd K ("_law_made", none)) fd) : FnOk PP w K mg base (L2.CX PP w) 9 (He.fAd K ("_law_made", none)) fd ["web"] (spD (Wof K) F__law_made) := by
  refine fn_D (N := ["web"]) rfl (He5.fun_of F) sc__law_made fun cdv A outer s H E Z C => ?_
  exact (dss_one (ds_ret (de_R (de_makeV C (mk_Web T _) (by omega) (by rfl) (da_cons (de_ix C (de_var (pe_var (i := 0) rfl (Or.inl rfl))) de_int (fun _ _ => rfl)) (da_cons (de_ix C (de_var (pe_var (i := 0) rfl (Or.inl rfl))) de_int (fun _ _ => rfl)) da_nil))))))
theorem g__law_made (T : TT w K mg base) (Z : Addr → Option V) : GFn PP w K mg base 9 "_law_made" ["web"] ((Wof K).withZ Z) F__law_made := by
  obtain ⟨fd, F⟩ := T.dfn 18 (d := d__law_made)
  exact ⟨_, fd, (T.glo 40), F.kp, F.bindsN (ps := ["web"]) fun _ _ _ _ _ _ us hl => match us, hl with | [_], _ => rfl, ok__law_made T F⟩
theorem ok__law_begin (T : TT w K mg base) {fd : FuncData} (F : FunD K "_law_begin" "_law_begin" (defArgs st__law_begin) (defBody st__law_begin) (defScope st__law_begin) [] [] (He.fAd K ("_law_begin", none)) fd) : FnOk PP w K mg base (L2.CX PP w) 3 (He.fAd K ("_law_begin", none)) fd ["loft", "web"] (spD (Wof K) F__law_begin) := by
  refine fn_D (N := ["loft", "web", "tie"]) rfl (He5.fun_of F) sc__law_begin fun cdv A outer s H E Z C => ?_
  exact (dss_one (ds_ret (de_R (de_t1 (bt_tuple C.K) (by rfl) (T.free 10) rfl (de_R (de_F (df_lc (own := [("tie", 2)]) C.calm C.nd (di_data C.K (de_ix C (de_var (pe_var (i := 1) rfl (Or.inl rfl))) de_int (fun _ _ => rfl))) (blkOk_by (by kernel_rfl)) (fun _ _ _ _ _ => (dg_name (i := 2) (C.blk _ _ _ _ _ _).nd rfl (Or.inl rfl))) (fun _ _ _ _ _ => dts_nil) (fun _ _ _ _ _ => (de_call (C.blk _ _ _ _ _ _) (g__law_of T _) (by omega) (by rfl) (da_cons (de_var (pe_var (i := 0) rfl (Or.inr (Or.inl rfl)))) (da_cons (de_F (df_lst (da_cons de_non (da_cons de_non (da_cons de_int (da_cons de_int (da_cons de_int (da_cons (de_call (C.blk _ _ _ _ _ _) (g__law_beam T _) (by omega) (by rfl) (da_cons (de_var (pe_var (i := 0) rfl (Or.inr (Or.inl rfl)))) (da_cons de_int da_nil))) da_nil)))))))) da_nil)))))))))))
theorem g__law_begin (T : TT w K mg base) (Z : Addr → Option V) : GFn PP w K mg base 3 "_law_begin" ["loft", "web"] ((Wof K).withZ Z) F__law_begin := by
  obtain ⟨fd, F⟩ := T.dfn 19 (d := d__law_begin)
  exact ⟨_, fd, (T.glo 41), F.kp, F.bindsN (ps := ["loft", "web"]) fun _ _ _ _ _ _ us hl => match us, hl with | [_, _], _ => rfl, ok__law_begin T F⟩
theorem ok__law_text (T : TT w K mg base) {fd : FuncData} (F : FunD K "_law_text" "_law_text" (defArgs st__law_text) (defBody st__law_text) (defScope st__law_text) [] [] (He.fAd K ("_law_text", none)) fd) : FnOk PP w K mg base (L2.CX PP w) 1 (He.fAd K ("_law_text", none)) fd ["web", "beginning"] (spD (Wof K) F__law_text) := by
  refine fn_D (N := ["web", "beginning", "rows", "one", "two", "colour", "place"]) rfl (He5.fun_of F) sc__law_text fun cdv A outer s H E Z C => ?_
  exact (dss_cons (ds_ownLc (i := 2) (own := [("place", 6)]) C.calm C.nd rfl rfl (sw_true rfl rfl rfl (by decide +kernel)) (di_data C.K (de_ix C (de_var (pe_var (i := 0) rfl (Or.inl rfl))) de_int (fun _ _ => rfl))) (blkOk_by (by kernel_rfl)) (fun _ _ _ _ _ => (dg_name (i := 6) (C.blk _ _ _ _ _ _).nd rfl (Or.inl rfl))) (fun _ _ _ _ _ => dts_nil) (fun _ _ _ _ _ => (de_join (C.blk _ _ _ _ _ _).K de_str (de_F (df_lst (da_cons de_str (da_cons (de_var (pe_var (i := 6) rfl (Or.inl rfl))) da_nil))))))) (dss_cons (ds_for C.pass C.calm (di_zip C.K (by rfl) (T.free 42) (da_cons (de_ix C (de_var (pe_var (i := 0) rfl (Or.inl rfl))) de_int (fun _ _ => rfl)) (da_cons (de_var (pe_var (i := 1) rfl (Or.inl rfl))) da_nil))) (dg_tup C.K C.calm (dgs_cons (dg_tup C.K C.calm (dgs_cons (dg_name (i := 3) C.nd rfl (Or.inl rfl)) (dgs_cons (dg_name (i := 4) C.nd rfl (Or.inl rfl)) dgs_nil))) (dgs_cons (dg_name (i := 5) C.nd rfl (Or.inl rfl)) dgs_nil))) (dss_one (ds_expr (de_append (pe_var (i := 2) rfl (Or.inl rfl)) (de_join C.K de_str (de_F (df_lst (da_cons de_str (da_cons (de_var (pe_var (i := 3) rfl (Or.inl rfl))) (da_cons (de_var (pe_var (i := 4) rfl (Or.inl rfl))) (da_cons (de_if (dt_cmp op_isM (de_var (pe_var (i := 5) rfl (Or.inl rfl))) (de_R de_non) rfl) de_str (de_t1 bt_str (by rfl) (T.free 19) rfl (de_R (de_var (pe_var (i := 5) rfl (Or.inl rfl)))))) da_nil))))))))))) (dss_one (ds_ret (de_R (de_t1 (bt_tuple C.K) (by rfl) (T.free 10) rfl (de_varR (pe_var (i := 2) rfl (Or.inl rfl)))))))))
theorem g__law_text (T : TT w K mg base) (Z : Addr → Option V) : GFn PP w K mg base 1 "_law_text" ["web", "beginning"] ((Wof K).withZ Z) F__law_text := by
  obtain ⟨fd, F⟩ := T.dfn 20 (d := d__law_text)
  exact ⟨_, fd, (T.glo 43), F.kp, F.bindsN (ps := ["web", "beginning"]) fun _ _ _ _ _ _ us hl => match us, hl with | [_, _], _ => rfl, ok__law_text T F⟩
theorem g__law_same (T : TT w K mg base) (Z0 : Addr → Option V) : GFn PP w K mg base 6 "_law_same" ["told", "due"] ((Wof K).withZ Z0) F__law_same := by
  obtain ⟨fd, F⟩ := T.dfn 21 (d := d__law_same)
  refine gfn_rec (P := PP) (w := w) (base := base) (W := (Wof K).withZ Z0) (k0 := 0) (B := fun F => fnM 4 2 (m__law_same F)) (T.glo 45) F.kp (F.bindsN (ps := ["told", "due"]) fun _ _ _ _ _ _ us hl => match us, hl with | [_, _], _ => rfl) (fun k F0 hk G => ?_) 6
  refine fn_D (N := ["told", "due", "one", "two"]) rfl (He5.fun_of F) sc__law_same fun cdv A outer s H E Z C => ?_
  have GS : GFn PP w K mg base k "_law_same" ["told", "due"] ((Wof K).withZ Z) F0 := G
  exact (dss_cons (ds_if (PW.pt (dw_or (dt_truth C.K (de_R (de_b2 bt_isi (by rfl) (T.free 14) rfl (de_var (pe_var (i := 1) rfl (Or.inl rfl))) (de_R (de_ty (by rfl) (T.free 10) (by rfl))))) (fun _ => rfl)) (dw_or1 (dt_truth C.K (de_R (de_b2 bt_isi (by rfl) (T.free 14) rfl (de_var (pe_var (i := 1) rfl (Or.inl rfl))) (de_R (de_ty (by rfl) (T.free 12) (by rfl))))) (fun _ => rfl))))) (dss_cons (ds_if (PW.pt (dw_or (dt_cmp (op_neM C) (de_b2 bt_isi (by rfl) (T.free 14) rfl (de_var (pe_var (i := 0) rfl (Or.inl rfl))) (de_R (de_ty (by rfl) (T.free 10) (by rfl)))) (de_R (de_b2 bt_isi (by rfl) (T.free 14) rfl (de_var (pe_var (i := 1) rfl (Or.inl rfl))) (de_R (de_ty (by rfl) (T.free 10) (by rfl))))) rfl) (dw_or1 (dt_cmp (op_neM C) (de_b2 bt_isi (by rfl) (T.free 14) rfl (de_var (pe_var (i := 0) rfl (Or.inl rfl))) (de_R (de_ty (by rfl) (T.free 12) (by rfl)))) (de_R (de_b2 bt_isi (by rfl) (T.free 14) rfl (de_var (pe_var (i := 1) rfl (Or.inl rfl))) (de_R (de_ty (by rfl) (T.free 12) (by rfl))))) rfl)))) (dss_one (ds_ret (de_R de_bl))) dss_nil) (dss_one (ds_ret (de_R (de_and (de_cmp (op_eqM C) (de_b1 (bt_len C.K) (by rfl) (T.free 0) rfl (de_R (de_var (pe_var (i := 0) rfl (Or.inl rfl))))) (de_R (de_b1 (bt_len C.K) (by rfl) (T.free 0) rfl (de_R (de_var (pe_var (i := 1) rfl (Or.inl rfl)))))) rfl) (de_one (de_b1 (bt_all C.calm) (by rfl) (T.free 21) rfl (de_R (de_F (df_lc (own := [("one", 2), ("two", 3)]) C.calm C.nd (di_zip C.K (by rfl) (T.free 42) (da_cons (de_var (pe_var (i := 0) rfl (Or.inl rfl))) (da_cons (de_var (pe_var (i := 1) rfl (Or.inl rfl))) da_nil))) (blkOk_by (by kernel_rfl)) (fun _ _ _ _ _ => (dg_tup (C.blk _ _ _ _ _ _).K (C.blk _ _ _ _ _ _).calm (dgs_cons (dg_name (i := 2) (C.blk _ _ _ _ _ _).nd rfl (Or.inl rfl)) (dgs_cons (dg_name (i := 3) (C.blk _ _ _ _ _ _).nd rfl (Or.inl rfl)) dgs_nil)))) (fun _ _ _ _ _ => dts_nil) (fun _ _ _ _ _ => (de_call (C.blk _ _ _ _ _ _) GS (by omega) (by rfl) (da_cons (de_var (pe_var (i := 2) rfl (Or.inl rfl))) (da_cons (de_var (pe_var (i := 3) rfl (Or.inl rfl))) da_nil)))))))))))))) dss_nil) (dss_cons (ds_if (dt_cmp op_isM (de_var (pe_var (i := 1) rfl (Or.inl rfl))) (de_R de_non) rfl) (dss_one (ds_ret (de_R (de_cmp op_isM (de_var (pe_var (i := 0) rfl (Or.inl rfl))) (de_R de_non) rfl)))) dss_nil) (dss_cons (ds_if (dt_truth C.K (de_R (de_b2 bt_isi (by rfl) (T.free 14) rfl (de_var (pe_var (i := 1) rfl (Or.inl rfl))) (de_R (de_ty (by rfl) (T.free 5) (by rfl))))) (fun _ => rfl)) (dss_one (ds_ret (de_R (de_and (de_b2 bt_isi (by rfl) (T.free 14) rfl (de_var (pe_var (i := 0) rfl (Or.inl rfl))) (de_R (de_ty (by rfl) (T.free 5) (by rfl)))) (de_and (de_cmp (op_eqM C) (de_b2 bt_isi (by rfl) (T.free 14) rfl (de_var (pe_var (i := 0) rfl (Or.inl rfl))) (de_R (de_ty (by rfl) (T.free 44) (by rfl)))) (de_R (de_b2 bt_isi (by rfl) (T.free 14) rfl (de_var (pe_var (i := 1) rfl (Or.inl rfl))) (de_R (de_ty (by rfl) (T.free 44) (by rfl))))) rfl) (de_one (de_cmp (op_eqM C) (de_var (pe_var (i := 0) rfl (Or.inl rfl))) (de_R (de_var (pe_var (i := 1) rfl (Or.inl rfl)))) rfl))))))) dss_nil) (dss_one (ds_ret (de_R (de_and (de_b2 bt_isi (by rfl) (T.free 14) rfl (de_var (pe_var (i := 1) rfl (Or.inl rfl))) (de_R (de_ty (by rfl) (T.free 19) (by rfl)))) (de_and (de_b2 bt_isi (by rfl) (T.free 14) rfl (de_var (pe_var (i := 0) rfl (Or.inl rfl))) (de_R (de_ty (by rfl) (T.free 19) (by rfl)))) (de_one (de_cmp (op_eqM C) (de_var (pe_var (i := 0) rfl (Or.inl rfl))) (de_R (de_var (pe_var (i := 1) rfl (Or.inl rfl)))) rfl))))))))))
theorem ok_check_web (T : TT w K mg base) {fd : FuncData} (F : FunD K "check_web" "check_web" (defArgs st_check_web) (defBody st_check_web) (defScope st_check_web) [] [] (He.fAd K ("check_web", none)) fd) : FnOk PP w K mg base (L2.CX PP w) 1 (He.fAd K ("check_web", none)) fd ["web"] (spD (Wof K) F_check_web) := by
  refine fn_D (N := ["web"]) rfl (He5.fun_of F) sc_check_web fun cdv A outer s H E Z C => ?_
  exact (dss_one (ds_if (dt_not (dt_truth C.K (de_R (de_iso (c := 0) C.K (ic_Web T) (by rfl) (T.free 14) rfl (by rfl) (T.glo 38) (de_var (pe_var (i := 0) rfl (Or.inl rfl))))) (fun _ => rfl))) (dss_one ds_never) dss_nil))
theorem g_check_web (T : TT w K mg base) (Z : Addr → Option V) : GFn PP w K mg base 1 "check_web" ["web"] ((Wof K).withZ Z) F_check_web := by
  obtain ⟨fd, F⟩ := T.dfn 22 (d := d_check_web)
  exact ⟨_, fd, (T.glo 46), F.kp, F.bindsN (ps := ["web"]) fun _ _ _ _ _ _ us hl => match us, hl with | [_], _ => rfl, ok_check_web T F⟩
theorem nz_2 (T : TT w K mg base) {Z0 : Addr → Option V} {k : Nat} {Λ : Nat → List D → Fn} (GL : GLam PP w K mg base k ((Wof K).withZ Z0) Λ) (hk : 0 ≤ k) : NZ PP w K mg base (k + 1) ((Wof K).withZ Z0) Lm_2 (LF_2 Λ) := by
  refine nz_D (N := ["ahead", "each", "is_right"]) (ps := ["ahead", "each"]) rfl (NdefX.nscope_by (by decide +kernel)) (fun _ _ _ _ us hl => match us, hl with | [_, _], _ => rfl) fun Z cl f c A outer s H E C CZ => ?_
  have GL : GLam PP w K mg base k ((Wof K).withZ Z) Λ := glam_Z GL
  exact (de_callFn C CZ GL (by omega) (i := 2) rfl (Or.inr (Or.inr rfl)) (da_cons (de_var (pe_var (i := 1) rfl (Or.inl rfl))) da_nil))
theorem lf_2 : ∀ y ∈ Lm_2.scope.names, y.2 = .free → (defScope (top 12)).names.lookup y.1 = some .cell ∨ (defScope (top 12)).names.lookup y.1 = some .free := by decide +kernel
theorem lfr_2 : ∀ y ∈ Lm_2.fr, (y, NameKind.free) ∈ Lm_2.scope.names := by decide +kernel
theorem lfs_2 : ∀ y ∈ Lm_2.scope.names, y.2 = .free → y.1 ∈ Lm_2.fr := by decide +kernel
theorem g_wrong_in_all (T : TT w K mg base) (Z0 : Addr → Option V) {k : Nat} {Λ : Nat → List D → Fn} (GL : GLam PP w K mg base k ((Wof K).withZ Z0) Λ) (hk : 1 ≤ k) : GFnZ PP w K mg base (k + 3) "wrong_in_all" ["value", "many", "is_right"] ((Wof K).withZ Z0) (F_wrong_in_all Λ) := by
  obtain ⟨fd, F⟩ := T.dfn 23 (d := d_wrong_in_all)
  refine ⟨_, fd, (T.glo 47), F.kp, F.bindsN (ps := ["value", "many", "is_right"]) fun _ _ _ _ _ _ us hl => match us, hl with | [_, _, _], _ => rfl, fn_DZ (N := ["value", "many", "is_right"]) rfl (He5.fun_of F) sc_wrong_in_all fun cdv A outer s H E Z hcd C CZ => ?_⟩
  have GL : GLam PP w K mg base k ((Wof K).withZ Z) Λ := glam_Z GL
  have LA2 : LamAt (cxOf (L2.CX PP w) PP w K mg base ["value", "many", "is_right"] "wrong_in_all" (defScope st_wrong_in_all) (He.fAd K ("wrong_in_all", none)) cdv A outer s H E) ((Wof K).withZ Z) 2 Lm_2 [2] ⟨27, 39, 27, 73⟩ := ⟨rfl, ⟨_, _, _, T.tbl 2, hcd.symm.trans (code_of (p := ("wrong_in_all", none)) F), (tabs_at (K := K) (tf := TFQ) (p := (("wrong_in_all", none), "wrong_in_all.<locals>.")) 2 rfl (T.ex 1)).1, rfl, (tabs_at (K := K) (tf := TFQ) (p := (("wrong_in_all", none), "wrong_in_all.<locals>.")) 2 rfl (T.ex 1)).2⟩, rfl, rfl, rfl, lf_2, lfr_2, lfs_2, rfl⟩
  exact (dss_one (ds_ret (de_R (de_if (dt_truth C.K (de_R (de_call C (g_is_tuple_of T _) (by omega) (by rfl) (da_cons (de_var (pe_var (i := 0) rfl (Or.inl rfl))) (da_cons (de_var (pe_var (i := 1) rfl (Or.inl rfl))) da_nil)))) (fun _ => rfl)) (de_callLam C CZ LA2 (g_wrong_in T _ (glam_one rfl (nz_2 T GL (by omega))) (by omega)) (by omega) (by rfl) (dal_cons (de_var (pe_var (i := 0) rfl (Or.inl rfl))) (dal_cons (de_var (pe_var (i := 1) rfl (Or.inl rfl))) (dal_cons (de_var (pe_var (i := 1) rfl (Or.inl rfl))) (dal_nil (de_lam LA2)))))) (de_F (df_lst (da_cons de_non da_nil)))))))
theorem ok_is_whole (T : TT w K mg base) {fd : FuncData} (F : FunD K "is_whole" "is_whole" (defArgs st_is_whole) (defBody st_is_whole) (defScope st_is_whole) [] [] (He.fAd K ("is_whole", none)) fd) : FnOk PP w K mg base (L2.CX PP w) 1 (He.fAd K ("is_whole", none)) fd ["value"] (spD (Wof K) F_is_whole) := by
  refine fn_D (N := ["value"]) rfl (He5.fun_of F) sc_is_whole fun cdv A outer s H E Z C => ?_
  exact (dss_one (ds_ret (de_R (de_and (de_b2 bt_isi (by rfl) (T.free 14) rfl (de_var (pe_var (i := 0) rfl (Or.inl rfl))) (de_R (de_ty (by rfl) (T.free 5) (by rfl)))) (de_one (de_not (de_b2 bt_isi (by rfl) (T.free 14) rfl (de_var (pe_var (i := 0) rfl (Or.inl rfl))) (de_R (de_ty (by rfl) (T.free 44) (by rfl))))))))))
theorem g_is_whole (T : TT w K mg base) (Z : Addr → Option V) : GFn PP w K mg base 1 "is_whole" ["value"] ((Wof K).withZ Z) F_is_whole := by
  obtain ⟨fd, F⟩ := T.dfn 24 (d := d_is_whole)
  exact ⟨_, fd, (T.glo 48), F.kp, F.bindsN (ps := ["value"]) fun _ _ _ _ _ _ us hl => match us, hl with | [_], _ => rfl, ok_is_whole T F⟩
theorem ok_is_between (T : TT w K mg base) {fd : FuncData} (F : FunD K "is_between" "is_between" (defArgs st_is_between) (defBody st_is_between) (defScope st_is_between) [] [] (He.fAd K ("is_between", none)) fd) : FnOk PP w K mg base (L2.CX PP w) 2 (He.fAd K ("is_between", none)) fd ["value", "least", "most"] (spD (Wof K) F_is_between) := by
  refine fn_D (N := ["value", "least", "most"]) rfl (He5.fun_of F) sc_is_between fun cdv A outer s H E Z C => ?_
  exact (dss_one (ds_ret (de_R (de_and (de_call C (g_is_whole T _) (by omega) (by rfl) (da_cons (de_var (pe_var (i := 0) rfl (Or.inl rfl))) da_nil)) (de_one (de_chain op_leM op_leM (de_var (pe_var (i := 1) rfl (Or.inl rfl))) (de_var (pe_var (i := 0) rfl (Or.inl rfl))) (de_var (pe_var (i := 2) rfl (Or.inl rfl)))))))))
theorem g_is_between (T : TT w K mg base) (Z : Addr → Option V) : GFn PP w K mg base 2 "is_between" ["value", "least", "most"] ((Wof K).withZ Z) F_is_between := by
  obtain ⟨fd, F⟩ := T.dfn 25 (d := d_is_between)
  exact ⟨_, fd, (T.glo 49), F.kp, F.bindsN (ps := ["value", "least", "most"]) fun _ _ _ _ _ _ us hl => match us, hl with | [_, _, _], _ => rfl, ok_is_between T F⟩
theorem ok_is_colour (T : TT w K mg base) {fd : FuncData} (F : FunD K "is_colour" "is_colour" (defArgs st_is_colour) (defBody st_is_colour) (defScope st_is_colour) [] [] (He.fAd K ("is_colour", none)) fd) : FnOk PP w K mg base (L2.CX PP w) 3 (He.fAd K ("is_colour", none)) fd ["value"] (spD (Wof K) F_is_colour) := by
  refine fn_D (N := ["value"]) rfl (He5.fun_of F) sc_is_colour fun cdv A outer s H E Z C => ?_
  exact (dss_one (ds_ret (de_R (de_call C (g_is_between T _) (by omega) (by rfl) (da_cons (de_var (pe_var (i := 0) rfl (Or.inl rfl))) (da_cons de_int (da_cons (de_gint (by rfl) (T.int 50)) da_nil)))))))
theorem g_is_colour (T : TT w K mg base) (Z : Addr → Option V) : GFn PP w K mg base 3 "is_colour" ["value"] ((Wof K).withZ Z) F_is_colour := by
  obtain ⟨fd, F⟩ := T.dfn 26 (d := d_is_colour)
  exact ⟨_, fd, (T.glo 51), F.kp, F.bindsN (ps := ["value"]) fun _ _ _ _ _ _ us hl => match us, hl with | [_], _ => rfl, ok_is_colour T F⟩
theorem nz_3 (T : TT w K mg base) {Z0 : Addr → Option V} : NZ PP w K mg base 4 ((Wof K).withZ Z0) Lm_3 LF_3 := by
  refine nz_D (N := ["each"]) (ps := ["each"]) rfl (NdefX.nscope_by (by decide +kernel)) (fun _ _ _ _ us hl => match us, hl with | [_], _ => rfl) fun Z cl f c A outer s H E C CZ => ?_
  exact (de_or (de_cmp op_isM (de_var (pe_var (i := 0) rfl (Or.inl rfl))) (de_R de_non) rfl) (de_one (de_call C (g_is_colour T _) (by omega) (by rfl) (da_cons (de_var (pe_var (i := 0) rfl (Or.inl rfl))) da_nil))))
theorem lf_3 : ∀ y ∈ Lm_3.scope.names, y.2 = .free → (defScope (top 26)).names.lookup y.1 = some .cell ∨ (defScope (top 26)).names.lookup y.1 = some .free := by decide +kernel
theorem lfr_3 : ∀ y ∈ Lm_3.fr, (y, NameKind.free) ∈ Lm_3.scope.names := by decide +kernel
theorem lfs_3 : ∀ y ∈ Lm_3.scope.names, y.2 = .free → y.1 ∈ Lm_3.fr := by decide +kernel
theorem ok_wrong_in_beginning (T : TT w K mg base) {fd : FuncData} (F : FunD K "wrong_in_beginning" "wrong_in_beginning" (defArgs st_wrong_in_beginning) (defBody st_wrong_in_beginning) (defScope st_wrong_in_beginning) [] [] (He.fAd K ("wrong_in_beginning", none)) fd) : FnOk PP w K mg base (L2.CX PP w) 8 (He.fAd K ("wrong_in_beginning", none)) fd ["value", "many"] (spD (Wof K) F_wrong_in_beginning) := by
  refine fnok_of_M (fn_DZ (N := ["value", "many"]) rfl (He5.fun_of F) sc_wrong_in_beginning fun cdv A outer s H E Z hcd C CZ => ?_)
  have LA3 : LamAt (cxOf (L2.CX PP w) PP w K mg base ["value", "many"] "wrong_in_beginning" (defScope st_wrong_in_beginning) (He.fAd K ("wrong_in_beginning", none)) cdv A outer s H E) ((Wof K).withZ Z) 3 Lm_3 [] ⟨55, 37, 55, 81⟩ := ⟨rfl, ⟨_, _, _, T.tbl 3, hcd.symm.trans (code_of (p := ("wrong_in_beginning", none)) F), (tabs_at (K := K) (tf := TFQ) (p := (("wrong_in_beginning", none), "wrong_in_beginning.<locals>.")) 3 rfl (T.ex 1)).1, rfl, (tabs_at (K := K) (tf := TFQ) (p := (("wrong_in_beginning", none), "wrong_in_beginning.<locals>.")) 3 rfl (T.ex 1)).2⟩, rfl, rfl, rfl, lf_3, lfr_3, lfs_3, rfl⟩
  exact (dss_one (ds_ret (de_R (de_callLam C CZ LA3 (g_wrong_in_all T _ (k := 4) (glam_one rfl ((nz_3 T).mono (by omega))) (by omega)) (by omega) (by rfl) (dal_cons (de_var (pe_var (i := 0) rfl (Or.inl rfl))) (dal_cons (de_var (pe_var (i := 1) rfl (Or.inl rfl))) (dal_nil (de_lam LA3))))))))
theorem g_wrong_in_beginning (T : TT w K mg base) (Z : Addr → Option V) : GFn PP w K mg base 8 "wrong_in_beginning" ["value", "many"] ((Wof K).withZ Z) F_wrong_in_beginning := by
  obtain ⟨fd, F⟩ := T.dfn 27 (d := d_wrong_in_beginning)
  exact ⟨_, fd, (T.glo 52), F.kp, F.bindsN (ps := ["value", "many"]) fun _ _ _ _ _ _ us hl => match us, hl with | [_, _], _ => rfl, ok_wrong_in_beginning T F⟩
theorem ok_Web_ties (T : TT w K mg base) {fd : FuncData} (F : FunD K "ties" "Web.ties" (defArgs st_Web_ties) (defBody st_Web_ties) (defScope st_Web_ties) [] [] (pgA K "Web" "ties") fd) : FnOk PP w K mg base (L2.CX PP w) 1 (pgA K "Web" "ties") fd ["self"] (spD (Wof K) F_Web_ties) := by
  refine fn_D (N := ["self"]) rfl (He5.fun_of F) sc_Web_ties fun cdv A outer s H E Z C => ?_
  exact (dss_one (ds_ret (de_R (de_ix C (de_fld (c := 0) C.K (T.cls 36) (T.noat 37) (de_var (pe_var (i := 0) rfl (Or.inl rfl)))) de_int (fun _ _ => rfl)))))
theorem g_Web_ties (T : TT w K mg base) (Z : Addr → Option V) : GPr PP w K mg base 1 "ties" ["self"] ((Wof K).withZ Z) 0 F_Web_ties := by
  obtain ⟨fd, F⟩ := T.gtr 0 (d := d_Web_ties)
  exact ⟨_, _, fd, T.cls 36, prop_of (T.ex 2), F.bindsN (ps := ["self"]) fun _ _ _ _ _ _ us hl => match us, hl with | [_], _ => rfl, ok_Web_ties T F⟩
theorem ok_check_beginning (T : TT w K mg base) {fd : FuncData} (F : FunD K "check_beginning" "check_beginning" (defArgs st_check_beginning) (defBody st_check_beginning) (defScope st_check_beginning) [] [] (He.fAd K ("check_beginning", none)) fd) : FnOk PP w K mg base (L2.CX PP w) 9 (He.fAd K ("check_beginning", none)) fd ["web", "beginning"] (spD (Wof K) F_check_beginning) := by
  refine fn_D (N := ["web", "beginning", "index"]) rfl (He5.fun_of F) sc_check_beginning fun cdv A outer s H E Z C => ?_
  exact (dss_cons (ds_expr (de_call C (g_check_web T _) (by omega) (by rfl) (da_cons (de_var (pe_var (i := 0) rfl (Or.inl rfl))) da_nil))) (dss_one (ds_for C.pass C.calm (di_data C.K (de_call C (g_wrong_in_beginning T _) (by omega) (by rfl) (da_cons (de_var (pe_var (i := 1) rfl (Or.inl rfl))) (da_cons (de_b1 (bt_len C.K) (by rfl) (T.free 0) rfl (de_R (de_prop C (g_Web_ties T _) (by omega) (de_var (pe_var (i := 0) rfl (Or.inl rfl)))))) da_nil)))) (dg_name (i := 2) C.nd rfl (Or.inl rfl)) (dss_one ds_never))))
theorem g_check_beginning (T : TT w K mg base) (Z : Addr → Option V) : GFn PP w K mg base 9 "check_beginning" ["web", "beginning"] ((Wof K).withZ Z) F_check_beginning := by
  obtain ⟨fd, F⟩ := T.dfn 28 (d := d_check_beginning)
  exact ⟨_, fd, (T.glo 53), F.kp, F.bindsN (ps := ["web", "beginning"]) fun _ _ _ _ _ _ us hl => match us, hl with | [_, _], _ => rfl, ok_check_beginning T F⟩
theorem ok_Web_places (T : TT w K mg base) {fd : FuncData} (F : FunD K "places" "Web.places" (defArgs st_Web_places) (defBody st_Web_places) (defScope st_Web_places) [] [] (pgA K "Web" "places") fd) : FnOk PP w K mg base (L2.CX PP w) 1 (pgA K "Web" "places") fd ["self"] (spD (Wof K) F_Web_places) := by
  refine fn_D (N := ["self"]) rfl (He5.fun_of F) sc_Web_places fun cdv A outer s H E Z C => ?_
  exact (dss_one (ds_ret (de_R (de_ix C (de_fld (c := 0) C.K (T.cls 36) (T.noat 37) (de_var (pe_var (i := 0) rfl (Or.inl rfl)))) de_int (fun _ _ => rfl)))))
theorem g_Web_places (T : TT w K mg base) (Z : Addr → Option V) : GPr PP w K mg base 1 "places" ["self"] ((Wof K).withZ Z) 0 F_Web_places := by
  obtain ⟨fd, F⟩ := T.gtr 1 (d := d_Web_places)
  exact ⟨_, _, fd, T.cls 36, prop_of (T.ex 3), F.bindsN (ps := ["self"]) fun _ _ _ _ _ _ us hl => match us, hl with | [_], _ => rfl, ok_Web_places T F⟩
theorem ok_colour_told (T : TT w K mg base) {fd : FuncData} (F : FunD K "colour_told" "colour_told" (defArgs st_colour_told) (defBody st_colour_told) (defScope st_colour_told) [] [] (He.fAd K ("colour_told", none)) fd) : FnOk PP w K mg base (L2.CX PP w) 1 (He.fAd K ("colour_told", none)) fd ["colour"] (spD (Wof K) F_colour_told) := by
  refine fn_D (N := ["colour"]) rfl (He5.fun_of F) sc_colour_told fun cdv A outer s H E Z C => ?_
  exact (dss_one (ds_ret (de_R (de_if (dt_cmp op_isM (de_var (pe_var (i := 0) rfl (Or.inl rfl))) (de_R de_non) rfl) (de_gstr (by rfl) (T.str 56)) (de_t1 bt_str (by rfl) (T.free 19) rfl (de_R (de_var (pe_var (i := 0) rfl (Or.inl rfl)))))))))
theorem g_colour_told (T : TT w K mg base) (Z : Addr → Option V) : GFn PP w K mg base 1 "colour_told" ["colour"] ((Wof K).withZ Z) F_colour_told := by
  obtain ⟨fd, F⟩ := T.dfn 29 (d := d_colour_told)
  exact ⟨_, fd, (T.glo 57), F.kp, F.bindsN (ps := ["colour"]) fun _ _ _ _ _ _ us hl => match us, hl with | [_], _ => rfl, ok_colour_told T F⟩
theorem ok_rows_by (T : TT w K mg base) {fd : FuncData} (F : FunD K "rows_by" "rows_by" (defArgs st_rows_by) (defBody st_rows_by) (defScope st_rows_by) [] [] (He.fAd K ("rows_by", none)) fd) : FnOk PP w K mg base (L2.CX PP w) 3 (He.fAd K ("rows_by", none)) fd ["web", "beginning"] (spD (Wof K) F_rows_by) := by
  refine fn_D (N := ["web", "beginning", "rows", "place", "one", "other", "colour"]) rfl (He5.fun_of F) sc_rows_by fun cdv A outer s H E Z C => ?_
  exact (dss_cons (ds_ownLc (i := 2) (own := [("place", 3)]) C.calm C.nd rfl rfl (sw_true rfl rfl rfl (by decide +kernel)) (di_data C.K (de_prop C (g_Web_places T _) (by omega) (de_var (pe_var (i := 0) rfl (Or.inl rfl))))) (blkOk_by (by kernel_rfl)) (fun _ _ _ _ _ => (dg_name (i := 3) (C.blk _ _ _ _ _ _).nd rfl (Or.inl rfl))) (fun _ _ _ _ _ => dts_nil) (fun _ _ _ _ _ => (de_joined (pjd_cons (de_fmt (de_gstr (by rfl) (T.str 54))) (pjd_cons de_str (pjd_cons (de_fmt (de_var (pe_var (i := 3) rfl (Or.inl rfl)))) pjd_nil)))))) (dss_cons (ds_expr (de_extend (pe_var (i := 2) rfl (Or.inl rfl)) (df_lc (own := [("one", 4), ("other", 5), ("colour", 6)]) C.calm C.nd (di_zip C.K (by rfl) (T.free 42) (da_cons (de_prop C (g_Web_ties T _) (by omega) (de_var (pe_var (i := 0) rfl (Or.inl rfl)))) (da_cons (de_var (pe_var (i := 1) rfl (Or.inl rfl))) da_nil))) (blkOk_by (by kernel_rfl)) (fun _ _ _ _ _ => (dg_tup (C.blk _ _ _ _ _ _).K (C.blk _ _ _ _ _ _).calm (dgs_cons (dg_tup (C.blk _ _ _ _ _ _).K (C.blk _ _ _ _ _ _).calm (dgs_cons (dg_name (i := 4) (C.blk _ _ _ _ _ _).nd rfl (Or.inl rfl)) (dgs_cons (dg_name (i := 5) (C.blk _ _ _ _ _ _).nd rfl (Or.inl rfl)) dgs_nil))) (dgs_cons (dg_name (i := 6) (C.blk _ _ _ _ _ _).nd rfl (Or.inl rfl)) dgs_nil)))) (fun _ _ _ _ _ => dts_nil) (fun _ _ _ _ _ => (de_joined (pjd_cons (de_fmt (de_gstr (by rfl) (T.str 55))) (pjd_cons de_str (pjd_cons (de_fmt (de_var (pe_var (i := 4) rfl (Or.inl rfl)))) (pjd_cons de_str (pjd_cons (de_fmt (de_var (pe_var (i := 5) rfl (Or.inl rfl)))) (pjd_cons de_str (pjd_cons (de_fmt (de_call (C.blk _ _ _ _ _ _) (g_colour_told T _) (by omega) (by rfl) (da_cons (de_var (pe_var (i := 6) rfl (Or.inl rfl))) da_nil))) pjd_nil)))))))))))) (dss_one (ds_ret (de_R (de_t1 (bt_tuple C.K) (by rfl) (T.free 10) rfl (de_varR (pe_var (i := 2) rfl (Or.inl rfl)))))))))
theorem g_rows_by (T : TT w K mg base) (Z : Addr → Option V) : GFn PP w K mg base 3 "rows_by" ["web", "beginning"] ((Wof K).withZ Z) F_rows_by := by
  obtain ⟨fd, F⟩ := T.dfn 30 (d := d_rows_by)
  exact ⟨_, fd, (T.glo 58), F.kp, F.bindsN (ps := ["web", "beginning"]) fun _ _ _ _ _ _ us hl => match us, hl with | [_, _], _ => rfl, ok_rows_by T F⟩
theorem ok_web_rows (T : TT w K mg base) {fd : FuncData} (F : FunD K "web_rows" "web_rows" (defArgs st_web_rows) (defBody st_web_rows) (defScope st_web_rows) [] [] (He.fAd K ("web_rows", none)) fd) : FnOk PP w K mg base (L2.CX PP w) 10 (He.fAd K ("web_rows", none)) fd ["web", "beginning"] (spD (Wof K) F_web_rows) := by
  refine fn_D (N := ["web", "beginning"]) rfl (He5.fun_of F) sc_web_rows fun cdv A outer s H E Z C => ?_
  exact (dss_cons (ds_expr (de_call C (g_check_beginning T _) (by omega) (by rfl) (da_cons (de_var (pe_var (i := 0) rfl (Or.inl rfl))) (da_cons (de_var (pe_var (i := 1) rfl (Or.inl rfl))) da_nil)))) (dss_one (ds_ret (de_R (de_call C (g_rows_by T _) (by omega) (by rfl) (da_cons (de_var (pe_var (i := 0) rfl (Or.inl rfl))) (da_cons (de_var (pe_var (i := 1) rfl (Or.inl rfl))) da_nil)))))))
theorem g_web_rows (T : TT w K mg base) (Z : Addr → Option V) : GFn PP w K mg base 10 "web_rows" ["web", "beginning"] ((Wof K).withZ Z) F_web_rows := by
  obtain ⟨fd, F⟩ := T.dfn 31 (d := d_web_rows)
  exact ⟨_, fd, (T.glo 59), F.kp, F.bindsN (ps := ["web", "beginning"]) fun _ _ _ _ _ _ us hl => match us, hl with | [_, _], _ => rfl, ok_web_rows T F⟩
theorem kw_web_rows_0_beginning_web (T : TT w K mg base) (Z : Addr → Option V) : GKw PP w K mg base 10 "web_rows" ["web", "beginning"] 0 ["beginning", "web"] [1, 0] ((Wof K).withZ Z) F_web_rows := by
  obtain ⟨fd, F⟩ := T.dfn 31 (d := d_web_rows)
  exact ⟨_, fd, (T.glo 59), F.kp, kwB_of F (fun _ _ _ _ _ _ us ws h1 h2 => match us, h1, ws, h2 with | [], _, [_, _], _ => rfl), ok_web_rows T F⟩
theorem ok_is_figures (T : TT w K mg base) {fd : FuncData} (F : FunD K "is_figures" "is_figures" (defArgs st_is_figures) (defBody st_is_figures) (defScope st_is_figures) [] [] (He.fAd K ("is_figures", none)) fd) : FnOk PP w K mg base (L2.CX PP w) 1 (He.fAd K ("is_figures", none)) fd ["word"] (spD (Wof K) F_is_figures) := by
  refine fn_D (N := ["word", "sign"]) rfl (He5.fun_of F) sc_is_figures fun cdv A outer s H E Z C => ?_
  exact (dss_cons (ds_if (PW.pt (dw_or (dt_cmp (op_eqM C) (de_var (pe_var (i := 0) rfl (Or.inl rfl))) (de_R de_str) rfl) (dw_or (dt_cmp op_gtM (de_b1 (bt_len C.K) (by rfl) (T.free 0) rfl (de_R (de_var (pe_var (i := 0) rfl (Or.inl rfl))))) (de_R (de_gint (by rfl) (T.int 62))) rfl) (dw_or1 (dt_not (dt_truth C.K (de_R (de_b1 (bt_all C.calm) (by rfl) (T.free 21) rfl (de_R (de_F (df_lc (own := [("sign", 1)]) C.calm C.nd (di_data C.K (de_var (pe_var (i := 0) rfl (Or.inl rfl)))) (blkOk_by (by kernel_rfl)) (fun _ _ _ _ _ => (dg_name (i := 1) (C.blk _ _ _ _ _ _).nd rfl (Or.inl rfl))) (fun _ _ _ _ _ => dts_nil) (fun _ _ _ _ _ => (de_cmp (op_inM (C.blk _ _ _ _ _ _)) (de_var (pe_var (i := 1) rfl (Or.inl rfl))) (de_R (de_gstr (by rfl) (T.str 63))) rfl))))))) (fun _ => rfl))))))) (dss_one (ds_ret (de_R de_bl))) dss_nil) (dss_one (ds_ret (de_R (de_or (de_cmp (op_eqM C) (de_var (pe_var (i := 0) rfl (Or.inl rfl))) (de_R de_str) rfl) (de_one (de_cmp (op_neM C) (de_ix C (de_var (pe_var (i := 0) rfl (Or.inl rfl))) de_int (fun _ _ => rfl)) (de_R de_str) rfl)))))))
theorem g_is_figures (T : TT w K mg base) (Z : Addr → Option V) : GFn PP w K mg base 1 "is_figures" ["word"] ((Wof K).withZ Z) F_is_figures := by
  obtain ⟨fd, F⟩ := T.dfn 32 (d := d_is_figures)
  exact ⟨_, fd, (T.glo 64), F.kp, F.bindsN (ps := ["word"]) fun _ _ _ _ _ _ us hl => match us, hl with | [_], _ => rfl, ok_is_figures T F⟩
theorem ok_told_row (T : TT w K mg base) {fd : FuncData} (F : FunD K "told_row" "told_row" (defArgs st_told_row) (defBody st_told_row) (defScope st_told_row) [] [] (He.fAd K ("told_row", none)) fd) : FnOk PP w K mg base (L2.CX PP w) 2 (He.fAd K ("told_row", none)) fd ["value"] (spD (Wof K) F_told_row) := by
  refine fn_D (N := ["value", "words", "word"]) rfl (He5.fun_of F) sc_told_row fun cdv A outer s H E Z C => ?_
  exact (dss_cons (ds_asg (de_if (dt_truth C.K (de_R (de_b2 bt_isi (by rfl) (T.free 14) rfl (de_var (pe_var (i := 0) rfl (Or.inl rfl))) (de_R (de_ty (by rfl) (T.free 19) (by rfl))))) (fun _ => rfl)) (de_t1 (bt_tuple C.K) (by rfl) (T.free 10) rfl (de_R (de_F (df_split (de_var (pe_var (i := 0) rfl (Or.inl rfl))) de_str)))) (de_tup (da_cons de_str da_nil))) (dg_name (i := 1) C.nd rfl (Or.inl rfl))) (dss_cons (ds_if (PW.pt (dw_or (dt_cmp (op_notInM C) (de_ix C (de_var (pe_var (i := 1) rfl (Or.inl rfl))) de_int (fun _ _ => rfl)) (de_R (de_gK (by rfl) (T.glo 60) (krep_strs (T.ex 4) (by decide)))) rfl) (dw_or (dt_cmp (op_neM C) (de_b1 (bt_len C.K) (by rfl) (T.free 0) rfl (de_R (de_var (pe_var (i := 1) rfl (Or.inl rfl))))) (de_R (de_kget C.K (pe_glob (v := .ref (He.ga _ "LONG")) (by rfl) (T.glo 61) rfl) (de_ix C (de_var (pe_var (i := 1) rfl (Or.inl rfl))) de_int (fun _ _ => rfl)) (kd_LONG T) (fun _ _ => rfl))) rfl) (dw_or1 (dt_not (dt_truth C.K (de_R (de_b1 (bt_all C.calm) (by rfl) (T.free 21) rfl (de_R (de_F (df_lc (own := [("word", 2)]) C.calm C.nd (di_data C.K (de_slice C (de_var (pe_var (i := 1) rfl (Or.inl rfl))) (do_some de_int) (do_some de_int))) (blkOk_by (by kernel_rfl)) (fun _ _ _ _ _ => (dg_name (i := 2) (C.blk _ _ _ _ _ _).nd rfl (Or.inl rfl))) (fun _ _ _ _ _ => dts_nil) (fun _ _ _ _ _ => (de_call (C.blk _ _ _ _ _ _) (g_is_word T _) (by omega) (by rfl) (da_cons (de_var (pe_var (i := 2) rfl (Or.inl rfl))) da_nil)))))))) (fun _ => rfl))))))) (dss_one (ds_ret (de_R (de_tup da_nil)))) dss_nil) (dss_one (ds_ret (de_R (de_if (PW.pt (dw_or (dt_cmp (op_eqM C) (de_ix C (de_var (pe_var (i := 1) rfl (Or.inl rfl))) de_int (fun _ _ => rfl)) (de_R (de_gstr (by rfl) (T.str 54))) rfl) (dw_or (dt_cmp (op_eqM C) (de_ix C (de_var (pe_var (i := 1) rfl (Or.inl rfl))) de_int (fun _ _ => rfl)) (de_R (de_gstr (by rfl) (T.str 56))) rfl) (dw_or1 (dt_truth C.K (de_R (de_call C (g_is_figures T _) (by omega) (by rfl) (da_cons (de_ix C (de_var (pe_var (i := 1) rfl (Or.inl rfl))) de_int (fun _ _ => rfl)) da_nil))) (fun _ => rfl)))))) (de_var (pe_var (i := 1) rfl (Or.inl rfl))) (de_tup da_nil)))))))
theorem g_told_row (T : TT w K mg base) (Z : Addr → Option V) : GFn PP w K mg base 2 "told_row" ["value"] ((Wof K).withZ Z) F_told_row := by
  obtain ⟨fd, F⟩ := T.dfn 33 (d := d_told_row)
  exact ⟨_, fd, (T.glo 65), F.kp, F.bindsN (ps := ["value"]) fun _ _ _ _ _ _ us hl => match us, hl with | [_], _ => rfl, ok_told_row T F⟩
theorem ok_wrong_in_lines (T : TT w K mg base) {fd : FuncData} (F : FunD K "wrong_in_lines" "wrong_in_lines" (defArgs st_wrong_in_lines) (defBody st_wrong_in_lines) (defScope st_wrong_in_lines) [] [] (He.fAd K ("wrong_in_lines", none)) fd) : FnOk PP w K mg base (L2.CX PP w) 3 (He.fAd K ("wrong_in_lines", none)) fd ["value"] (spD (Wof K) F_wrong_in_lines) := by
  refine fn_D (N := ["value", "ahead", "index", "words", "row"]) rfl (He5.fun_of F) sc_wrong_in_lines fun cdv A outer s H E Z C => ?_
  exact (dss_cons (ds_if (PW.pt (dw_or (dt_not (dt_truth C.K (de_R (de_b2 bt_isi (by rfl) (T.free 14) rfl (de_var (pe_var (i := 0) rfl (Or.inl rfl))) (de_R (de_ty (by rfl) (T.free 10) (by rfl))))) (fun _ => rfl))) (dw_or1 (dt_cmp (op_eqM C) (de_var (pe_var (i := 0) rfl (Or.inl rfl))) (de_R (de_tup da_nil)) rfl)))) (dss_one (ds_ret (de_R (de_F (df_lst (da_cons de_non da_nil)))))) dss_nil) (dss_cons (ds_asg (de_gstr (by rfl) (T.str 54)) (dg_name (i := 1) C.nd rfl (Or.inl rfl))) (dss_cons (ds_for C.pass C.calm (di_enum C.K (by rfl) (T.free 15) (da_cons (de_F (df_lc (own := [("row", 4)]) C.calm C.nd (di_data C.K (de_var (pe_var (i := 0) rfl (Or.inl rfl)))) (blkOk_by (by kernel_rfl)) (fun _ _ _ _ _ => (dg_name (i := 4) (C.blk _ _ _ _ _ _).nd rfl (Or.inl rfl))) (fun _ _ _ _ _ => dts_nil) (fun _ _ _ _ _ => (de_call (C.blk _ _ _ _ _ _) (g_told_row T _) (by omega) (by rfl) (da_cons (de_var (pe_var (i := 4) rfl (Or.inl rfl))) da_nil))))) da_nil)) (dg_tup C.K C.calm (dgs_cons (dg_name (i := 2) C.nd rfl (Or.inl rfl)) (dgs_cons (dg_name (i := 3) C.nd rfl (Or.inl rfl)) dgs_nil))) (dss_cons (ds_if (PW.pt (dw_or (dt_cmp (op_eqM C) (de_var (pe_var (i := 3) rfl (Or.inl rfl))) (de_R (de_tup da_nil)) rfl) (dw_or1 (dt_cmp (op_ltM C) (de_kindex (ktup_of (T.ex 5)) (pe_glob (by rfl) (T.glo 60) rfl) (de_ix C (de_var (pe_var (i := 3) rfl (Or.inl rfl))) de_int (fun _ _ => rfl))) (de_R (de_kindex (ktup_of (T.ex 5)) (pe_glob (by rfl) (T.glo 60) rfl) (de_var (pe_var (i := 1) rfl (Or.inl rfl))))) rfl)))) (dss_one (ds_ret (de_R (de_F (df_lst (da_cons (de_var (pe_var (i := 2) rfl (Or.inl rfl))) da_nil)))))) dss_nil) (dss_one (ds_asg (de_ix C (de_var (pe_var (i := 3) rfl (Or.inl rfl))) de_int (fun _ _ => rfl)) (dg_name (i := 1) C.nd rfl (Or.inl rfl)))))) (dss_one (ds_ret (de_R (de_F (df_lst da_nil))))))))
theorem g_wrong_in_lines (T : TT w K mg base) (Z : Addr → Option V) : GFn PP w K mg base 3 "wrong_in_lines" ["value"] ((Wof K).withZ Z) F_wrong_in_lines := by
  obtain ⟨fd, F⟩ := T.dfn 34 (d := d_wrong_in_lines)
  exact ⟨_, fd, (T.glo 66), F.kp, F.bindsN (ps := ["value"]) fun _ _ _ _ _ _ us hl => match us, hl with | [_], _ => rfl, ok_wrong_in_lines T F⟩
theorem ok_told_by (T : TT w K mg base) {fd : FuncData} (F : FunD K "told_by" "told_by" (defArgs st_told_by) (defBody st_told_by) (defScope st_told_by) [] [] (He.fAd K ("told_by", none)) fd) : FnOk PP w K mg base (L2.CX PP w) 3 (He.fAd K ("told_by", none)) fd ["rows"] (spD (Wof K) F_told_by) := by
  refine fn_D (N := ["rows", "told", "lines", "begun", "row", "words"]) rfl (He5.fun_of F) sc_told_by fun cdv A outer s H E Z C => ?_
  exact (dss_cons (ds_setLc (i := 1) (own := [("row", 4)]) C.calm C.nd rfl rfl (sw_true rfl rfl rfl (by decide +kernel)) (di_data C.K (de_var (pe_var (i := 0) rfl (Or.inl rfl)))) (blkOk_by (by kernel_rfl)) (fun _ _ _ _ _ => (dg_name (i := 4) (C.blk _ _ _ _ _ _).nd rfl (Or.inl rfl))) (fun _ _ _ _ _ => dts_nil) (fun _ _ _ _ _ => (de_call (C.blk _ _ _ _ _ _) (g_told_row T _) (by omega) (by rfl) (da_cons (de_var (pe_var (i := 4) rfl (Or.inl rfl))) da_nil)))) (dss_cons (ds_setLc (i := 2) (own := [("words", 5)]) C.calm C.nd rfl rfl (sw_true rfl rfl rfl (by decide +kernel)) (di_data C.K (de_var (pe_var (i := 1) rfl (Or.inl rfl)))) (blkOk_by (by kernel_rfl)) (fun _ _ _ _ _ => (dg_name (i := 5) (C.blk _ _ _ _ _ _).nd rfl (Or.inl rfl))) (fun _ _ _ _ _ => (dts_one (dt_cmp (op_eqM (C.blk _ _ _ _ _ _)) (de_ix (C.blk _ _ _ _ _ _) (de_var (pe_var (i := 5) rfl (Or.inl rfl))) de_int (fun _ _ => rfl)) (de_R (de_gstr (by rfl) (T.str 55))) rfl))) (fun _ _ _ _ _ => (de_var (pe_var (i := 5) rfl (Or.inl rfl))))) (dss_cons (ds_asg (de_t1 (bt_tuple C.K) (by rfl) (T.free 10) rfl (de_R (de_F (df_lc (own := [("words", 5)]) C.calm C.nd (di_data C.K (de_var (pe_var (i := 2) rfl (Or.inl rfl)))) (blkOk_by (by kernel_rfl)) (fun _ _ _ _ _ => (dg_name (i := 5) (C.blk _ _ _ _ _ _).nd rfl (Or.inl rfl))) (fun _ _ _ _ _ => dts_nil) (fun _ _ _ _ _ => (de_if (dt_cmp (op_eqM (C.blk _ _ _ _ _ _)) (de_ix (C.blk _ _ _ _ _ _) (de_var (pe_var (i := 5) rfl (Or.inl rfl))) de_int (fun _ _ => rfl)) (de_R (de_gstr (by rfl) (T.str 56))) rfl) de_non (de_t1 bt_int (by rfl) (T.free 5) rfl (de_R (de_ix (C.blk _ _ _ _ _ _) (de_var (pe_var (i := 5) rfl (Or.inl rfl))) de_int (fun _ _ => rfl)))))))))) (dg_name (i := 3) C.nd rfl (Or.inl rfl))) (dss_one (ds_ret (de_R (de_tup (da_cons (de_t1 (bt_tuple C.K) (by rfl) (T.free 10) rfl (de_R (de_F (df_lc (own := [("words", 5)]) C.calm C.nd (di_data C.K (de_var (pe_var (i := 1) rfl (Or.inl rfl)))) (blkOk_by (by kernel_rfl)) (fun _ _ _ _ _ => (dg_name (i := 5) (C.blk _ _ _ _ _ _).nd rfl (Or.inl rfl))) (fun _ _ _ _ _ => (dts_one (dt_cmp (op_eqM (C.blk _ _ _ _ _ _)) (de_ix (C.blk _ _ _ _ _ _) (de_var (pe_var (i := 5) rfl (Or.inl rfl))) de_int (fun _ _ => rfl)) (de_R (de_gstr (by rfl) (T.str 54))) rfl))) (fun _ _ _ _ _ => (de_ix (C.blk _ _ _ _ _ _) (de_var (pe_var (i := 5) rfl (Or.inl rfl))) de_int (fun _ _ => rfl))))))) (da_cons (de_t1 (bt_tuple C.K) (by rfl) (T.free 10) rfl (de_R (de_F (df_lc (own := [("words", 5)]) C.calm C.nd (di_data C.K (de_var (pe_var (i := 2) rfl (Or.inl rfl)))) (blkOk_by (by kernel_rfl)) (fun _ _ _ _ _ => (dg_name (i := 5) (C.blk _ _ _ _ _ _).nd rfl (Or.inl rfl))) (fun _ _ _ _ _ => dts_nil) (fun _ _ _ _ _ => (de_slice (C.blk _ _ _ _ _ _) (de_var (pe_var (i := 5) rfl (Or.inl rfl))) (do_some de_int) (do_some de_int))))))) (da_cons (de_var (pe_var (i := 3) rfl (Or.inl rfl))) da_nil))))))))))
theorem g_told_by (T : TT w K mg base) (Z : Addr → Option V) : GFn PP w K mg base 3 "told_by" ["rows"] ((Wof K).withZ Z) F_told_by := by
  obtain ⟨fd, F⟩ := T.dfn 35 (d := d_told_by)
  exact ⟨_, fd, (T.glo 67), F.kp, F.bindsN (ps := ["rows"]) fun _ _ _ _ _ _ us hl => match us, hl with | [_], _ => rfl, ok_told_by T F⟩
theorem ok_read_web (T : TT w K mg base) {fd : FuncData} (F : FunD K "read_web" "read_web" (defArgs st_read_web) (defBody st_read_web) (defScope st_read_web) [] [] (He.fAd K ("read_web", none)) fd) : FnOk PP w K mg base (L2.CX PP w) 10 (He.fAd K ("read_web", none)) fd ["rows"] (spD (Wof K) F_read_web) := by
  refine fn_D (N := ["rows", "index", "places", "ties", "beginning", "web"]) rfl (He5.fun_of F) sc_read_web fun cdv A outer s H E Z C => ?_
  exact (dss_cons (ds_for C.pass C.calm (di_data C.K (de_call C (g_wrong_in_lines T _) (by omega) (by rfl) (da_cons (de_var (pe_var (i := 0) rfl (Or.inl rfl))) da_nil))) (dg_name (i := 1) C.nd rfl (Or.inl rfl)) (dss_one ds_never)) (dss_cons (ds_asg (de_call C (g_told_by T _) (by omega) (by rfl) (da_cons (de_var (pe_var (i := 0) rfl (Or.inl rfl))) da_nil)) (dg_tup C.K C.calm (dgs_cons (dg_name (i := 2) C.nd rfl (Or.inl rfl)) (dgs_cons (dg_name (i := 3) C.nd rfl (Or.inl rfl)) (dgs_cons (dg_name (i := 4) C.nd rfl (Or.inl rfl)) dgs_nil))))) (dss_cons (ds_asg (de_makeV C (mk_Web T _) (by omega) (by rfl) (da_cons (de_var (pe_var (i := 2) rfl (Or.inl rfl))) (da_cons (de_var (pe_var (i := 3) rfl (Or.inl rfl))) da_nil))) (dg_name (i := 5) C.nd rfl (Or.inl rfl))) (dss_cons (ds_expr (de_call C (g_check_beginning T _) (by omega) (by rfl) (da_cons (de_var (pe_var (i := 5) rfl (Or.inl rfl))) (da_cons (de_var (pe_var (i := 4) rfl (Or.inl rfl))) da_nil)))) (dss_one (ds_ret (de_R (de_tup (da_cons (de_var (pe_var (i := 5) rfl (Or.inl rfl))) (da_cons (de_var (pe_var (i := 4) rfl (Or.inl rfl))) da_nil))))))))))
theorem g_read_web (T : TT w K mg base) (Z : Addr → Option V) : GFn PP w K mg base 10 "read_web" ["rows"] ((Wof K).withZ Z) F_read_web := by
  obtain ⟨fd, F⟩ := T.dfn 36 (d := d_read_web)
  exact ⟨_, fd, (T.glo 68), F.kp, F.bindsN (ps := ["rows"]) fun _ _ _ _ _ _ us hl => match us, hl with | [_], _ => rfl, ok_read_web T F⟩
theorem kw_read_web_0_rows (T : TT w K mg base) (Z : Addr → Option V) : GKw PP w K mg base 10 "read_web" ["rows"] 0 ["rows"] [0] ((Wof K).withZ Z) F_read_web := by
  obtain ⟨fd, F⟩ := T.dfn 36 (d := d_read_web)
  exact ⟨_, fd, (T.glo 68), F.kp, kwB_of F (fun _ _ _ _ _ _ us ws h1 h2 => match us, h1, ws, h2 with | [], _, [_], _ => rfl), ok_read_web T F⟩
theorem ok_Web_parts (T : TT w K mg base) {fd : FuncData} (F : FunD K "parts" "Web.parts" (defArgs st_Web_parts) (defBody st_Web_parts) (defScope st_Web_parts) [] [] (pgA K "Web" "parts") fd) : FnOk PP w K mg base (L2.CX PP w) 1 (pgA K "Web" "parts") fd ["self"] (spD (Wof K) F_Web_parts) := by
  refine fn_D (N := ["self"]) rfl (He5.fun_of F) sc_Web_parts fun cdv A outer s H E Z C => ?_
  exact (dss_one (ds_ret (de_R (de_fld (c := 0) C.K (T.cls 36) (T.noat 37) (de_var (pe_var (i := 0) rfl (Or.inl rfl)))))))
theorem g_Web_parts (T : TT w K mg base) (Z : Addr → Option V) : GPr PP w K mg base 1 "parts" ["self"] ((Wof K).withZ Z) 0 F_Web_parts := by
  obtain ⟨fd, F⟩ := T.gtr 2 (d := d_Web_parts)
  exact ⟨_, _, fd, T.cls 36, prop_of (T.ex 6), F.bindsN (ps := ["self"]) fun _ _ _ _ _ _ us hl => match us, hl with | [_], _ => rfl, ok_Web_parts T F⟩
theorem ok_Web___eq__ (T : TT w K mg base) {fd : FuncData} (F : FunD K "__eq__" "Web.__eq__" (defArgs st_Web___eq__) (defBody st_Web___eq__) (defScope st_Web___eq__) [] [] (He.fAd K ("Web", some "__eq__")) fd) : FnOk PP w K mg base (L2.CX PP w) 3 (He.fAd K ("Web", some "__eq__")) fd ["self", "other"] (spD (Wof K) F_Web___eq__) := by
  refine fn_D (N := ["self", "other"]) rfl (He5.fun_of F) sc_Web___eq__ fun cdv A outer s H E Z C => ?_
  exact (dss_one (ds_ret (de_R (de_and (de_iso (c := 0) C.K (ic_Web T) (by rfl) (T.free 14) rfl (by rfl) (T.glo 38) (de_var (pe_var (i := 1) rfl (Or.inl rfl)))) (de_one (de_cmp (op_eqM C) (de_prop C (g_Web_parts T _) (by omega) (de_var (pe_var (i := 0) rfl (Or.inl rfl)))) (de_R (de_prop C (g_Web_parts T _) (by omega) (de_var (pe_var (i := 1) rfl (Or.inl rfl))))) rfl))))))
theorem e_Web (T : TT w K mg base) (Z : Addr → Option V) : GEq PP w K mg base 3 ["self", "other"] ((Wof K).withZ Z) 0 F_Web___eq__ := by
  obtain ⟨fd, F⟩ := T.dfn 37 (d := d_Web___eq__)
  exact ⟨_, fd, eqC_of (T.ex 7), F.bindsN (ps := ["self", "other"]) fun _ _ _ _ _ _ us hl => match us, hl with | [_, _], _ => rfl, ok_Web___eq__ T F⟩
theorem ok__law_right (T : TT w K mg base) {fd : FuncData} (F : FunD K "_law_right" "_law_right" (defArgs st__law_right) (defBody st__law_right) (defScope st__law_right) [] [] (He.fAd K ("_law_right", none)) fd) : FnOk PP w K mg base (L2.CX PP w) 11 (He.fAd K ("_law_right", none)) fd ["loft"] (spD (Wof K) F__law_right) := by
  refine fn_D (N := ["loft", "lap", "web", "made", "beginning", "rows", "told", "other", "far", "two"]) rfl (He5.fun_of F) sc__law_right fun cdv A outer s H E Z C => ?_
  exact (dss_cons (ds_for C.pass C.calm (di_range1 (by rfl) (T.free 3) (da_cons de_int da_nil)) (dg_name (i := 1) C.nd rfl (Or.inl rfl)) (dss_cons (ds_asg (de_call C (g__law_web T _) (by omega) (by rfl) (da_cons (de_var (pe_var (i := 0) rfl (Or.inl rfl))) (da_cons de_int (da_cons de_int (da_cons de_int da_nil))))) (dg_name (i := 2) C.nd rfl (Or.inl rfl))) (dss_cons (ds_par_dd (i := 3) (j := 4) C.calm C.nd rfl rfl (by decide) rfl rfl (de_call C (g__law_made T _) (by omega) (by rfl) (da_cons (de_var (pe_var (i := 2) rfl (Or.inl rfl))) da_nil)) (de_call C (g__law_begin T _) (by omega) (by rfl) (da_cons (de_var (pe_var (i := 0) rfl (Or.inl rfl))) (da_cons (de_var (pe_var (i := 2) rfl (Or.inl rfl))) da_nil))) rfl) (dss_cons (ds_asg (de_call C (g__law_text T _) (by omega) (by rfl) (da_cons (de_var (pe_var (i := 2) rfl (Or.inl rfl))) (da_cons (de_var (pe_var (i := 4) rfl (Or.inl rfl))) da_nil))) (dg_name (i := 5) C.nd rfl (Or.inl rfl))) (dss_cons (ds_if (dt_not (dt_truth C.K (de_R (de_call C (g__law_same T _) (by omega) (by rfl) (da_cons (de_F (df_lst (da_cons (de_call C (g_web_rows T _) (by omega) (by rfl) (da_cons (de_var (pe_var (i := 3) rfl (Or.inl rfl))) (da_cons (de_var (pe_var (i := 4) rfl (Or.inl rfl))) da_nil))) (da_cons (de_callK0 C (kw_web_rows_0_beginning_web T _) (by omega) (by rfl) (dk_cons (de_var (pe_var (i := 4) rfl (Or.inl rfl))) (dk_cons (de_var (pe_var (i := 3) rfl (Or.inl rfl))) dk_nil))) da_nil)))) (da_cons (de_F (df_lst (da_cons (de_var (pe_var (i := 5) rfl (Or.inl rfl))) (da_cons (de_var (pe_var (i := 5) rfl (Or.inl rfl))) da_nil)))) da_nil)))) (fun _ => rfl))) (dss_one (ds_ret (de_R de_bl))) dss_nil) (dss_cons (ds_for C.pass C.calm (di_data C.K (de_F (df_lst (da_cons (de_call C (g_read_web T _) (by omega) (by rfl) (da_cons (de_var (pe_var (i := 5) rfl (Or.inl rfl))) da_nil)) (da_cons (de_callK0 C (kw_read_web_0_rows T _) (by omega) (by rfl) (dk_cons (de_var (pe_var (i := 5) rfl (Or.inl rfl))) dk_nil)) (da_cons (de_call C (g_read_web T _) (by omega) (by rfl) (da_cons (de_call C (g_web_rows T _) (by omega) (by rfl) (da_cons (de_var (pe_var (i := 3) rfl (Or.inl rfl))) (da_cons (de_var (pe_var (i := 4) rfl (Or.inl rfl))) da_nil))) da_nil)) da_nil)))))) (dg_name (i := 6) C.nd rfl (Or.inl rfl)) (dss_one (ds_if (PW.pt (dw_or (dt_not (dt_truth C.K (de_R (de_b2 bt_isi (by rfl) (T.free 14) rfl (de_var (pe_var (i := 6) rfl (Or.inl rfl))) (de_R (de_ty (by rfl) (T.free 10) (by rfl))))) (fun _ => rfl))) (dw_or (dt_cmp (op_neM C) (de_b1 (bt_len C.K) (by rfl) (T.free 0) rfl (de_R (de_var (pe_var (i := 6) rfl (Or.inl rfl))))) (de_R de_int) rfl) (dw_or (dt_not (dt_truth C.K (de_R (de_call C (g__law_same T _) (by omega) (by rfl) (da_cons (de_F (df_lst (da_cons (de_prop C (g_Web_parts T _) (by omega) (de_ix C (de_var (pe_var (i := 6) rfl (Or.inl rfl))) de_int (fun _ _ => rfl))) (da_cons (de_ix C (de_var (pe_var (i := 6) rfl (Or.inl rfl))) de_int (fun _ _ => rfl)) da_nil)))) (da_cons (de_F (df_lst (da_cons (de_var (pe_var (i := 2) rfl (Or.inl rfl))) (da_cons (de_var (pe_var (i := 4) rfl (Or.inl rfl))) da_nil)))) da_nil)))) (fun _ => rfl))) (dw_or1 (dt_cmpD (op_neoM C (e_Web T _) (by omega)) (de_ix C (de_var (pe_var (i := 6) rfl (Or.inl rfl))) de_int (fun _ _ => rfl)) (de_var (pe_var (i := 3) rfl (Or.inl rfl))) rfl)))))) (dss_one (ds_ret (de_R de_bl))) dss_nil))) (dss_cons (ds_par_dd (i := 7) (j := 8) C.calm C.nd rfl rfl (by decide) rfl rfl (de_call C (g__law_web T _) (by omega) (by rfl) (da_cons (de_var (pe_var (i := 0) rfl (Or.inl rfl))) (da_cons de_int (da_cons de_int (da_cons de_int da_nil))))) (de_call C (g__law_begin T _) (by omega) (by rfl) (da_cons (de_var (pe_var (i := 0) rfl (Or.inl rfl))) (da_cons (de_var (pe_var (i := 2) rfl (Or.inl rfl))) da_nil))) rfl) (dss_cons (ds_asg (de_call C (g__law_begin T _) (by omega) (by rfl) (da_cons (de_var (pe_var (i := 0) rfl (Or.inl rfl))) (da_cons (de_var (pe_var (i := 7) rfl (Or.inl rfl))) da_nil))) (dg_name (i := 9) C.nd rfl (Or.inl rfl))) (dss_one (ds_if (PW.pt (dw_or (dt_cmp (op_neM C) (de_cmp (op_eqM C) (de_call C (g_web_rows T _) (by omega) (by rfl) (da_cons (de_call C (g__law_made T _) (by omega) (by rfl) (da_cons (de_var (pe_var (i := 7) rfl (Or.inl rfl))) da_nil)) (da_cons (de_var (pe_var (i := 9) rfl (Or.inl rfl))) da_nil))) (de_R (de_var (pe_var (i := 5) rfl (Or.inl rfl)))) rfl) (de_R (de_cmp (op_eqM C) (de_tup (da_cons (de_var (pe_var (i := 7) rfl (Or.inl rfl))) (da_cons (de_var (pe_var (i := 9) rfl (Or.inl rfl))) da_nil))) (de_R (de_tup (da_cons (de_var (pe_var (i := 2) rfl (Or.inl rfl))) (da_cons (de_var (pe_var (i := 4) rfl (Or.inl rfl))) da_nil)))) rfl)) rfl) (dw_or1 (dt_cmp (op_neM C) (de_cmp (op_eqM C) (de_call C (g_web_rows T _) (by omega) (by rfl) (da_cons (de_var (pe_var (i := 3) rfl (Or.inl rfl))) (da_cons (de_var (pe_var (i := 8) rfl (Or.inl rfl))) da_nil))) (de_R (de_var (pe_var (i := 5) rfl (Or.inl rfl)))) rfl) (de_R (de_cmp (op_eqM C) (de_var (pe_var (i := 8) rfl (Or.inl rfl))) (de_R (de_var (pe_var (i := 4) rfl (Or.inl rfl)))) rfl)) rfl)))) (dss_one (ds_ret (de_R de_bl))) dss_nil)))))))))) (dss_one (ds_ret (de_R de_bl))))
theorem g__law_right (T : TT w K mg base) (Z : Addr → Option V) : GFn PP w K mg base 11 "_law_right" ["loft"] ((Wof K).withZ Z) F__law_right := by
  obtain ⟨fd, F⟩ := T.dfn 38 (d := d__law_right)
  exact ⟨_, fd, (T.glo 69), F.kp, F.bindsN (ps := ["loft"]) fun _ _ _ _ _ _ us hl => match us, hl with | [_], _ => rfl, ok__law_right T F⟩
theorem ok__law_loft (T : TT w K mg base) {fd : FuncData} (F : FunD K "_law_loft" "_law_loft" (defArgs st__law_loft) (defBody st__law_loft) (defScope st__law_loft) [] [] (He.fAd K ("_law_loft", none)) fd) : FnOk PP w K mg base (L2.CX PP w) 1 (He.fAd K ("_law_loft", none)) fd ["script", "lap"] (spD (Wof K) F__law_loft) := by
  refine fn_D (N := ["script", "lap", "own", "stir", "cell"]) rfl (He5.fun_of F) sc__law_loft fun cdv A outer s H E Z C => ?_
  exact (dss_cons (ds_asg (de_if (dt_cmp (op_ltM C) (de_var (pe_var (i := 1) rfl (Or.inl rfl))) (de_R (de_b1 (bt_len C.K) (by rfl) (T.free 0) rfl (de_R (de_var (pe_var (i := 0) rfl (Or.inl rfl)))))) rfl) (de_t1 bt_int (by rfl) (T.free 5) rfl (de_R (de_ix C (de_var (pe_var (i := 0) rfl (Or.inl rfl))) (de_var (pe_var (i := 1) rfl (Or.inl rfl))) (fun _ _ => rfl)))) de_int) (dg_name (i := 2) C.nd rfl (Or.inl rfl))) (dss_cons (ds_asg (de_op (op_addM C.K) de_int (de_R (de_op op_mulM de_int (de_R (de_var (pe_var (i := 1) rfl (Or.inl rfl))))))) (dg_name (i := 3) C.nd rfl (Or.inl rfl))) (dss_cons (ds_for C.pass C.calm (di_data C.K (de_op (op_addM C.K) (de_slice C (de_var (pe_var (i := 0) rfl (Or.inl rfl))) do_none (do_some de_int)) (de_R (de_F (df_lst (da_cons (de_var (pe_var (i := 2) rfl (Or.inl rfl))) da_nil)))))) (dg_name (i := 4) C.nd rfl (Or.inl rfl)) (dss_one (ds_asg (de_op op_modM (de_t1 bt_int (by rfl) (T.free 5) rfl (de_R (de_op (op_addM C.K) (de_op (op_addM C.K) (de_op op_mulM (de_var (pe_var (i := 3) rfl (Or.inl rfl))) (de_R de_int)) (de_R (de_op op_modM (de_t1 bt_int (by rfl) (T.free 5) rfl (de_R (de_var (pe_var (i := 4) rfl (Or.inl rfl))))) (de_R de_int)))) (de_R de_int)))) (de_R de_int)) (dg_name (i := 3) C.nd rfl (Or.inl rfl))))) (dss_one (ds_retLoc (df_lst (da_cons (de_if (PW.pt (dw_or (dt_cmp (op_ltM C) (de_var (pe_var (i := 2) rfl (Or.inl rfl))) (de_R de_int) rfl) (dw_or1 (dt_cmp op_geM (de_var (pe_var (i := 2) rfl (Or.inl rfl))) (de_R (de_op op_powM de_int (de_R de_int))) rfl)))) (de_op op_modM (de_b1 bt_abs (by rfl) (T.free 70) rfl (de_R (de_var (pe_var (i := 2) rfl (Or.inl rfl))))) (de_R (de_op op_powM de_int (de_R de_int)))) de_int) (da_cons (de_var (pe_var (i := 3) rfl (Or.inl rfl))) (da_cons de_int da_nil)))))))))
theorem g__law_loft (T : TT w K mg base) (Z : Addr → Option V) : GFn PP w K mg base 1 "_law_loft" ["script", "lap"] ((Wof K).withZ Z) F__law_loft := by
  obtain ⟨fd, F⟩ := T.dfn 39 (d := d__law_loft)
  exact ⟨_, fd, (T.glo 71), F.kp, F.bindsN (ps := ["script", "lap"]) fun _ _ _ _ _ _ us hl => match us, hl with | [_, _], _ => rfl, ok__law_loft T F⟩
theorem ok_law (T : TT w K mg base) {fd : FuncData} (F : FunD K "law" "law" (defArgs st_law) (defBody st_law) (defScope st_law) [] [] (He.fAd K ("law", none)) fd) : FnOk PP w K mg base (L2.CX PP w) 12 (He.fAd K ("law", none)) fd ["script"] (spD (Wof K) F_law) := by
  refine fn_D (N := ["script", "lap"]) rfl (He5.fun_of F) sc_law fun cdv A outer s H E Z C => ?_
  exact (dss_one (ds_ret (de_R (de_b1 (bt_all C.calm) (by rfl) (T.free 21) rfl (de_R (de_F (df_lc (own := [("lap", 1)]) C.calm C.nd (di_range1 (by rfl) (T.free 3) (da_cons (de_b2 (bt_max C.calm) (by rfl) (T.free 2) rfl de_int (de_R (de_b2 (bt_min C.calm) (by rfl) (T.free 1) rfl (de_b1 (bt_len C.K) (by rfl) (T.free 0) rfl (de_R (de_var (pe_var (i := 0) rfl (Or.inr (Or.inl rfl)))))) (de_R de_int)))) da_nil)) (blkOk_by (by kernel_rfl)) (fun _ _ _ _ _ => (dg_name (i := 1) (C.blk _ _ _ _ _ _).nd rfl (Or.inl rfl))) (fun _ _ _ _ _ => dts_nil) (fun _ _ _ _ _ => (de_call (C.blk _ _ _ _ _ _) (g__law_right T _) (by omega) (by rfl) (da_cons (de_call (C.blk _ _ _ _ _ _) (g__law_loft T _) (by omega) (by rfl) (da_cons (de_var (pe_var (i := 0) rfl (Or.inr (Or.inl rfl)))) (da_cons (de_var (pe_var (i := 1) rfl (Or.inl rfl))) da_nil))) da_nil))))))))))
theorem g_law (T : TT w K mg base) (Z : Addr → Option V) : GFn PP w K mg base 12 "law" ["script"] ((Wof K).withZ Z) F_law := by
  obtain ⟨fd, F⟩ := T.dfn 40 (d := d_law)
  exact ⟨_, fd, (T.glo 72), F.kp, F.bindsN (ps := ["script"]) fun _ _ _ _ _ _ us hl => match us, hl with | [_], _ => rfl, ok_law T F⟩
end
end LW
end
section
set_option Elab.async false
set_option linter.all false
set_option maxRecDepth 100000
set_option maxHeartbeats 0
namespace LW
open PySem PySem.Spec PyProof.Rows L2 DL
def nm0 : List Str := ["LETTERS", "MOST_LETTERS", "WORDS", "is_whole", "is_between", "is_one_of", "is_word", "is_name", "is_tuple_of", "is_pair", "wrong_in", "wrong_in_all", "are_below", "LEAST_PLACES", "MOST_PLACES", "MOST_TIES", "MOST_COLOUR", "wrong_in_places", "is_tie_of", "wrong_in_ties", "beside", "do_hang", "is_colour", "wrong_in_beginning", "WayError", "ValueError", "NotAWeb", "InvalidPlaces", "InvalidTies", "InvalidBeginning"]
def nm1 : List Str := ["InvalidText", "NotWhole", "Web", "check_web", "check_beginning", "PLACE", "TIE", "ORDER", "LONG", "OPEN", "FIGURES", "MOST_FIGURES", "is_figures", "told_row", "wrong_in_lines", "told_by", "colour_told", "rows_by", "web_rows", "read_web", "_law_loft", "_law_beam", "_law_of", "_law_same", "_law_own", "_law_names", "_law_web", "_law_made", "_law_text", "_law_begin"]
def nm2 : List Str := ["_law_right"]
def NM : List Str := nm0 ++ nm1 ++ nm2
abbrev RR : PySem.W.OpenRow := PySem.W.OpenLaw.row PySem.Challenge.rw_rainbowways_k83_whole_texts_of_webs
abbrev hk : PySem.W.Hook := hookP 6 FA FN GT TS TF EX
def ob (s : PySem.W.SharedT) : AlP := obsP 6 FA FN GT TS TF EX (HandSHeadRun.getT s)
theorem ob_eq (s : PySem.W.SharedT) : ob s = hk.obs s.abs := obsP_eq (HandSHeadRun.getT_eq s)
theorem runF (w : World) : HandSHeadRun.RunEq RR (PySem.W.view RR.prog [69]) hk ob 6000 NM (w.withFollow "special-get-raises" false) := by
  intro os
  kernel_rfl
theorem runT (w : World) : HandSHeadRun.RunEq RR (PySem.W.view RR.prog [69]) hk ob 6000 NM (w.withFollow "special-get-raises" true) := by
  intro os
  kernel_rfl
theorem run (w : World) : HandSHeadRun.RunEq RR (PySem.W.view RR.prog [69]) hk ob 6000 NM w := PySem.W.byRow2 "special-get-raises" (P := fun w => HandSHeadRun.RunEq RR (PySem.W.view RR.prog [69]) hk ob 6000 NM w) runF runT w
theorem cx_no (w : World) (H : Hp) (s : Shared) (e : Value) (s' : Shared) (h : L2.CX PP w [] H s (fun _ _ _ => False) e s') : False := by
  obtain ⟨_, _, _, _, _, _, _, _, _, _, _, _, z⟩ := h
  exact z
theorem law_here (lt : ∀ ns : List Int, ns.length ≤ 63 → (∀ z ∈ ns, Builtin.Int.intBits z ≤ 1048576) → ∃ S, F_law [.klst (ns.map .int)] [] = .ok (.bl true) S) {w : World} {mg : Str → Option Value} {fa : Addr} {h : Heap} {K : PySem.W.Frag} (KX : K.In h) (c : SaysP FA FN GT TS TF EX w h K) (G : h.Ns mainGlobals mg) (hmg : mg ("law" : PySem.Str) = some (.ref fa)) : LamX.LawAtS PySem.Challenge.rw_rainbowways_k83_whole_texts_of_webs w K (L2.CX PP w) 12 63 "script" mg fa h := by
  obtain ⟨fd, F⟩ := c.x.t.d.def_ 40 (d := d_law)
  have e := hmg.symm.trans (He.glo_ok KX G (c.x.t.d.fact 72 (f := .glo "law") rfl))
  cases e
  have b := FunD.bindsA (ps := ["script"]) F fun _ _ _ _ _ _ us hl => match us, hl with | [_], _ => rfl
  refine law_at (l := PySem.Challenge.rw_rainbowways_k83_whole_texts_of_webs) (W := Wof K) (F := F_law) (fd := fd) rfl (by rw [sizeLine_eq]; decide) (TF.map (He.cT K)) ?_ ?_ ?_ (fun s v => b s [v] rfl) ?_ ?_ lt
  · intro p hp
    obtain ⟨d, hd, rfl⟩ := List.mem_map.mp hp
    exact c.x.empty d hd
  · intro p hp
    obtain ⟨d, hd, rfl⟩ := List.mem_map.mp hp
    exact c.x.out d hd
  · intro p hp
    obtain ⟨d, hd, rfl⟩ := List.mem_map.mp hp
    exact PySem.W.codeHd_of_K KX (c.x.hd d hd)
  · intro p hp
    obtain ⟨d, hd, rfl⟩ := List.mem_map.mp hp
    exact ⟨He.cT K d.1, List.mem_map.mpr ⟨d.1, List.mem_map.mpr ⟨d, hd, rfl⟩, rfl⟩, rfl⟩
  · intro base hB hG hT
    exact ok_law ⟨hB, hG, ⟨h, c⟩, fun p hp => hT _ (List.mem_map.mpr ⟨p, hp, rfl⟩)⟩ F
end LW
open PySem PySem.W PySem.Calls PyProof.Rows
theorem LW.holds_of (lt : ∀ ns : List Int, ns.length ≤ 63 → (∀ z ∈ ns, Builtin.Int.intBits z ≤ 1048576) → ∃ S, LW.F_law [.klst (ns.map .int)] [] = .ok (.bl true) S) : PySem.Challenge.rw_rainbowways_k83_whole_texts_of_webs.Holds := by
  w_on; o_law
  refine HandSHeadRun.head_any (r := OpenLaw.row PySem.Challenge.rw_rainbowways_k83_whole_texts_of_webs) (q := view (OpenLaw.row PySem.Challenge.rw_rainbowways_k83_whole_texts_of_webs).prog [69]) (H := LW.hk) (ob := LW.ob) (M := 6000) (loose := LW.NM) (d := HandSHeadRun.topDef (OpenLaw.row PySem.Challenge.rw_rainbowways_k83_whole_texts_of_webs).prog 69) (kwd := []) LW.ob_eq
    (by kernel_rfl) (fun s => by kernel_rfl) LW.run (by kernel_rfl) (by kernel_rfl) (by kernel_rfl) (by rfl) (by first | assumption | decide +kernel) (by decide +kernel) ⟨rfl, rfl, rfl, rfl, rfl, by decide +kernel⟩ ?hw ?hc
  case hw => w_witness2
  case hc =>
    refine LamX.walk_ofTsE (l := PySem.Challenge.rw_rainbowways_k83_whole_texts_of_webs) (n := 63) (k := 12) (x := "script") (CX := fun w => L2.CX (PySem.Challenge.rw_rainbowways_k83_whole_texts_of_webs).prog w) rfl (by decide) (by kernel_rfl) ⟨rfl, by decide, by decide⟩ ?F LW.cx_no
    intro w mg fa h Y G hmg0
    obtain ⟨K, KX, c⟩ := Y
    have hmg : mg ("law" : PySem.Str) = some (.ref fa) := by
      have e : (HandSHeadRun.topDef (OpenLaw.row PySem.Challenge.rw_rainbowways_k83_whole_texts_of_webs).prog 69).name = ("law" : PySem.Str) := by kernel_rfl
      rw [← e]
      exact hmg0
    exact ⟨K, KX, LW.law_here lt KX c G hmg⟩
end
section
set_option Elab.async false
set_option linter.all false
set_option maxRecDepth 100000
/-! SP0: mirrors reckoned by simp -/
namespace DL
open PySem PySem.Spec L2
def Res.bnd {α β : Type} (r : Res α) (k : α → M β) : Res β := match r with
  | .ok a S => k a S
  | .exn c p S => .exn c p S
  | .stuck => .stuck
section
variable {α β : Type} {a : α} {S S' : Stt} {f g : M α} {sl : List Sl} {ob : List D}
@[simp] theorem bnd_ap (f : M α) (k : α → M β) (S : Stt) : M.bnd f k S = (f S).bnd k := id rfl
@[simp] theorem Res.bnd_ok (a : α) (S : Stt) (k : α → M β) : (Res.ok a S).bnd k = k a S := id rfl
@[simp] theorem Res.bnd_stuck (k : α → M β) : (Res.stuck : Res α).bnd k = .stuck := id rfl
@[simp] theorem Res.bnd_exn (c : Nat) (p : Option (List Str × List D)) (S : Stt) (k : α → M β) : (Res.exn c p S : Res α).bnd k = .exn c p S := id rfl
@[simp] theorem ret_ap (a : α) (S : Stt) : M.ret a S = .ok a S := id rfl
@[simp] theorem fail_ap (S : Stt) : (M.fail : M α) S = .stuck := id rfl
@[simp] theorem op2_ap (f g : M D) (op : D → D → M D) (S : Stt) : op2 f g op S = (f S).bnd fun x => M.bnd g fun y => op x y := id rfl
@[simp] theorem vget_ap (i : Nat) (sl : List Sl) (ob : List D) : vget i ⟨sl, ob⟩ = match sl[i]? with
  | some (.d x) => .ok x ⟨sl, ob⟩
  | _ => .stuck := id rfl
@[simp] theorem vgetR_ap (i : Nat) (sl : List Sl) (ob : List D) : vgetR i ⟨sl, ob⟩ = match sl[i]? with
  | some (.d x) => .ok x ⟨sl, ob⟩
  | some (.own x) => .ok x ⟨sl, ob⟩
  | _ => .stuck := id rfl
@[simp] theorem cmpV_ap (i : Nat) (g : M D) (op : D → D → M D) (S : Stt) : cmpV i g op S = if hasV i S = true then (g S).bnd (fun y S => match atV i S with
  | some x => op x y S
  | none => .stuck) else .stuck := id rfl
@[simp] theorem ixV_ap (i : Nat) (g : M D) (S : Stt) : ixV i g S = if hasV i S = true then (g S).bnd (fun y S => match atV i S with
  | some x => ixM x y S
  | none => .stuck) else .stuck := id rfl
@[simp] theorem hasV_ap (i : Nat) (sl : List Sl) (ob : List D) : hasV i ⟨sl, ob⟩ = match sl[i]? with
  | some (.d _) => true
  | some (.own _) => true
  | _ => false := id rfl
@[simp] theorem atV_ap (i : Nat) (sl : List Sl) (ob : List D) : atV i ⟨sl, ob⟩ = match sl[i]? with
  | some (.d x) => some x
  | some (.own x) => some x
  | _ => none := id rfl
@[simp] theorem seqM_nil (S : Stt) : seqM [] S = .ok [] S := id rfl
@[simp] theorem seqM_cons (f : M D) (fs : List (M D)) (S : Stt) : seqM (f :: fs) S = (f S).bnd fun x => M.bnd (seqM fs) fun xs => M.ret (x :: xs) := id rfl
@[simp] theorem tupE_ap (fs : List (M D)) (S : Stt) : tupE fs S = (seqM fs S).bnd fun ds => M.ret (.tup ds) := id rfl
@[simp] theorem lstE_ap (fs : List (M D)) (S : Stt) : lstE fs S = (seqM fs S).bnd fun ds => M.ret (.lst ds) := id rfl
@[simp] theorem andV_ap (f g : M D) (S : Stt) : andV f g S = (f S).bnd fun x => match x with
  | .bl true => g
  | .bl false => M.ret (.bl false)
  | _ => M.fail := id rfl
@[simp] theorem orV_ap (f g : M D) (S : Stt) : orV f g S = (f S).bnd fun x => match x with
  | .bl false => g
  | .bl true => M.ret (.bl true)
  | _ => M.fail := id rfl
@[simp] theorem notV_ap (f : M D) (S : Stt) : notV f S = (f S).bnd fun x => match x with
  | .bl b => M.ret (.bl (!b))
  | _ => M.fail := id rfl
@[simp] theorem andB_ap (p q : M Bool) (S : Stt) : andB p q S = (p S).bnd fun c => if c = true then q else M.ret false := id rfl
@[simp] theorem orB_ap (p q : M Bool) (S : Stt) : orB p q S = (p S).bnd fun c => if c = true then M.ret true else q := id rfl
@[simp] theorem notB_ap (p : M Bool) (S : Stt) : notB p S = (p S).bnd fun c => M.ret (!c) := id rfl
@[simp] theorem ifV_ap (p : M Bool) (f g : M α) (S : Stt) : ifV p f g S = (p S).bnd fun c => if c = true then f else g := id rfl
@[simp] theorem ite_ap (c : Prop) [Decidable c] (f g : M α) (S : Stt) : (if c then f else g : M α) S = if c then f S else g S := by split <;> rfl
@[simp] theorem tru_bl (b : Bool) : tru (.bl b) = M.ret b := id rfl
@[simp] theorem tru_non : tru .non = M.ret false := id rfl
@[simp] theorem tru_int (i : Int) : tru (.int i) = M.ret (i != 0) := id rfl
@[simp] theorem tru_tup (ds : List D) : tru (.tup ds) = M.ret (!ds.isEmpty) := id rfl
@[simp] theorem tru_lst (ds : List D) : tru (.lst ds) = M.ret (!ds.isEmpty) := id rfl
@[simp] theorem bool1_bl (b : Bool) : bool1 (.bl b) = M.ret b := id rfl
@[simp] theorem after_ok (S S' : Stt) (d : D) : after S (.ok d S') = .ok d { S with ob := S'.ob } := id rfl
@[simp] theorem callF_ap (F : Fn) (ds : List D) (S : Stt) : callF F ds S = after S (F ds S.ob) := id rfl
@[simp] theorem callE_ap (F : Fn) (fs : List (M D)) (S : Stt) : callE F fs S = (seqM fs S).bnd (callF F) := id rfl
@[simp] theorem seqS_ap (f g : M Fl) (S : Stt) : seqS f g S = (f S).bnd fun fl => match fl with
  | .nx => g
  | fl => M.ret fl := id rfl
@[simp] theorem skip_ap (S : Stt) : skip S = .ok .nx S := id rfl
@[simp] theorem exprS_ap (u : M D) (S : Stt) : exprS u S = (u S).bnd fun _ => M.ret .nx := id rfl
@[simp] theorem retS_ap (u : M D) (S : Stt) : retS u S = (u S).bnd fun d => M.ret (.rt d) := id rfl
@[simp] theorem asgS_ap (u : M D) (t : D → MT) (S : Stt) : asgS u t S = (u S).bnd fun d S => match t d S with
  | some S' => .ok .nx S'
  | none => .stuck := id rfl
@[simp] theorem setN_ap (i : Nat) (d : D) (sl : List Sl) (ob : List D) : setN i d ⟨sl, ob⟩ = some ⟨sl.set i (.d d), ob⟩ := id rfl
@[simp] theorem setO_ap (i : Nat) (u : M D) (S : Stt) : setO i u S = (u S).bnd fun d S => .ok .nx { S with sl := S.sl.set i (.own d) } := id rfl
@[simp] theorem tgs_nil (S : Stt) : tgs [] [] S = some S := id rfl
@[simp] theorem tgs_cons (t : D → MT) (ts : List (D → MT)) (d : D) (ds : List D) (S : Stt) : tgs (t :: ts) (d :: ds) S = (t d S).bind (tgs ts ds) := id rfl
@[simp] theorem tgT_tup (ts : List (D → MT)) (ds : List D) : tgT ts (.tup ds) = tgs ts ds := id rfl
@[simp] theorem parS_ap (i j : Nat) (ka kb : D → Sl) (f g : M D) (S : Stt) : parS i j ka kb f g S = (f S).bnd fun x => M.bnd g fun y S => .ok .nx { S with sl := (S.sl.set j (kb y)).set i (ka x) } := id rfl
@[simp] theorem parN_ap2 (is : List (Nat × Bool)) (fs : List (M D)) (S : Stt) : parN is fs S = (seqM fs S).bnd fun ds S => .ok .nx { S with sl := setAll S.sl is ds } := id rfl
@[simp] theorem setAll_nil (sl : List Sl) : setAll sl [] [] = sl := id rfl
@[simp] theorem setAll_cons (sl : List Sl) (i : Nat) (k : Bool) (is : List (Nat × Bool)) (d : D) (ds : List D) : setAll sl ((i, k) :: is) (d :: ds) = (setAll sl is ds).set i (pSl k d) := id rfl
@[simp] theorem pSl_t (d : D) : pSl true d = .own d := id rfl
@[simp] theorem pSl_f (d : D) : pSl false d = .d d := id rfl
@[simp] theorem forS_ap (f : M (List D)) (t : D → MT) (b : M Fl) (S : Stt) : forS f t b S = (f S).bnd fun ds => forM t b ds := id rfl
@[simp] theorem forM_nil (t : D → MT) (b : M Fl) (S : Stt) : forM t b [] S = .ok .nx S := id rfl
@[simp] theorem itemsM_ap (f : M D) (S : Stt) : itemsM f S = (f S).bnd itemsD := id rfl
@[simp] theorem itemsD_lst (ds : List D) : itemsD (.lst ds) = M.ret ds := id rfl
@[simp] theorem itemsD_tup (ds : List D) : itemsD (.tup ds) = M.ret ds := id rfl
@[simp] theorem itemsD_ktup (ds : List D) : itemsD (.ktup ds) = M.ret ds := id rfl
@[simp] theorem itemsD_str (x : Str) : itemsD (.str x) = M.ret (chars x) := id rfl
@[simp] theorem enumM_ap (f : M D) (S : Stt) : enumM f S = (seqM [f] S).bnd enumF := id rfl
@[simp] theorem enumF_tup (ds : List D) : enumF [.tup ds] = M.ret (enumD ds) := id rfl
@[simp] theorem enumF_lst (ds : List D) : enumF [.lst ds] = M.ret (enumD ds) := id rfl
@[simp] theorem zipM_ap (f g : M D) (S : Stt) : zipM f g S = (seqM [f, g] S).bnd zipF := id rfl
@[simp] theorem zipF_tup (a b : List D) : zipF [.tup a, .tup b] = M.ret (zipD a b) := id rfl
@[simp] theorem zipF_lst (a b : List D) : zipF [.lst a, .lst b] = M.ret (zipD a b) := id rfl
@[simp] theorem rng1M_ap (f : M D) (S : Stt) : rng1M f S = (seqM [f] S).bnd rng1F := id rfl
@[simp] theorem rng2M_ap (f g : M D) (S : Stt) : rng2M f g S = (seqM [f, g] S).bnd rng2F := id rfl
@[simp] theorem rng1F_int (j : Int) : rng1F [.int j] = if -(2 ^ 62) ≤ j ∧ j < 2 ^ 62 then M.ret (rangeD 0 j.toNat) else M.fail := id rfl
@[simp] theorem rng2F_int (i j : Int) : rng2F [.int i, .int j] = if -(2 ^ 62) ≤ i ∧ i < 2 ^ 62 ∧ -(2 ^ 62) ≤ j ∧ j < 2 ^ 62 then M.ret (rangeD i (j - i).toNat) else M.fail := id rfl
@[simp] theorem lcM_ap (vs : List Nat) (f : M (List D)) (t : D → MT) (c : M Bool) (e : M D) (S : Stt) : lcM vs f t c e S = (f S).bnd (lcF vs t c e) := id rfl
@[simp] theorem m1M_ap (f g : M D) (op : D → D → M D) (S : Stt) : m1M f g op S = (f S).bnd fun x => if isStrD x = true then M.bnd g fun y => op x y else M.fail := id rfl
@[simp] theorem isStrD_str (x : Str) : isStrD (.str x) = true := id rfl
@[simp] theorem fmtM_ap (f : M D) (S : Stt) : fmtM f S = (f S).bnd fmtF := id rfl
@[simp] theorem fmtF_str (y : Str) : fmtF (.str y) = if y.length ≤ 16777216 then M.ret (.str y) else M.fail := id rfl
@[simp] theorem fmtF_int (i : Int) : fmtF (.int i) = if i.natAbs.log2 < 1920 then M.ret (.str (toString i)) else M.fail := id rfl
@[simp] theorem joinsM_nil (acc : Str) (S : Stt) : joinsM [] acc S = .ok (.str acc) S := id rfl
@[simp] theorem joinsM_cons (f : M D) (fs : List (M D)) (acc : Str) (S : Stt) : joinsM (f :: fs) acc S = (f S).bnd fun x => match x with
  | .str y => if (acc ++ y).length ≤ 16777216 then joinsM fs (acc ++ y) else M.fail
  | _ => M.fail := id rfl
@[simp] theorem chainM_ap (f g h : M D) (op op' : D → D → M D) (S : Stt) : chainM f g h op op' S = (f S).bnd fun x => M.bnd g fun y => M.bnd (op x y) fun z => match z with
  | .bl true => M.bnd h fun w => op' y w
  | .bl false => M.ret (.bl false)
  | _ => M.fail := id rfl
@[simp] theorem negM_ap (f : M D) (S : Stt) : negM f S = (f S).bnd negF := id rfl
@[simp] theorem negF_int (i : Int) : negF (.int i) = M.ret (.int (-i)) := id rfl
@[simp] theorem slE_ap (f : M D) (l h : M (Option Int)) (S : Stt) : slE f l h S = (f S).bnd fun x => M.bnd l fun lo => M.bnd h fun hi => ofO (slF x lo hi) := id rfl
@[simp] theorem partOf_int (i : Int) : partOf (.int i) = M.ret (some i) := id rfl
@[simp] theorem ofO_some (a : α) : (ofO (some a) : M α) = M.ret a := id rfl
@[simp] theorem slF_lst (ds : List D) (lo hi : Option Int) : slF (.lst ds) lo hi = some (.lst (cutD ds lo hi)) := id rfl
@[simp] theorem slF_klst (ds : List D) (lo hi : Option Int) : slF (.klst ds) lo hi = some (.lst (cutD ds lo hi)) := id rfl
@[simp] theorem slF_tup (ds : List D) (lo hi : Option Int) : slF (.tup ds) lo hi = some (.tup (cutD ds lo hi)) := id rfl
@[simp] theorem slF_str (z : Str) (lo hi : Option Int) : slF (.str z) lo hi = if z.length ≤ 16777216 then some (.str (cutS z lo hi)) else none := id rfl
@[simp] theorem propM_ap (c : Nat) (F : Fn) (f : M D) (S : Stt) : propM c F f S = (f S).bnd fun x S => match objOf S c x with
  | some _ => noX (callF F [x]) S
  | none => .stuck := id rfl
@[simp] theorem fldM_ap (c : Nat) (nm : Str) (f : M D) (S : Stt) : fldM c nm f S = (f S).bnd fun x S => match objOf S c x with
  | some q => (match lookK q.1 q.2 nm with
    | some d => .ok d S
    | none => .stuck)
  | none => .stuck := id rfl
@[simp] theorem isoM_ap (c : Nat) (f : M D) (S : Stt) : isoM c f S = (f S).bnd fun x S => match objOf S c x with
  | some _ => .ok (.bl true) S
  | none => (match tyD x with
    | some _ => .ok (.bl false) S
    | none => .stuck) := id rfl
@[simp] theorem objOf_obj (S : Stt) (c c' : Nat) (fs : List Str) (vs : List D) : objOf S c (.obj c' fs vs) = if c' = c then some (fs, vs) else none := id rfl
/-! ### operations -/
@[simp] theorem eqM_str (a b : Str) : eqM (.str a) (.str b) = M.ret (.bl (a == b)) := id rfl
@[simp] theorem eqM_int (a b : Int) : eqM (.int a) (.int b) = M.ret (.bl (a == b)) := id rfl
@[simp] theorem eqM_bl (a b : Bool) : eqM (.bl a) (.bl b) = M.ret (.bl (a == b)) := id rfl
@[simp] theorem neM_str (a b : Str) : neM (.str a) (.str b) = M.ret (.bl (!(a == b))) := id rfl
@[simp] theorem neM_int (a b : Int) : neM (.int a) (.int b) = M.ret (.bl (!(a == b))) := id rfl
@[simp] theorem neM_bl (a b : Bool) : neM (.bl a) (.bl b) = M.ret (.bl (!(a == b))) := id rfl
theorem eqM_of {x y : D} {b : Bool} (h : eqF depthLine x y = some b) : eqM x y = M.ret (.bl b) := by unfold eqM; rw [h]
theorem neM_of {x y : D} {b : Bool} (h : eqF depthLine x y = some b) : neM x y = M.ret (.bl (!b)) := by unfold neM; rw [h]
theorem ltM_of {x y : D} {b : Bool} (h : ltF depthLine x y = some b) : ltM x y = M.ret (.bl b) := by unfold ltM; rw [h]
theorem inM_of {x y : D} {b : Bool} (h : inF x y = some b) : inM x y = M.ret (.bl b) := by unfold inM; rw [h]
theorem notInM_of {x y : D} {b : Bool} (h : inF x y = some b) : notInM x y = M.ret (.bl (!b)) := by unfold notInM; rw [h]
@[simp] theorem ltM_str (a b : Str) : ltM (.str a) (.str b) = M.ret (.bl (ltS a b)) := id rfl
@[simp] theorem ltM_int (a b : Int) : ltM (.int a) (.int b) = M.ret (.bl (decide (a < b))) := id rfl
@[simp] theorem leM_int (a b : Int) : leM (.int a) (.int b) = M.ret (.bl (decide (a ≤ b))) := id rfl
@[simp] theorem gtM_int (a b : Int) : gtM (.int a) (.int b) = M.ret (.bl (decide (b < a))) := id rfl
@[simp] theorem geM_int (a b : Int) : geM (.int a) (.int b) = M.ret (.bl (decide (b ≤ a))) := id rfl
@[simp] theorem subM_int (a b : Int) : subM (.int a) (.int b) = M.ret (.int (a - b)) := id rfl
@[simp] theorem addM_int (a b : Int) : addM (.int a) (.int b) = M.ret (.int (a + b)) := id rfl
@[simp] theorem addM_str (a b : Str) : addM (.str a) (.str b) = if a.length + b.length ≤ 16777216 then M.ret (.str (a ++ b)) else M.fail := id rfl
@[simp] theorem addM_lst (a b : List D) : addM (.lst a) (.lst b) = if a.length + b.length ≤ 16777216 then M.ret (.lst (a ++ b)) else M.fail := id rfl
@[simp] theorem addM_tup (a b : List D) : addM (.tup a) (.tup b) = if a.length + b.length ≤ 16777216 then M.ret (.tup (a ++ b)) else M.fail := id rfl
@[simp] theorem isM_ap (x : D) : isM x .non = M.ret (.bl (isNone x)) := id rfl
@[simp] theorem isntM_ap (x : D) : isntM x .non = M.ret (.bl (!isNone x)) := id rfl
@[simp] theorem lenM_lst (ds : List D) : lenM (.lst ds) = M.ret (.int ds.length) := id rfl
@[simp] theorem lenM_tup (ds : List D) : lenM (.tup ds) = M.ret (.int ds.length) := id rfl
@[simp] theorem lenM_ktup (ds : List D) : lenM (.ktup ds) = M.ret (.int ds.length) := id rfl
@[simp] theorem lenM_klst (ds : List D) : lenM (.klst ds) = M.ret (.int ds.length) := id rfl
@[simp] theorem lenM_str (x : Str) : lenM (.str x) = if x.length ≤ 16777216 then M.ret (.int x.length) else M.fail := id rfl
@[simp] theorem lenM_dic (ks : List Key) (vs : List D) : lenM (.dic ks vs) = M.ret (.int ks.length) := id rfl
@[simp] theorem lenM_dicT (ks : List (List Key)) (vs : List D) : lenM (.dicT ks vs) = M.ret (.int ks.length) := id rfl
@[simp] theorem keyOf_str (x : Str) : DL.keyOf (.str x) = some (.inr x) := id rfl
@[simp] theorem keyOf_int (x : Int) : DL.keyOf (.int x) = some (.inl x) := id rfl
@[simp] theorem intM_int (i : Int) : intM (.int i) = M.ret (.int i) := id rfl
@[simp] theorem absM_int (i : Int) : absM (.int i) = M.ret (.int (if i < 0 then -i else i)) := id rfl
@[simp] theorem strM_int (i : Int) : strM (.int i) = if i.natAbs.log2 < 1920 then M.ret (.str (toString i)) else M.fail := id rfl
@[simp] theorem tupM_lst (ds : List D) : tupM (.lst ds) = M.ret (.tup ds) := id rfl
@[simp] theorem tupM_tup (ds : List D) : tupM (.tup ds) = M.ret (.tup ds) := id rfl
@[simp] theorem allM_lst (ds : List D) : allM (.lst ds) = match bls ds with
  | some bs => M.ret (.bl (bs.all id))
  | none => M.fail := id rfl
@[simp] theorem anyM_lst (ds : List D) : anyM (.lst ds) = match bls ds with
  | some bs => M.ret (.bl (bs.any id))
  | none => M.fail := id rfl
@[simp] theorem isi_int (n : Int) : isiM (.int n) (.ty "int") = M.ret (.bl true) := id rfl
@[simp] theorem isi_int_b (n : Int) : isiM (.int n) (.ty "bool") = M.ret (.bl false) := id rfl
@[simp] theorem isi_int_s (n : Int) : isiM (.int n) (.ty "str") = M.ret (.bl false) := id rfl
@[simp] theorem isi_int_t (n : Int) : isiM (.int n) (.ty "tuple") = M.ret (.bl false) := id rfl
@[simp] theorem isi_int_l (n : Int) : isiM (.int n) (.ty "list") = M.ret (.bl false) := id rfl
@[simp] theorem isi_bl (b : Bool) : isiM (.bl b) (.ty "int") = M.ret (.bl true) := id rfl
@[simp] theorem isi_bl_b (b : Bool) : isiM (.bl b) (.ty "bool") = M.ret (.bl true) := id rfl
@[simp] theorem isi_bl_s (b : Bool) : isiM (.bl b) (.ty "str") = M.ret (.bl false) := id rfl
@[simp] theorem isi_bl_t (b : Bool) : isiM (.bl b) (.ty "tuple") = M.ret (.bl false) := id rfl
@[simp] theorem isi_bl_l (b : Bool) : isiM (.bl b) (.ty "list") = M.ret (.bl false) := id rfl
@[simp] theorem isi_str (x : Str) : isiM (.str x) (.ty "int") = M.ret (.bl false) := id rfl
@[simp] theorem isi_str_b (x : Str) : isiM (.str x) (.ty "bool") = M.ret (.bl false) := id rfl
@[simp] theorem isi_str_s (x : Str) : isiM (.str x) (.ty "str") = M.ret (.bl true) := id rfl
@[simp] theorem isi_str_t (x : Str) : isiM (.str x) (.ty "tuple") = M.ret (.bl false) := id rfl
@[simp] theorem isi_str_l (x : Str) : isiM (.str x) (.ty "list") = M.ret (.bl false) := id rfl
@[simp] theorem isi_non : isiM .non (.ty "int") = M.ret (.bl false) := id rfl
@[simp] theorem isi_non_b : isiM .non (.ty "bool") = M.ret (.bl false) := id rfl
@[simp] theorem isi_non_s : isiM .non (.ty "str") = M.ret (.bl false) := id rfl
@[simp] theorem isi_non_t : isiM .non (.ty "tuple") = M.ret (.bl false) := id rfl
@[simp] theorem isi_non_l : isiM .non (.ty "list") = M.ret (.bl false) := id rfl
@[simp] theorem isi_tup (x : List D) : isiM (.tup x) (.ty "int") = M.ret (.bl false) := id rfl
@[simp] theorem isi_tup_b (x : List D) : isiM (.tup x) (.ty "bool") = M.ret (.bl false) := id rfl
@[simp] theorem isi_tup_s (x : List D) : isiM (.tup x) (.ty "str") = M.ret (.bl false) := id rfl
@[simp] theorem isi_tup_t (x : List D) : isiM (.tup x) (.ty "tuple") = M.ret (.bl true) := id rfl
@[simp] theorem isi_tup_l (x : List D) : isiM (.tup x) (.ty "list") = M.ret (.bl false) := id rfl
@[simp] theorem isi_lst (x : List D) : isiM (.lst x) (.ty "int") = M.ret (.bl false) := id rfl
@[simp] theorem isi_lst_b (x : List D) : isiM (.lst x) (.ty "bool") = M.ret (.bl false) := id rfl
@[simp] theorem isi_lst_s (x : List D) : isiM (.lst x) (.ty "str") = M.ret (.bl false) := id rfl
@[simp] theorem isi_lst_t (x : List D) : isiM (.lst x) (.ty "tuple") = M.ret (.bl false) := id rfl
@[simp] theorem isi_lst_l (x : List D) : isiM (.lst x) (.ty "list") = M.ret (.bl true) := id rfl
theorem ixM_of {x y d : D} {S : Stt} (hx : ∀ l, x ≠ .loc l) (h : ixF x y = some d) : ixM x y S = .ok d S := by
  unfold ixM
  have : deref S x = some x := by cases x <;> first | rfl | exact absurd rfl (hx _)
  rw [this]
  simp [h]
theorem ixM_tup {ds : List D} {i : Int} {d : D} {S : Stt} (h : atI ds i = some d) : ixM (.tup ds) (.int i) S = .ok d S := ixM_of (fun _ => by simp) h
theorem ixM_lst {ds : List D} {i : Int} {d : D} {S : Stt} (h : atI ds i = some d) : ixM (.lst ds) (.int i) S = .ok d S := ixM_of (fun _ => by simp) h
@[simp] theorem ixM_tup0 (d : D) (ds : List D) (S : Stt) : ixM (.tup (d :: ds)) (.int 0) S = .ok d S := ixM_tup (by simp [atI, ixN])
@[simp] theorem ixM_tup1 (c d : D) (ds : List D) (S : Stt) : ixM (.tup (c :: d :: ds)) (.int 1) S = .ok d S := ixM_tup (by
  have : (1 : Int) < (ds.length : Int) + 1 + 1 := by omega
  simp [atI, ixN, this])
@[simp] theorem ixM_tup2 (b c d : D) (ds : List D) (S : Stt) : ixM (.tup (b :: c :: d :: ds)) (.int 2) S = .ok d S := ixM_tup (by
  have : (2 : Int) < (ds.length : Int) + 1 + 1 + 1 := by omega
  simp [atI, ixN, this])
@[simp] theorem ixM_tup3 (a b c d : D) (ds : List D) (S : Stt) : ixM (.tup (a :: b :: c :: d :: ds)) (.int 3) S = .ok d S := ixM_tup (by
  have : (3 : Int) < (ds.length : Int) + 1 + 1 + 1 + 1 := by omega
  simp [atI, ixN, this])
@[simp] theorem ixM_lst0 (d : D) (ds : List D) (S : Stt) : ixM (.lst (d :: ds)) (.int 0) S = .ok d S := ixM_lst (by simp [atI, ixN])
/-! ### a def -/
def fnR : Res Fl → Res D
  | .ok (.rt d) S => .ok d ⟨[], S.ob⟩
  | .ok .nx S => .ok .non ⟨[], S.ob⟩
  | .ok _ _ => .stuck
  | .exn c p S => .exn c p ⟨[], S.ob⟩
  | .stuck => .stuck
@[simp] theorem fnR_rt (d : D) (S : Stt) : fnR (.ok (.rt d) S) = .ok d ⟨[], S.ob⟩ := id rfl
@[simp] theorem fnR_nx (S : Stt) : fnR (.ok .nx S) = .ok .non ⟨[], S.ob⟩ := id rfl
theorem fnM_ap (n m : Nat) (b : M Fl) (ds ob : List D) (h : ds.length = m) : fnM n m b ds ob = fnR (b ⟨ds.map .d ++ List.replicate (n - m) .no, ob⟩) := by
  unfold fnM
  rw [if_pos h]
  cases b ⟨ds.map .d ++ List.replicate (n - m) .no, ob⟩ with
  | ok fl S => cases fl <;> rfl
  | _ => rfl
@[simp] theorem fnM1 (n : Nat) (b : M Fl) (x : D) (ob : List D) : fnM n 1 b [x] ob = fnR (b ⟨.d x :: List.replicate (n - 1) .no, ob⟩) := fnM_ap _ _ _ _ _ rfl
@[simp] theorem fnM2 (n : Nat) (b : M Fl) (x y : D) (ob : List D) : fnM n 2 b [x, y] ob = fnR (b ⟨.d x :: .d y :: List.replicate (n - 2) .no, ob⟩) := fnM_ap _ _ _ _ _ rfl
@[simp] theorem fnM3 (n : Nat) (b : M Fl) (x y z : D) (ob : List D) : fnM n 3 b [x, y, z] ob = fnR (b ⟨.d x :: .d y :: .d z :: List.replicate (n - 3) .no, ob⟩) := fnM_ap _ _ _ _ _ rfl
@[simp] theorem fnM4 (n : Nat) (b : M Fl) (x y z u : D) (ob : List D) : fnM n 4 b [x, y, z, u] ob = fnR (b ⟨.d x :: .d y :: .d z :: .d u :: List.replicate (n - 4) .no, ob⟩) := fnM_ap _ _ _ _ _ rfl
@[simp] theorem fnM0 (n : Nat) (b : M Fl) (ob : List D) : fnM n 0 b [] ob = fnR (b ⟨List.replicate n .no, ob⟩) := fnM_ap _ _ _ _ _ rfl
theorem fn_ret {n m : Nat} {b : M Fl} {ds ob : List D} {d : D} {S : Stt} (h : ds.length = m) (e : b ⟨ds.map .d ++ List.replicate (n - m) .no, ob⟩ = .ok (.rt d) S) : fnM n m b ds ob = .ok d ⟨[], S.ob⟩ := by rw [fnM_ap _ _ _ _ _ h, e]; rfl
theorem fn_end {n m : Nat} {b : M Fl} {ds ob : List D} {S : Stt} (h : ds.length = m) (e : b ⟨ds.map .d ++ List.replicate (n - m) .no, ob⟩ = .ok .nx S) : fnM n m b ds ob = .ok .non ⟨[], S.ob⟩ := by rw [fnM_ap _ _ _ _ _ h, e]; rfl
end
end DL
end
section
set_option Elab.async false
set_option linter.all false
set_option maxRecDepth 100000
/-! SP1: loops, comprehensions, equality and order of data -/
namespace DL
open PySem PySem.Spec L2
/-! ### what a run comes to -/
def okS {α : Type} (r : Res α) (Q : α → Stt → Prop) : Prop := match r with
  | .ok a S => Q a S
  | _ => False
theorem okS_ok {α : Type} {a : α} {S : Stt} {Q : α → Stt → Prop} (h : Q a S) : okS (.ok a S) Q := h
theorem okS_of {α : Type} {r : Res α} {Q : α → Stt → Prop} (h : okS r Q) : ∃ a S, r = .ok a S ∧ Q a S := by
  cases r with
  | ok a S => exact ⟨a, S, rfl, h⟩
  | exn c p S => exact h.elim
  | stuck => exact h.elim
theorem okS_bnd {α β : Type} {r : Res α} {k : α → M β} {Q : β → Stt → Prop} (h : okS r fun a S => okS (k a S) Q) : okS (r.bnd k) Q := by
  obtain ⟨a, S, e, h⟩ := okS_of h
  rw [e]
  exact h
theorem okS_mono {α : Type} {r : Res α} {Q Q' : α → Stt → Prop} (h : okS r Q) (i : ∀ a S, Q a S → Q' a S) : okS r Q' := by
  obtain ⟨a, S, e, h⟩ := okS_of h
  rw [e]
  exact i _ _ h
theorem seqS_nx {f g : M Fl} {S S1 : Stt} (h : f S = .ok .nx S1) : seqS f g S = g S1 := by
  rw [seqS_ap, h]
  rfl
theorem seqS_rt {f g : M Fl} {S S1 : Stt} {d : D} (h : f S = .ok (.rt d) S1) : seqS f g S = .ok (.rt d) S1 := by
  rw [seqS_ap, h]
  rfl
theorem forS_of {f : M (List D)} {t : D → MT} {b : M Fl} {S S1 : Stt} {ds : List D} (h : f S = .ok ds S1) : forS f t b S = forM t b ds S1 := by
  rw [forS_ap, h]
  rfl
theorem asgS_of {u : M D} {t : D → MT} {S S1 S2 : Stt} {d : D} (h : u S = .ok d S1) (h2 : t d S1 = some S2) : asgS u t S = .ok .nx S2 := by
  rw [asgS_ap, h]
  show (match t d S1 with
    | some S' => (Res.ok .nx S' : Res Fl)
    | none => .stuck) = _
  rw [h2]
theorem exprS_of {u : M D} {S S1 : Stt} {d : D} (h : u S = .ok d S1) : exprS u S = .ok .nx S1 := by
  rw [exprS_ap, h]
  rfl
theorem retS_of {u : M D} {S S1 : Stt} {d : D} (h : u S = .ok d S1) : retS u S = .ok (.rt d) S1 := by
  rw [retS_ap, h]
  rfl
theorem bnd_of {α β : Type} {f : M α} {k : α → M β} {S S1 : Stt} {a : α} (h : f S = .ok a S1) : M.bnd f k S = k a S1 := by
  rw [bnd_ap, h]
  rfl
theorem rng1M_of {f : M D} {S S1 : Stt} {j : Int} {n : Nat} (h : f S = .ok (.int j) S1) (h1 : 0 ≤ j ∧ j ≤ 1000000) (hn : j.toNat = n) : rng1M f S = .ok (rangeD 0 n) S1 := by
  unfold rng1M
  have e : seqM [f] S = .ok [.int j] S1 := by rw [seqM_cons, h]; rfl
  rw [bnd_of e]
  rw [rng1F_int, if_pos (by omega), hn]
  rfl
theorem rng2M_of {f g : M D} {S S1 S2 : Stt} {i j : Int} {n : Nat} (h : f S = .ok (.int i) S1) (h' : g S1 = .ok (.int j) S2) (h0 : 0 ≤ i ∧ i ≤ 1000000) (h1 : 0 ≤ j ∧ j ≤ 1000000) (hn : (j - i).toNat = n) : rng2M f g S = .ok (rangeD i n) S2 := by
  unfold rng2M
  have e : seqM [f, g] S = .ok [.int i, .int j] S2 := by
    rw [seqM_cons, h]
    show M.bnd (seqM [g]) (fun xs => M.ret (.int i :: xs)) S1 = _
    have e2 : seqM [g] S1 = .ok [.int j] S2 := by rw [seqM_cons, h']; rfl
    rw [bnd_of e2]
    rfl
  rw [bnd_of e]
  rw [rng2F_int, if_pos (by omega), hn]
  rfl
/-! ### loops -/
theorem forM_ok {t : D → MT} {b : M Fl} {Q : Fl → Stt → Prop} (I : List D → Stt → Prop)
    (step : ∀ d r S, I (d :: r) S → ∃ S1, t d S = some S1 ∧ okS (b S1) fun fl S2 => match fl with
      | .nx => I r S2
      | .ct => I r S2
      | .bk => Q .nx S2
      | .rt v => Q (.rt v) S2) (hd : ∀ S, I [] S → Q .nx S) : ∀ (ds : List D) (S : Stt), I ds S → okS (forM t b ds S) Q
  | [], S, h => hd S h
  | d :: r, S, h => by
    obtain ⟨S1, e, h1⟩ := step d r S h
    show okS (match t d S with
      | none => .stuck
      | some S1 => (M.bnd b fun fl => match fl with
        | .nx => forM t b r
        | .ct => forM t b r
        | .bk => M.ret .nx
        | .rt v => M.ret (.rt v)) S1) Q
    rw [e]
    refine okS_bnd (okS_mono h1 fun fl S2 h2 => ?_)
    cases fl with
    | nx => exact forM_ok I step hd r S2 h2
    | ct => exact forM_ok I step hd r S2 h2
    | bk => exact h2
    | rt v => exact h2
/-- a loop that folds -/
theorem forM_fold {σ : Type} {t : D → MT} {b : M Fl} (st : σ → Stt) (f : σ → D → σ) : ∀ (ds : List D) (s : σ), (∀ d ∈ ds, ∀ s, ∃ S1, t d (st s) = some S1 ∧ b S1 = .ok .nx (st (f s d))) → forM t b ds (st s) = .ok .nx (st (ds.foldl f s))
  | [], s, _ => rfl
  | d :: r, s, h => by
    obtain ⟨S1, e, h1⟩ := h d List.mem_cons_self s
    show (match t d (st s) with
      | none => (Res.stuck : Res Fl)
      | some S1 => (M.bnd b fun fl => match fl with
        | .nx => forM t b r
        | .ct => forM t b r
        | .bk => M.ret .nx
        | .rt v => M.ret (.rt v)) S1) = _
    rw [e]
    show (b S1).bnd _ = _
    rw [h1]
    exact forM_fold st f r _ fun d hd => h d (List.mem_cons_of_mem _ hd)
theorem forM_cons {t : D → MT} {b : M Fl} {d : D} {r : List D} {S S1 : Stt} (e : t d S = some S1) : forM t b (d :: r) S = (b S1).bnd fun fl => match fl with
        | .nx => forM t b r
        | .ct => forM t b r
        | .bk => M.ret .nx
        | .rt v => M.ret (.rt v) := by
  show (match t d S with
      | none => (Res.stuck : Res Fl)
      | some S1 => (M.bnd b fun fl => match fl with
        | .nx => forM t b r
        | .ct => forM t b r
        | .bk => M.ret .nx
        | .rt v => M.ret (.rt v)) S1) = _
  rw [e]
  rfl
theorem whileM_step (n : Nat) (c : M Bool) (b : M Fl) (S : Stt) : whileM (n + 1) c b S = (c S).bnd fun t => if t = true then M.bnd b fun fl => (match fl with
      | .nx => whileM n c b
      | .ct => whileM n c b
      | .bk => M.ret .nx
      | .rt v => M.ret (.rt v)) else M.ret .nx := rfl
/-! ### comprehensions -/
theorem wipeS_eq_get {s s' : List Sl} {vs : List Nat} (h : wipeS s vs = wipeS s' vs) : s.length = s'.length ∧ ∀ j, j ∉ vs → s[j]? = s'[j]? := by
  refine ⟨by have := congrArg List.length h; simpa [wipeS_length] using this, fun j hj => ?_⟩
  have := congrArg (fun l => l[j]?) h
  simp only [wipeS_get, if_neg hj] at this
  exact this
theorem restS_eq {s0 s s' : List Sl} {vs : List Nat} (h : wipeS s vs = wipeS s' vs) : restS s0 s vs = restS s0 s' vs := by
  obtain ⟨hl, hg⟩ := wipeS_eq_get h
  refine List.ext_getElem? fun j => ?_
  rw [restS_get, restS_get]
  by_cases hj : j ∈ vs
  · rw [if_pos hj, if_pos hj]
    by_cases hlt : j < s.length
    · have hlt' : j < s'.length := by omega
      rw [List.getElem?_eq_getElem hlt, List.getElem?_eq_getElem hlt']
      rfl
    · have e1 : s[j]? = none := List.getElem?_eq_none (by omega)
      have e2 : s'[j]? = none := List.getElem?_eq_none (by omega)
      rw [e1, e2]
  · rw [if_neg hj, if_neg hj]
    exact hg j hj
theorem lcGo_pure {vs : List Nat} {t : D → MT} {c : M Bool} {e : M D} {ob : List D} {sl : List Sl} {p : D → Bool} {g : D → D} : ∀ {ds : List D} {sl0 : List Sl}, wipeS sl0 vs = wipeS sl vs →
    (∀ d ∈ ds, ∃ S1, t d ⟨wipeS sl vs, ob⟩ = some S1 ∧ ∃ sl2, c S1 = .ok (p d) ⟨sl2, ob⟩ ∧ (p d = false → wipeS sl2 vs = wipeS sl vs) ∧ (p d = true → ∃ sl3, e ⟨sl2, ob⟩ = .ok (g d) ⟨sl3, ob⟩ ∧ wipeS sl3 vs = wipeS sl vs)) →
    ∃ sl', lcGo vs t c e ds ⟨sl0, ob⟩ = .ok ((ds.filter p).map g) ⟨sl', ob⟩ ∧ wipeS sl' vs = wipeS sl vs
  | [], sl0, h0, _ => ⟨sl0, rfl, h0⟩
  | d :: r, sl0, h0, h => by
    obtain ⟨S1, e1, sl2, e2, e3, e4⟩ := h d List.mem_cons_self
    have hr := fun d hd => h d (List.mem_cons_of_mem _ hd)
    show ∃ sl', (match t d ⟨wipeS sl0 vs, ob⟩ with
      | none => Res.stuck
      | some S1 => (M.bnd c fun b => if b = true then M.bnd e fun x => M.bnd (lcGo vs t c e r) fun xs => M.ret (x :: xs) else lcGo vs t c e r) S1) = _ ∧ _
    rw [h0, e1]
    dsimp only
    rw [bnd_ap, e2, Res.bnd_ok]
    cases hp : p d with
    | false =>
      obtain ⟨sl', q1, q2⟩ := lcGo_pure (e3 hp) hr
      refine ⟨sl', ?_, q2⟩
      rw [if_neg (by simp), q1, List.filter_cons_of_neg (by simp [hp])]
    | true =>
      obtain ⟨sl3, e5, e6⟩ := e4 hp
      obtain ⟨sl', q1, q2⟩ := lcGo_pure e6 hr
      refine ⟨sl', ?_, q2⟩
      rw [if_pos rfl, bnd_ap, e5, Res.bnd_ok, bnd_ap, q1, Res.bnd_ok, List.filter_cons_of_pos hp]
      rfl
theorem lc_pure {vs : List Nat} {t : D → MT} {c : M Bool} {e : M D} {ob : List D} {sl : List Sl} {ds : List D} (p : D → Bool) (g : D → D) (hl : ds.length ≤ 16777216)
    (h : ∀ d ∈ ds, ∃ S1, t d ⟨wipeS sl vs, ob⟩ = some S1 ∧ ∃ sl2, c S1 = .ok (p d) ⟨sl2, ob⟩ ∧ (p d = false → wipeS sl2 vs = wipeS sl vs) ∧ (p d = true → ∃ sl3, e ⟨sl2, ob⟩ = .ok (g d) ⟨sl3, ob⟩ ∧ wipeS sl3 vs = wipeS sl vs)) :
    lcF vs t c e ds ⟨sl, ob⟩ = .ok (.lst ((ds.filter p).map g)) ⟨restS sl sl vs, ob⟩ := by
  obtain ⟨sl', q1, q2⟩ := lcGo_pure (sl0 := sl) rfl h
  unfold lcF
  rw [if_pos hl, q1]
  dsimp only
  rw [restS_eq q2]
/-- no test -/
theorem lc_map {vs : List Nat} {t : D → MT} {e : M D} {ob : List D} {sl : List Sl} {ds : List D} (g : D → D) (hl : ds.length ≤ 16777216)
    (h : ∀ d ∈ ds, ∃ sl2, t d ⟨wipeS sl vs, ob⟩ = some ⟨sl2, ob⟩ ∧ ∃ sl3, e ⟨sl2, ob⟩ = .ok (g d) ⟨sl3, ob⟩ ∧ wipeS sl3 vs = wipeS sl vs) :
    lcF vs t (M.ret true) e ds ⟨sl, ob⟩ = .ok (.lst (ds.map g)) ⟨restS sl sl vs, ob⟩ := by
  rw [lc_pure (fun _ => true) g hl fun d hd => by
    obtain ⟨sl2, e1, sl3, e2, e3⟩ := h d hd
    exact ⟨_, e1, sl2, rfl, (fun z => by cases z), fun _ => ⟨sl3, e2, e3⟩⟩]
  rw [List.filter_eq_self.mpr fun _ _ => rfl]
@[simp] theorem wipeS_nil (sl : List Sl) : wipeS sl [] = sl := rfl
@[simp] theorem wipeS_cons (sl : List Sl) (v : Nat) (vs : List Nat) : wipeS sl (v :: vs) = (wipeS sl vs).set v .no := rfl
@[simp] theorem restS_nil (s0 sl : List Sl) : restS s0 sl [] = sl := rfl
@[simp] theorem restS_cons (s0 sl : List Sl) (v : Nat) (vs : List Nat) : restS s0 sl (v :: vs) = (restS s0 sl vs).set v (keepS s0[v]?) := rfl
@[simp] theorem keepS_d (x : D) : keepS (some (.d x)) = .d x := rfl
@[simp] theorem keepS_no : keepS (some .no) = .no := rfl
@[simp] theorem keepS_own (x : D) : keepS (some (.own x)) = .no := rfl
@[simp] theorem keepS_none : keepS none = .no := rfl
/-! ### plain data: equality -/
theorem bls_map {α : Type} (f : α → Bool) (l : List α) : bls (l.map fun a => D.bl (f a)) = some (l.map f) := by
  induction l with
  | nil => rfl
  | cons a r ih => simp [bls, ih]
theorem all_map_id {α : Type} (f : α → Bool) (l : List α) : (l.map f).all id = l.all f := by
  induction l with
  | nil => rfl
  | cons a r ih => simp [ih]
theorem any_map_id {α : Type} (f : α → Bool) (l : List α) : (l.map f).any id = l.any f := by
  induction l with
  | nil => rfl
  | cons a r ih => simp [ih]
mutual
/-- None, ints, texts, tuples of such, at most n deep -/
def tidy : Nat → D → Bool
  | _, .non => true
  | _, .int _ => true
  | _, .str _ => true
  | n + 1, .tup ds => tidys n ds
  | n + 1, .lst ds => tidys n ds
  | _, _ => false
def tidys : Nat → List D → Bool
  | _, [] => true
  | n, d :: ds => tidy n d && tidys n ds
end
theorem tidys_all {n : Nat} : ∀ {ds : List D}, tidys n ds = true → ∀ d ∈ ds, tidy n d = true
  | [], _, _, h => by cases h
  | c :: ds, hp, d, h => by
    simp only [tidys, Bool.and_eq_true] at hp
    rcases List.mem_cons.mp h with e | h
    · subst e; exact hp.1
    · exact tidys_all hp.2 d h
theorem zipEq_dec {f : D → D → Option Bool} : ∀ {xs ys : List D}, (∀ x ∈ xs, ∀ y ∈ ys, ∃ b, f x y = some b ∧ (b = true ↔ x = y)) → ∃ b, zipEq f xs ys = some b ∧ (b = true ↔ xs = ys)
  | [], [], _ => ⟨true, rfl, by simp⟩
  | [], _ :: _, _ => ⟨false, rfl, by simp⟩
  | _ :: _, [], _ => ⟨false, rfl, by simp⟩
  | x :: xs, y :: ys, h => by
    obtain ⟨a, e1, i1⟩ := h x List.mem_cons_self y List.mem_cons_self
    obtain ⟨b, e2, i2⟩ := zipEq_dec (xs := xs) (ys := ys) fun u hu v hv => h u (List.mem_cons_of_mem _ hu) v (List.mem_cons_of_mem _ hv)
    refine ⟨a && b, ?_, ?_⟩
    · unfold zipEq
      rw [e1, e2]
      rfl
    · rw [Bool.and_eq_true, i1, i2, List.cons.injEq]
/-- == tells just whether such data are the same -/
theorem eqF_dec : ∀ (n : Nat) (d e : D), tidy n d = true → tidy n e = true → ∃ b, eqF n d e = some b ∧ (b = true ↔ d = e) := by
  intro n
  induction n with
  | zero =>
    intro d e hd he
    cases d <;> first | (simp [tidy] at hd; done) | (cases e <;> first | (simp [tidy] at he; done) | (refine ⟨_, rfl, ?_⟩; simp))
  | succ n ih =>
    intro d e hd he
    cases d with
    | tup xs =>
      cases e with
      | tup ys =>
        obtain ⟨b, e1, i⟩ := zipEq_dec (f := eqF n) (xs := xs) (ys := ys) fun x hx y hy => ih x y (tidys_all (by simpa only [tidy] using hd) x hx) (tidys_all (by simpa only [tidy] using he) y hy)
        exact ⟨b, e1, by rw [i]; simp⟩
      | _ => first | (simp [tidy] at he; done) | (refine ⟨_, rfl, ?_⟩; simp)
    | lst xs =>
      cases e with
      | lst ys =>
        obtain ⟨b, e1, i⟩ := zipEq_dec (f := eqF n) (xs := xs) (ys := ys) fun x hx y hy => ih x y (tidys_all (by simpa only [tidy] using hd) x hx) (tidys_all (by simpa only [tidy] using he) y hy)
        exact ⟨b, e1, by rw [i]; simp⟩
      | _ => first | (simp [tidy] at he; done) | (refine ⟨_, rfl, ?_⟩; simp)
    | _ => first | (simp [tidy] at hd; done) | (cases e <;> first | (simp [tidy] at he; done) | (refine ⟨_, rfl, ?_⟩; simp))
theorem eqM_dec {d e : D} (hd : tidy depthLine d = true) (he : tidy depthLine e = true) [Decidable (d = e)] : eqM d e = M.ret (.bl (decide (d = e))) := by
  obtain ⟨b, e1, i⟩ := eqF_dec depthLine d e hd he
  rw [eqM_of e1]
  congr 2
  by_cases h : d = e
  · rw [decide_eq_true h]; exact i.mpr h
  · rw [decide_eq_false h]
    cases b with
    | false => rfl
    | true => exact absurd (i.mp rfl) h
theorem neM_dec {d e : D} (hd : tidy depthLine d = true) (he : tidy depthLine e = true) [Decidable (d = e)] : neM d e = M.ret (.bl (!decide (d = e))) := by
  obtain ⟨b, e1, i⟩ := eqF_dec depthLine d e hd he
  rw [neM_of e1]
  congr 3
  by_cases h : d = e
  · rw [decide_eq_true h]; exact i.mpr h
  · rw [decide_eq_false h]
    cases b with
    | false => rfl
    | true => exact absurd (i.mp rfl) h
theorem anyEq_dec {x : D} {n : Nat} : ∀ {ds : List D}, tidy depthLine x = true → (∀ d ∈ ds, tidy depthLine d = true) → ∃ b, anyEq x ds = some b ∧ (b = true ↔ x ∈ ds)
  | [], _, _ => ⟨false, rfl, by simp⟩
  | d :: ds, hx, h => by
    obtain ⟨a, e1, i1⟩ := eqF_dec depthLine d x (h d List.mem_cons_self) hx
    obtain ⟨b, e2, i2⟩ := anyEq_dec (n := n) (ds := ds) hx fun c hc => h c (List.mem_cons_of_mem _ hc)
    refine ⟨a || b, ?_, ?_⟩
    · unfold anyEq
      rw [e1, e2]
      rfl
    · rw [Bool.or_eq_true, i1, i2, List.mem_cons]
      constructor
      · rintro (z | z)
        · exact .inl z.symm
        · exact .inr z
      · rintro (z | z)
        · exact .inl z.symm
        · exact .inr z
end DL
end
section
set_option Elab.async false
set_option linter.all false
set_option maxRecDepth 100000
/-! SP2: texts, pairs, sorted lists of them -/
namespace DL
open PySem PySem.Spec L2 SrtO
/-! ### data of the laws -/
def namesD (xs : List Str) : D := .tup (xs.map .str)
abbrev Tie := Str × Str
def tieD (t : Tie) : D := .tup [.str t.1, .str t.2]
def tiesD (ts : List Tie) : D := .tup (ts.map tieD)
def webD (ps : List Str) (ts : List Tie) : D := .tup [namesD ps, tiesD ts]
def begD : Option Int → D
  | none => .non
  | some i => .int i
def begsD (bs : List (Option Int)) : D := .tup (bs.map begD)
theorem tidys_of {n : Nat} {ds : List D} (h : ∀ d ∈ ds, tidy n d = true) : tidys n ds = true := by
  induction ds with
  | nil => rfl
  | cons d ds ih =>
    simp only [tidys, Bool.and_eq_true]
    exact ⟨h d List.mem_cons_self, ih fun c hc => h c (List.mem_cons_of_mem _ hc)⟩
@[simp] theorem tidy_str (n : Nat) (x : Str) : tidy n (.str x) = true := by cases n <;> rfl
@[simp] theorem tidy_int (n : Nat) (x : Int) : tidy n (.int x) = true := by cases n <;> rfl
@[simp] theorem tidy_non (n : Nat) : tidy n .non = true := by cases n <;> rfl
@[simp] theorem tidy_tup (n : Nat) (ds : List D) : tidy (n + 1) (.tup ds) = tidys n ds := rfl
@[simp] theorem tidy_lst (n : Nat) (ds : List D) : tidy (n + 1) (.lst ds) = tidys n ds := rfl
@[simp] theorem tidys_nil (n : Nat) : tidys n [] = true := by cases n <;> rfl
@[simp] theorem tidys_cons (n : Nat) (d : D) (ds : List D) : tidys n (d :: ds) = (tidy n d && tidys n ds) := by cases n <;> rfl
@[simp] theorem tidys_append (n : Nat) (ds es : List D) : tidys n (ds ++ es) = (tidys n ds && tidys n es) := by
  induction ds with
  | nil => simp
  | cons d ds ih => simp [ih, Bool.and_assoc]
theorem tidy_begD (n : Nat) (b : Option Int) : tidy n (begD b) = true := by cases b <;> simp [begD]
theorem tidys_map {α : Type} {n : Nat} {f : α → D} {l : List α} (h : ∀ a, tidy n (f a) = true) : tidys n (l.map f) = true := tidys_of fun d hd => by
  obtain ⟨a, _, rfl⟩ := List.mem_map.mp hd
  exact h a
@[simp] theorem tidy_namesD (n : Nat) (xs : List Str) : tidy (n + 1) (namesD xs) = true := tidys_map fun a => tidy_str n a
@[simp] theorem tidy_tieD (n : Nat) (t : Tie) : tidy (n + 1) (tieD t) = true := by simp [tieD]
@[simp] theorem tidy_tiesD (n : Nat) (ts : List Tie) : tidy (n + 2) (tiesD ts) = true := tidys_map fun a => tidy_tieD n a
@[simp] theorem tidy_begsD (n : Nat) (bs : List (Option Int)) : tidy (n + 1) (begsD bs) = true := tidys_map fun a => tidy_begD n a
@[simp] theorem tidy_webD (n : Nat) (ps : List Str) (ts : List Tie) : tidy (n + 3) (webD ps ts) = true := by
  unfold webD
  simp only [tidy_tup, tidys_cons, tidys_nil, Bool.and_true, Bool.and_eq_true]
  exact ⟨tidy_namesD _ _, tidy_tiesD _ _⟩
theorem map_inj {α β : Type} {f : α → β} (hf : ∀ a b, f a = f b → a = b) : ∀ {l m : List α}, l.map f = m.map f → l = m
  | [], [], _ => rfl
  | [], _ :: _, h => by simp at h
  | _ :: _, [], h => by simp at h
  | a :: l, b :: m, h => by
    simp only [List.map_cons, List.cons.injEq] at h
    rw [hf _ _ h.1, map_inj hf h.2]
theorem strs_inj {xs ys : List Str} (h : namesD xs = namesD ys) : xs = ys := map_inj (f := D.str) (fun a b e => by simpa using e) (D.tup.inj h)
theorem tieD_inj {s t : Tie} (h : tieD s = tieD t) : s = t := by
  obtain ⟨a, b⟩ := s
  obtain ⟨c, d⟩ := t
  simpa [tieD] using h
theorem tiesD_inj {xs ys : List Tie} (h : tiesD xs = tiesD ys) : xs = ys := map_inj (f := tieD) (fun a b e => tieD_inj e) (D.tup.inj h)
theorem begD_inj {a b : Option Int} (h : begD a = begD b) : a = b := by
  cases a <;> cases b <;> simp [begD] at h ⊢
  exact h
theorem begsD_inj {xs ys : List (Option Int)} (h : begsD xs = begsD ys) : xs = ys := map_inj (f := begD) (fun a b e => begD_inj e) (D.tup.inj h)
theorem webD_inj {ps qs : List Str} {ts us : List Tie} (h : webD ps ts = webD qs us) : ps = qs ∧ ts = us := by
  simp only [webD, D.tup.injEq, List.cons.injEq, and_true] at h
  exact ⟨strs_inj h.1, tiesD_inj h.2⟩
/-! ### in -/
theorem inF_tup_iff {x : D} {ds : List D} {P : Prop} [Decidable P] (hx : tidy depthLine x = true) (h : ∀ d ∈ ds, tidy depthLine d = true) (hP : P ↔ x ∈ ds) : inF x (.tup ds) = some (decide P) := by
  obtain ⟨b, e, i⟩ := anyEq_dec (n := 0) hx h
  show anyEq x ds = _
  rw [e]
  congr 1
  by_cases p : P
  · rw [decide_eq_true p]; exact i.mpr (hP.mp p)
  · rw [decide_eq_false p]
    cases b with
    | false => rfl
    | true => exact absurd (hP.mpr (i.mp rfl)) p
theorem inF_lst_iff {x : D} {ds : List D} {P : Prop} [Decidable P] (hx : tidy depthLine x = true) (h : ∀ d ∈ ds, tidy depthLine d = true) (hP : P ↔ x ∈ ds) : inF x (.lst ds) = some (decide P) := inF_tup_iff hx h hP
theorem inF_ktup_iff {x : D} {ds : List D} {P : Prop} [Decidable P] (hx : tidy depthLine x = true) (h : ∀ d ∈ ds, tidy depthLine d = true) (hP : P ↔ x ∈ ds) : inF x (.ktup ds) = some (decide P) := inF_tup_iff hx h hP
theorem mem_map_inj {α β : Type} {f : α → β} (hf : ∀ a b, f a = f b → a = b) {a : α} {l : List α} : a ∈ l ↔ f a ∈ l.map f := by
  constructor
  · exact fun h => List.mem_map.mpr ⟨a, h, rfl⟩
  · intro h
    obtain ⟨b, hb, e⟩ := List.mem_map.mp h
    rw [← hf _ _ e]
    exact hb
theorem dstr_inj : ∀ a b : Str, D.str a = D.str b → a = b := fun a b e => by simpa using e
theorem in_strs (x : Str) (xs : List Str) : inF (.str x) (.tup (xs.map .str)) = some (decide (x ∈ xs)) :=
  inF_tup_iff (by simp) (fun d hd => by obtain ⟨a, _, rfl⟩ := List.mem_map.mp hd; simp) (mem_map_inj dstr_inj)
theorem in_strsL (x : Str) (xs : List Str) : inF (.str x) (.lst (xs.map .str)) = some (decide (x ∈ xs)) := in_strs x xs
theorem in_strsK (x : Str) (xs : List Str) : inF (.str x) (.ktup (xs.map .str)) = some (decide (x ∈ xs)) := in_strs x xs
theorem in_two (x a b : Str) : inF (.str x) (.tup [.str a, .str b]) = some (decide (x = a ∨ x = b)) :=
  inF_tup_iff (by simp) (fun d hd => by simp at hd; rcases hd with rfl | rfl <;> simp) (by simp)
theorem in_ties (t : Tie) (ts : List Tie) : inF (tieD t) (.tup (ts.map tieD)) = some (decide (t ∈ ts)) :=
  inF_tup_iff (tidy_tieD _ _) (fun d hd => by obtain ⟨a, _, rfl⟩ := List.mem_map.mp hd; exact tidy_tieD _ _) (mem_map_inj fun _ _ => tieD_inj)
/-- a sign of a text -/
theorem in_sign (c : Nat) (z : Str) : inF (.str ⟨#[c]⟩) (.str z) = some (decide (c ∈ z.cps.toList)) := by
  show (if (1 : Nat) = 1 then some (decide ((#[c] : Array Nat).getD 0 0 ∈ z.cps.toList)) else none) = _
  rw [if_pos rfl]
  rfl
/-! ### order of texts -/
theorem lexB_tri {α : Type} {lt : α → α → Bool} (h : ∀ x y, lt x y = false → lt y x = false → x = y) : ∀ {xs ys : List α}, lexB lt xs ys = false → lexB lt ys xs = false → xs = ys
  | [], [], _, _ => rfl
  | [], _ :: _, a, _ => by simp [lexB] at a
  | _ :: _, [], _, a => by simp [lexB] at a
  | x :: xs, y :: ys, a, b => by
    simp only [lexB, Bool.or_eq_false_iff, Bool.and_eq_false_iff, Bool.not_eq_false'] at a b
    have e := h x y a.1 b.1
    subst e
    have a2 : lexB lt xs ys = false := a.2.resolve_left (by rw [a.1]; simp)
    have b2 : lexB lt ys xs = false := b.2.resolve_left (by rw [a.1]; simp)
    rw [lexB_tri h a2 b2]
theorem ltS_eq (x y : Str) : ltS x y = lexB (fun a b : Nat => decide (a < b)) x.cps.toList y.cps.toList := ltS_lex _ _
theorem str_ext {x y : Str} (h : x.cps.toList = y.cps.toList) : x = y := by
  obtain ⟨a⟩ := x
  obtain ⟨b⟩ := y
  have : a = b := Array.toList_inj.mp h
  rw [this]
theorem ltS_tri {x y : Str} (h1 : ltS x y = false) (h2 : ltS y x = false) : x = y := by
  rw [ltS_eq] at h1 h2
  refine str_ext (lexB_tri (fun a b h1 h2 => ?_) h1 h2)
  have := of_decide_eq_false h1
  have := of_decide_eq_false h2
  omega
theorem ltS_irr (x : Str) : ltS x x = false := swo_str.refl x
theorem ltS_asym {x y : Str} (h : ltS x y = true) : ltS y x = false := swo_str.asym _ _ h
theorem ltS_ne {x y : Str} (h : ltS x y = true) : x ≠ y := fun e => by subst e; rw [ltS_irr] at h; cases h
theorem ltS_trans {x y z : Str} (h1 : ltS x y = true) (h2 : ltS y z = true) : ltS x z = true := swo_str.ltle h1 (ltS_asym h2)
theorem ltS_le {x y : Str} (h : ltS x y = false) : y = x ∨ ltS y x = true := by
  cases e : ltS y x with
  | true => exact .inr rfl
  | false => exact .inl (ltS_tri e h)
/-! ### order of pairs -/
def ltP (s t : Tie) : Bool := ltS s.1 t.1 || (s.1 == t.1 && ltS s.2 t.2)
theorem eqF_str (n : Nat) (a b : Str) : eqF n (.str a) (.str b) = some (a == b) := by cases n <;> rfl
theorem ltF_str (n : Nat) (a b : Str) : ltF n (.str a) (.str b) = some (ltS a b) := by cases n <;> rfl
theorem ltF_tie (n : Nat) (s t : Tie) : ltF (n + 1) (tieD s) (tieD t) = some (ltP s t) := by
  obtain ⟨a, b⟩ := s
  obtain ⟨c, d⟩ := t
  show lexF (eqF n) (ltF n) [.str a, .str b] [.str c, .str d] = _
  by_cases h1 : a = c
  · subst h1
    by_cases h2 : b = d
    · subst h2
      simp [lexF, eqF_str, ltF_str, ltP, ltS_irr]
    · simp [lexF, eqF_str, ltF_str, ltP, ltS_irr, h2]
  · by_cases h2 : b = d
    · subst h2
      have : (a == c) = false := beq_eq_false_iff_ne.mpr h1
      simp [lexF, eqF_str, ltF_str, ltP, this]
    · simp [lexF, eqF_str, ltF_str, ltP, h1, h2]
theorem ltP_tri {s t : Tie} (h1 : ltP s t = false) (h2 : ltP t s = false) : s = t := by
  obtain ⟨a, b⟩ := s
  obtain ⟨c, d⟩ := t
  simp only [ltP, Bool.or_eq_false_iff, Bool.and_eq_false_iff, beq_eq_false_iff_ne] at h1 h2
  have e := ltS_tri h1.1 h2.1
  subst e
  rw [ltS_tri (h1.2.resolve_left (fun z => z rfl)) (h2.2.resolve_left (fun z => z rfl))]
theorem ltP_irr (s : Tie) : ltP s s = false := by simp [ltP, ltS_irr]
theorem swo_tie : Swo ltP := ⟨fun s t h => by
  obtain ⟨a, b⟩ := s
  obtain ⟨c, d⟩ := t
  simp only [ltP, Bool.or_eq_true, Bool.and_eq_true, beq_iff_eq, Bool.or_eq_false_iff, Bool.and_eq_false_iff, beq_eq_false_iff_ne] at h ⊢
  rcases h with h | ⟨h1, h2⟩
  · exact ⟨ltS_asym h, .inl fun e => ltS_ne h e.symm⟩
  · subst h1
    exact ⟨ltS_irr _, .inr (ltS_asym h2)⟩, fun s t u h1 h2 => by
  obtain ⟨a, b⟩ := s
  obtain ⟨c, d⟩ := t
  obtain ⟨e, f⟩ := u
  simp only [ltP, Bool.or_eq_false_iff, Bool.and_eq_false_iff, beq_eq_false_iff_ne] at h1 h2 ⊢
  refine ⟨swo_str.tr _ _ _ h1.1 h2.1, ?_⟩
  by_cases q : e = a
  · right
    subst q
    have q2 : c = e := ltS_tri h1.1 h2.1
    subst q2
    exact swo_str.tr _ _ _ (h1.2.resolve_left fun z => z rfl) (h2.2.resolve_left fun z => z rfl)
  · exact .inl q⟩
/-! ### ascending lists -/
def Asc {α : Type} (lt : α → α → Bool) (l : List α) : Prop := l.Pairwise fun x y => lt x y = true
theorem asc_of {α : Type} {lt : α → α → Bool} (tri : ∀ x y, lt x y = false → lt y x = false → x = y) {l : List α} (h : Srtd lt l) (nd : l.Nodup) : Asc lt l := by
  refine List.Pairwise.imp₂ (fun x y h1 h2 => ?_) h nd
  cases e : lt x y with
  | true => rfl
  | false => exact absurd (tri _ _ e h1) h2
theorem asc_nodup {α : Type} {lt : α → α → Bool} (irr : ∀ x, lt x x = false) {l : List α} (h : Asc lt l) : l.Nodup := List.Pairwise.imp (fun {x y} h e => by subst e; rw [irr] at h; cases h) h
theorem insD_map {α β : Type} {lt : α → α → Bool} {lt' : β → β → Bool} {f : α → β} (h : ∀ a b, lt' (f a) (f b) = lt a b) (x : α) : ∀ l : List α, insD lt' (f x) (l.map f) = (insD lt x l).map f
  | [] => rfl
  | y :: l => by
    simp only [List.map_cons, insD, h]
    split
    · simp [insD_map h x l]
    · simp
theorem sortD_map {α β : Type} {lt : α → α → Bool} {lt' : β → β → Bool} {f : α → β} (h : ∀ a b, lt' (f a) (f b) = lt a b) : ∀ l : List α, sortD lt' (l.map f) = (sortD lt l).map f
  | [] => rfl
  | y :: l => by simp only [List.map_cons, sortD, sortD_map h l, insD_map h]
theorem ltT_str (n : Nat) (a b : Str) : ltT n (.str a) (.str b) = ltS a b := by rw [ltT_eq, inT_str]; simp [rkD]
theorem ltT_tie (n : Nat) (s t : Tie) : ltT (n + 1) (tieD s) (tieD t) = ltP s t := by
  obtain ⟨a, b⟩ := s
  obtain ⟨c, d⟩ := t
  rw [ltT_eq]
  show (decide ((2 : Nat) < 2) || ((2 : Nat) == 2) && inT (n + 1) (.tup [.str a, .str b]) (.tup [.str c, .str d])) = _
  rw [inT_tup]
  simp only [lexB, ltT_str, ltP]
  by_cases h1 : a = c
  · subst h1; simp [ltS_irr]
  · cases e1 : ltS a c with
    | true => simp
    | false =>
      cases e2 : ltS c a with
      | true => simp [h1]
      | false => exact absurd (ltS_tri e1 e2) h1
theorem sortOk_strs (xs : List Str) : sortOk (xs.map D.str) = true := by
  unfold sortOk
  simp only [Bool.and_eq_true, List.all_eq_true]
  refine ⟨?_, ?_⟩
  · induction xs with
    | nil => rfl
    | cons x xs ih => simp [plainDs, plainD, ih]
  · intro d hd
    obtain ⟨a, _, rfl⟩ := List.mem_map.mp hd
    refine ⟨rfl, fun e he => ?_⟩
    obtain ⟨b, _, rfl⟩ := List.mem_map.mp he
    refine ⟨rfl, ?_⟩
    rw [ltT_str, ltF_str]
    simp
theorem sortOk_ties (xs : List Tie) : sortOk (xs.map tieD) = true := by
  unfold sortOk
  simp only [Bool.and_eq_true, List.all_eq_true]
  refine ⟨?_, ?_⟩
  · induction xs with
    | nil => rfl
    | cons x xs ih => simp [plainDs, plainD, tieD, ih]
  · intro d hd
    obtain ⟨a, _, rfl⟩ := List.mem_map.mp hd
    refine ⟨rfl, fun e he => ?_⟩
    obtain ⟨b, _, rfl⟩ := List.mem_map.mp he
    refine ⟨rfl, ?_⟩
    show (ltF (11 + 1) _ _ == some (ltT (11 + 1) _ _)) = true
    rw [ltT_tie, ltF_tie]
    simp
theorem sortM_strs (xs : List Str) : sortM (D.lst (xs.map D.str)) = M.ret (D.lst ((sortD ltS xs).map D.str)) := by
  show (if sortOk (xs.map D.str) = true then M.ret (D.lst (sortD (ltT depthLine) (xs.map D.str))) else M.fail) = _
  rw [if_pos (sortOk_strs xs), sortD_map fun a b => ltT_str _ a b]
theorem sortM_ties (xs : List Tie) : sortM (D.lst (xs.map tieD)) = M.ret (D.lst ((sortD ltP xs).map tieD)) := by
  show (if sortOk (xs.map tieD) = true then M.ret (D.lst (sortD (ltT depthLine) (xs.map tieD))) else M.fail) = _
  rw [if_pos (sortOk_ties xs)]
  show M.ret (D.lst (sortD (ltT (11 + 1)) (xs.map tieD))) = _
  rw [sortD_map fun a b => ltT_tie 11 a b]
theorem sort_perm {α : Type} {lt : α → α → Bool} (O : Swo lt) (l : List α) : (sortD lt l).Perm l := (sortD_stb O l).perm
theorem asc_sortS {xs : List Str} (nd : xs.Nodup) : Asc ltS (sortD ltS xs) := asc_of (fun _ _ => ltS_tri) (sortD_srtd swo_str xs) ((sort_perm swo_str xs).nodup_iff.mpr nd)
theorem asc_sortP {xs : List Tie} (nd : xs.Nodup) : Asc ltP (sortD ltP xs) := asc_of (fun _ _ => ltP_tri) (sortD_srtd swo_tie xs) ((sort_perm swo_tie xs).nodup_iff.mpr nd)
/-- an ascending list is its own sorted one -/
theorem sort_asc {α : Type} {lt : α → α → Bool} (O : Swo lt) {l : List α} (h : Asc lt l) : sortD lt l = l :=
  (sortD_uniq O (h.imp fun {x y} q => O.asym _ _ q) (Stb.refl _)).symm
end DL
end
section
set_option Elab.async false
set_option linter.all false
set_option maxRecDepth 100000
set_option maxHeartbeats 1000000
/-! SP3: values, webs -/
namespace LW
open PySem PySem.Spec L2 DL
abbrev LET : Str := "abcdefghijklmnopqrstuvwxyz"
theorem let_tl : LET.cps.toList = List.range' 97 26 := by decide +kernel
def letterB (c : Nat) : Bool := decide (97 ≤ c) && decide (c < 123)
theorem mem_let (c : Nat) : decide (c ∈ LET.cps.toList) = letterB c := by
  rw [let_tl]
  unfold letterB
  rw [← Bool.decide_and]
  congr 1
  rw [List.mem_range'_1]
def isWordB (x : Str) : Bool := !(x == "") && x.cps.toList.all letterB
def isNameB (x : Str) : Bool := isWordB x && (decide (x.length ≤ 8) && !decide (x ∈ K_WORDS))
theorem chars_len (x : Str) : (chars x).length = x.length := by simp [chars, Str.length]
section
variable {ob : List D}
theorem is_word_str (x : Str) (h : x.length ≤ 16777216) : F_is_word [.str x] ob = .ok (.bl (isWordB x)) ⟨[], ob⟩ := by
  by_cases hx : x = ""
  · subst hx
    simp [F_is_word, m_is_word, isWordB]
  · have hb : (x == ("" : Str)) = false := beq_eq_false_iff_ne.mpr hx
    simp only [F_is_word, m_is_word, fnM1, retS_ap, andV_ap, op2_ap, vget_ap, bnd_ap, Res.bnd_ok, ret_ap, List.getElem?_cons_zero, isi_str_s, neM_str, hb, Bool.not_false, lcM_ap, itemsM_ap, itemsD_str]
    rw [lc_map (fun d => match d with | .str c => .bl (decide (c.cps.getD 0 0 ∈ LET.cps.toList)) | _ => .non) (by rw [chars_len]; exact h) (fun d hd => by
      obtain ⟨c, hc, rfl⟩ := List.mem_map.mp hd
      refine ⟨_, rfl, ?_⟩
      simp [inM_of (in_sign c LET)])]
    have e : ((chars x).map fun d => match d with | .str c => D.bl (decide (c.cps.getD 0 0 ∈ LET.cps.toList)) | _ => .non) = x.cps.toList.map fun c => D.bl (letterB c) := by
      unfold chars
      rw [List.map_map]
      refine List.map_congr_left fun c _ => ?_
      show D.bl (decide (c ∈ LET.cps.toList)) = _
      rw [mem_let]
    rw [e]
    simp [bls_map, isWordB, hb, Function.comp_def]
theorem is_word_non : F_is_word [.non] ob = .ok (.bl false) ⟨[], ob⟩ := by simp [F_is_word, m_is_word]
theorem is_name_str (x : Str) (h : x.length ≤ 16777216) : F_is_name [.str x] ob = .ok (.bl (isNameB x)) ⟨[], ob⟩ := by
  have e : notInM (.str x) (.ktup (K_WORDS.map .str)) = M.ret (.bl (!decide (x ∈ K_WORDS))) := notInM_of (in_strsK x K_WORDS)
  cases hw : isWordB x with
  | false => simp [F_is_name, m_is_name, is_word_str x h, hw, isNameB]
  | true =>
    by_cases h8 : x.length ≤ 8
    · have : ((x.length : Int) ≤ 8) := by omega
      simp [F_is_name, m_is_name, is_word_str x h, hw, isNameB, h, e, h8, this]
    · have : ¬ ((x.length : Int) ≤ 8) := by omega
      simp [F_is_name, m_is_name, is_word_str x h, hw, isNameB, h, h8, this]
theorem is_one_of_str (x : Str) (xs : List Str) : F_is_one_of [.str x, namesD xs] ob = .ok (.bl (decide (x ∈ xs))) ⟨[], ob⟩ := by
  have e : inM (.str x) (namesD xs) = M.ret (.bl (decide (x ∈ xs))) := inM_of (in_strs x xs)
  simp [F_is_one_of, m_is_one_of, e]
theorem is_tuple_of_tup (ds : List D) (n : Int) : F_is_tuple_of [.tup ds, .int n] ob = .ok (.bl (decide ((ds.length : Int) = n))) ⟨[], ob⟩ := by
  simp [F_is_tuple_of, m_is_tuple_of]
  rfl
theorem is_pair_two (a b : D) : F_is_pair [.tup [a, b]] ob = .ok (.bl true) ⟨[], ob⟩ := by
  simp [F_is_pair, m_is_pair, is_tuple_of_tup]
/-! ### whether elements stand in order -/
theorem eqF_nil (n : Nat) (ds : List D) : eqF (n + 1) (.tup ds) (.tup []) = some ds.isEmpty := by
  cases ds <;> rfl
theorem eqM_nil (ds : List D) : eqM (.tup ds) (.tup []) = M.ret (.bl ds.isEmpty) := eqM_of (eqF_nil 11 ds)
theorem atI_last {α : Type} (l : List α) (a : α) : atI (l ++ [a]) (-1) = some a := by
  unfold atI ixN
  have h1 : ¬ (0 : Int) ≤ -1 := by decide
  have h2 : -(((l ++ [a]).length : Nat) : Int) ≤ -1 := by simp; omega
  rw [if_neg h1, if_pos h2]
  have : (-1 + (((l ++ [a]).length : Nat) : Int)).toNat = l.length := by
    rw [List.length_append, List.length_singleton]
    omega
  rw [this]
  simp
theorem are_below_nil (d : D) : F_are_below [.tup [], d] ob = .ok (.bl true) ⟨[], ob⟩ := by
  simp [F_are_below, m_are_below, eqM_nil]
theorem are_below_snoc (l : List D) (c d : D) (b : Bool) (h : ltF depthLine c d = some b) : F_are_below [.tup (l ++ [c]), d] ob = .ok (.bl b) ⟨[], ob⟩ := by
  have e : (l ++ [c]).isEmpty = false := by cases l <;> rfl
  simp [F_are_below, m_are_below, eqM_nil, e, ixM_tup (atI_last l c), ltM_of h]
end
/-! ### what is wrong in a tuple -/
def wrongFrom (most : Int) (f : Nat → Bool) : Nat → Nat → List D
  | _, 0 => []
  | i, n + 1 => if (i : Int) = most ∨ f i = false then [.int (i : Nat)] else wrongFrom most f (i + 1) n
def wrongIn (n : Nat) (least most : Int) (f : Nat → Bool) : List D := if (n : Int) < least then [.non] else wrongFrom most f 0 n
section
variable {ob : List D}
theorem cut_to (ds : List D) (i : Nat) (h : i ≤ ds.length) : cutD ds none (some (i : Int)) = ds.take i := by
  unfold cutD
  have e1 : HT.sIx ds.length 0 none = 0 := rfl
  rw [e1, HT.sIx_nat, Nat.min_eq_left h]
  simp
theorem wrong_loop {Λ : Nat → List D → Fn} {j : Nat} {cv : List D} {all : List D} {least most : Int} {f : Nat → Bool} (hΛ : ∀ i d, all[i]? = some d → Λ j cv [.tup (all.take i), d] ob = .ok (.bl (f i)) ⟨[], ob⟩) : ∀ (ds : List D) (i : Nat) (s4 s5 : Sl), all.drop i = ds →
    ∃ s4' s5' fl, forM (tgT [setN 4, setN 5]) (ifV (orB (M.bnd (op2 (vget 4) (vget 2) eqM) bool1) (notB (M.bnd (callFnM Λ 3 [slE (vget 0) (M.ret none) (M.bnd (vget 4) partOf), vget 5]) tru))) (retS (lstE [vget 4])) (skip)) ((ds.zipIdx i).map fun p => .tup [.int (p.2 : Nat), p.1]) ⟨[.d (.tup all), .d (.int least), .d (.int most), .d (.fn j cv), s4, s5], ob⟩ = .ok fl ⟨[.d (.tup all), .d (.int least), .d (.int most), .d (.fn j cv), s4', s5'], ob⟩ ∧
      ((wrongFrom most f i ds.length = [] ∧ fl = .nx) ∨ (wrongFrom most f i ds.length ≠ [] ∧ fl = .rt (.lst (wrongFrom most f i ds.length))))
  | [], i, s4, s5, _ => ⟨s4, s5, .nx, rfl, .inl ⟨rfl, rfl⟩⟩
  | d :: r, i, s4, s5, hd => by
    have hi : all[i]? = some d := by
      have := congrArg (fun l => l[0]?) hd
      simpa using this
    have hlt : i < all.length := (List.getElem?_eq_some_iff.mp hi).1
    have hr : all.drop (i + 1) = r := by
      have := congrArg List.tail hd
      simpa using this
    have e0 : ((d :: r).zipIdx i).map (fun p => D.tup [.int (p.2 : Nat), p.1]) = .tup [.int (i : Nat), d] :: (r.zipIdx (i + 1)).map fun p => .tup [.int (p.2 : Nat), p.1] := rfl
    rw [e0, forM_cons (S1 := ⟨[.d (.tup all), .d (.int least), .d (.int most), .d (.fn j cv), .d (.int (i : Nat)), .d d], ob⟩) rfl]
    by_cases hm : (i : Int) = most
    · refine ⟨.d (.int (i : Nat)), .d d, .rt (.lst [.int (i : Nat)]), ?_, .inr ?_⟩
      · simp [hm]
      · simp [wrongFrom, hm]
    · have hbm : ((i : Int) == most) = false := beq_eq_false_iff_ne.mpr hm
      have hc : callFnM Λ 3 [slE (vget 0) (M.ret none) (M.bnd (vget 4) partOf), vget 5] ⟨[.d (.tup all), .d (.int least), .d (.int most), .d (.fn j cv), .d (.int (i : Nat)), .d d], ob⟩ = .ok (.bl (f i)) ⟨[.d (.tup all), .d (.int least), .d (.int most), .d (.fn j cv), .d (.int (i : Nat)), .d d], ob⟩ := by
        simp [callFnM, cut_to all i (Nat.le_of_lt hlt), hΛ i d hi]
      cases hf : f i with
      | false =>
        refine ⟨.d (.int (i : Nat)), .d d, .rt (.lst [.int (i : Nat)]), ?_, .inr ?_⟩
        · simp [hbm, hc, hf]
        · simp [wrongFrom, hf]
      | true =>
        obtain ⟨s4', s5', fl, e1, h1⟩ := wrong_loop hΛ r (i + 1) (.d (.int (i : Nat))) (.d d) hr
        refine ⟨s4', s5', fl, ?_, ?_⟩
        · simp only [ifV_ap, orB_ap, notB_ap, bnd_ap, op2_ap, vget_ap, List.getElem?_cons_succ, List.getElem?_cons_zero, Res.bnd_ok, eqM_int, hbm, ret_ap, bool1_bl, Bool.false_eq_true, if_false, hc, hf, tru_bl, Bool.not_true, skip_ap, ite_ap]
          exact e1
        · have : wrongFrom most f i (d :: r).length = wrongFrom most f (i + 1) r.length := by
            show (if (i : Int) = most ∨ f i = false then [.int (i : Nat)] else wrongFrom most f (i + 1) r.length) = _
            rw [if_neg (by rintro (z | z) <;> simp_all)]
          rw [this]
          exact h1
theorem wrong_in_tup {Λ : Nat → List D → Fn} {j : Nat} {cv : List D} {ds : List D} {least most : Int} {f : Nat → Bool} (hΛ : ∀ i d, ds[i]? = some d → Λ j cv [.tup (ds.take i), d] ob = .ok (.bl (f i)) ⟨[], ob⟩) :
    F_wrong_in Λ [.tup ds, .int least, .int most, .fn j cv] ob = .ok (.lst (wrongIn ds.length least most f)) ⟨[], ob⟩ := by
  unfold wrongIn
  by_cases h : (ds.length : Int) < least
  · simp [F_wrong_in, m_wrong_in, h]
  · obtain ⟨s4, s5, fl, e, q⟩ := wrong_loop (least := least) (most := most) hΛ ds 0 .no .no rfl
    simp only [if_neg h, F_wrong_in, m_wrong_in, fnM4, seqS_ap, ifV_ap, orB_ap, notB_ap, bnd_ap, op2_ap, vget_ap, List.getElem?_cons_succ, List.getElem?_cons_zero, Res.bnd_ok, ret_ap, isi_tup_t, tru_bl, Bool.not_true, Bool.false_eq_true, if_false, lenM_tup, ltM_int, decide_eq_false h, bool1_bl, ite_ap, skip_ap, forS_ap, enumM_ap, seqM_cons, seqM_nil, enumF_tup]
    have e' : forM (tgT [setN 4, setN 5]) (ifV (orB (M.bnd (op2 (vget 4) (vget 2) eqM) bool1) (notB (M.bnd (callFnM Λ 3 [slE (vget 0) (M.ret none) (M.bnd (vget 4) partOf), vget 5]) tru))) (retS (lstE [vget 4])) (skip)) (enumD ds) ⟨[.d (.tup ds), .d (.int least), .d (.int most), .d (.fn j cv)] ++ List.replicate (6 - 4) .no, ob⟩ = _ := e
    simp only [List.cons_append, List.nil_append] at e'
    rw [e']
    rcases q with ⟨q1, q2⟩ | ⟨q1, q2⟩
    · subst q2
      rw [q1]
      rfl
    · subst q2
      rfl
/-- nothing is wrong -/
theorem wrongFrom_nil {most : Int} {f : Nat → Bool} : ∀ {n i : Nat}, ((i + n : Nat) : Int) ≤ most → (∀ k, i ≤ k → k < i + n → f k = true) → wrongFrom most f i n = []
  | 0, _, _, _ => rfl
  | n + 1, i, h, hf => by
    show (if (i : Int) = most ∨ f i = false then [.int (i : Nat)] else wrongFrom most f (i + 1) n) = _
    have h1 : ¬ ((i : Int) = most ∨ f i = false) := by
      rintro (z | z)
      · omega
      · rw [hf i (Nat.le_refl _) (by omega)] at z; cases z
    rw [if_neg h1]
    exact wrongFrom_nil (by omega) fun k h1 h2 => hf k (by omega) (by omega)
theorem wrongIn_nil {n : Nat} {least most : Int} {f : Nat → Bool} (h1 : least ≤ n) (h2 : (n : Int) ≤ most) (hf : ∀ k, k < n → f k = true) : wrongIn n least most f = [] := by
  unfold wrongIn
  rw [if_neg (by omega)]
  exact wrongFrom_nil (by omega) fun k _ h => hf k (by omega)
end
end LW
end
section
set_option Elab.async false
set_option linter.all false
set_option maxRecDepth 100000
set_option maxHeartbeats 1000000
/-! SP4: whether places hang together; parts of webs -/
namespace LW
open PySem PySem.Spec L2 DL
/-! ### plain lists -/
theorem nodup_len {α : Type} [DecidableEq α] : ∀ {l m : List α}, l.Nodup → (∀ x ∈ l, x ∈ m) → l.length ≤ m.length
  | [], _, _, _ => Nat.zero_le _
  | x :: l, m, nd, s => by
    have nd' := List.nodup_cons.mp nd
    have hx := s x List.mem_cons_self
    have := nodup_len (l := l) (m := m.erase x) nd'.2 fun y hy => (List.mem_erase_of_ne (fun e => by subst e; exact nd'.1 hy)).mpr (s y (List.mem_cons_of_mem _ hy))
    rw [List.length_erase_of_mem hx] at this
    have : 0 < m.length := List.length_pos_of_mem hx
    simp only [List.length_cons]
    omega
theorem nodup_all {α : Type} [DecidableEq α] {l m : List α} (nd : l.Nodup) (s : ∀ x ∈ l, x ∈ m) (h : m.length ≤ l.length) : ∀ y ∈ m, y ∈ l := fun y hy => by
  by_cases hl : y ∈ l
  · exact hl
  · have := nodup_len (l := y :: l) (m := m) (List.nodup_cons.mpr ⟨hl, nd⟩) fun z hz => by
      rcases List.mem_cons.mp hz with e | hz
      · rw [e]; exact hy
      · exact s z hz
    simp only [List.length_cons] at this
    omega
/-! ### ties -/
def adj (ts : List Tie) (x y : Str) : Prop := (x, y) ∈ ts ∨ (y, x) ∈ ts
inductive Reach (ts : List Tie) (a : Str) : Str → Prop where
  | refl : Reach ts a a
  | step {b c : Str} : Reach ts a b → adj ts b c → Reach ts a c
def besideL (ts : List Tie) (p : Str) : List Str := (ts.filter fun t => decide (p = t.1 ∨ p = t.2)).map fun t => if t.2 = p then t.1 else t.2
theorem mem_beside {ts : List Tie} {p y : Str} (h : ∀ t ∈ ts, t.1 ≠ t.2) : y ∈ besideL ts p ↔ adj ts p y := by
  unfold besideL adj
  rw [List.mem_map]
  constructor
  · rintro ⟨⟨a, b⟩, ht, e⟩
    rw [List.mem_filter] at ht
    obtain ⟨h1, h2⟩ := ht
    have h2 := of_decide_eq_true h2
    dsimp only at h2 e
    by_cases hb : b = p
    · subst hb
      rw [if_pos rfl] at e
      subst e
      exact .inr h1
    · rw [if_neg hb] at e
      subst e
      rcases h2 with z | z
      · subst z; exact .inl h1
      · exact absurd z.symm hb
  · rintro (q | q)
    · exact ⟨(p, y), List.mem_filter.mpr ⟨q, by simp⟩, if_neg fun e => h _ q e.symm⟩
    · exact ⟨(y, p), List.mem_filter.mpr ⟨q, by simp⟩, if_pos rfl⟩
section
variable {ob : List D}
theorem beside_run (ts : List Tie) (p : Str) (w : D) (hw : itemsD w = M.ret (ts.map tieD)) (hl : ts.length ≤ 16777216) : F_beside [w, .str p] ob = .ok (.lst ((besideL ts p).map .str)) ⟨[], ob⟩ := by
  simp only [F_beside, m_beside, fnM2, retS_ap, lcM_ap, itemsM_ap, vget_ap, List.getElem?_cons_zero, Res.bnd_ok, hw, ret_ap]
  rw [lc_pure (fun d => match d with | .tup [.str a, .str b] => decide (p = a ∨ p = b) | _ => false) (fun d => match d with | .tup [.str a, .str b] => .str (if b = p then a else b) | _ => .non) (by simpa using hl) (fun d hd => by
    obtain ⟨⟨a, b⟩, ht, rfl⟩ := List.mem_map.mp hd
    refine ⟨⟨[.d w, .d (.str p), .d (.str a), .d (.str b)], ob⟩, rfl, [.d w, .d (.str p), .d (.str a), .d (.str b)], ?_, fun _ => rfl, fun _ => ⟨[.d w, .d (.str p), .d (.str a), .d (.str b)], ?_, rfl⟩⟩
    · simp [inM_of (in_two p a b), tieD]
    · by_cases e : b = p
      · subst e
        simp [tieD]
      · simp [tieD, e])]
  have e : ((ts.map tieD).filter fun d => match d with | .tup [.str a, .str b] => decide (p = a ∨ p = b) | _ => false) = (ts.filter fun t => decide (p = t.1 ∨ p = t.2)).map tieD := by
    rw [List.filter_map]
    rfl
  rw [e]
  simp only [Res.bnd_ok, fnR_rt, ret_ap]
  congr 2
  unfold besideL
  rw [List.map_map, List.map_map]
  refine List.map_congr_left fun t _ => ?_
  show D.str (if t.2 = p then t.1 else t.2) = _
  rfl
/-! ### the search -/
def grow (nb : List Str) (s : List Str × List Str) : List Str × List Str := nb.foldl (fun s x => if x ∈ s.1 then s else (s.1 ++ [x], s.2 ++ [x])) s
def fdic (f : List Str) : D := .dic (f.map .inr) (f.map fun _ => .bl true)
structure HangI (ps : List Str) (ts : List Tie) (p0 : Str) (f l : List Str) : Prop where
  nd : f.Nodup
  sub : ∀ x ∈ f, x ∈ ps
  lsub : ∀ x ∈ l, x ∈ f
  lnd : l.Nodup
  at0 : p0 ∈ f
  rch : ∀ x ∈ f, Reach ts p0 x
  cls : ∀ x ∈ f, x ∉ l → ∀ y, adj ts x y → y ∈ f
/-- between two neighbours: those of x so far are there -/
structure GrowI (ps : List Str) (ts : List Tie) (p0 x : Str) (f l : List Str) : Prop where
  nd : f.Nodup
  sub : ∀ x ∈ f, x ∈ ps
  lsub : ∀ x ∈ l, x ∈ f
  lnd : l.Nodup
  at0 : p0 ∈ f
  rch : ∀ x ∈ f, Reach ts p0 x
  xf : x ∈ f
  cls : ∀ z ∈ f, z ∉ l → z ≠ x → ∀ y, adj ts z y → y ∈ f
theorem grow_ok {ps : List Str} {ts : List Tie} {p0 x : Str} (hts : ∀ t ∈ ts, t.1 ∈ ps ∧ t.2 ∈ ps) : ∀ (nb : List Str) (s : List Str × List Str), (∀ y ∈ nb, adj ts x y) → GrowI ps ts p0 x s.1 s.2 → GrowI ps ts p0 x (grow nb s).1 (grow nb s).2 ∧ (∀ y ∈ nb, y ∈ (grow nb s).1) ∧ (∀ y ∈ s.1, y ∈ (grow nb s).1) ∧ (grow nb s).2.length + s.1.length = s.2.length + (grow nb s).1.length
  | [], s, _, g => ⟨g, (fun y h => by cases h), (fun y h => h), rfl⟩
  | y :: nb, s, ha, g => by
    have hy := ha y List.mem_cons_self
    show GrowI ps ts p0 x (grow nb (if y ∈ s.1 then s else (s.1 ++ [y], s.2 ++ [y]))).1 _ ∧ _
    by_cases hm : y ∈ s.1
    · have e : grow (y :: nb) s = grow nb s := by show grow nb (if y ∈ s.1 then s else (s.1 ++ [y], s.2 ++ [y])) = _; rw [if_pos hm]
      rw [if_pos hm, e]
      obtain ⟨h1, h2, h3, h4⟩ := grow_ok hts nb s (fun z hz => ha z (List.mem_cons_of_mem _ hz)) g
      exact ⟨h1, fun z hz => by
        rcases List.mem_cons.mp hz with e | hz
        · rw [e]; exact h3 _ hm
        · exact h2 z hz, h3, h4⟩
    · have e : grow (y :: nb) s = grow nb (s.1 ++ [y], s.2 ++ [y]) := by show grow nb (if y ∈ s.1 then s else (s.1 ++ [y], s.2 ++ [y])) = _; rw [if_neg hm]
      rw [if_neg hm, e]
      have yps : y ∈ ps := by
        rcases hy with q | q
        · exact (hts _ q).2
        · exact (hts _ q).1
      have g' : GrowI ps ts p0 x (s.1 ++ [y]) (s.2 ++ [y]) := by
        refine ⟨?_, ?_, ?_, ?_, List.mem_append_left _ g.at0, ?_, List.mem_append_left _ g.xf, ?_⟩
        · exact List.nodup_append.mpr ⟨g.nd, by simp, fun u hu v hv => by simp at hv; subst hv; exact fun e => hm (by rw [← e]; exact hu)⟩
        · intro z hz
          rcases List.mem_append.mp hz with q | q
          · exact g.sub z q
          · simp at q; subst q; exact yps
        · intro z hz
          rcases List.mem_append.mp hz with q | q
          · exact List.mem_append_left _ (g.lsub z q)
          · exact List.mem_append_right _ q
        · exact List.nodup_append.mpr ⟨g.lnd, by simp, fun u hu v hv => by simp at hv; subst hv; exact fun e => hm (by rw [← e]; exact g.lsub _ hu)⟩
        · intro z hz
          rcases List.mem_append.mp hz with q | q
          · exact g.rch z q
          · simp at q; subst q; exact .step (g.rch x g.xf) hy
        · intro z hz hl hne w hw
          rcases List.mem_append.mp hz with q | q
          · exact List.mem_append_left _ (g.cls z q (fun r => hl (List.mem_append_left _ r)) hne w hw)
          · exact absurd (List.mem_append_right _ q) hl
      obtain ⟨h1, h2, h3, h4⟩ := grow_ok hts nb (s.1 ++ [y], s.2 ++ [y]) (fun z hz => ha z (List.mem_cons_of_mem _ hz)) g'
      refine ⟨h1, fun z hz => ?_, fun z hz => h3 z (List.mem_append_left _ hz), ?_⟩
      · rcases List.mem_cons.mp hz with e | hz
        · rw [e]; exact h3 _ (List.mem_append_right _ (by simp))
        · exact h2 z hz
      · simp only [List.length_append, List.length_singleton] at h4
        omega
theorem in_fdic (x : Str) (f : List Str) : inF (.str x) (fdic f) = some (decide (x ∈ f)) := by
  show some ((f.map (Sum.inr : Str → Key)).any fun j => decide (j = .inr x)) = _
  congr 1
  rw [List.any_map]
  by_cases h : x ∈ f
  · rw [decide_eq_true h, List.any_eq_true]
    exact ⟨x, h, by simp⟩
  · rw [decide_eq_false h, List.any_eq_false]
    intro y hy
    simp
    intro e
    exact h (e ▸ hy)
theorem set_fdic {x : Str} {f : List Str} (h : x ∉ f) (hl : f.length < 16777216) : setF (fdic f) (.str x) (.bl true) = some (fdic (f ++ [x])) := by
  have e : ((f.map (Sum.inr : Str → Key)).any fun j => decide (j = .inr x)) = false := by
    rw [List.any_map, List.any_eq_false]
    intro y hy
    simp
    intro e
    exact h (e ▸ hy)
  show (if (f.map (Sum.inr : Str → Key)).length < 16777216 then some (D.dic (newKs (f.map (Sum.inr : Str → Key)) (Sum.inr x)) (newVs (f.map (Sum.inr : Str → Key)) (f.map fun _ => D.bl true) (Sum.inr x) (D.bl true))) else none) = _
  rw [if_pos (by simpa using hl)]
  unfold newKs newVs fdic
  rw [e]
  simp
abbrev hangBody : M Fl := forS (itemsM (callE F_beside [vget 1, popM 3])) (setN 4) (ifV (M.bnd (op2 (vget 4) (vgetR 2) notInM) bool1) (seqS (asgS (M.ret (.bl true)) (subT 2 (vget 4))) (exprS (appM 3 (vget 4)))) (skip))
theorem grow_run {a b : Sl} : ∀ (nb : List Str) (f l : List Str) (s4 : Sl), f.length + nb.length < 16777216 → l.length + nb.length < 16777216 →
    ∃ s4', forM (setN 4) (ifV (M.bnd (op2 (vget 4) (vgetR 2) notInM) bool1) (seqS (asgS (M.ret (.bl true)) (subT 2 (vget 4))) (exprS (appM 3 (vget 4)))) (skip)) (nb.map .str) ⟨[a, b, .own (fdic f), .own (.lst (l.map .str)), s4], ob⟩ =
      .ok .nx ⟨[a, b, .own (fdic (grow nb (f, l)).1), .own (.lst ((grow nb (f, l)).2.map .str)), s4'], ob⟩
  | [], f, l, s4, _, _ => ⟨s4, rfl⟩
  | y :: nb, f, l, s4, h1, h2 => by
    simp only [List.length_cons] at h1 h2
    have e0 : (y :: nb).map D.str = .str y :: nb.map .str := rfl
    rw [e0, forM_cons (S1 := ⟨[a, b, .own (fdic f), .own (.lst (l.map .str)), .d (.str y)], ob⟩) rfl]
    by_cases hm : y ∈ f
    · obtain ⟨s4', e⟩ := grow_run nb f l (.d (.str y)) (by omega) (by omega)
      refine ⟨s4', ?_⟩
      have eg : grow (y :: nb) (f, l) = grow nb (f, l) := by show grow nb (if y ∈ (f, l).1 then (f, l) else _) = _; rw [if_pos hm]
      rw [eg, ← e]
      simp [notInM_of (in_fdic y f), hm]
    · obtain ⟨s4', e⟩ := grow_run nb (f ++ [y]) (l ++ [y]) (.d (.str y)) (by simp; omega) (by simp; omega)
      refine ⟨s4', ?_⟩
      have eg : grow (y :: nb) (f, l) = grow nb (f ++ [y], l ++ [y]) := by show grow nb (if y ∈ (f, l).1 then (f, l) else _) = _; rw [if_neg hm]
      rw [eg, ← e]
      have hl : l.length < 16777216 := by omega
      simp [notInM_of (in_fdic y f), hm, subT, chgAt, DL.putAt, set_fdic hm (by omega), appM, omM, isLst, hl]
theorem hang_run {ps : List Str} {ts : List Tie} {p0 : Str} {w : D} (hps : ps.length ≤ 1000) (hw : itemsD w = M.ret (ts.map tieD)) (hlen : ts.length ≤ 1000) (hts : ∀ t ∈ ts, t.1 ∈ ps ∧ t.2 ∈ ps) (hne : ∀ t ∈ ts, t.1 ≠ t.2) {a : Sl} : ∀ (n : Nat) (f l : List Str) (s4 : Sl), HangI ps ts p0 f l → 2 * (ps.length - f.length) + l.length < n →
    ∃ f' s4', whileM n (M.bnd (cmpV 3 (lstE []) neM) bool1) hangBody ⟨[a, .d w, .own (fdic f), .own (.lst (l.map .str)), s4], ob⟩ = .ok .nx ⟨[a, .d w, .own (fdic f'), .own (.lst []), s4'], ob⟩ ∧ HangI ps ts p0 f' []
  | 0, f, l, s4, _, h => by omega
  | n + 1, f, l, s4, I, hn => by
    have hfl : f.length ≤ ps.length := nodup_len I.nd I.sub
    have hll : l.length ≤ f.length := nodup_len I.lnd I.lsub
    have eN : neM (.lst (l.map .str)) (.lst []) = M.ret (.bl (!l.isEmpty)) := by
      have : eqF depthLine (.lst (l.map .str)) (.lst []) = some l.isEmpty := by cases l <;> rfl
      rw [neM_of this]
    rw [whileM_step]
    rcases List.eq_nil_or_concat l with rfl | ⟨l0, x, rfl⟩
    · refine ⟨f, s4, ?_, I⟩
      simp [cmpV_ap, eN]
      simp only [List.map_nil, List.isEmpty_nil, Bool.not_true] at eN
      simp [eN]
    · rw [List.concat_eq_append] at *
      have hemp : (l0 ++ [x]).isEmpty = false := by cases l0 <;> rfl
      have hx : x ∈ f := I.lsub x (by simp)
      have hxl : x ∉ l0 := fun h => by
        have := List.nodup_append.mp I.lnd
        exact this.2.2 x h x (by simp) rfl
      have g0 : GrowI ps ts p0 x f l0 := ⟨I.nd, I.sub, fun z hz => I.lsub z (List.mem_append_left _ hz), (List.nodup_append.mp I.lnd).1, I.at0, I.rch, hx, fun z hz hl hne2 y hy => I.cls z hz (fun q => by
        rcases List.mem_append.mp q with q | q
        · exact hl q
        · simp at q; exact hne2 q) y hy⟩
      have nbl : (besideL ts x).length ≤ 1000 := by
        unfold besideL
        rw [List.length_map]
        exact Nat.le_trans (List.length_filter_le _ _) hlen
      obtain ⟨g1, g2, g3, g4⟩ := grow_ok hts (besideL ts x) (f, l0) (fun y hy => (mem_beside hne).mp hy) g0
      have I' : HangI ps ts p0 (grow (besideL ts x) (f, l0)).1 (grow (besideL ts x) (f, l0)).2 := ⟨g1.nd, g1.sub, g1.lsub, g1.lnd, g1.at0, g1.rch, fun z hz hl y hy => by
        by_cases ez : z = x
        · subst ez; exact g2 y ((mem_beside hne).mpr hy)
        · exact g1.cls z hz hl ez y hy⟩
      simp only [List.length_append, List.length_singleton] at hn hll
      obtain ⟨s5, e1⟩ := grow_run (ob := ob) (a := a) (b := .d w) (besideL ts x) f l0 s4 (by omega) (by omega)
      have hfl' : (grow (besideL ts x) (f, l0)).1.length ≤ ps.length := nodup_len g1.nd g1.sub
      obtain ⟨f', s4', e2, I2⟩ := hang_run hps hw hlen hts hne n (grow (besideL ts x) (f, l0)).1 (grow (besideL ts x) (f, l0)).2 s5 I' (by
        have : f.length ≤ (grow (besideL ts x) (f, l0)).1.length := nodup_len I.nd g3
        dsimp only at g4
        omega)
      refine ⟨f', s4', ?_, I2⟩
      rw [← e2]
      have ep : popM 3 ⟨[a, .d w, .own (fdic f), .own (.lst ((l0 ++ [x]).map .str)), s4], ob⟩ = .ok (.str x) ⟨[a, .d w, .own (fdic f), .own (.lst (l0.map .str)), s4], ob⟩ := by
        simp [popM, omM, chgAt, DL.putAt, isLst]
      have eb : hangBody ⟨[a, .d w, .own (fdic f), .own (.lst ((l0 ++ [x]).map .str)), s4], ob⟩ = .ok .nx ⟨[a, .d w, .own (fdic (grow (besideL ts x) (f, l0)).1), .own (.lst ((grow (besideL ts x) (f, l0)).2.map .str)), s5], ob⟩ := by
        rw [← e1]
        simp only [forS_ap, itemsM_ap, callE_ap, seqM_cons, vget_ap, List.getElem?_cons_succ, List.getElem?_cons_zero, Res.bnd_ok, bnd_ap, ep, seqM_nil, ret_ap, callF_ap, beside_run ts x w hw (by omega), after_ok, itemsD_lst]
      rw [hemp] at eN
      simp only [bnd_ap, cmpV_ap, hasV_ap, atV_ap, List.getElem?_cons_succ, List.getElem?_cons_zero, if_true, lstE_ap, seqM_nil, Res.bnd_ok, ret_ap, eN, Bool.not_false, bool1_bl, eb]
theorem do_hang_run {ps : List Str} {ts : List Tie} {p0 : Str} {r : List Str} {w : D} (hp : ps = p0 :: r) (nd : ps.Nodup) (hps : ps.length ≤ 1000) (hw : itemsD w = M.ret (ts.map tieD)) (hlen : ts.length ≤ 1000) (hts : ∀ t ∈ ts, t.1 ∈ ps ∧ t.2 ∈ ps) (hne : ∀ t ∈ ts, t.1 ≠ t.2) :
    ∃ b, F_do_hang [namesD ps, w] ob = .ok (.bl b) ⟨[], ob⟩ ∧ (b = true ↔ ∀ p ∈ ps, Reach ts p0 p) := by
  have I : HangI ps ts p0 [p0] [p0] := ⟨by simp, fun x hx => by simp at hx; subst hx; rw [hp]; simp, fun x hx => hx, by simp, by simp, fun x hx => by simp at hx; subst hx; exact .refl, fun x hx hl => absurd hx hl⟩
  obtain ⟨f', s4', e, I'⟩ := hang_run (ob := ob) (a := .d (namesD ps)) hps hw hlen hts hne WHN [p0] [p0] .no I (by simp only [List.length_singleton, WHN]; omega)
  have hfl : f'.length ≤ ps.length := nodup_len I'.nd I'.sub
  refine ⟨decide (f'.length = ps.length), ?_, ?_⟩
  · have e0 : ixM (namesD ps) (.int 0) = fun S => .ok (.str p0) S := by
      funext S
      rw [hp]
      exact ixM_tup0 _ _ _
    have e1 : F_do_hang [namesD ps, w] ob = fnR (m_do_hang ⟨[.d (namesD ps), .d w, .no, .no, .no], ob⟩) := rfl
    rw [e1]
    have e2 : m_do_hang ⟨[.d (namesD ps), .d w, .no, .no, .no], ob⟩ = (whileM WHN (M.bnd (cmpV 3 (lstE []) neM) bool1) hangBody ⟨[.d (namesD ps), .d w, .own (fdic [p0]), .own (.lst ([p0].map .str)), .no], ob⟩).bnd fun fl => match fl with
        | .nx => (retS (op2 (M.bnd (vgetR 2) lenM) (M.bnd (vget 0) lenM) eqM))
        | fl => M.ret fl := by
      simp only [m_do_hang, seqS_ap, parS_ap, disp1M, bnd_ap, op2_ap, vget_ap, List.getElem?_cons_zero, Res.bnd_ok, ret_ap, e0, keyOf_str, lstE_ap, seqM_cons, seqM_nil]
      rfl
    rw [e2, e]
    simp only [Res.bnd_ok, retS_ap, op2_ap, bnd_ap, vgetR_ap, vget_ap, List.getElem?_cons_succ, List.getElem?_cons_zero, fdic, lenM_dic, namesD, lenM_tup, ret_ap, eqM_int, fnR_rt, List.length_map]
    congr 2
    by_cases h : f'.length = ps.length
    · simp [h]
    · have : ((f'.length : Int) == (ps.length : Int)) = false := beq_eq_false_iff_ne.mpr (by omega)
      rw [this]
      simp [h]
  · rw [decide_eq_true_iff]
    constructor
    · intro h p hp'
      exact I'.rch p (nodup_all I'.nd I'.sub (by omega) p hp')
    · intro h
      have : ps.length ≤ f'.length := nodup_len nd fun p hp' => by
        have hr := h p hp'
        clear e hp hp'
        induction hr with
        | refl => exact I'.at0
        | step _ ha ih => exact I'.cls _ ih (by simp) _ ha
      omega
end
end LW
end
section
set_option Elab.async false
set_option linter.all false
set_option maxRecDepth 100000
set_option maxHeartbeats 1000000
/-! SP5: webs made, beginnings -/
namespace DL
open PySem PySem.Spec L2
theorem fnFree_tidy : ∀ (n : Nat) (d : D), tidy n d = true → fnFree d = true := by
  intro n
  induction n with
  | zero => intro d h; cases d <;> first | rfl | (simp [tidy] at h)
  | succ n ih =>
    have all : ∀ ds : List D, tidys n ds = true → fnFrees ds = true := fun ds => by
      induction ds with
      | nil => intro _; rfl
      | cons d ds ih2 =>
        intro h
        simp only [tidys, Bool.and_eq_true] at h
        simp only [fnFrees, Bool.and_eq_true]
        exact ⟨ih d h.1, ih2 h.2⟩
    intro d h
    cases d with
    | tup ds => exact all ds h
    | lst ds => exact all ds h
    | _ => first | rfl | (simp [tidy] at h)
theorem locs_tidy (m : Nat) : ∀ (n : Nat) (d : D), tidy n d = true → locsB m d = true := by
  intro n
  induction n with
  | zero => intro d h; cases d <;> first | rfl | (simp [tidy] at h)
  | succ n ih =>
    have all : ∀ ds : List D, tidys n ds = true → locsBs m ds = true := fun ds => by
      induction ds with
      | nil => intro _; rfl
      | cons d ds ih2 =>
        intro h
        simp only [tidys, Bool.and_eq_true] at h
        simp only [locsBs, Bool.and_eq_true]
        exact ⟨ih d h.1, ih2 h.2⟩
    intro d h
    cases d with
    | tup ds => exact all ds h
    | lst ds => exact all ds h
    | _ => first | rfl | (simp [tidy] at h)
theorem fnFrees_iff {ds : List D} : fnFrees ds = true ↔ ∀ d ∈ ds, fnFree d = true := by
  induction ds with
  | nil => simp [fnFrees]
  | cons d ds ih => simp [fnFrees, ih]
theorem locsBs_iff {n : Nat} {ds : List D} : locsBs n ds = true ↔ ∀ d ∈ ds, locsB n d = true := by
  induction ds with
  | nil => simp [locsBs]
  | cons d ds ih => simp [locsBs, ih]
@[simp] theorem fnFrees_nil : fnFrees [] = true := rfl
@[simp] theorem fnFrees_cons (d : D) (ds : List D) : fnFrees (d :: ds) = (fnFree d && fnFrees ds) := rfl
@[simp] theorem fnFree_int (i : Int) : fnFree (.int i) = true := rfl
@[simp] theorem fnFree_str (i : Str) : fnFree (.str i) = true := rfl
@[simp] theorem fnFree_non : fnFree .non = true := rfl
@[simp] theorem fnFree_bl (b : Bool) : fnFree (.bl b) = true := rfl
@[simp] theorem fnFree_loc (l : Nat) : fnFree (.loc l) = true := rfl
@[simp] theorem fnFree_tup (ds : List D) : fnFree (.tup ds) = fnFrees ds := rfl
@[simp] theorem fnFree_lst (ds : List D) : fnFree (.lst ds) = fnFrees ds := rfl
@[simp] theorem fnFree_obj (c : Nat) (fs : List Str) (vs : List D) : fnFree (.obj c fs vs) = fnFrees vs := rfl
@[simp] theorem locsB_int (n : Nat) (i : Int) : locsB n (.int i) = true := rfl
@[simp] theorem locsB_lst (n : Nat) (ds : List D) : locsB n (.lst ds) = locsBs n ds := rfl
@[simp] theorem locsB_tup (n : Nat) (ds : List D) : locsB n (.tup ds) = locsBs n ds := rfl
@[simp] theorem locsB_obj (n c : Nat) (fs : List Str) (ds : List D) : locsB n (.obj c fs ds) = locsBs n ds := rfl
@[simp] theorem locsBs_nil (n : Nat) : locsBs n [] = true := rfl
@[simp] theorem locsBs_cons (n : Nat) (d : D) (ds : List D) : locsBs n (d :: ds) = (locsB n d && locsBs n ds) := rfl
theorem fnFrees_append {a b : List D} : fnFrees (a ++ b) = true ↔ fnFrees a = true ∧ fnFrees b = true := by
  rw [fnFrees_iff, fnFrees_iff, fnFrees_iff]
  simp only [List.mem_append]
  exact ⟨fun h => ⟨fun d hd => h d (.inl hd), fun d hd => h d (.inr hd)⟩, fun h d hd => hd.elim (h.1 d) (h.2 d)⟩
theorem fnFrees_set {a : List D} {i : Nat} {d : D} (h : fnFrees a = true) (hd : fnFree d = true) : fnFrees (a.set i d) = true := fnFrees_iff.mpr fun x hx => by
  rcases List.mem_or_eq_of_mem_set hx with q | q
  · exact fnFrees_iff.mp h x q
  · rw [q]; exact hd
/-- the shared objects as laws have them -/
structure ObOk (ob : List D) : Prop where
  fr : fnFrees ob = true
  lo : ∀ d ∈ ob, locsB ob.length d = true
theorem fnfM_ok {F : Fn} {ds ob ob' : List D} {d : D} (e : F ds ob = .ok d ⟨[], ob'⟩) (h1 : fnFrees ds = true) (h2 : fnFrees ob = true) (h3 : fnFree d = true) (h4 : fnFrees ob' = true) : fnfM F ds ob = .ok d ⟨[], ob'⟩ := by
  unfold fnfM
  rw [if_pos (by rw [h1, h2]; rfl), e]
  dsimp only
  rw [if_pos (by rw [h3, h4]; rfl)]
theorem callLamM_ok {F : Fn} {li : Nat} {js : List Nat} {fs : List (M D)} {S : Stt} {xs cs : List D} {d : D} {ob' : List D} (h1 : seqM fs S = .ok xs S) (h2 : caps S.sl js = some cs) (e : F (xs ++ [.fn li cs]) S.ob = .ok d ⟨[], ob'⟩) (h3 : S.sl.all slFree = true) (h4 : fnFree d = true) (h5 : fnFrees ob' = true) : callLamM F li js fs S = .ok d { S with ob := ob' } := by
  unfold callLamM
  rw [bnd_ap, h1, Res.bnd_ok, h2]
  show lamRes S (callF F (xs ++ [.fn li cs]) S) = _
  rw [callF_ap, e, after_ok]
  unfold lamRes
  dsimp only
  rw [if_pos (by rw [h3, h4, h5]; rfl)]
theorem lamM_ap {n m : Nat} {e : M D} {cv ds ob : List D} {d : D} {S : Stt} (h : ds.length = m) (q : e ⟨ds.map .d ++ (cv.map .d ++ List.replicate (n - m - cv.length) .no), ob⟩ = .ok d S) : lamM n m e cv ds ob = .ok d ⟨[], S.ob⟩ := by
  unfold lamM
  rw [if_pos h, q]
theorem one_at (j : Nat) (G : List D → Fn) : one j G j = G := if_pos rfl
@[simp] theorem noX_ok {α : Type} {f : M α} {S S' : Stt} {a : α} (h : f S = .ok a S') : noX f S = .ok a S' := by unfold noX; rw [h]
@[simp] theorem putFs_nil (nm : Str) : putFs nm [] = [nm] := rfl
@[simp] theorem putVs_nil (nm : Str) (d : D) (vs : List D) : putVs nm d [] vs = vs ++ [d] := rfl
@[simp] theorem lookK_hit {κ : Type} [DecidableEq κ] (k : κ) (ks : List κ) (v : D) (vs : List D) : lookK (k :: ks) (v :: vs) k = some v := if_pos rfl
end DL
namespace LW
open PySem PySem.Spec L2 DL
def belowB {α : Type} (lt : α → α → Bool) (l : List α) : Nat → Bool
  | 0 => true
  | k + 1 => match l[k]?, l[k + 1]? with
    | some a, some b => lt a b
    | _, _ => true
section
variable {ob : List D}
theorem are_below_at {α : Type} {g : α → D} {lt : α → α → Bool} (h : ∀ a b, ltF depthLine (g a) (g b) = some (lt a b)) {l : List α} {i : Nat} {x : α} (hx : l[i]? = some x) : F_are_below [.tup ((l.map g).take i), g x] ob = .ok (.bl (belowB lt l i)) ⟨[], ob⟩ := by
  cases i with
  | zero => exact are_below_nil _
  | succ k =>
    have hlt : k + 1 < l.length := (List.getElem?_eq_some_iff.mp hx).1
    have hk : l[k]? = some l[k] := List.getElem?_eq_getElem (by omega)
    have e : (l.map g).take (k + 1) = (l.map g).take k ++ [g l[k]] := by
      rw [List.take_succ, List.getElem?_map, hk]
      rfl
    rw [e]
    have : belowB lt l (k + 1) = lt l[k] x := by simp [belowB, hk, hx]
    rw [this]
    exact are_below_snoc _ _ _ _ (h _ _)
theorem belowB_succ {α : Type} (lt : α → α → Bool) (l : List α) (k : Nat) : belowB lt l (k + 1) = match l[k]?, l[k + 1]? with
    | some a, some b => lt a b
    | _, _ => true := rfl
theorem below_asc {α : Type} {lt : α → α → Bool} {l : List α} (h : Asc lt l) (i : Nat) : belowB lt l i = true := by
  cases i with
  | zero => rfl
  | succ k =>
    rw [belowB_succ]
    by_cases hlt : k + 1 < l.length
    · rw [List.getElem?_eq_getElem (by omega : k < l.length), List.getElem?_eq_getElem hlt]
      exact List.pairwise_iff_getElem.mp h k (k + 1) (by omega) hlt (by omega)
    · rw [List.getElem?_eq_none (by omega : l.length ≤ k + 1)]
      split <;> first | rfl | simp_all
/-! ### places -/
def placeB (ps : List Str) (i : Nat) : Bool := (match ps[i]? with | some x => isNameB x | none => false) && belowB ltS ps i
theorem lf_places {ps : List Str} (hl : ∀ x ∈ ps, x.length ≤ 16777216) {i : Nat} {d : D} (hd : (ps.map D.str)[i]? = some d) : LF_0 [] [.tup ((ps.map D.str).take i), d] ob = .ok (.bl (placeB ps i)) ⟨[], ob⟩ := by
  rw [List.getElem?_map] at hd
  obtain ⟨x, hx, rfl⟩ := Option.map_eq_some_iff.mp hd
  have hlx := hl x (List.mem_of_getElem? hx)
  refine lamM_ap (S := ⟨[.d (.tup ((ps.map D.str).take i)), .d (.str x)], ob⟩) rfl ?_
  have e := are_below_at (ob := ob) (g := D.str) (lt := ltS) (fun a b => ltF_str _ a b) hx
  have eB : placeB ps i = (isNameB x && belowB ltS ps i) := by simp [placeB, hx]
  rw [eB]
  cases hn : isNameB x <;> simp [is_name_str x hlx, hn, e]
theorem wrong_in_places_run {ps : List Str} (hl : ∀ x ∈ ps, x.length ≤ 16777216) (hob : fnFrees ob = true) : F_wrong_in_places [namesD ps] ob = .ok (.lst (wrongIn ps.length 2 6 (placeB ps))) ⟨[], ob⟩ := by
  have fr : fnFree (.lst (wrongIn ps.length 2 6 (placeB ps))) = true := wrong_free _ _ _ _
  refine fnfM_ok ?_ (by rw [fnFrees_cons, fnFree_tidy 1 _ (tidy_namesD 0 ps)]; rfl) hob fr hob
  have e := wrong_in_tup (ob := ob) (Λ := one 0 LF_0) (j := 0) (cv := []) (ds := ps.map D.str) (least := 2) (most := 6) (f := placeB ps) fun i d hd => by rw [one_at]; exact lf_places hl hd
  rw [List.length_map] at e
  have e2 : callLamM (F_wrong_in (one 0 LF_0)) 0 [] [vget 0, M.ret (.int 2), M.ret (.int 6)] ⟨[.d (namesD ps)], ob⟩ = .ok (.lst (wrongIn ps.length 2 6 (placeB ps))) ⟨[.d (namesD ps)], ob⟩ :=
    callLamM_ok (xs := [namesD ps, .int 2, .int 6]) (cs := []) (by simp) rfl e rfl fr hob
  simp [m_wrong_in_places, e2]
where
  wrong_free (n : Nat) (a b : Int) (f : Nat → Bool) : fnFree (.lst (wrongIn n a b f)) = true := by
    unfold wrongIn
    split
    · rfl
    · have : ∀ (n i : Nat), fnFrees (wrongFrom b f i n) = true := fun n => by
        induction n with
        | zero => intro i; rfl
        | succ n ih =>
          intro i
          unfold wrongFrom
          split
          · rfl
          · exact ih _
      exact this _ _
/-! ### ties -/
def tieB (ps : List Str) (t : Tie) : Bool := decide (t.1 ∈ ps) && (decide (t.2 ∈ ps) && ltS t.1 t.2)
theorem is_tie_of_run (ps : List Str) (t : Tie) : F_is_tie_of [namesD ps, tieD t] ob = .ok (.bl (tieB ps t)) ⟨[], ob⟩ := by
  obtain ⟨a, b⟩ := t
  unfold tieB
  by_cases h1 : a ∈ ps
  · by_cases h2 : b ∈ ps
    · simp [F_is_tie_of, m_is_tie_of, tieD, is_pair_two, is_one_of_str, h1, h2]
    · simp [F_is_tie_of, m_is_tie_of, tieD, is_pair_two, is_one_of_str, h1, h2]
  · simp [F_is_tie_of, m_is_tie_of, tieD, is_pair_two, is_one_of_str, h1]
def tiesB (ps : List Str) (ts : List Tie) (i : Nat) : Bool := (match ts[i]? with | some t => tieB ps t | none => false) && belowB ltP ts i
theorem lf_ties {ps : List Str} {ts : List Tie} {i : Nat} {d : D} (hd : (ts.map tieD)[i]? = some d) : LF_1 [namesD ps] [.tup ((ts.map tieD).take i), d] ob = .ok (.bl (tiesB ps ts i)) ⟨[], ob⟩ := by
  rw [List.getElem?_map] at hd
  obtain ⟨t, ht, rfl⟩ := Option.map_eq_some_iff.mp hd
  refine lamM_ap (S := ⟨[.d (.tup ((ts.map tieD).take i)), .d (tieD t), .d (namesD ps)], ob⟩) rfl ?_
  have e := are_below_at (ob := ob) (g := tieD) (lt := ltP) (fun a b => ltF_tie 11 a b) ht
  have eB : tiesB ps ts i = (tieB ps t && belowB ltP ts i) := by simp [tiesB, ht]
  rw [eB]
  cases hn : tieB ps t <;> simp [is_tie_of_run, hn, e]
theorem wrong_in_ties_run {ps : List Str} {ts : List Tie} (hob : fnFrees ob = true) : F_wrong_in_ties [namesD ps, tiesD ts] ob = .ok (.lst (wrongIn ts.length 1 9 (tiesB ps ts))) ⟨[], ob⟩ := by
  have fr : fnFree (.lst (wrongIn ts.length 1 9 (tiesB ps ts))) = true := wrong_in_places_run.wrong_free _ _ _ _
  refine fnfM_ok ?_ (by rw [fnFrees_cons, fnFrees_cons, fnFree_tidy 1 _ (tidy_namesD 0 ps), fnFree_tidy 2 _ (tidy_tiesD 0 ts)]; rfl) hob fr hob
  have e := wrong_in_tup (ob := ob) (Λ := one 1 LF_1) (j := 1) (cv := [namesD ps]) (ds := ts.map tieD) (least := 1) (most := 9) (f := tiesB ps ts) fun i d hd => by rw [one_at]; exact lf_ties hd
  rw [List.length_map] at e
  have e2 : callLamM (F_wrong_in (one 1 LF_1)) 1 [0] [vget 1, M.ret (.int 1), M.ret (.int 9)] ⟨[.d (namesD ps), .d (tiesD ts)], ob⟩ = .ok (.lst (wrongIn ts.length 1 9 (tiesB ps ts))) ⟨[.d (namesD ps), .d (tiesD ts)], ob⟩ :=
    callLamM_ok (xs := [tiesD ts, .int 1, .int 9]) (cs := [namesD ps]) (by simp) rfl e rfl fr hob
  simp [m_wrong_in_ties, e2]
/-! ### a web -/
structure WebOk (ps : List Str) (ts : List Tie) : Prop where
  l2 : 2 ≤ ps.length
  l6 : ps.length ≤ 6
  nm : ∀ x ∈ ps, isNameB x = true
  asc : Asc ltS ps
  t1 : 1 ≤ ts.length
  t9 : ts.length ≤ 9
  tin : ∀ t ∈ ts, t.1 ∈ ps ∧ t.2 ∈ ps ∧ ltS t.1 t.2 = true
  tasc : Asc ltP ts
  con : ∀ p0 r, ps = p0 :: r → ∀ p ∈ ps, Reach ts p0 p
theorem isName_len {x : Str} (h : isNameB x = true) : x.length ≤ 8 := by
  unfold isNameB at h
  simp only [Bool.and_eq_true, decide_eq_true_eq] at h
  exact h.2.1
theorem WebOk.placesOk {ps : List Str} {ts : List Tie} (h : WebOk ps ts) : wrongIn ps.length 2 6 (placeB ps) = [] := by
  refine wrongIn_nil (by have := h.l2; omega) (by have := h.l6; omega) fun k hk => ?_
  unfold placeB
  rw [List.getElem?_eq_getElem hk, below_asc h.asc]
  simp [h.nm _ (List.getElem_mem hk)]
theorem WebOk.tiesOk {ps : List Str} {ts : List Tie} (h : WebOk ps ts) : wrongIn ts.length 1 9 (tiesB ps ts) = [] := by
  refine wrongIn_nil (by have := h.t1; omega) (by have := h.t9; omega) fun k hk => ?_
  unfold tiesB
  rw [List.getElem?_eq_getElem hk, below_asc h.tasc]
  have := h.tin _ (List.getElem_mem hk)
  simp [tieB, this]
theorem WebOk.nd {ps : List Str} {ts : List Tie} (h : WebOk ps ts) : ps.Nodup := asc_nodup ltS_irr h.asc
theorem WebOk.len {ps : List Str} {ts : List Tie} (h : WebOk ps ts) : ∀ x ∈ ps, x.length ≤ 16777216 := fun x hx => by
  have := isName_len (h.nm x hx)
  omega
theorem WebOk.hang {ps : List Str} {ts : List Tie} (h : WebOk ps ts) : F_do_hang [namesD ps, tiesD ts] ob = .ok (.bl true) ⟨[], ob⟩ := by
  cases hp : ps with
  | nil => have := h.l2; rw [hp] at this; simp at this
  | cons p0 r =>
    obtain ⟨b, e, i⟩ := do_hang_run (ob := ob) (ts := ts) (w := tiesD ts) hp h.nd (by have := h.l6; omega) rfl (by have := h.t9; omega) (fun t ht => ⟨(h.tin t ht).1, (h.tin t ht).2.1⟩) fun t ht => ltS_ne (h.tin t ht).2.2
    rw [← hp, e, i.mpr (h.con p0 r hp)]
def webO (ps : List Str) (ts : List Tie) : D := .obj 0 ["all_told"] [webD ps ts]
theorem free_webD (ps : List Str) (ts : List Tie) : fnFree (webD ps ts) = true := fnFree_tidy 3 _ (tidy_webD 0 ps ts)
theorem free_webO (ps : List Str) (ts : List Tie) : fnFree (webO ps ts) = true := by
  show fnFrees [webD ps ts] = true
  rw [fnFrees_cons, free_webD]
  rfl
theorem locs_webD (n : Nat) (ps : List Str) (ts : List Tie) : locsB n (webD ps ts) = true := locs_tidy n 3 _ (tidy_webD 0 ps ts)
theorem locs_webO (n : Nat) (ps : List Str) (ts : List Tie) : locsB n (webO ps ts) = true := by
  show locsBs n [webD ps ts] = true
  rw [locsBs_cons, locs_webD]
  rfl
theorem web_init {ps : List Str} {ts : List Tie} (h : WebOk ps ts) (hob : fnFrees ob = true) {l : Nat} (hl : ob[l]? = some (.obj 0 [] [])) : F_Web___init__ [.loc l, namesD ps, tiesD ts] ob = .ok .non ⟨[], ob.set l (webO ps ts)⟩ := by
  have e1 := wrong_in_places_run (ob := ob) h.len hob
  rw [h.placesOk] at e1
  have e2 := wrong_in_ties_run (ob := ob) (ps := ps) (ts := ts) hob
  rw [h.tiesOk] at e2
  simp [F_Web___init__, m_Web___init__, e1, e2, h.hang, fldS, chgAt, DL.putAt, hl]
  rfl
theorem make_web {ps : List Str} {ts : List Tie} (h : WebOk ps ts) (O : ObOk ob) (sl : List Sl) : mkV 0 F_Web___init__ [namesD ps, tiesD ts] ⟨sl, ob⟩ = .ok (webO ps ts) ⟨sl, ob⟩ := by
  have hl : (ob ++ [D.obj 0 [] []])[ob.length]? = some (.obj 0 [] []) := by simp
  have e := web_init (ob := ob ++ [D.obj 0 [] []]) h (fnFrees_append.mpr ⟨O.fr, rfl⟩) hl
  unfold mkV
  rw [callF_ap, e, after_ok]
  have es : (ob ++ [D.obj 0 [] []]).set ob.length (webO ps ts) = ob ++ [webO ps ts] := by simp
  dsimp only
  rw [es]
  have e2 : (ob ++ [webO ps ts])[ob.length]? = some (webO ps ts) := by simp
  rw [e2]
  dsimp only
  have e3 : lastOff ob.length (ob ++ [webO ps ts]) = true := by
    unfold lastOff
    simp only [List.length_append, List.length_singleton, beq_self_eq_true, Bool.true_and, List.take_left, List.all_eq_true]
    exact fun d hd => O.lo d hd
  rw [if_pos ⟨e3, locs_webO _ _ _⟩]
  simp
theorem web_parts (ps : List Str) (ts : List Tie) : F_Web_parts [webO ps ts] ob = .ok (webD ps ts) ⟨[], ob⟩ := by
  simp [F_Web_parts, m_Web_parts, webO]
theorem web_ties (ps : List Str) (ts : List Tie) : F_Web_ties [webO ps ts] ob = .ok (tiesD ts) ⟨[], ob⟩ := by
  simp [F_Web_ties, m_Web_ties, webO, webD]
theorem web_places (ps : List Str) (ts : List Tie) : F_Web_places [webO ps ts] ob = .ok (namesD ps) ⟨[], ob⟩ := by
  simp [F_Web_places, m_Web_places, webO, webD]
theorem obj_web (S : Stt) (ps : List Str) (ts : List Tie) : objOf S 0 (webO ps ts) = some ([("all_told" : Str)], [webD ps ts]) := rfl
theorem check_web_run (ps : List Str) (ts : List Tie) : F_check_web [webO ps ts] ob = .ok .non ⟨[], ob⟩ := by
  simp [F_check_web, m_check_web, obj_web]
theorem web_eq (ps qs : List Str) (ts us : List Tie) : ∃ b, F_Web___eq__ [webO ps ts, webO qs us] ob = .ok (.bl b) ⟨[], ob⟩ ∧ (b = true ↔ ps = qs ∧ ts = us) := by
  obtain ⟨b, e, i⟩ := eqF_dec depthLine (webD ps ts) (webD qs us) (tidy_webD 9 _ _) (tidy_webD 9 _ _)
  refine ⟨b, ?_, ?_⟩
  · simp [F_Web___eq__, m_Web___eq__, obj_web, noX, web_parts, eqM_of e]
  · rw [i]
    constructor
    · exact webD_inj
    · rintro ⟨rfl, rfl⟩; rfl
/-! ### beginnings -/
def begB (b : Option Int) : Bool := match b with
  | none => true
  | some i => decide (0 ≤ i) && decide (i ≤ 8)
theorem is_whole_int (i : Int) : F_is_whole [.int i] ob = .ok (.bl true) ⟨[], ob⟩ := by simp [F_is_whole, m_is_whole]
theorem is_between_int (i a b : Int) : F_is_between [.int i, .int a, .int b] ob = .ok (.bl (decide (a ≤ i) && decide (i ≤ b))) ⟨[], ob⟩ := by
  by_cases h : a ≤ i <;> simp [F_is_between, m_is_between, is_whole_int, h]
theorem is_colour_int (i : Int) : F_is_colour [.int i] ob = .ok (.bl (decide (0 ≤ i) && decide (i ≤ 8))) ⟨[], ob⟩ := by simp [F_is_colour, m_is_colour, is_between_int]
theorem lf_beg (b : Option Int) : LF_3 [] [begD b] ob = .ok (.bl (begB b)) ⟨[], ob⟩ := by
  cases b with
  | none =>
    refine lamM_ap (S := ⟨[.d .non], ob⟩) rfl ?_
    simp [begD, isNone, begB]
  | some i =>
    refine lamM_ap (S := ⟨[.d (.int i)], ob⟩) rfl ?_
    simp [begD, isNone, begB, is_colour_int]
theorem lf_all {b : Option Int} (t : D) : LF_2 (one 3 LF_3) [.fn 3 []] [t, begD b] ob = .ok (.bl (begB b)) ⟨[], ob⟩ := by
  refine lamM_ap (S := ⟨[.d t, .d (begD b), .d (.fn 3 [])], ob⟩) rfl ?_
  simp [callFnM, one_at, lf_beg]
def begsB (bs : List (Option Int)) (i : Nat) : Bool := match bs[i]? with | some b => begB b | none => false
theorem wrong_in_beginning_run {bs : List (Option Int)} {n : Nat} (hn : bs.length = n) (hob : fnFrees ob = true) : F_wrong_in_beginning [begsD bs, .int n] ob = .ok (.lst (wrongIn n n n (begsB bs))) ⟨[], ob⟩ := by
  have fr : fnFree (.lst (wrongIn n n n (begsB bs))) = true := wrong_in_places_run.wrong_free _ _ _ _
  refine fnfM_ok ?_ (by rw [fnFrees_cons, fnFree_tidy 1 _ (tidy_begsD 0 bs)]; rfl) hob fr hob
  have e := wrong_in_tup (ob := ob) (Λ := one 2 (LF_2 (one 3 LF_3))) (j := 2) (cv := [.fn 3 []]) (ds := bs.map begD) (least := n) (most := n) (f := begsB bs) fun i d hd => by
    rw [one_at]
    rw [List.getElem?_map] at hd
    obtain ⟨b, hb, rfl⟩ := Option.map_eq_some_iff.mp hd
    have eB : begsB bs i = begB b := by simp [begsB, hb]
    rw [eB]
    exact lf_all _
  rw [List.length_map, hn] at e
  have e3 : F_wrong_in_all (one 3 LF_3) [begsD bs, .int n, .fn 3 []] ob = .ok (.lst (wrongIn n n n (begsB bs))) ⟨[], ob⟩ := by
    have e2 : callLamM (F_wrong_in (one 2 (LF_2 (one 3 LF_3)))) 2 [2] [vget 0, vget 1, vget 1] ⟨[.d (begsD bs), .d (.int n), .d (.fn 3 [])], ob⟩ = .ok (.lst (wrongIn n n n (begsB bs))) ⟨[.d (begsD bs), .d (.int n), .d (.fn 3 [])], ob⟩ :=
      callLamM_ok (xs := [begsD bs, .int n, .int n]) (cs := [.fn 3 []]) (by simp) rfl e rfl fr hob
    have e4 : F_is_tuple_of [begsD bs, .int n] ob = .ok (.bl true) ⟨[], ob⟩ := by
      have : F_is_tuple_of [begsD bs, .int n] ob = _ := is_tuple_of_tup (ob := ob) (bs.map begD) n
      rw [List.length_map, hn] at this
      rw [this]
      simp
    simp [F_wrong_in_all, m_wrong_in_all, e4, e2]
  have e5 : callLamM (F_wrong_in_all (one 3 LF_3)) 3 [] [vget 0, vget 1] ⟨[.d (begsD bs), .d (.int n)], ob⟩ = .ok (.lst (wrongIn n n n (begsB bs))) ⟨[.d (begsD bs), .d (.int n)], ob⟩ :=
    callLamM_ok (xs := [begsD bs, .int n]) (cs := []) (by simp) rfl e3 rfl fr hob
  simp [m_wrong_in_beginning, e5]
structure BegOk (bs : List (Option Int)) (ts : List Tie) : Prop where
  len : bs.length = ts.length
  ok : ∀ b ∈ bs, begB b = true
theorem check_beginning_run {ps : List Str} {ts : List Tie} {bs : List (Option Int)} (h : BegOk bs ts) (hob : fnFrees ob = true) : F_check_beginning [webO ps ts, begsD bs] ob = .ok .non ⟨[], ob⟩ := by
  have e := wrong_in_beginning_run (ob := ob) h.len hob
  have e2 : wrongIn ts.length ts.length ts.length (begsB bs) = [] := wrongIn_nil (Int.le_refl _) (Int.le_refl _) fun k hk => by
    unfold begsB
    rw [List.getElem?_eq_getElem (by rw [h.len]; exact hk)]
    exact h.ok _ (List.getElem_mem _)
  rw [e2] at e
  have e3 : lenM (tiesD ts) = M.ret (.int ts.length) := by simp [tiesD]
  simp [F_check_beginning, m_check_beginning, check_web_run, obj_web, noX, web_ties, e3, e]
end
end LW
end
section
set_option Elab.async false
set_option linter.all false
set_option maxRecDepth 100000
set_option maxHeartbeats 1000000
/-! SP6: draws -/
namespace DL
open PySem PySem.Spec L2
theorem modM_int (i j : Int) (h : 0 < j) : modM (.int i) (.int j) = M.ret (.int (i % j)) := by
  show (if decide (0 < j) = true then M.ret (D.int (i % j)) else M.fail) = _
  rw [if_pos (by simpa using h)]
theorem fdivM_int (i j : Int) (h : 0 < j) (h2 : j < 1073741824) : fdivM (.int i) (.int j) = M.ret (.int (i / j)) := by
  show (if decide (0 < j ∧ j < 1073741824) = true then M.ret (D.int (i / j)) else M.fail) = _
  rw [if_pos (by simpa using ⟨h, h2⟩)]
theorem divmodM_int (i j : Int) (h : 0 < j) (h2 : j < 1073741824) : divmodM (.int i) (.int j) = M.ret (.tup [.int (i / j), .int (i % j)]) := by
  show (if decide (0 < j ∧ j < 1073741824) = true then M.ret (D.tup [.int (i / j), .int (i % j)]) else M.fail) = _
  rw [if_pos (by simpa using ⟨h, h2⟩)]
theorem mulM_l (i j : Int) (h : -(2 ^ 64) < i ∧ i < 2 ^ 64) : mulM (.int i) (.int j) = M.ret (.int (i * j)) := by
  show (if (decide (-(2 ^ 64) < i ∧ i < 2 ^ 64) || decide (-(2 ^ 64) < j ∧ j < 2 ^ 64)) = true then M.ret (D.int (i * j)) else M.fail) = _
  rw [if_pos (by rw [decide_eq_true h]; rfl)]
theorem mulM_r (i j : Int) (h : -(2 ^ 64) < j ∧ j < 2 ^ 64) : mulM (.int i) (.int j) = M.ret (.int (i * j)) := by
  show (if (decide (-(2 ^ 64) < i ∧ i < 2 ^ 64) || decide (-(2 ^ 64) < j ∧ j < 2 ^ 64)) = true then M.ret (D.int (i * j)) else M.fail) = _
  rw [if_pos (by rw [decide_eq_true h, Bool.or_true])]
theorem powM_int (i j : Int) (h : 0 ≤ j ∧ j ≤ 1000000 ∧ i.natAbs < 2 ^ 64) : powM (.int i) (.int j) = M.ret (.int (i ^ j.toNat)) := by
  show (if decide (0 ≤ j ∧ j ≤ 1000000 ∧ i.natAbs < 2 ^ 64) = true then M.ret (D.int (i ^ j.toNat)) else M.fail) = _
  rw [if_pos (decide_eq_true h)]
@[simp] theorem minM_int (i j : Int) : minM (.int i) (.int j) = M.ret (.int (if j < i then j else i)) := rfl
@[simp] theorem maxM_int (i j : Int) : maxM (.int i) (.int j) = M.ret (.int (if j > i then j else i)) := rfl
def lst3 (a b c : Int) : D := .lst [.int a, .int b, .int c]
theorem ixM_loc {sl : List Sl} {ob : List D} {l : Nat} {x d : D} {i : Int} (h : ob[l]? = some x) (e : ixF x (.int i) = some d) : ixM (.loc l) (.int i) ⟨sl, ob⟩ = .ok d ⟨sl, ob⟩ := by
  unfold ixM deref
  dsimp only
  rw [h]
  simp [e]
theorem ix3_0 {sl : List Sl} {ob : List D} {l : Nat} {a b c : Int} (h : ob[l]? = some (lst3 a b c)) : ixM (.loc l) (.int 0) ⟨sl, ob⟩ = .ok (.int a) ⟨sl, ob⟩ := ixM_loc h rfl
theorem ix3_1 {sl : List Sl} {ob : List D} {l : Nat} {a b c : Int} (h : ob[l]? = some (lst3 a b c)) : ixM (.loc l) (.int 1) ⟨sl, ob⟩ = .ok (.int b) ⟨sl, ob⟩ := ixM_loc h rfl
theorem ix3_2 {sl : List Sl} {ob : List D} {l : Nat} {a b c : Int} (h : ob[l]? = some (lst3 a b c)) : ixM (.loc l) (.int 2) ⟨sl, ob⟩ = .ok (.int c) ⟨sl, ob⟩ := ixM_loc h rfl
theorem sub3 {s : Sl} {sl : List Sl} {ob : List D} {l : Nat} {a b c d : Int} {i : Int} {x' : D} (h : ob[l]? = some (lst3 a b c)) (e : setF (lst3 a b c) (.int i) (.int d) = some x') : subT 0 (M.ret (.int i)) (.int d) ⟨.d (.loc l) :: sl, ob⟩ = some ⟨.d (.loc l) :: sl, ob.set l x'⟩ := by
  simp [subT, chgAt, DL.putAt, h, e]
/-- a loft's state is another one; all else stands -/
def Drew (l : Nat) (ob ob' : List D) : Prop := (∃ a b c, ob[l]? = some (lst3 a b c)) ∧ ∃ a b c, ob' = ob.set l (lst3 a b c)
theorem Drew.refl {l : Nat} {ob : List D} {a b c : Int} (h : ob[l]? = some (lst3 a b c)) : Drew l ob ob := ⟨⟨a, b, c, h⟩, a, b, c, by
  obtain ⟨hl, e⟩ := List.getElem?_eq_some_iff.mp h
  rw [← e, List.set_getElem_self]⟩
theorem set_at {l : Nat} {ob : List D} {x y : D} (h : ob[l]? = some x) : (ob.set l y)[l]? = some y := List.getElem?_set_self (List.getElem?_eq_some_iff.mp h).1
theorem Drew.at {l : Nat} {ob ob' : List D} (h : Drew l ob ob') : ∃ a b c, ob'[l]? = some (lst3 a b c) := by
  obtain ⟨⟨a, b, c, h1⟩, a', b', c', rfl⟩ := h
  exact ⟨a', b', c', set_at h1⟩
theorem Drew.trans {l : Nat} {ob ob1 ob2 : List D} (h : Drew l ob ob1) (h2 : Drew l ob1 ob2) : Drew l ob ob2 := by
  obtain ⟨h0, a', b', c', rfl⟩ := h
  obtain ⟨_, a2, b2, c2, rfl⟩ := h2
  exact ⟨h0, a2, b2, c2, by rw [List.set_set]⟩
theorem Drew.ob {l : Nat} {ob ob' : List D} (h : Drew l ob ob') (O : ObOk ob) : ObOk ob' := by
  obtain ⟨_, a, b, c, rfl⟩ := h
  refine ⟨fnFrees_set O.fr rfl, fun d hd => ?_⟩
  rw [List.length_set]
  rcases List.mem_or_eq_of_mem_set hd with q | q
  · exact O.lo d q
  · subst q; rfl
theorem Drew.len {l : Nat} {ob ob' : List D} (h : Drew l ob ob') : ob'.length = ob.length := by
  obtain ⟨_, a, b, c, rfl⟩ := h
  exact List.length_set
theorem Drew.other {l k : Nat} {ob ob' : List D} (h : Drew l ob ob') (hk : l ≠ k) : ob'[k]? = ob[k]? := by
  obtain ⟨_, a, b, c, rfl⟩ := h
  exact List.getElem?_set_ne hk
end DL
namespace LW
open PySem PySem.Spec L2 DL
section
variable {ob : List D} {l : Nat}
theorem beam_run {a b c n : Int} (h : ob[l]? = some (lst3 a b c)) (h1 : 0 < n) (h2 : n < 1073741824) : ∃ (r : Int) (ob' : List D), F__law_beam [.loc l, .int n] ob = .ok (.int r) ⟨[], ob'⟩ ∧ 0 ≤ r ∧ r < n ∧ Drew l ob ob' := by
  by_cases ha : 0 < a
  · refine ⟨a % n, ob.set l (lst3 (a / n) b c), ?_, Int.emod_nonneg _ (by omega), Int.emod_lt_of_pos _ h1, ⟨a, b, c, h⟩, a / n, b, c, rfl⟩
    have e1 := sub3 (s := .no) (sl := [.d (.int n), .no]) (i := 0) (d := a / n) (x' := lst3 (a / n) b c) h rfl
    simp [F__law_beam, m__law_beam, ix3_0 h, ha, divmodM_int a n h1 h2, e1]
  · have h' := set_at (y := lst3 a b (c + 1)) h
    have e1 := sub3 (s := .no) (sl := [.d (.int n), .no]) (i := 2) (d := c + 1) (x' := lst3 a b (c + 1)) h rfl
    have m1 : mulM (.int b) (.int (b % 9769 + 50021)) = M.ret (.int (b * (b % 9769 + 50021))) := mulM_r _ _ (by
      have := Int.emod_nonneg b (show (9769 : Int) ≠ 0 by decide)
      have := Int.emod_lt_of_pos b (show (0 : Int) < 9769 by decide)
      omega)
    have m2 : mulM (.int 10267) (.int (c + 1)) = M.ret (.int (10267 * (c + 1))) := mulM_l _ _ (by decide)
    have h'' := set_at (y := lst3 a ((b * (b % 9769 + 50021) + 10267 * (c + 1) + 227) % 2147482549) (c + 1)) h'
    have e2 := sub3 (s := .no) (sl := [.d (.int n), .no]) (i := 1) (d := (b * (b % 9769 + 50021) + 10267 * (c + 1) + 227) % 2147482549) (x' := lst3 a ((b * (b % 9769 + 50021) + 10267 * (c + 1) + 227) % 2147482549) (c + 1)) h' rfl
    refine ⟨((b * (b % 9769 + 50021) + 10267 * (c + 1) + 227) % 2147482549) / 563 % n, ob.set l (lst3 a ((b * (b % 9769 + 50021) + 10267 * (c + 1) + 227) % 2147482549) (c + 1)), ?_, Int.emod_nonneg _ (by omega), Int.emod_lt_of_pos _ h1, ⟨a, b, c, h⟩, a, _, c + 1, rfl⟩
    rw [List.set_set] at h'' e2
    simp [F__law_beam, m__law_beam, ix3_0 h, ix3_2 h, ha, e1, ix3_1 h', ix3_2 h', modM_int b 9769 (by decide), m1, m2, modM_int _ 2147482549 (by decide), e2, ix3_1 h'', fdivM_int _ 563 (by decide) (by decide), modM_int _ n h1]
/-- one of some things -/
theorem of_run {ds : List D} {a b c : Int} (h : ob[l]? = some (lst3 a b c)) (h1 : ds ≠ []) (h2 : ds.length < 1073741824) : ∃ d ob', F__law_of [.loc l, .lst ds] ob = .ok d ⟨[], ob'⟩ ∧ d ∈ ds ∧ Drew l ob ob' := by
  have hp : 0 < ds.length := List.length_pos_iff.mpr h1
  obtain ⟨r, ob', e, r0, r1, hd⟩ := beam_run (n := ds.length) h (by omega) (by omega)
  obtain ⟨k, rfl⟩ := Int.eq_ofNat_of_zero_le r0
  have hk : k < ds.length := by omega
  refine ⟨ds[k], ob', ?_, List.getElem_mem hk, hd⟩
  have ea : atI ds (k : Int) = some ds[k] := by
    unfold atI ixN
    rw [if_pos (by omega), if_pos (by omega)]
    simp
  simp [F__law_of, m__law_of, e, ixM_lst ea]
theorem of_runT {ds : List D} {a b c : Int} (h : ob[l]? = some (lst3 a b c)) (h1 : ds ≠ []) (h2 : ds.length < 1073741824) : ∃ d ob', F__law_of [.loc l, .tup ds] ob = .ok d ⟨[], ob'⟩ ∧ d ∈ ds ∧ Drew l ob ob' := by
  have hp : 0 < ds.length := List.length_pos_iff.mpr h1
  obtain ⟨r, ob', e, r0, r1, hd⟩ := beam_run (n := ds.length) h (by omega) (by omega)
  obtain ⟨k, rfl⟩ := Int.eq_ofNat_of_zero_le r0
  have hk : k < ds.length := by omega
  refine ⟨ds[k], ob', ?_, List.getElem_mem hk, hd⟩
  have ea : atI ds (k : Int) = some ds[k] := by
    unfold atI ixN
    rw [if_pos (by omega), if_pos (by omega)]
    simp
  simp [F__law_of, m__law_of, e, ixM_tup ea]
/-- a sign of a text -/
theorem of_runS {z : Str} {a b c : Int} (h : ob[l]? = some (lst3 a b c)) (h1 : z.cps.toList ≠ []) (h2 : z.length ≤ 16777216) : ∃ (k : Nat) (ob' : List D), F__law_of [.loc l, .str z] ob = .ok (.str ⟨#[k]⟩) ⟨[], ob'⟩ ∧ k ∈ z.cps.toList ∧ Drew l ob ob' := by
  have hp : 0 < z.length := by
    have := List.length_pos_iff.mpr h1
    simpa [Str.length] using this
  obtain ⟨r, ob', e, r0, r1, hd⟩ := beam_run (n := z.length) h (by omega) (by omega)
  obtain ⟨k, rfl⟩ := Int.eq_ofNat_of_zero_le r0
  have hk : k < z.cps.toList.length := by
    have : z.cps.toList.length = z.length := by simp [Str.length]
    omega
  refine ⟨z.cps.toList[k], ob', ?_, List.getElem_mem hk, hd⟩
  have ea : ixF (.str z) (.int (k : Int)) = some (.str ⟨#[z.cps.toList[k]]⟩) := by
    show (if z.length ≤ 16777216 then (atI z.cps.toList (k : Int)).map fun c => D.str ⟨#[c]⟩ else none) = _
    rw [if_pos h2]
    unfold atI ixN
    rw [if_pos (by omega), if_pos (by omega)]
    simp [List.getElem?_eq_getElem hk]
  simp [F__law_of, m__law_of, e, h2, ixM_of (x := .str z) (fun _ => by simp) ea]
end
end LW
end
section
set_option Elab.async false
set_option linter.all false
set_option maxRecDepth 100000
set_option maxHeartbeats 2000000
/-! SP7: drawn names -/
namespace DL
open PySem PySem.Spec L2
theorem str_len_app (a b : Str) : (a ++ b).length = a.length + b.length := by
  show (a.cps ++ b.cps).size = _
  rw [Array.size_append]
  rfl
theorem tl_app (a b : Str) : (a ++ b).cps.toList = a.cps.toList ++ b.cps.toList := by
  show (a.cps ++ b.cps).toList = _
  rw [Array.toList_append]
def cntB (L : List Str) (k : Nat) : Bool := (L.all fun x => decide (x.length ≤ 8)) && (List.range 9).all fun m => decide ((L.filter fun x => decide (x.length = m)).length ≤ k)
theorem cnt_of {L : List Str} {k : Nat} (h : cntB L k = true) (m : Nat) : (L.filter fun x => decide (x.length = m)).length ≤ k := by
  simp only [cntB, Bool.and_eq_true, List.all_eq_true, decide_eq_true_eq] at h
  by_cases hm : m < 9
  · exact h.2 m (List.mem_range.mpr hm)
  · have : (L.filter fun x => decide (x.length = m)) = [] := List.filter_eq_nil_iff.mpr fun x hx => by
      have := h.1 x hx
      simp
      omega
    rw [this]
    exact Nat.zero_le _
end DL
namespace LW
open PySem PySem.Spec L2 DL
def zz : List Str := ["zzzzzzzz", "zzzzzzzy"]
def K_BAD : List Str := K_WORDS ++ zz
def words1 : Str := "all back book bright case chance colour cut draw first game in none of once open out paint place proper quit rule short"
def words2 : Str := "single take tie two undo way web win yes zzzzzzzz zzzzzzzy"
theorem split1 : Txt.split words1 (" " : Str) = K_WORDS.take 23 := by decide +kernel
theorem split2 : Txt.split words2 (" " : Str) = K_WORDS.drop 23 ++ zz := by decide +kernel
theorem own_split : T_OWN = ("" : Str) ∨ Txt.split T_OWN (" " : Str) = K_OWN := by decide +kernel
theorem bad_cnt : cntB K_BAD 12 = true := by decide +kernel
theorem own_cnt : cntB K_OWN 8 = true := by decide +kernel
theorem own_len : K_OWN.length ≤ 100 := by decide +kernel
theorem bad_len : K_BAD.length = 34 := by decide +kernel
theorem splitM_of {x : Str} {ys : List Str} (h : Txt.split x (" " : Str) = ys) (hl : x.length + 2 ≤ 16777216) : splitM (.str x) (.str " ") = M.ret (.lst (ys.map .str)) := by
  show (if ((" " : Str).length == 0) = false ∧ x.length + 2 ≤ 16777216 then M.ret (D.lst ((Txt.split x (" " : Str)).map D.str)) else M.fail) = _
  rw [if_pos ⟨by decide +kernel, hl⟩, h]
/-! ### a free candidate -/
def cand (w : Str) (c : Nat) : Str := ⟨(w.cps.toList.take 7 ++ [c]).toArray⟩
theorem cand_inj {w : Str} {c d : Nat} (h : cand w c = cand w d) : c = d := by
  have : (w.cps.toList.take 7 ++ [c]) = (w.cps.toList.take 7 ++ [d]) := by
    have := congrArg (fun x : Str => x.cps.toList) h
    simpa [cand] using this
  simpa using this
theorem cand_len (w : Str) (c : Nat) : (cand w c).length = (w.cps.toList.take 7).length + 1 := by simp [cand, Str.length]
theorem nodup_map_inj {α β : Type} {f : α → β} (hf : ∀ a b, f a = f b → a = b) {l : List α} (h : l.Nodup) : (l.map f).Nodup := List.pairwise_map.mpr (h.imp fun {a b} hne e => hne (hf a b e))
theorem cand_free (w : Str) (L : List Str) (h : ∀ m, (L.filter fun x => decide (x.length = m)).length < 26) : ∃ c ∈ List.range' 97 26, cand w c ∉ L := by
  refine Classical.byContradiction fun hn => ?_
  have all : ∀ c ∈ List.range' 97 26, cand w c ∈ L := fun c hc => Classical.byContradiction fun h2 => hn ⟨c, hc, h2⟩
  have nd : ((List.range' 97 26).map (cand w)).Nodup := nodup_map_inj (fun _ _ => cand_inj) List.nodup_range'
  have := nodup_len nd (m := L.filter fun x => decide (x.length = (w.cps.toList.take 7).length + 1)) fun x hx => by
    obtain ⟨c, hc, rfl⟩ := List.mem_map.mp hx
    exact List.mem_filter.mpr ⟨all c hc, by simp [cand_len]⟩
  have h2 := h ((w.cps.toList.take 7).length + 1)
  simp only [List.length_map, List.length_range'] at this
  omega
/-! ### words -/
structure Wordy (x : Str) : Prop where
  ne : 1 ≤ x.length
  le : x.length ≤ 8
  lt : ∀ c ∈ x.cps.toList, letterB c = true
theorem wordy_B {x : Str} (h : Wordy x) : isWordB x = true := by
  unfold isWordB
  have hx : (x == ("" : Str)) = false := beq_eq_false_iff_ne.mpr fun e => by
    have := h.ne
    rw [e] at this
    exact absurd this (by decide +kernel)
  rw [hx]
  simp only [Bool.not_false, Bool.true_and, List.all_eq_true]
  exact h.lt
theorem letter_range {c : Nat} (h : c ∈ List.range' 97 26) : letterB c = true := by
  rw [List.mem_range'_1] at h
  simp [letterB]
  omega
theorem wordy_cand {w : Str} (h : Wordy w) {c : Nat} (hc : letterB c = true) : Wordy (cand w c) := by
  refine ⟨by rw [cand_len]; omega, ?_, fun d hd => ?_⟩
  · rw [cand_len, List.length_take]
    omega
  · have : d ∈ w.cps.toList.take 7 ++ [c] := by simpa [cand] using hd
    rcases List.mem_append.mp this with q | q
    · exact h.lt d (List.mem_of_mem_take q)
    · simp at q; rw [q]; exact hc
theorem cut7 (w : Str) (c : Nat) : cutS w none (some 7) ++ (⟨#[c]⟩ : Str) = cand w c := by
  refine str_ext ?_
  rw [tl_app]
  have e : (cutS w none (some 7)).cps.toList = w.cps.toList.take 7 := by
    unfold cutS
    have e1 : HT.sIx w.length 0 none = 0 := rfl
    have e2 : HT.sIx w.length w.length (some 7) = min 7 w.length := HT.sIx_nat _ _ 7
    rw [e1, e2]
    simp only [List.drop_zero, Nat.sub_zero]
    have : w.length = w.cps.toList.length := by simp [Str.length]
    rw [this, ← List.take_take, List.take_length]
  rw [e]
  simp [cand]
theorem M_ret {α : Type} (a : α) (S : Stt) : M.ret a S = .ok a S := rfl
section
variable {ob : List D} {l : Nat}
theorem own_run : F__law_own [] ob = .ok (.lst (K_OWN.map .str)) ⟨[], ob⟩ := by
  have h : Txt.split T_OWN (" " : Str) = K_OWN := own_split.resolve_left (by decide +kernel)
  have hl : T_OWN.length + 2 ≤ 16777216 := by decide +kernel
  have e : m__law_own = retS (m1M (M.ret (.str T_OWN)) (M.ret (.str " ")) splitM) := rfl
  simp [F__law_own, e, splitM_of h hl]
/-- letters one behind another -/
theorem letters_run {s1 s2 s3 s4 s5 s8 s9 : Sl} : ∀ (ds : List D) (x0 : Str) (s7 : Sl) (ob : List D), (∃ a b c, ob[l]? = some (lst3 a b c)) → (∀ c ∈ x0.cps.toList, letterB c = true) → x0.length + ds.length ≤ 1000 →
    ∃ (x : Str) (s7' : Sl) (ob' : List D), DL.forM (setN 7) (asgS (op2 (vget 6) (callE F__law_of [vget 0, M.ret (.str "abcdefghijklmnopqrstuvwxyz")]) addM) (setN 6)) ds ⟨[.d (.loc l), s1, s2, s3, s4, s5, .d (.str x0), s7, s8, s9], ob⟩ = .ok .nx ⟨[.d (.loc l), s1, s2, s3, s4, s5, .d (.str x), s7', s8, s9], ob'⟩ ∧ Drew l ob ob' ∧ (∀ c ∈ x.cps.toList, letterB c = true) ∧ x.length = x0.length + ds.length
  | [], x0, s7, ob, ⟨a, b, c, h⟩, hx, _ => ⟨x0, s7, ob, rfl, Drew.refl h, hx, rfl⟩
  | d :: r, x0, s7, ob, ⟨a, b, c, h⟩, hx, hl => by
    simp only [List.length_cons] at hl
    obtain ⟨k, ob1, e1, hk, hd⟩ := of_runS (z := LET) h (by rw [let_tl]; simp) (by decide +kernel)
    have hk' : letterB k = true := by rw [let_tl] at hk; exact letter_range hk
    have hlen : (x0 ++ (⟨#[k]⟩ : Str)).length = x0.length + 1 := str_len_app _ _
    obtain ⟨x, s7', ob', e2, h2, h3, h4⟩ := letters_run r (x0 ++ ⟨#[k]⟩) (.d d) ob1 hd.at (fun c hc => by
      rw [tl_app] at hc
      rcases List.mem_append.mp hc with q | q
      · exact hx c q
      · simp at q; rw [q]; exact hk') (by omega)
    refine ⟨x, s7', ob', ?_, hd.trans h2, h3, by rw [h4, hlen]; simp only [List.length_cons]; omega⟩
    rw [forM_cons (S1 := ⟨[.d (.loc l), s1, s2, s3, s4, s5, .d (.str x0), .d d, s8, s9], ob⟩) rfl, ← e2]
    have hsz : x0.length + (⟨#[k]⟩ : Str).length ≤ 16777216 := by
      have : (⟨#[k]⟩ : Str).length = 1 := rfl
      omega
    simp [e1, hsz]
abbrev pickE : M D := op2 (lcM [8] (itemsM (op2 (lstE [vget 6]) (lcM [9] (itemsM (M.ret (.str "abcdefghijklmnopqrstuvwxyz"))) (setN 9) (M.ret true) (op2 (slE (vget 6) (M.ret none) (M.bnd (M.ret (.int 7)) partOf)) (vget 9) addM)) addM)) (setN 8) (M.bnd (op2 (vget 8) (op2 (op2 (vget 3) (vgetR 4) addM) (callF F__law_own []) addM) notInM) bool1) (vget 8)) (M.ret (.int 0)) ixM
theorem pick_run {s0 s1 s2 s5 s7 : Sl} {w : Str} {fs : List Str} (hw : Wordy w) (hf : fs.length ≤ 5) :
    ∃ (x : Str), pickE ⟨[s0, s1, s2, .d (.lst (K_BAD.map .str)), .own (.lst (fs.map .str)), s5, .d (.str w), s7, .no, .no], ob⟩ = .ok (.str x) ⟨[s0, s1, s2, .d (.lst (K_BAD.map .str)), .own (.lst (fs.map .str)), s5, .d (.str w), s7, .no, .no], ob⟩ ∧ Wordy x ∧ x ∉ K_BAD ∧ x ∉ fs ∧ x ∉ K_OWN := by
  have hwl : w.length ≤ 16777216 := by have := hw.le; omega
  have hmem : ∀ x : Str, x ∈ w :: LET.cps.toList.map (cand w) → Wordy x := fun x hx => by
    rcases List.mem_cons.mp hx with e | hx
    · rw [e]; exact hw
    · obtain ⟨c, hc, rfl⟩ := List.mem_map.mp hx
      rw [let_tl] at hc
      exact wordy_cand hw (letter_range hc)
  -- the inner list
  have e1 : lcF [9] (setN 9) (M.ret true) (op2 (slE (vget 6) (M.ret none) (M.bnd (M.ret (.int 7)) partOf)) (vget 9) addM) (chars LET) ⟨[s0, s1, s2, .d (.lst (K_BAD.map .str)), .own (.lst (fs.map .str)), s5, .d (.str w), s7, .no, .no], ob⟩ = .ok (.lst ((LET.cps.toList.map (cand w)).map .str)) ⟨[s0, s1, s2, .d (.lst (K_BAD.map .str)), .own (.lst (fs.map .str)), s5, .d (.str w), s7, .no, .no], ob⟩ := by
    rw [lc_map (fun d => match d with | .str c => .str (cutS w none (some 7) ++ c) | _ => .non) (by rw [chars_len]; decide +kernel) (fun d hd => by
      obtain ⟨c, hc, rfl⟩ := List.mem_map.mp hd
      refine ⟨_, rfl, ?_⟩
      have hs : (cutS w none (some 7)).length + (⟨#[c]⟩ : Str).length ≤ 16777216 := by
        rw [← str_len_app, cut7, cand_len, List.length_take]
        omega
      simp [hwl, hs])]
    congr 2
    unfold chars
    rw [List.map_map, List.map_map]
    refine List.map_congr_left fun c _ => ?_
    show D.str (cutS w none (some 7) ++ ⟨#[c]⟩) = D.str (cand w c)
    rw [cut7]
  have hL : (K_BAD ++ fs ++ K_OWN).length ≤ 1000 := by
    have := bad_len
    have := own_len
    simp only [List.length_append]
    omega
  have a1 : addM (.lst (K_BAD.map .str)) (.lst (fs.map .str)) = M.ret (.lst ((K_BAD ++ fs).map .str)) := by
    rw [addM_lst, if_pos (by have := bad_len; simp only [List.length_map]; omega), List.map_append]
  have a2 : addM (.lst ((K_BAD ++ fs).map .str)) (.lst (K_OWN.map .str)) = M.ret (.lst ((K_BAD ++ fs ++ K_OWN).map .str)) := by
    rw [addM_lst, if_pos (by have := bad_len; have := own_len; simp only [List.length_map, List.length_append]; omega), ← List.map_append]
  have a3 : addM (.lst [.str w]) (.lst ((LET.cps.toList.map (cand w)).map .str)) = M.ret (.lst ((w :: LET.cps.toList.map (cand w)).map .str)) := by
    rw [addM_lst, if_pos (by rw [let_tl]; simp)]
    rfl
  have e2 : lcF [8] (setN 8) (M.bnd (op2 (vget 8) (op2 (op2 (vget 3) (vgetR 4) addM) (callF F__law_own []) addM) notInM) bool1) (vget 8) ((w :: LET.cps.toList.map (cand w)).map .str) ⟨[s0, s1, s2, .d (.lst (K_BAD.map .str)), .own (.lst (fs.map .str)), s5, .d (.str w), s7, .no, .no], ob⟩ = .ok (.lst (((w :: LET.cps.toList.map (cand w)).filter fun x => !decide (x ∈ K_BAD ++ fs ++ K_OWN)).map .str)) ⟨[s0, s1, s2, .d (.lst (K_BAD.map .str)), .own (.lst (fs.map .str)), s5, .d (.str w), s7, .no, .no], ob⟩ := by
    rw [lc_pure (fun d => match d with | .str x => !decide (x ∈ K_BAD ++ fs ++ K_OWN) | _ => false) (fun d => d) (by rw [let_tl]; simp) (fun d hd => by
      obtain ⟨x, hx, rfl⟩ := List.mem_map.mp hd
      refine ⟨_, rfl, [s0, s1, s2, .d (.lst (K_BAD.map .str)), .own (.lst (fs.map .str)), s5, .d (.str w), s7, .d (.str x), .no], ?_, fun _ => rfl, fun _ => ⟨[s0, s1, s2, .d (.lst (K_BAD.map .str)), .own (.lst (fs.map .str)), s5, .d (.str w), s7, .d (.str x), .no], rfl, rfl⟩⟩
      simp [own_run, a1, a2, notInM_of (in_strsL x (K_BAD ++ fs ++ K_OWN)), -List.map_append, -addM_lst, -List.append_assoc, -List.mem_append])]
    have e : ((w :: LET.cps.toList.map (cand w)).map D.str).filter (fun d => match d with | .str x => !decide (x ∈ K_BAD ++ fs ++ K_OWN) | _ => false) = ((w :: LET.cps.toList.map (cand w)).filter fun x => !decide (x ∈ K_BAD ++ fs ++ K_OWN)).map D.str := by
      rw [List.filter_map]
      rfl
    rw [e]
    simp
  cases ef : (w :: LET.cps.toList.map (cand w)).filter fun x => !decide (x ∈ K_BAD ++ fs ++ K_OWN) with
  | nil =>
    exfalso
    obtain ⟨c, hc, hn⟩ := cand_free w (K_BAD ++ fs ++ K_OWN) fun m => by
      rw [List.filter_append, List.filter_append, List.length_append, List.length_append]
      have := cnt_of bad_cnt m
      have := cnt_of own_cnt m
      have : (fs.filter fun x => decide (x.length = m)).length ≤ fs.length := List.length_filter_le _ _
      omega
    have := List.filter_eq_nil_iff.mp ef (cand w c) (List.mem_cons_of_mem _ (List.mem_map.mpr ⟨c, by rw [let_tl]; exact hc, rfl⟩))
    exact this (by rw [decide_eq_false hn]; rfl)
  | cons x r =>
    have hx : x ∈ (w :: LET.cps.toList.map (cand w)).filter fun x => !decide (x ∈ K_BAD ++ fs ++ K_OWN) := by rw [ef]; simp
    obtain ⟨h1, h2⟩ := List.mem_filter.mp hx
    have h2 : x ∉ K_BAD ++ fs ++ K_OWN := by simpa using h2
    rw [List.mem_append, List.mem_append] at h2
    refine ⟨x, ?_, hmem x h1, fun z => h2 (.inl (.inl z)), fun z => h2 (.inl (.inr z)), fun z => h2 (.inr z)⟩
    rw [ef] at e2
    simp only [pickE, op2_ap, lcM_ap, itemsM_ap, lstE_ap, seqM_cons, seqM_nil, vget_ap, List.getElem?_cons_succ, List.getElem?_cons_zero, Res.bnd_ok, bnd_ap, ret_ap, itemsD_str, e1, a3, itemsD_lst, e2]
    simp only [Res.bnd_ok, bnd_ap, ret_ap, List.map_cons, ixM_lst0]
abbrev nameBody : M Fl := seqS (asgS (M.ret (.str "")) (setN 6)) (seqS (forS (rng1M (op2 (M.ret (.int 1)) (callE F__law_of [vget 0, lstE [M.ret (.int 0), M.ret (.int 0), M.ret (.int 1), M.ret (.int 2), M.ret (.int 7)]]) addM)) (setN 7) (asgS (op2 (vget 6) (callE F__law_of [vget 0, M.ret (.str "abcdefghijklmnopqrstuvwxyz")]) addM) (setN 6)))
  (seqS (asgS (callE F__law_of [vget 0, lstE [M.ret (.str "a"), M.ret (.str "b"), M.ret (.str "webs"), vget 6, vget 6, vget 6, vget 6]]) (setN 6)) (exprS (appM 4 pickE))))
theorem wordy_lit : Wordy "a" ∧ Wordy "b" ∧ Wordy "webs" := by
  refine ⟨⟨by decide +kernel, by decide +kernel, by decide +kernel⟩, ⟨by decide +kernel, by decide +kernel, by decide +kernel⟩, ⟨by decide +kernel, by decide +kernel, by decide +kernel⟩⟩
theorem app_own {i : Nat} {u : M D} {sl sl' : List Sl} {ob ob' ds : List D} {x : D} (h1 : sl[i]? = some (.own (.lst ds))) (h2 : u ⟨sl, ob⟩ = .ok x ⟨sl', ob'⟩) (h3 : sl'[i]? = some (.own (.lst ds))) (hl : ds.length < 16777216) : appM i u ⟨sl, ob⟩ = .ok .non ⟨sl'.set i (.own (.lst (ds ++ [x]))), ob'⟩ := by
  unfold appM omM
  have c1 : chgAt ⟨sl, ob⟩ i = some (.lst ds) := by unfold chgAt; rw [h1]
  have c2 : chgAt ⟨sl', ob'⟩ i = some (.lst ds) := by unfold chgAt; rw [h3]
  rw [c1]
  dsimp only
  rw [if_pos (show isLst (D.lst ds) = true from rfl), bnd_of h2, c2]
  dsimp only
  rw [if_pos hl]
  dsimp only [DL.putAt]
  rw [h3]
theorem name_run {s1 s2 s5 s6 s7 : Sl} {fs : List Str} {a b c : Int} (h : ob[l]? = some (lst3 a b c)) (hf : fs.length ≤ 5) :
    ∃ (x : Str) (s6' s7' : Sl) (ob' : List D), nameBody ⟨[.d (.loc l), s1, s2, .d (.lst (K_BAD.map .str)), .own (.lst (fs.map .str)), s5, s6, s7, .no, .no], ob⟩ = .ok .nx ⟨[.d (.loc l), s1, s2, .d (.lst (K_BAD.map .str)), .own (.lst ((fs ++ [x]).map .str)), s5, s6', s7', .no, .no], ob'⟩ ∧ Drew l ob ob' ∧ Wordy x ∧ x ∉ K_BAD ∧ x ∉ fs ∧ x ∉ K_OWN := by
  obtain ⟨d, ob1, e1, hd, dr1⟩ := of_run (ds := [.int 0, .int 0, .int 1, .int 2, .int 7]) h (by simp) (by simp)
  obtain ⟨n, rfl, hn⟩ : ∃ n : Nat, d = .int n ∧ n ≤ 7 := by
    simp at hd
    rcases hd with rfl | rfl | rfl | rfl
    · exact ⟨0, rfl, by omega⟩
    · exact ⟨1, rfl, by omega⟩
    · exact ⟨2, rfl, by omega⟩
    · exact ⟨7, rfl, by omega⟩
  obtain ⟨w, s7', ob2, e2, dr2, hw1, hw2⟩ := letters_run (s1 := s1) (s2 := s2) (s3 := .d (.lst (K_BAD.map .str))) (s4 := .own (.lst (fs.map .str))) (s5 := s5) (s8 := .no) (s9 := .no) (rangeD 0 (n + 1)) "" s7 ob1 dr1.at (by decide +kernel) (by
    have : ("" : Str).length = 0 := by decide +kernel
    simp [rangeD]
    omega)
  have hw : Wordy w := by
    have h0 : ("" : Str).length = 0 := by decide +kernel
    have : (rangeD 0 (n + 1)).length = n + 1 := by simp [rangeD]
    exact ⟨by omega, by omega, hw1⟩
  obtain ⟨a2, b2, c2, h2⟩ := dr2.at
  obtain ⟨d, ob3, e3, hd, dr3⟩ := of_run (ds := [.str "a", .str "b", .str "webs", .str w, .str w, .str w, .str w]) h2 (by simp) (by simp)
  obtain ⟨v, rfl, hv⟩ : ∃ v, d = .str v ∧ Wordy v := by
    simp at hd
    rcases hd with rfl | rfl | rfl | rfl
    · exact ⟨_, rfl, wordy_lit.1⟩
    · exact ⟨_, rfl, wordy_lit.2.1⟩
    · exact ⟨_, rfl, wordy_lit.2.2⟩
    · exact ⟨_, rfl, hw⟩
  obtain ⟨x, e4, q1, q2, q3, q4⟩ := pick_run (ob := ob3) (s0 := .d (.loc l)) (s1 := s1) (s2 := s2) (s5 := s5) (s7 := s7') hv hf
  refine ⟨x, .d (.str v), s7', ob3, ?_, (dr1.trans dr2).trans dr3, q1, q2, q3, q4⟩
  have hfl : fs.length < 16777216 := by omega
  have st1 : forS (rng1M (op2 (M.ret (.int 1)) (callE F__law_of [vget 0, lstE [M.ret (.int 0), M.ret (.int 0), M.ret (.int 1), M.ret (.int 2), M.ret (.int 7)]]) addM)) (setN 7) (asgS (op2 (vget 6) (callE F__law_of [vget 0, M.ret (.str "abcdefghijklmnopqrstuvwxyz")]) addM) (setN 6)) ⟨[.d (.loc l), s1, s2, .d (.lst (K_BAD.map .str)), .own (.lst (fs.map .str)), s5, .d (.str ""), s7, .no, .no], ob⟩ = .ok .nx ⟨[.d (.loc l), s1, s2, .d (.lst (K_BAD.map .str)), .own (.lst (fs.map .str)), s5, .d (.str w), s7', .no, .no], ob2⟩ := by
    refine (forS_of (ds := rangeD 0 (n + 1)) (S1 := ⟨[.d (.loc l), s1, s2, .d (.lst (K_BAD.map .str)), .own (.lst (fs.map .str)), s5, .d (.str ""), s7, .no, .no], ob1⟩) ?_).trans e2
    refine rng1M_of (j := 1 + (n : Int)) ?_ (by omega) (by omega)
    simp only [seqM_cons, seqM_nil, op2_ap, bnd_ap, callE_ap, lstE_ap, vget_ap, List.getElem?_cons_zero, callF_ap, e1, after_ok, addM_int, ret_ap, Res.bnd_ok]
  have st2 : asgS (callE F__law_of [vget 0, lstE [M.ret (.str "a"), M.ret (.str "b"), M.ret (.str "webs"), vget 6, vget 6, vget 6, vget 6]]) (setN 6) ⟨[.d (.loc l), s1, s2, .d (.lst (K_BAD.map .str)), .own (.lst (fs.map .str)), s5, .d (.str w), s7', .no, .no], ob2⟩ = .ok .nx ⟨[.d (.loc l), s1, s2, .d (.lst (K_BAD.map .str)), .own (.lst (fs.map .str)), s5, .d (.str v), s7', .no, .no], ob3⟩ := by
    refine asgS_of (d := .str v) (S1 := ⟨[.d (.loc l), s1, s2, .d (.lst (K_BAD.map .str)), .own (.lst (fs.map .str)), s5, .d (.str w), s7', .no, .no], ob3⟩) ?_ rfl
    simp only [callE_ap, seqM_cons, seqM_nil, bnd_ap, lstE_ap, vget_ap, List.getElem?_cons_succ, List.getElem?_cons_zero, callF_ap, e3, after_ok, ret_ap, Res.bnd_ok]
  have st3 : exprS (appM 4 pickE) ⟨[.d (.loc l), s1, s2, .d (.lst (K_BAD.map .str)), .own (.lst (fs.map .str)), s5, .d (.str v), s7', .no, .no], ob3⟩ = .ok .nx ⟨[.d (.loc l), s1, s2, .d (.lst (K_BAD.map .str)), .own (.lst ((fs ++ [x]).map .str)), s5, .d (.str v), s7', .no, .no], ob3⟩ := by
    refine exprS_of (d := .non) ?_
    refine (app_own (i := 4) (ds := fs.map .str) rfl e4 rfl (by rw [List.length_map]; exact hfl)).trans ?_
    rw [List.map_append]
    rfl
  exact (seqS_nx (S1 := ⟨[.d (.loc l), s1, s2, .d (.lst (K_BAD.map .str)), .own (.lst (fs.map .str)), s5, .d (.str ""), s7, .no, .no], ob⟩) rfl).trans ((seqS_nx st1).trans ((seqS_nx st2).trans st3))
structure NamesOk (ps : List Str) : Prop where
  nm : ∀ x ∈ ps, isNameB x = true
  asc : Asc ltS ps
  bad : ∀ x ∈ ps, x ∉ K_BAD
  own : ∀ x ∈ ps, x ∉ K_OWN
theorem words_bad : ∀ x ∈ K_WORDS, x ∈ K_BAD := fun x h => List.mem_append_left _ h
theorem name_of {x : Str} (h : Wordy x) (hb : x ∉ K_BAD) : isNameB x = true := by
  unfold isNameB
  rw [wordy_B h]
  simp [h.le]
  exact fun z => hb (words_bad x z)
theorem names_loop {s1 s2 : Sl} : ∀ (ds : List D) (fs : List Str) (s5 s6 s7 : Sl) (ob : List D), (∃ a b c, ob[l]? = some (lst3 a b c)) → fs.length + ds.length ≤ 6 → fs.Nodup → (∀ x ∈ fs, Wordy x ∧ x ∉ K_BAD ∧ x ∉ K_OWN) →
    ∃ (fs' : List Str) (s5' s6' s7' : Sl) (ob' : List D), DL.forM (setN 5) nameBody ds ⟨[.d (.loc l), s1, s2, .d (.lst (K_BAD.map .str)), .own (.lst (fs.map .str)), s5, s6, s7, .no, .no], ob⟩ = .ok .nx ⟨[.d (.loc l), s1, s2, .d (.lst (K_BAD.map .str)), .own (.lst (fs'.map .str)), s5', s6', s7', .no, .no], ob'⟩ ∧ Drew l ob ob' ∧ fs'.Nodup ∧ (∀ x ∈ fs', Wordy x ∧ x ∉ K_BAD ∧ x ∉ K_OWN) ∧ fs'.length = fs.length + ds.length
  | [], fs, s5, s6, s7, ob, ⟨a, b, c, h⟩, _, nd, hg => ⟨fs, s5, s6, s7, ob, rfl, Drew.refl h, nd, hg, rfl⟩
  | d :: r, fs, s5, s6, s7, ob, ⟨a, b, c, h⟩, hl, nd, hg => by
    simp only [List.length_cons] at hl
    obtain ⟨x, s6', s7', ob1, e1, dr1, q1, q2, q3, q4⟩ := name_run (s1 := s1) (s2 := s2) (s5 := .d d) (s6 := s6) (s7 := s7) (fs := fs) h (by omega)
    obtain ⟨fs', s5', s6', s7', ob2, e2, dr2, n2, g2, l2⟩ := names_loop r (fs ++ [x]) (.d d) s6' s7' ob1 dr1.at (by simp; omega) (List.nodup_append.mpr ⟨nd, by simp, fun u hu v hv => by simp at hv; subst hv; exact fun e => q3 (by rw [← e]; exact hu)⟩) fun y hy => by
      rcases List.mem_append.mp hy with q | q
      · exact hg y q
      · simp at q; subst q; exact ⟨q1, q2, q4⟩
    refine ⟨fs', s5', s6', s7', ob2, ?_, dr1.trans dr2, n2, g2, by rw [l2]; simp; omega⟩
    rw [forM_cons (S1 := ⟨[.d (.loc l), s1, s2, .d (.lst (K_BAD.map .str)), .own (.lst (fs.map .str)), .d d, s6, s7, .no, .no], ob⟩) rfl, e1]
    exact e2
theorem names_run {n : Nat} {a b c : Int} (h : ob[l]? = some (lst3 a b c)) (hn : n ≤ 6) : ∃ (ps : List Str) (ob' : List D), F__law_names [.loc l, .int n] ob = .ok (namesD ps) ⟨[], ob'⟩ ∧ Drew l ob ob' ∧ NamesOk ps ∧ ps.length = n := by
  obtain ⟨fs, s5, s6, s7, ob', e, dr, nd, hg, hl⟩ := names_loop (s1 := .d (.int n)) (s2 := .d (.lst ((K_WORDS.take 23).map .str))) (rangeD 0 n) [] .no .no .no ob ⟨a, b, c, h⟩ (by simp [rangeD]; omega) List.nodup_nil (fun x hx => by cases hx)
  refine ⟨sortD ltS fs, ob', ?_, dr, ?_, ?_⟩
  · have e1 : splitM (.str words1) (.str " ") = M.ret (.lst ((K_WORDS.take 23).map .str)) := splitM_of split1 (by decide +kernel)
    have e2 : splitM (.str words2) (.str " ") = M.ret (.lst ((K_WORDS.drop 23 ++ zz).map .str)) := splitM_of split2 (by decide +kernel)
    have a1 : addM (.lst ((K_WORDS.take 23).map .str)) (.lst ((K_WORDS.drop 23 ++ zz).map .str)) = M.ret (.lst (K_BAD.map .str)) := by
      rw [addM_lst, if_pos (by decide +kernel), ← List.map_append]
      have : K_WORDS.take 23 ++ (K_WORDS.drop 23 ++ zz) = K_BAD := by decide +kernel
      rw [this]
    have em : m__law_names = seqS (asgS (m1M (M.ret (.str words1)) (M.ret (.str " ")) splitM) (setN 2)) (seqS (parN [(3, false), (4, true)] [op2 (vget 2) (m1M (M.ret (.str words2)) (M.ret (.str " ")) splitM) addM, lstE []]) (seqS (forS (rng1M (vget 1)) (setN 5) nameBody) (retS (M.bnd (M.bnd (vgetR 4) sortM) tupM)))) := rfl
    simp only [List.map_nil] at e
    have st1 : asgS (m1M (M.ret (.str words1)) (M.ret (.str " ")) splitM) (setN 2) ⟨[.d (.loc l), .d (.int n), .no, .no, .no, .no, .no, .no, .no, .no], ob⟩ = .ok .nx ⟨[.d (.loc l), .d (.int n), .d (.lst ((K_WORDS.take 23).map .str)), .no, .no, .no, .no, .no, .no, .no], ob⟩ := by
      refine asgS_of (S1 := ⟨[.d (.loc l), .d (.int n), .no, .no, .no, .no, .no, .no, .no, .no], ob⟩) ?_ rfl
      rw [m1M_ap, ret_ap, Res.bnd_ok, ite_ap, if_pos (isStrD_str _), bnd_of (M_ret _ _), e1]
      rfl
    have st2 : parN [(3, false), (4, true)] [op2 (vget 2) (m1M (M.ret (.str words2)) (M.ret (.str " ")) splitM) addM, lstE []] ⟨[.d (.loc l), .d (.int n), .d (.lst ((K_WORDS.take 23).map .str)), .no, .no, .no, .no, .no, .no, .no], ob⟩ = .ok .nx ⟨[.d (.loc l), .d (.int n), .d (.lst ((K_WORDS.take 23).map .str)), .d (.lst (K_BAD.map .str)), .own (.lst []), .no, .no, .no, .no, .no], ob⟩ := by
      have q : op2 (vget 2) (m1M (M.ret (.str words2)) (M.ret (.str " ")) splitM) addM ⟨[.d (.loc l), .d (.int n), .d (.lst ((K_WORDS.take 23).map .str)), .no, .no, .no, .no, .no, .no, .no], ob⟩ = .ok (.lst (K_BAD.map .str)) ⟨[.d (.loc l), .d (.int n), .d (.lst ((K_WORDS.take 23).map .str)), .no, .no, .no, .no, .no, .no, .no], ob⟩ := by
        rw [op2_ap, vget_ap]
        show M.bnd (m1M (M.ret (.str words2)) (M.ret (.str " ")) splitM) (fun y => addM (.lst ((K_WORDS.take 23).map .str)) y) _ = _
        refine (bnd_of (a := .lst ((K_WORDS.drop 23 ++ zz).map .str)) (S1 := ⟨[.d (.loc l), .d (.int n), .d (.lst ((K_WORDS.take 23).map .str)), .no, .no, .no, .no, .no, .no, .no], ob⟩) ?_).trans ?_
        · rw [m1M_ap, ret_ap, Res.bnd_ok, ite_ap, if_pos (isStrD_str _), bnd_of (M_ret _ _), e2]
          rfl
        · rw [a1]
          rfl
      rw [parN_ap2, seqM_cons, q]
      rfl
    have st3 : forS (rng1M (vget 1)) (setN 5) nameBody ⟨[.d (.loc l), .d (.int n), .d (.lst ((K_WORDS.take 23).map .str)), .d (.lst (K_BAD.map .str)), .own (.lst []), .no, .no, .no, .no, .no], ob⟩ = .ok .nx ⟨[.d (.loc l), .d (.int n), .d (.lst ((K_WORDS.take 23).map .str)), .d (.lst (K_BAD.map .str)), .own (.lst (fs.map .str)), s5, s6, s7, .no, .no], ob'⟩ := by
      refine (forS_of (ds := rangeD 0 n) (S1 := ⟨[.d (.loc l), .d (.int n), .d (.lst ((K_WORDS.take 23).map .str)), .d (.lst (K_BAD.map .str)), .own (.lst []), .no, .no, .no, .no, .no], ob⟩) ?_).trans e
      exact rng1M_of (j := (n : Int)) rfl (by omega) (by omega)
    have st4 : retS (M.bnd (M.bnd (vgetR 4) sortM) tupM) ⟨[.d (.loc l), .d (.int n), .d (.lst ((K_WORDS.take 23).map .str)), .d (.lst (K_BAD.map .str)), .own (.lst (fs.map .str)), s5, s6, s7, .no, .no], ob'⟩ = .ok (.rt (namesD (sortD ltS fs))) ⟨[.d (.loc l), .d (.int n), .d (.lst ((K_WORDS.take 23).map .str)), .d (.lst (K_BAD.map .str)), .own (.lst (fs.map .str)), s5, s6, s7, .no, .no], ob'⟩ := by
      refine retS_of ?_
      simp only [bnd_ap, vgetR_ap, List.getElem?_cons_succ, List.getElem?_cons_zero, Res.bnd_ok, sortM_strs, ret_ap, tupM_lst]
      rfl
    have al := (seqS_nx st1).trans ((seqS_nx st2).trans ((seqS_nx st3).trans st4))
    rw [← em] at al
    show fnM 10 2 m__law_names [.loc l, .int n] ob = _
    rw [fnM2]
    show fnR (m__law_names ⟨[.d (.loc l), .d (.int n), .no, .no, .no, .no, .no, .no, .no, .no], ob⟩) = _
    rw [al]
    rfl
  · have hp := sort_perm swo_str fs
    refine ⟨fun x hx => ?_, asc_sortS nd, fun x hx => (hg x (hp.mem_iff.mp hx)).2.1, fun x hx => (hg x (hp.mem_iff.mp hx)).2.2⟩
    have q := hg x (hp.mem_iff.mp hx)
    exact name_of q.1 q.2.1
  · rw [(sort_perm swo_str fs).length_eq, hl]
    simp [rangeD]
end
end LW
end
section
set_option Elab.async false
set_option linter.all false
set_option maxRecDepth 100000
set_option maxHeartbeats 2000000
/-! SP8: drawn webs -/
namespace DL
open PySem PySem.Spec L2 SrtO
def tkey (t : Tie) : List Key := [.inr t.1, .inr t.2]
theorem tkey_inj {s t : Tie} (h : tkey s = tkey t) : s = t := by
  obtain ⟨a, b⟩ := s
  obtain ⟨c, d⟩ := t
  simpa [tkey] using h
def tdic (us : List Tie) : D := .dicT (us.map tkey) (us.map fun _ => .bl true)
def tput (us : List Tie) (t : Tie) : List Tie := if t ∈ us then us else us ++ [t]
theorem tput_mem {us : List Tie} {s t : Tie} : s ∈ tput us t ↔ s ∈ us ∨ s = t := by
  unfold tput
  by_cases h : t ∈ us
  · rw [if_pos h]
    exact ⟨.inl, fun z => z.elim id fun e => by rw [e]; exact h⟩
  · rw [if_neg h, List.mem_append, List.mem_singleton]
theorem tput_nd {us : List Tie} {t : Tie} (h : us.Nodup) : (tput us t).Nodup := by
  unfold tput
  by_cases hm : t ∈ us
  · rw [if_pos hm]; exact h
  · rw [if_neg hm]
    exact List.nodup_append.mpr ⟨h, by simp, fun u hu v hv => by simp at hv; subst hv; exact fun e => hm (by rw [← e]; exact hu)⟩
theorem tput_len (us : List Tie) (t : Tie) : (tput us t).length ≤ us.length + 1 ∧ us.length ≤ (tput us t).length := by
  unfold tput
  split
  · exact ⟨by omega, by omega⟩
  · simp
theorem set_tdic {us : List Tie} {t : Tie} (hl : us.length < 16777216) : setF (tdic us) (tieD t) (.bl true) = some (tdic (tput us t)) := by
  have ek : keysOf [.str t.1, .str t.2] = some (tkey t) := rfl
  show (keysOf [.str t.1, .str t.2]).bind (fun k => if (us.map tkey).length < 16777216 then some (D.dicT (newKs (us.map tkey) k) (newVs (us.map tkey) (us.map fun _ => D.bl true) k (D.bl true))) else none) = _
  rw [ek, Option.bind_some, if_pos (by simpa using hl)]
  have ea : ((us.map tkey).any fun j => decide (j = tkey t)) = decide (t ∈ us) := by
    rw [List.any_map]
    by_cases h : t ∈ us
    · rw [decide_eq_true h, List.any_eq_true]
      exact ⟨t, h, by simp⟩
    · rw [decide_eq_false h, List.any_eq_false]
      intro s hs
      simp
      intro e
      exact h (tkey_inj e ▸ hs)
  unfold newKs newVs tput tdic
  rw [ea]
  by_cases h : t ∈ us
  · simp only [decide_eq_true h, if_true, if_pos h]
    congr 2
    clear ek ea h hl
    induction us with
    | nil => rfl
    | cons u us ih =>
      simp only [List.map_cons, List.zipWith_cons_cons, ih]
      congr 1
      split <;> rfl
  · simp [decide_eq_false h, h]
theorem list_tdic {us : List Tie} (hl : us.length ≤ 1000) : list2M (tdic us) = M.ret (.lst (us.map tieD)) := by
  show (if (us.map tkey).length ≤ 16777216 ∧ ((us.map tkey).all fun k => decide (k.length ≤ 16777216)) = true then M.ret (D.lst ((us.map tkey).map fun k => .tup (k.map keyD))) else M.fail) = _
  rw [if_pos ⟨by rw [List.length_map]; omega, List.all_eq_true.mpr fun k hk => by
    obtain ⟨t, _, rfl⟩ := List.mem_map.mp hk
    rfl⟩, List.map_map]
  rfl
theorem sub_own {i : Nat} {g : M D} {sl sl' : List Sl} {ob ob' : List D} {x y d x' : D} (h1 : sl[i]? = some (.own x)) (h2 : g ⟨sl, ob⟩ = .ok y ⟨sl', ob'⟩) (h3 : sl'[i]? = some (.own x)) (e : setF x y d = some x') : subT i g d ⟨sl, ob⟩ = some ⟨sl'.set i (.own x'), ob'⟩ := by
  unfold subT
  have c1 : chgAt ⟨sl, ob⟩ i = some x := by unfold chgAt; rw [h1]
  have c2 : chgAt ⟨sl', ob'⟩ i = some x := by unfold chgAt; rw [h3]
  rw [c1, h2]
  dsimp only
  rw [c2, Option.bind_some, e, Option.map_some]
  dsimp only [DL.putAt]
  rw [h3]
end DL
namespace LW
open PySem PySem.Spec L2 DL SrtO
/-- a pair of places, by their turns -/
def Idx (ps : List Str) (t : Tie) : Prop := ∃ a b : Nat, a < b ∧ ps[a]? = some t.1 ∧ ps[b]? = some t.2
section
variable {ob : List D} {l : Nat}
theorem ix_name {ps : List Str} {k : Nat} {x : Str} (h : ps[k]? = some x) (S : Stt) : ixM (namesD ps) (.int (k : Int)) S = .ok (.str x) S := by
  have hk := (List.getElem?_eq_some_iff.mp h).1
  refine ixM_tup ?_
  unfold atI ixN
  rw [if_pos (by omega), if_pos (by rw [List.length_map]; omega)]
  simp [h]
abbrev tieE : M D := tupE [op2 (vget 4) (ifV (M.bnd (op2 (callE F__law_beam [vget 0, M.ret (.int 2)]) (M.ret (.int 0)) eqM) bool1) (callE F__law_beam [vget 0, vget 6]) (op2 (vget 6) (M.ret (.int 1)) subM)) ixM, op2 (vget 4) (vget 6) ixM]
theorem tieE_run {s1 s2 s3 s5 s7 s8 s9 : Sl} {ps : List Str} {k : Nat} {x : Str} {a b c : Int} (h : ob[l]? = some (lst3 a b c)) (hk : 1 ≤ k) (hx : ps[k]? = some x) (hk6 : k ≤ 1000) :
    ∃ (t : Tie) (ob' : List D), tieE ⟨[.d (.loc l), s1, s2, s3, .d (namesD ps), s5, .d (.int (k : Int)), s7, s8, s9], ob⟩ = .ok (tieD t) ⟨[.d (.loc l), s1, s2, s3, .d (namesD ps), s5, .d (.int (k : Int)), s7, s8, s9], ob'⟩ ∧ Drew l ob ob' ∧ t.2 = x ∧ ∃ j, j < k ∧ ps[j]? = some t.1 := by
  have hlen : k < ps.length := (List.getElem?_eq_some_iff.mp hx).1
  obtain ⟨r, ob1, e1, r0, r1, dr1⟩ := beam_run (n := 2) h (by decide) (by decide)
  have pick : ∃ (j : Nat) (ob2 : List D), ifV (M.bnd (op2 (callE F__law_beam [vget 0, M.ret (.int 2)]) (M.ret (.int 0)) eqM) bool1) (callE F__law_beam [vget 0, vget 6]) (op2 (vget 6) (M.ret (.int 1)) subM) ⟨[.d (.loc l), s1, s2, s3, .d (namesD ps), s5, .d (.int (k : Int)), s7, s8, s9], ob⟩ = .ok (.int (j : Int)) ⟨[.d (.loc l), s1, s2, s3, .d (namesD ps), s5, .d (.int (k : Int)), s7, s8, s9], ob2⟩ ∧ j < k ∧ Drew l ob ob2 := by
    by_cases hr : r = 0
    · obtain ⟨a1, b1, c1, h1⟩ := dr1.at
      obtain ⟨q, ob2, e2, q0, q1, dr2⟩ := beam_run (n := (k : Int)) h1 (by omega) (by omega)
      obtain ⟨j, rfl⟩ := Int.eq_ofNat_of_zero_le q0
      refine ⟨j, ob2, ?_, by omega, dr1.trans dr2⟩
      simp [e1, hr, e2]
    · have hb : (r == 0) = false := beq_eq_false_iff_ne.mpr hr
      have hj : ((k : Int) - 1) = ((k - 1 : Nat) : Int) := by omega
      refine ⟨k - 1, ob1, ?_, by omega, dr1⟩
      simp [e1, hb, hj]
  obtain ⟨j, ob2, e2, hj, dr2⟩ := pick
  have hjl : j < ps.length := by omega
  refine ⟨(ps[j], x), ob2, ?_, dr2, rfl, j, hj, List.getElem?_eq_getElem hjl⟩
  have i1 := ix_name (List.getElem?_eq_getElem hjl : ps[j]? = some ps[j]) ⟨[.d (.loc l), s1, s2, s3, .d (namesD ps), s5, .d (.int (k : Int)), s7, s8, s9], ob2⟩
  have i2 := ix_name hx ⟨[.d (.loc l), s1, s2, s3, .d (namesD ps), s5, .d (.int (k : Int)), s7, s8, s9], ob2⟩
  simp only [tieE, tupE_ap, seqM_cons, op2_ap, vget_ap, List.getElem?_cons_succ, List.getElem?_cons_zero, Res.bnd_ok, bnd_ap, e2, i1, i2, seqM_nil, ret_ap]
  rfl
structure TreeI (ps : List Str) (us : List Tie) (k : Nat) : Prop where
  nd : us.Nodup
  ix : ∀ t ∈ us, Idx ps t
  len : us.length + 1 ≤ k
  up : ∀ m x, 1 ≤ m → m < k → ps[m]? = some x → ∃ j y, j < m ∧ ps[j]? = some y ∧ (y, x) ∈ us
theorem tree_loop {s1 s2 s3 s7 s8 s9 : Sl} {ps : List Str} (hps : ps.length ≤ 6) : ∀ (n k : Nat) (us : List Tie) (s6 : Sl) (ob : List D), k + n = ps.length → 1 ≤ k → (∃ a b c, ob[l]? = some (lst3 a b c)) → TreeI ps us k →
    ∃ (us' : List Tie) (s6' : Sl) (ob' : List D), DL.forM (setN 6) (asgS (M.ret (.bl true)) (subT 5 tieE)) ((List.range' k n).map fun i => .int (i : Nat)) ⟨[.d (.loc l), s1, s2, s3, .d (namesD ps), .own (tdic us), s6, s7, s8, s9], ob⟩ = .ok .nx ⟨[.d (.loc l), s1, s2, s3, .d (namesD ps), .own (tdic us'), s6', s7, s8, s9], ob'⟩ ∧ Drew l ob ob' ∧ TreeI ps us' ps.length
  | 0, k, us, s6, ob, hk, _, ⟨a, b, c, h⟩, I => ⟨us, s6, ob, rfl, Drew.refl h, by
    have : k = ps.length := by omega
    rw [← this]
    exact I⟩
  | n + 1, k, us, s6, ob, hk, h1, ⟨a, b, c, h⟩, I => by
    have hlt : k < ps.length := by omega
    obtain ⟨t, ob1, e1, dr1, ht, j, hj, hpj⟩ := tieE_run (s1 := s1) (s2 := s2) (s3 := s3) (s5 := .own (tdic us)) (s7 := s7) (s8 := s8) (s9 := s9) h h1 (List.getElem?_eq_getElem hlt : ps[k]? = some ps[k]) (by omega)
    have I' : TreeI ps (tput us t) (k + 1) := by
      refine ⟨tput_nd I.nd, fun s hs => ?_, ?_, fun m x hm hmk hx => ?_⟩
      · rcases tput_mem.mp hs with q | q
        · exact I.ix s q
        · subst q; exact ⟨j, k, hj, hpj, by rw [ht]; exact List.getElem?_eq_getElem hlt⟩
      · have := (tput_len us t).1
        have := I.len
        omega
      · by_cases e : m = k
        · subst e
          rw [List.getElem?_eq_getElem hlt] at hx
          cases hx
          exact ⟨j, t.1, hj, hpj, tput_mem.mpr (.inr (by rw [← ht]))⟩
        · obtain ⟨j', y, z1, z2, z3⟩ := I.up m x hm (by omega) hx
          exact ⟨j', y, z1, z2, tput_mem.mpr (.inl z3)⟩
    obtain ⟨us', s6', ob2, e2, dr2, I2⟩ := tree_loop hps n (k + 1) (tput us t) (.d (.int (k : Nat))) ob1 (by omega) (by omega) dr1.at I'
    refine ⟨us', s6', ob2, ?_, dr1.trans dr2, I2⟩
    have er : (List.range' k (n + 1)).map (fun i => D.int (i : Nat)) = .int (k : Nat) :: (List.range' (k + 1) n).map fun i => .int (i : Nat) := by
      rw [List.range'_succ]
      rfl
    have hul : us.length < 16777216 := by have := I.len; omega
    rw [er, forM_cons (S1 := ⟨[.d (.loc l), s1, s2, s3, .d (namesD ps), .own (tdic us), .d (.int (k : Nat)), s7, s8, s9], ob⟩) rfl]
    have e3 : asgS (M.ret (.bl true)) (subT 5 tieE) ⟨[.d (.loc l), s1, s2, s3, .d (namesD ps), .own (tdic us), .d (.int (k : Nat)), s7, s8, s9], ob⟩ = .ok .nx ⟨[.d (.loc l), s1, s2, s3, .d (namesD ps), .own (tdic (tput us t)), .d (.int (k : Nat)), s7, s8, s9], ob1⟩ :=
      asgS_of (S1 := ⟨[.d (.loc l), s1, s2, s3, .d (namesD ps), .own (tdic us), .d (.int (k : Nat)), s7, s8, s9], ob⟩) rfl (sub_own (i := 5) rfl e1 rfl (set_tdic hul))
    rw [e3]
    exact e2
abbrev moreBody : M Fl := seqS (asgS (callE F__law_beam [vget 0, op2 (M.bnd (vget 4) lenM) (M.ret (.int 1)) subM]) (setN 8)) (seqS (asgS (tupE [op2 (vget 4) (vget 8) ixM, op2 (vget 4) (op2 (op2 (vget 8) (M.ret (.int 1)) addM) (callE F__law_beam [vget 0, op2 (op2 (M.bnd (vget 4) lenM) (vget 8) subM) (M.ret (.int 1)) subM]) addM) ixM]) (setN 9)) (ifV (M.bnd (op2 (M.bnd (vgetR 5) lenM) (vget 3) ltM) bool1) (asgS (M.ret (.bl true)) (subT 5 (vget 9))) (skip)))
theorem more_run {s1 s2 s6 s7 s8 s9 : Sl} {ps : List Str} {us : List Tie} {many : Int} {a b c : Int} (h : ob[l]? = some (lst3 a b c)) (hps : ps.length ≤ 6) (h2 : 2 ≤ ps.length) (hul : us.length ≤ 100) :
    ∃ (t : Tie) (us' : List Tie) (s8' s9' : Sl) (ob' : List D), moreBody ⟨[.d (.loc l), s1, s2, .d (.int many), .d (namesD ps), .own (tdic us), s6, s7, s8, s9], ob⟩ = .ok .nx ⟨[.d (.loc l), s1, s2, .d (.int many), .d (namesD ps), .own (tdic us'), s6, s7, s8', s9'], ob'⟩ ∧ Drew l ob ob' ∧ Idx ps t ∧ ((us' = us) ∨ (us' = tput us t ∧ (us.length : Int) < many)) := by
  obtain ⟨r, ob1, e1, r0, r1, dr1⟩ := beam_run (n := (ps.length : Int) - 1) h (by omega) (by omega)
  obtain ⟨i, rfl⟩ := Int.eq_ofNat_of_zero_le r0
  obtain ⟨a1, b1, c1, h1⟩ := dr1.at
  obtain ⟨q, ob2, e2, q0, q1, dr2⟩ := beam_run (n := (ps.length : Int) - i - 1) h1 (by omega) (by omega)
  obtain ⟨j, rfl⟩ := Int.eq_ofNat_of_zero_le q0
  have hi : i < ps.length := by omega
  have hj : i + 1 + j < ps.length := by omega
  have hc : ((i : Int) + 1 + (j : Int)) = ((i + 1 + j : Nat) : Int) := by omega
  have st1 : asgS (callE F__law_beam [vget 0, op2 (M.bnd (vget 4) lenM) (M.ret (.int 1)) subM]) (setN 8) ⟨[.d (.loc l), s1, s2, .d (.int many), .d (namesD ps), .own (tdic us), s6, s7, s8, s9], ob⟩ = .ok .nx ⟨[.d (.loc l), s1, s2, .d (.int many), .d (namesD ps), .own (tdic us), s6, s7, .d (.int (i : Int)), s9], ob1⟩ := by
    refine asgS_of (d := .int (i : Int)) (S1 := ⟨[.d (.loc l), s1, s2, .d (.int many), .d (namesD ps), .own (tdic us), s6, s7, s8, s9], ob1⟩) ?_ rfl
    simp [namesD, e1]
  have st2 : asgS (tupE [op2 (vget 4) (vget 8) ixM, op2 (vget 4) (op2 (op2 (vget 8) (M.ret (.int 1)) addM) (callE F__law_beam [vget 0, op2 (op2 (M.bnd (vget 4) lenM) (vget 8) subM) (M.ret (.int 1)) subM]) addM) ixM]) (setN 9) ⟨[.d (.loc l), s1, s2, .d (.int many), .d (namesD ps), .own (tdic us), s6, s7, .d (.int (i : Int)), s9], ob1⟩ = .ok .nx ⟨[.d (.loc l), s1, s2, .d (.int many), .d (namesD ps), .own (tdic us), s6, s7, .d (.int (i : Int)), .d (tieD (ps[i], ps[i + 1 + j]))], ob2⟩ := by
    refine asgS_of (d := tieD (ps[i], ps[i + 1 + j])) (S1 := ⟨[.d (.loc l), s1, s2, .d (.int many), .d (namesD ps), .own (tdic us), s6, s7, .d (.int (i : Int)), s9], ob2⟩) ?_ rfl
    have i1 := ix_name (List.getElem?_eq_getElem hi : ps[i]? = some ps[i]) ⟨[.d (.loc l), s1, s2, .d (.int many), .d (namesD ps), .own (tdic us), s6, s7, .d (.int (i : Int)), s9], ob1⟩
    have i2 := ix_name (List.getElem?_eq_getElem hj : ps[i + 1 + j]? = some ps[i + 1 + j]) ⟨[.d (.loc l), s1, s2, .d (.int many), .d (namesD ps), .own (tdic us), s6, s7, .d (.int (i : Int)), s9], ob2⟩
    have el : lenM (namesD ps) = M.ret (.int ps.length) := by simp [namesD]
    simp only [tupE_ap, seqM_cons, op2_ap, vget_ap, List.getElem?_cons_succ, List.getElem?_cons_zero, Res.bnd_ok, bnd_ap, ret_ap, addM_int, callE_ap, el, subM_int, seqM_nil, callF_ap, e2, after_ok, hc, i1, i2]
    rfl
  have ix : Idx ps (ps[i], ps[i + 1 + j]) := ⟨i, i + 1 + j, by omega, List.getElem?_eq_getElem hi, List.getElem?_eq_getElem hj⟩
  have elen : lenM (tdic us) = M.ret (.int us.length) := by
    unfold tdic
    rw [lenM_dicT, List.length_map]
  by_cases hm : (us.length : Int) < many
  · refine ⟨(ps[i], ps[i + 1 + j]), tput us (ps[i], ps[i + 1 + j]), .d (.int (i : Int)), .d (tieD (ps[i], ps[i + 1 + j])), ob2, (seqS_nx st1).trans ((seqS_nx st2).trans ?_), dr1.trans dr2, ix, .inr ⟨rfl, hm⟩⟩
    have e3 : asgS (M.ret (.bl true)) (subT 5 (vget 9)) ⟨[.d (.loc l), s1, s2, .d (.int many), .d (namesD ps), .own (tdic us), s6, s7, .d (.int (i : Int)), .d (tieD (ps[i], ps[i + 1 + j]))], ob2⟩ = .ok .nx ⟨[.d (.loc l), s1, s2, .d (.int many), .d (namesD ps), .own (tdic (tput us (ps[i], ps[i + 1 + j]))), s6, s7, .d (.int (i : Int)), .d (tieD (ps[i], ps[i + 1 + j]))], ob2⟩ :=
      asgS_of (S1 := ⟨[.d (.loc l), s1, s2, .d (.int many), .d (namesD ps), .own (tdic us), s6, s7, .d (.int (i : Int)), .d (tieD (ps[i], ps[i + 1 + j]))], ob2⟩) rfl (sub_own (g := vget 9) (sl := [.d (.loc l), s1, s2, .d (.int many), .d (namesD ps), .own (tdic us), s6, s7, .d (.int (i : Int)), .d (tieD (ps[i], ps[i + 1 + j]))]) (sl' := [.d (.loc l), s1, s2, .d (.int many), .d (namesD ps), .own (tdic us), s6, s7, .d (.int (i : Int)), .d (tieD (ps[i], ps[i + 1 + j]))]) (ob := ob2) (ob' := ob2) (x := tdic us) (y := tieD (ps[i], ps[i + 1 + j])) (i := 5) rfl rfl rfl (set_tdic (us := us) (by omega)))
    rw [ifV_ap]
    simp only [bnd_ap, op2_ap, vgetR_ap, vget_ap, List.getElem?_cons_succ, List.getElem?_cons_zero, Res.bnd_ok, elen, ret_ap, ltM_int, decide_eq_true hm, bool1_bl, if_true]
    exact e3
  · refine ⟨(ps[i], ps[i + 1 + j]), us, .d (.int (i : Int)), .d (tieD (ps[i], ps[i + 1 + j])), ob2, (seqS_nx st1).trans ((seqS_nx st2).trans ?_), dr1.trans dr2, ix, .inl rfl⟩
    rw [ifV_ap]
    simp only [bnd_ap, op2_ap, vgetR_ap, vget_ap, List.getElem?_cons_succ, List.getElem?_cons_zero, Res.bnd_ok, elen, ret_ap, ltM_int, decide_eq_false hm, bool1_bl, Bool.false_eq_true, if_false, skip_ap]
structure MoreI (ps : List Str) (us : List Tie) (many : Int) : Prop where
  nd : us.Nodup
  ix : ∀ t ∈ us, Idx ps t
  up : ∀ m x, 1 ≤ m → ps[m]? = some x → ∃ j y, j < m ∧ ps[j]? = some y ∧ (y, x) ∈ us
  len : (us.length : Int) + 1 ≤ ps.length ∨ (us.length : Int) ≤ many
theorem more_loop {s1 s2 s6 : Sl} {ps : List Str} {many : Int} (hps : ps.length ≤ 6) (h2 : 2 ≤ ps.length) : ∀ (ds : List D) (us : List Tie) (s7 s8 s9 : Sl) (ob : List D), (∃ a b c, ob[l]? = some (lst3 a b c)) → us.length + ds.length ≤ 100 → MoreI ps us many →
    ∃ (us' : List Tie) (s7' s8' s9' : Sl) (ob' : List D), DL.forM (setN 7) moreBody ds ⟨[.d (.loc l), s1, s2, .d (.int many), .d (namesD ps), .own (tdic us), s6, s7, s8, s9], ob⟩ = .ok .nx ⟨[.d (.loc l), s1, s2, .d (.int many), .d (namesD ps), .own (tdic us'), s6, s7', s8', s9'], ob'⟩ ∧ Drew l ob ob' ∧ MoreI ps us' many ∧ us'.length ≤ us.length + ds.length
  | [], us, s7, s8, s9, ob, ⟨a, b, c, h⟩, _, I => ⟨us, s7, s8, s9, ob, rfl, Drew.refl h, I, by simp⟩
  | d :: r, us, s7, s8, s9, ob, ⟨a, b, c, h⟩, hl, I => by
    simp only [List.length_cons] at hl
    obtain ⟨t, us1, s8', s9', ob1, e1, dr1, ix, hu⟩ := more_run (s1 := s1) (s2 := s2) (s6 := s6) (s7 := .d d) (s8 := s8) (s9 := s9) (us := us) (many := many) h hps h2 (by omega)
    have I1 : MoreI ps us1 many ∧ us1.length ≤ us.length + 1 := by
      rcases hu with e | ⟨e, hm⟩
      · subst e; exact ⟨I, by omega⟩
      · subst e
        have := tput_len us t
        refine ⟨⟨tput_nd I.nd, fun s hs => ?_, fun m x hm hx => ?_, .inr (by omega)⟩, this.1⟩
        · rcases tput_mem.mp hs with q | q
          · exact I.ix s q
          · subst q; exact ix
        · obtain ⟨j', y, z1, z2, z3⟩ := I.up m x hm hx
          exact ⟨j', y, z1, z2, tput_mem.mpr (.inl z3)⟩
    obtain ⟨us', s7', s8'', s9'', ob2, e2, dr2, I2, l2⟩ := more_loop hps h2 r us1 (.d d) s8' s9' ob1 dr1.at (by omega) I1.1
    refine ⟨us', s7', s8'', s9'', ob2, ?_, dr1.trans dr2, I2, by have := I1.2; simp only [List.length_cons]; omega⟩
    rw [forM_cons (S1 := ⟨[.d (.loc l), s1, s2, .d (.int many), .d (namesD ps), .own (tdic us), s6, .d d, s8, s9], ob⟩) rfl, e1]
    exact e2
theorem idx_lt {ps : List Str} (h : Asc ltS ps) {t : Tie} (ix : Idx ps t) : t.1 ∈ ps ∧ t.2 ∈ ps ∧ ltS t.1 t.2 = true := by
  obtain ⟨a, b, hab, ha, hb⟩ := ix
  obtain ⟨la, ea⟩ := List.getElem?_eq_some_iff.mp ha
  obtain ⟨lb, eb⟩ := List.getElem?_eq_some_iff.mp hb
  refine ⟨List.mem_of_getElem? ha, List.mem_of_getElem? hb, ?_⟩
  rw [← ea, ← eb]
  exact List.pairwise_iff_getElem.mp h a b la lb hab
theorem MoreI.web {ps : List Str} {us : List Tie} {many : Int} (I : MoreI ps us many) (N : NamesOk ps) (h2 : 2 ≤ ps.length) (h6 : ps.length ≤ 6) (h9 : us.length ≤ 9) : WebOk ps (sortD ltP us) := by
  have hp := sort_perm swo_tie us
  refine ⟨h2, h6, N.nm, N.asc, ?_, by rw [hp.length_eq]; exact h9, fun t ht => idx_lt N.asc (I.ix t (hp.mem_iff.mp ht)), asc_sortP I.nd, fun p0 r hr p hpm => ?_⟩
  · rw [hp.length_eq]
    obtain ⟨j, y, _, _, hm⟩ := I.up 1 ps[1] (by omega) (List.getElem?_eq_getElem (by omega))
    exact List.length_pos_of_mem hm
  · obtain ⟨m, hm⟩ := List.mem_iff_getElem?.mp hpm
    have key : ∀ m p, ps[m]? = some p → Reach (sortD ltP us) p0 p := fun m => by
      induction m using Nat.strongRecOn with
      | ind m ih =>
        intro p hm
        by_cases h0 : m = 0
        · subst h0
          rw [hr] at hm
          have hm : some p0 = some p := hm
          cases hm
          exact .refl
        · obtain ⟨j, y, hj, hy, hmem⟩ := I.up m p (by omega) hm
          exact .step (ih j hj y hy) (.inl (hp.mem_iff.mpr hmem))
    exact key m p hm
theorem web_run {least most many : Int} {a b c : Int} (h : ob[l]? = some (lst3 a b c)) (h1 : 2 ≤ least) (h2 : least ≤ most) (h3 : most ≤ 6) :
    ∃ (ps : List Str) (ts : List Tie) (ob' : List D), F__law_web [.loc l, .int least, .int most, .int many] ob = .ok (webD ps ts) ⟨[], ob'⟩ ∧ Drew l ob ob' ∧ NamesOk ps ∧ WebOk ps ts ∧ least ≤ ps.length ∧ (ps.length : Int) ≤ most ∧ ((ts.length : Int) + 1 ≤ ps.length ∨ (ts.length : Int) ≤ many) := by
  obtain ⟨r, ob1, e1, r0, r1, dr1⟩ := beam_run (n := most - least + 1) h (by omega) (by omega)
  obtain ⟨a1, b1, c1, g1⟩ := dr1.at
  obtain ⟨n, hn⟩ : ∃ n : Nat, least + r = (n : Int) := ⟨(least + r).toNat, by omega⟩
  obtain ⟨ps, ob2, e2, dr2, N, hl⟩ := names_run (n := n) g1 (by omega)
  obtain ⟨us, s6, ob3, e3, dr3, I3⟩ := tree_loop (l := l) (s1 := .d (.int least)) (s2 := .d (.int most)) (s3 := .d (.int many)) (s7 := .no) (s8 := .no) (s9 := .no) (ps := ps) (by omega) (ps.length - 1) 1 [] .no ob2 (by omega) (by omega) dr2.at ⟨List.nodup_nil, (fun t ht => by cases ht), by simp, fun m x h1 h2 => by omega⟩
  -- how many more
  have laps : ∃ (d : Nat) (ob4 : List D), ifV (M.bnd (op2 (M.bnd (vget 4) lenM) (M.ret (.int 2)) gtM) bool1) (callE F__law_of [vget 0, lstE [M.ret (.int 0), M.ret (.int 1), M.ret (.int 2), M.ret (.int 3)]]) (M.ret (.int 0)) ⟨[.d (.loc l), .d (.int least), .d (.int most), .d (.int many), .d (namesD ps), .own (tdic us), s6, .no, .no, .no], ob3⟩ = .ok (.int (d : Int)) ⟨[.d (.loc l), .d (.int least), .d (.int most), .d (.int many), .d (namesD ps), .own (tdic us), s6, .no, .no, .no], ob4⟩ ∧ d ≤ 3 ∧ Drew l ob3 ob4 := by
    have el : lenM (namesD ps) = M.ret (.int ps.length) := by simp [namesD]
    obtain ⟨a3, b3, c3, g3⟩ := dr3.at
    by_cases h2 : (2 : Int) < ps.length
    · obtain ⟨d, ob4, e4, hd, dr4⟩ := of_run (ds := [.int 0, .int 1, .int 2, .int 3]) g3 (by simp) (by simp)
      obtain ⟨k, rfl, hk⟩ : ∃ k : Nat, d = .int k ∧ k ≤ 3 := by
        simp at hd
        rcases hd with rfl | rfl | rfl | rfl
        · exact ⟨0, rfl, by omega⟩
        · exact ⟨1, rfl, by omega⟩
        · exact ⟨2, rfl, by omega⟩
        · exact ⟨3, rfl, by omega⟩
      refine ⟨k, ob4, ?_, hk, dr4⟩
      simp [el, h2, e4]
    · refine ⟨0, ob3, ?_, by omega, Drew.refl g3⟩
      simp [el, h2]
  obtain ⟨k, ob4, e4, hk, dr4⟩ := laps
  obtain ⟨us', s7, s8, s9, ob5, e5, dr5, I5, l5⟩ := more_loop (l := l) (s1 := .d (.int least)) (s2 := .d (.int most)) (s6 := s6) (ps := ps) (many := many) (by omega) (by omega) (rangeD 0 k) us .no .no .no ob4 dr4.at (by have := I3.len; simp [rangeD]; omega) ⟨I3.nd, I3.ix, fun m x hm hx => I3.up m x hm (List.getElem?_eq_some_iff.mp hx).1 hx, .inl (by have := I3.len; omega)⟩
  have hrk : (rangeD 0 k).length = k := by simp [rangeD]
  have h9 : us'.length ≤ 9 := by
    have := I3.len
    omega
  refine ⟨ps, sortD ltP us', ob5, ?_, (((dr1.trans dr2).trans dr3).trans dr4).trans dr5, N, I5.web N (by omega) (by omega) h9, by omega, by omega, by rw [(sort_perm swo_tie us').length_eq]; exact I5.len⟩
  have st1 : parS 4 5 .d .own (callE F__law_names [vget 0, op2 (vget 1) (callE F__law_beam [vget 0, op2 (op2 (vget 2) (vget 1) subM) (M.ret (.int 1)) addM]) addM]) (M.ret (.dicT [] [])) ⟨[.d (.loc l), .d (.int least), .d (.int most), .d (.int many), .no, .no, .no, .no, .no, .no], ob⟩ = .ok .nx ⟨[.d (.loc l), .d (.int least), .d (.int most), .d (.int many), .d (namesD ps), .own (tdic []), .no, .no, .no, .no], ob2⟩ := by
    simp [e1, hn, e2]
    rfl
  have st2 : forS (rng2M (M.ret (.int 1)) (M.bnd (vget 4) lenM)) (setN 6) (asgS (M.ret (.bl true)) (subT 5 tieE)) ⟨[.d (.loc l), .d (.int least), .d (.int most), .d (.int many), .d (namesD ps), .own (tdic []), .no, .no, .no, .no], ob2⟩ = .ok .nx ⟨[.d (.loc l), .d (.int least), .d (.int most), .d (.int many), .d (namesD ps), .own (tdic us), s6, .no, .no, .no], ob3⟩ := by
    refine (forS_of (ds := rangeD 1 (ps.length - 1)) (S1 := ⟨[.d (.loc l), .d (.int least), .d (.int most), .d (.int many), .d (namesD ps), .own (tdic []), .no, .no, .no, .no], ob2⟩) ?_).trans ?_
    · refine rng2M_of (i := 1) (j := ps.length) rfl ?_ (by omega) (by omega) (by omega)
      simp [namesD]
    · have er : rangeD 1 (ps.length - 1) = (List.range' 1 (ps.length - 1)).map fun i => D.int (i : Nat) := by
        unfold rangeD
        rw [List.range'_eq_map_range, List.map_map]
        refine List.map_congr_left fun i _ => ?_
        show D.int (1 + (i : Int)) = D.int ((1 + i : Nat) : Int)
        congr 1
      rw [er]
      exact e3
  have st3 : forS (rng1M (ifV (M.bnd (op2 (M.bnd (vget 4) lenM) (M.ret (.int 2)) gtM) bool1) (callE F__law_of [vget 0, lstE [M.ret (.int 0), M.ret (.int 1), M.ret (.int 2), M.ret (.int 3)]]) (M.ret (.int 0)))) (setN 7) moreBody ⟨[.d (.loc l), .d (.int least), .d (.int most), .d (.int many), .d (namesD ps), .own (tdic us), s6, .no, .no, .no], ob3⟩ = .ok .nx ⟨[.d (.loc l), .d (.int least), .d (.int most), .d (.int many), .d (namesD ps), .own (tdic us'), s6, s7, s8, s9], ob5⟩ :=
    (forS_of (rng1M_of e4 (by omega) (by omega))).trans e5
  have st4 : retS (tupE [vget 4, M.bnd (M.bnd (M.bnd (vgetR 5) list2M) sortM) tupM]) ⟨[.d (.loc l), .d (.int least), .d (.int most), .d (.int many), .d (namesD ps), .own (tdic us'), s6, s7, s8, s9], ob5⟩ = .ok (.rt (webD ps (sortD ltP us'))) ⟨[.d (.loc l), .d (.int least), .d (.int most), .d (.int many), .d (namesD ps), .own (tdic us'), s6, s7, s8, s9], ob5⟩ := by
    refine retS_of ?_
    have el : list2M (tdic us') = M.ret (.lst (us'.map tieD)) := list_tdic (by omega)
    simp only [tupE_ap, seqM_cons, seqM_nil, bnd_ap, vget_ap, vgetR_ap, List.getElem?_cons_succ, List.getElem?_cons_zero, Res.bnd_ok, ret_ap, el, sortM_ties, tupM_lst]
    rfl
  have al := (seqS_nx st1).trans ((seqS_nx st2).trans ((seqS_nx st3).trans st4))
  show fnM 10 4 m__law_web [.loc l, .int least, .int most, .int many] ob = _
  rw [fnM4]
  have em : m__law_web = seqS (parS 4 5 .d .own (callE F__law_names [vget 0, op2 (vget 1) (callE F__law_beam [vget 0, op2 (op2 (vget 2) (vget 1) subM) (M.ret (.int 1)) addM]) addM]) (M.ret (.dicT [] []))) (seqS (forS (rng2M (M.ret (.int 1)) (M.bnd (vget 4) lenM)) (setN 6) (asgS (M.ret (.bl true)) (subT 5 tieE))) (seqS (forS (rng1M (ifV (M.bnd (op2 (M.bnd (vget 4) lenM) (M.ret (.int 2)) gtM) bool1) (callE F__law_of [vget 0, lstE [M.ret (.int 0), M.ret (.int 1), M.ret (.int 2), M.ret (.int 3)]]) (M.ret (.int 0)))) (setN 7) moreBody) (retS (tupE [vget 4, M.bnd (M.bnd (M.bnd (vgetR 5) list2M) sortM) tupM])))) := rfl
  rw [← em] at al
  show fnR (m__law_web ⟨[.d (.loc l), .d (.int least), .d (.int most), .d (.int many), .no, .no, .no, .no, .no, .no], ob⟩) = _
  rw [al]
  rfl
end
end LW
end
section
set_option Elab.async false
set_option linter.all false
set_option maxRecDepth 100000
set_option maxHeartbeats 2000000
/-! SP9: beginnings drawn, webs made -/
namespace LW
open PySem PySem.Spec L2 DL SrtO
section
variable {ob : List D} {l : Nat}
theorem made_run {ps : List Str} {ts : List Tie} (h : WebOk ps ts) (O : ObOk ob) : F__law_made [webD ps ts] ob = .ok (webO ps ts) ⟨[], ob⟩ := by
  have e := make_web h O [.d (webD ps ts)]
  have i0 : ixM (webD ps ts) (.int 0) ⟨[.d (webD ps ts)], ob⟩ = .ok (namesD ps) ⟨[.d (webD ps ts)], ob⟩ := by simp [webD]
  have i1 : ixM (webD ps ts) (.int 1) ⟨[.d (webD ps ts)], ob⟩ = .ok (tiesD ts) ⟨[.d (webD ps ts)], ob⟩ := by simp [webD]
  show fnM 1 1 m__law_made [webD ps ts] ob = _
  rw [fnM1]
  have st : m__law_made ⟨[.d (webD ps ts)], ob⟩ = .ok (.rt (webO ps ts)) ⟨[.d (webD ps ts)], ob⟩ := by
    unfold m__law_made
    refine retS_of ?_
    unfold makeV
    refine (bnd_of (a := [namesD ps, tiesD ts]) (S1 := ⟨[.d (webD ps ts)], ob⟩) ?_).trans e
    simp [i0, i1]
  show fnR (m__law_made ⟨[.d (webD ps ts)], ob⟩) = _
  rw [st]
  rfl
abbrev begE : M D := callE F__law_of [vget 0, lstE [M.ret .non, M.ret .non, M.ret (.int 0), M.ret (.int 1), M.ret (.int 8), callE F__law_beam [vget 0, M.ret (.int 9)]]]
theorem begE_run {w s2 : Sl} {a b c : Int} (h : ob[l]? = some (lst3 a b c)) : ∃ (b : Option Int) (ob' : List D), begE ⟨[.d (.loc l), w, s2], ob⟩ = .ok (begD b) ⟨[.d (.loc l), w, s2], ob'⟩ ∧ begB b = true ∧ Drew l ob ob' := by
  obtain ⟨r, ob1, e1, r0, r1, dr1⟩ := beam_run (n := 9) h (by decide) (by decide)
  obtain ⟨a1, b1, c1, h1⟩ := dr1.at
  obtain ⟨d, ob2, e2, hd, dr2⟩ := of_run (ds := [.non, .non, .int 0, .int 1, .int 8, .int r]) h1 (by simp) (by simp)
  have hx : ∃ b : Option Int, d = begD b ∧ begB b = true := by
    simp at hd
    rcases hd with rfl | rfl | rfl | rfl | rfl
    · exact ⟨none, rfl, rfl⟩
    · exact ⟨some 0, rfl, rfl⟩
    · exact ⟨some 1, rfl, rfl⟩
    · exact ⟨some 8, rfl, rfl⟩
    · exact ⟨some r, rfl, by simp [begB]; omega⟩
  obtain ⟨b, rfl, hb⟩ := hx
  refine ⟨b, ob2, ?_, hb, dr1.trans dr2⟩
  simp [e1, e2]
theorem begGo {w : Sl} : ∀ (ds : List D) (s2 : Sl) (ob : List D), (∃ a b c, ob[l]? = some (lst3 a b c)) → ∃ (bs : List (Option Int)) (s2' : Sl) (ob' : List D), lcGo [2] (setN 2) (M.ret true) begE ds ⟨[.d (.loc l), w, s2], ob⟩ = .ok (bs.map begD) ⟨[.d (.loc l), w, s2'], ob'⟩ ∧ bs.length = ds.length ∧ (∀ b ∈ bs, begB b = true) ∧ Drew l ob ob'
  | [], s2, ob, ⟨a, b, c, h⟩ => ⟨[], s2, ob, rfl, rfl, (fun b hb => by cases hb), Drew.refl h⟩
  | d :: r, s2, ob, ⟨a, b, c, h⟩ => by
    obtain ⟨x, ob1, e1, hx, dr1⟩ := begE_run (w := w) (s2 := .d d) h
    obtain ⟨bs, s2', ob2, e2, hl, hb, dr2⟩ := begGo r (.d d) ob1 dr1.at
    refine ⟨x :: bs, s2', ob2, ?_, by simp [hl], ?_, dr1.trans dr2⟩
    · show (M.bnd (M.ret true) fun b => if b = true then M.bnd begE fun x => M.bnd (lcGo [2] (setN 2) (M.ret true) begE r) fun xs => M.ret (x :: xs) else lcGo [2] (setN 2) (M.ret true) begE r) ⟨[.d (.loc l), w, .d d], ob⟩ = _
      rw [bnd_ap, ret_ap, Res.bnd_ok, if_pos rfl, bnd_ap, e1, Res.bnd_ok, bnd_ap, e2, Res.bnd_ok]
      rfl
    · intro b hm
      rcases List.mem_cons.mp hm with rfl | hm
      · exact hx
      · exact hb b hm
theorem begin_run {ps : List Str} {ts : List Tie} {a b c : Int} (h : ob[l]? = some (lst3 a b c)) (ht : ts.length ≤ 9) : ∃ (bs : List (Option Int)) (ob' : List D), F__law_begin [.loc l, webD ps ts] ob = .ok (begsD bs) ⟨[], ob'⟩ ∧ BegOk bs ts ∧ Drew l ob ob' := by
  obtain ⟨bs, s2', ob1, e1, hl, hb, dr⟩ := begGo (l := l) (w := .d (webD ps ts)) (ts.map tieD) .no ob ⟨a, b, c, h⟩
  refine ⟨bs, ob1, ?_, ⟨by simpa using hl, hb⟩, dr⟩
  show fnM 3 2 m__law_begin [.loc l, webD ps ts] ob = _
  rw [fnM2]
  have i1 : ixM (webD ps ts) (.int 1) ⟨[.d (.loc l), .d (webD ps ts), .no], ob⟩ = .ok (tiesD ts) ⟨[.d (.loc l), .d (webD ps ts), .no], ob⟩ := by simp [webD]
  have e2 : lcM [2] (itemsM (op2 (vget 1) (M.ret (.int 1)) ixM)) (setN 2) (M.ret true) begE ⟨[.d (.loc l), .d (webD ps ts), .no], ob⟩ = .ok (.lst (bs.map begD)) ⟨[.d (.loc l), .d (webD ps ts), .no], ob1⟩ := by
    unfold lcM
    refine (bnd_of (a := ts.map tieD) (S1 := ⟨[.d (.loc l), .d (webD ps ts), .no], ob⟩) ?_).trans ?_
    · simp [i1, tiesD]
    · unfold lcF
      rw [if_pos (by simp; omega), e1]
      rfl
  have st : m__law_begin ⟨[.d (.loc l), .d (webD ps ts), .no], ob⟩ = .ok (.rt (begsD bs)) ⟨[.d (.loc l), .d (webD ps ts), .no], ob1⟩ := by
    have em : m__law_begin = retS (M.bnd (lcM [2] (itemsM (op2 (vget 1) (M.ret (.int 1)) ixM)) (setN 2) (M.ret true) begE) tupM) := rfl
    rw [em]
    exact retS_of ((bnd_of e2).trans rfl)
  show fnR (m__law_begin ⟨[.d (.loc l), .d (webD ps ts), .no], ob⟩) = _
  rw [st]
  rfl
end
end LW
end
section
set_option Elab.async false
set_option linter.all false
set_option maxRecDepth 100000
set_option maxHeartbeats 2000000
/-! SQ0: the rows of a web -/
namespace LW
open PySem PySem.Spec L2 DL SrtO
def colS : Option Int → Str
  | none => "-"
  | some i => (toString i : String)
def placeR (p : Str) : List Str := ["place", p]
def tieR (t : Tie) (b : Option Int) : List Str := ["tie", t.1, t.2, colS b]
def lineS (r : List Str) : Str := Txt.join (" " : Str) r
def rowsR (ps : List Str) (ts : List Tie) (bs : List (Option Int)) : List (List Str) := ps.map placeR ++ List.zipWith tieR ts bs
def rowsL (ps : List Str) (ts : List Tie) (bs : List (Option Int)) : List Str := (rowsR ps ts bs).map lineS
theorem colS_int {i : Int} (h : begB (some i) = true) : ∃ n : Nat, i = n ∧ n ≤ 8 ∧ colS (some i) = Str.ofString (toString (n : Int)) ∧ (colS (some i)).length = 1 := by
  unfold begB at h
  simp only [Bool.and_eq_true, decide_eq_true_eq] at h
  obtain ⟨n, rfl⟩ := Int.eq_ofNat_of_zero_le h.1
  have hn : n ≤ 8 := by omega
  refine ⟨n, rfl, hn, rfl, ?_⟩
  have : ∀ n : Nat, n ≤ 8 → (Str.ofString (toString ((n : Nat) : Int))).length = 1 := by
    intro n hn
    rw [TL.len_tl, TL.tl_num, TL.numL_lt (by omega)]
    rfl
  exact this n hn
theorem colS_len {b : Option Int} (h : begB b = true) : (colS b).length = 1 := by
  cases b with
  | none => decide +kernel
  | some i => exact (colS_int h).choose_spec.2.2.2
theorem join_len (y : Str) : ∀ r : List Str, (Txt.join y r).length ≤ (r.map fun z : Str => z.length).sum + r.length * y.length := by
  intro r
  rw [TL.join_eq, TL.len_tl, TL.tl_join]
  have : ∀ q : List Str, (TL.joinL (TL.tl y) (q.map TL.tl)).length ≤ (q.map fun z : Str => z.length).sum + q.length * y.length := by
    intro q
    induction q with
    | nil => simp [TL.joinL]
    | cons a t ih =>
      cases t with
      | nil =>
        simp only [List.map_cons, List.map_nil, TL.joinL, List.sum_cons, List.sum_nil, List.length_singleton, ← TL.len_tl]
        omega
      | cons b t =>
        simp only [List.map_cons, TL.joinL, List.length_append, List.sum_cons, List.length_cons, ← TL.len_tl] at ih ⊢
        have e : (t.length + 1 + 1) * y.length = (t.length + 1) * y.length + y.length := Nat.succ_mul _ _
        omega
  exact this r
theorem strsOf_map (r : List Str) : strsOf (r.map D.str) = some r := by
  induction r with
  | nil => rfl
  | cons a t ih => simp [strsOf, ih]
theorem joinM_lst {y : Str} {r : List Str} (h : (r.map fun z : Str => z.length).sum + r.length * y.length ≤ 16777216) : joinM (.str y) (.lst (r.map D.str)) = M.ret (.str (Txt.join y r)) := by
  unfold joinM seqD
  dsimp only
  rw [Option.bind_some, strsOf_map]
  dsimp only
  rw [if_pos h]
theorem placeL (p : Str) : lineS (placeR p) = (((Str.empty ++ ("place" : Str)) ++ (" " : Str)) ++ p) := by
  unfold lineS placeR
  rw [TL.join_eq]
  apply TL.ext_tl
  simp [TL.tl_join, TL.joinL, TL.tl_append]
  rfl
theorem tieL (t : Tie) (b : Option Int) : lineS (tieR t b) = (((((((Str.empty ++ ("tie" : Str)) ++ (" " : Str)) ++ t.1) ++ (" " : Str)) ++ t.2) ++ (" " : Str)) ++ colS b) := by
  unfold lineS tieR
  rw [TL.join_eq]
  apply TL.ext_tl
  simp [TL.tl_join, TL.joinL, TL.tl_append]
  rfl
theorem five : (("place" : Str)).length = 5 := by decide +kernel
theorem three : (("tie" : Str)).length = 3 := by decide +kernel
theorem onesp : ((" " : Str)).length = 1 := by decide +kernel
theorem zeroE : (Str.empty).length = 0 := by decide +kernel
/-- names short enough -/
def Shorts (ps : List Str) : Prop := ∀ x ∈ ps, x.length ≤ 8
section
variable {ob : List D} {l : Nat}
theorem place_join {p : Str} (h : p.length ≤ 8) {S : Stt} {f : M D} (hf : f S = .ok (.str p) S) : m1M (M.ret (.str " ")) (lstE [M.ret (.str "place"), f]) joinM S = .ok (.str (lineS (placeR p))) S := by
  have e : joinM (.str " ") (.lst [.str "place", .str p]) = M.ret (.str (lineS (placeR p))) := joinM_lst (y := " ") (r := placeR p) (by
    simp only [placeR, List.map_cons, List.map_nil, List.sum_cons, List.sum_nil, List.length_cons, List.length_nil, five, onesp]
    omega)
  simp [hf, e]
theorem tie_join {t : Tie} {b : Option Int} (h1 : t.1.length ≤ 8) (h2 : t.2.length ≤ 8) (hb : begB b = true) {S : Stt} {f g k : M D} (hf : f S = .ok (.str t.1) S) (hg : g S = .ok (.str t.2) S) (hk : k S = .ok (.str (colS b)) S) : m1M (M.ret (.str " ")) (lstE [M.ret (.str "tie"), f, g, k]) joinM S = .ok (.str (lineS (tieR t b))) S := by
  have e : joinM (.str " ") (.lst [.str "tie", .str t.1, .str t.2, .str (colS b)]) = M.ret (.str (lineS (tieR t b))) := joinM_lst (y := " ") (r := tieR t b) (by
    simp only [tieR, List.map_cons, List.map_nil, List.sum_cons, List.sum_nil, List.length_cons, List.length_nil, three, onesp, colS_len hb]
    omega)
  simp [hf, hg, hk, e]
theorem col_get {b : Option Int} (hb : begB b = true) {S : Stt} {f : M D} (hf : f S = .ok (begD b) S) : ifV (M.bnd (op2 f (M.ret .non) isM) bool1) (M.ret (.str "-")) (M.bnd f strM) S = .ok (.str (colS b)) S := by
  cases b with
  | none => simp [hf, begD, isNone, colS]
  | some i =>
    obtain ⟨n, rfl, hn, _, _⟩ := colS_int hb
    have e : ((n : Int)).natAbs.log2 < 1920 := by
      have : ((n : Int)).natAbs = n := rfl
      rw [this]
      have := Nat.log2_lt (n := n) (k := 4)
      by_cases h0 : n = 0
      · subst h0; decide
      · have := (Nat.log2_lt h0 (k := 4)).mpr (by omega)
        omega
    have e2 : strM (.int (n : Int)) = M.ret (.str (colS (some (n : Int)))) := by
      unfold strM
      dsimp only
      rw [if_pos e]
      rfl
    simp [hf, begD, isNone, e2]
theorem tie_row {s0 s1 s2 : Sl} {t : Tie} {b : Option Int} {L : List D} (h1 : t.1.length ≤ 8) (h2 : t.2.length ≤ 8) (hb : begB b = true) (hl : L.length < 1000) :
    exprS (appM 2 (m1M (M.ret (.str " ")) (lstE [M.ret (.str "tie"), vget 3, vget 4, ifV (M.bnd (op2 (vget 5) (M.ret .non) isM) bool1) (M.ret (.str "-")) (M.bnd (vget 5) strM)]) joinM)) ⟨[s0, s1, .own (.lst L), .d (.str t.1), .d (.str t.2), .d (begD b), s2], ob⟩ = .ok .nx ⟨[s0, s1, .own (.lst (L ++ [.str (lineS (tieR t b))])), .d (.str t.1), .d (.str t.2), .d (begD b), s2], ob⟩ := by
  have e := tie_join (S := ⟨[s0, s1, .own (.lst L), .d (.str t.1), .d (.str t.2), .d (begD b), s2], ob⟩) (f := vget 3) (g := vget 4) (k := ifV (M.bnd (op2 (vget 5) (M.ret .non) isM) bool1) (M.ret (.str "-")) (M.bnd (vget 5) strM)) h1 h2 hb rfl rfl (col_get hb rfl)
  refine exprS_of (d := .non) ?_
  unfold appM omM
  have hc : chgAt ⟨[s0, s1, .own (.lst L), .d (.str t.1), .d (.str t.2), .d (begD b), s2], ob⟩ 2 = some (.lst L) := rfl
  simp only [hc]
  rw [if_pos (show isLst (D.lst L) = true from rfl), bnd_ap, e, Res.bnd_ok]
  simp only [hc]
  rw [if_pos (by omega)]
  rfl
theorem ties_rows {s0 s1 s2 : Sl} : ∀ (ts : List Tie) (bs : List (Option Int)) (L : List D) (s3 s4 s5 : Sl), L.length + ts.length < 1000 → (∀ t ∈ ts, t.1.length ≤ 8 ∧ t.2.length ≤ 8) → (∀ b ∈ bs, begB b = true) →
    ∃ s3' s4' s5', DL.forM (tgT [tgT [setN 3, setN 4], setN 5]) (exprS (appM 2 (m1M (M.ret (.str " ")) (lstE [M.ret (.str "tie"), vget 3, vget 4, ifV (M.bnd (op2 (vget 5) (M.ret .non) isM) bool1) (M.ret (.str "-")) (M.bnd (vget 5) strM)]) joinM))) (zipD (ts.map tieD) (bs.map begD)) ⟨[s0, s1, .own (.lst L), s3, s4, s5, s2], ob⟩ = .ok .nx ⟨[s0, s1, .own (.lst (L ++ ((List.zipWith tieR ts bs).map fun r => D.str (lineS r)))), s3', s4', s5', s2], ob⟩
  | [], bs, L, s3, s4, s5, _, _, _ => ⟨s3, s4, s5, by simp [zipD, DL.forM]⟩
  | t :: ts, [], L, s3, s4, s5, _, _, _ => ⟨s3, s4, s5, by simp [zipD, DL.forM]⟩
  | t :: ts, b :: bs, L, s3, s4, s5, hl, ht, hb => by
    simp only [List.length_cons] at hl
    obtain ⟨s3', s4', s5', e⟩ := ties_rows (s0 := s0) (s1 := s1) (s2 := s2) ts bs (L ++ [.str (lineS (tieR t b))]) (.d (.str t.1)) (.d (.str t.2)) (.d (begD b)) (by simp; omega) (fun t h => ht t (List.mem_cons_of_mem _ h)) fun b h => hb b (List.mem_cons_of_mem _ h)
    refine ⟨s3', s4', s5', ?_⟩
    have ez : zipD ((t :: ts).map tieD) ((b :: bs).map begD) = .tup [tieD t, begD b] :: zipD (ts.map tieD) (bs.map begD) := rfl
    rw [ez, forM_cons (S1 := ⟨[s0, s1, .own (.lst L), .d (.str t.1), .d (.str t.2), .d (begD b), s2], ob⟩) rfl, tie_row (ht t List.mem_cons_self).1 (ht t List.mem_cons_self).2 (hb b List.mem_cons_self) (by omega)]
    refine Eq.trans e ?_
    simp
theorem rowsL_map (ps : List Str) (ts : List Tie) (bs : List (Option Int)) : (rowsL ps ts bs).map D.str = (ps.map fun p => D.str (lineS (placeR p))) ++ ((List.zipWith tieR ts bs).map fun r => D.str (lineS r)) := by
  simp [rowsL, rowsR, Function.comp_def]
theorem text_run {ps : List Str} {ts : List Tie} {bs : List (Option Int)} (W : WebOk ps ts) (B : BegOk bs ts) : F__law_text [webD ps ts, begsD bs] ob = .ok (namesD (rowsL ps ts bs)) ⟨[], ob⟩ := by
  have h8 : ∀ x ∈ ps, x.length ≤ 8 := fun x hx => isName_len (W.nm x hx)
  have st1 : setO 2 (lcM [6] (itemsM (op2 (vget 0) (M.ret (.int 0)) ixM)) (setN 6) (M.ret true) (m1M (M.ret (.str " ")) (lstE [M.ret (.str "place"), vget 6]) joinM)) ⟨[.d (webD ps ts), .d (begsD bs), .no, .no, .no, .no, .no], ob⟩ = .ok .nx ⟨[.d (webD ps ts), .d (begsD bs), .own (.lst (ps.map fun p => D.str (lineS (placeR p)))), .no, .no, .no, .no], ob⟩ := by
    have i0 : ixM (webD ps ts) (.int 0) ⟨[.d (webD ps ts), .d (begsD bs), .no, .no, .no, .no, .no], ob⟩ = .ok (namesD ps) ⟨[.d (webD ps ts), .d (begsD bs), .no, .no, .no, .no, .no], ob⟩ := by simp [webD]
    have e : lcF [6] (setN 6) (M.ret true) (m1M (M.ret (.str " ")) (lstE [M.ret (.str "place"), vget 6]) joinM) (ps.map D.str) ⟨[.d (webD ps ts), .d (begsD bs), .no, .no, .no, .no, .no], ob⟩ = .ok (.lst ((ps.map D.str).map fun d => match d with | .str p => .str (lineS (placeR p)) | _ => .non)) ⟨[.d (webD ps ts), .d (begsD bs), .no, .no, .no, .no, .no], ob⟩ :=
      lc_map _ (by simp; have := W.l6; omega) fun d hd => by
        obtain ⟨p, hp, rfl⟩ := List.mem_map.mp hd
        exact ⟨_, rfl, _, place_join (h8 p hp) rfl, rfl⟩
    unfold setO
    rw [List.map_map] at e
    refine (bnd_of (a := .lst (ps.map fun p => D.str (lineS (placeR p)))) (S1 := ⟨[.d (webD ps ts), .d (begsD bs), .no, .no, .no, .no, .no], ob⟩) ?_).trans rfl
    rw [lcM_ap, itemsM_ap, op2_ap, vget_ap]
    simp only [List.getElem?_cons_zero, Res.bnd_ok, bnd_ap, ret_ap, i0]
    exact e
  obtain ⟨s3, s4, s5, e2⟩ := ties_rows (ob := ob) (s0 := .d (webD ps ts)) (s1 := .d (begsD bs)) (s2 := .no) ts bs (ps.map fun p => D.str (lineS (placeR p))) .no .no .no (by simp; have := W.l6; have := W.t9; omega) (fun t ht => ⟨h8 _ (W.tin t ht).1, h8 _ (W.tin t ht).2.1⟩) B.ok
  have st2 : forS (zipM (op2 (vget 0) (M.ret (.int 1)) ixM) (vget 1)) (tgT [tgT [setN 3, setN 4], setN 5]) (exprS (appM 2 (m1M (M.ret (.str " ")) (lstE [M.ret (.str "tie"), vget 3, vget 4, ifV (M.bnd (op2 (vget 5) (M.ret .non) isM) bool1) (M.ret (.str "-")) (M.bnd (vget 5) strM)]) joinM))) ⟨[.d (webD ps ts), .d (begsD bs), .own (.lst (ps.map fun p => D.str (lineS (placeR p)))), .no, .no, .no, .no], ob⟩ = .ok .nx ⟨[.d (webD ps ts), .d (begsD bs), .own (.lst ((rowsL ps ts bs).map .str)), s3, s4, s5, .no], ob⟩ := by
    have i1 : ixM (webD ps ts) (.int 1) ⟨[.d (webD ps ts), .d (begsD bs), .own (.lst (ps.map fun p => D.str (lineS (placeR p)))), .no, .no, .no, .no], ob⟩ = .ok (tiesD ts) ⟨[.d (webD ps ts), .d (begsD bs), .own (.lst (ps.map fun p => D.str (lineS (placeR p)))), .no, .no, .no, .no], ob⟩ := by simp [webD]
    refine (forS_of (ds := zipD (ts.map tieD) (bs.map begD)) (S1 := ⟨[.d (webD ps ts), .d (begsD bs), .own (.lst (ps.map fun p => D.str (lineS (placeR p)))), .no, .no, .no, .no], ob⟩) ?_).trans ?_
    · rw [zipM_ap]
      simp only [seqM_cons, seqM_nil, op2_ap, vget_ap, List.getElem?_cons_succ, List.getElem?_cons_zero, Res.bnd_ok, bnd_ap, ret_ap, i1]
      rfl
    · rw [rowsL_map]
      exact e2
  have st3 : retS (M.bnd (vgetR 2) tupM) ⟨[.d (webD ps ts), .d (begsD bs), .own (.lst ((rowsL ps ts bs).map .str)), s3, s4, s5, .no], ob⟩ = .ok (.rt (namesD (rowsL ps ts bs))) ⟨[.d (webD ps ts), .d (begsD bs), .own (.lst ((rowsL ps ts bs).map .str)), s3, s4, s5, .no], ob⟩ := rfl
  have al := (seqS_nx st1).trans ((seqS_nx st2).trans st3)
  show fnM 7 2 m__law_text [webD ps ts, begsD bs] ob = _
  rw [fnM2]
  show fnR (m__law_text ⟨[.d (webD ps ts), .d (begsD bs), .no, .no, .no, .no, .no], ob⟩) = _
  unfold m__law_text
  rw [al]
  rfl
end
end LW
end
section
set_option Elab.async false
set_option linter.all false
set_option maxRecDepth 100000
set_option maxHeartbeats 2000000
/-! SQ1: web_rows, told_row -/
namespace LW
open PySem PySem.Spec L2 DL SrtO
theorem fmt_str {x : Str} (h : x.length ≤ 1000) : fmtF (.str x) = M.ret (.str x) := by
  rw [fmtF_str, if_pos (by omega)]
theorem joins_one {f : M D} {fs : List (M D)} {acc x : Str} {S S1 : Stt} (h : f S = .ok (.str x) S1) (hl : (acc ++ x).length ≤ 1000) : joinsM (f :: fs) acc S = joinsM fs (acc ++ x) S1 := by
  rw [joinsM_cons, h, Res.bnd_ok]
  dsimp only
  rw [if_pos (by omega)]
def gT : D → D
  | .tup [.tup [.str a, .str b], .int i] => .str (lineS (tieR (a, b) (some i)))
  | .tup [.tup [.str a, .str b], _] => .str (lineS (tieR (a, b) none))
  | _ => .non
theorem gT_of (t : Tie) (b : Option Int) : gT (.tup [tieD t, begD b]) = .str (lineS (tieR t b)) := by cases b <;> rfl
theorem zip_mem : ∀ {ts : List Tie} {bs : List (Option Int)} {d : D}, d ∈ zipD (ts.map tieD) (bs.map begD) → ∃ t b, t ∈ ts ∧ b ∈ bs ∧ d = .tup [tieD t, begD b]
  | [], bs, d, h => by simp [zipD] at h
  | t :: ts, [], d, h => by simp [zipD] at h
  | t :: ts, b :: bs, d, h => by
    have ez : zipD ((t :: ts).map tieD) ((b :: bs).map begD) = .tup [tieD t, begD b] :: zipD (ts.map tieD) (bs.map begD) := rfl
    rw [ez] at h
    rcases List.mem_cons.mp h with h | h
    · exact ⟨t, b, List.mem_cons_self, List.mem_cons_self, h⟩
    · obtain ⟨t', b', h1, h2, h3⟩ := zip_mem h
      exact ⟨t', b', List.mem_cons_of_mem _ h1, List.mem_cons_of_mem _ h2, h3⟩
theorem zip_gT : ∀ (ts : List Tie) (bs : List (Option Int)), (zipD (ts.map tieD) (bs.map begD)).map gT = (List.zipWith tieR ts bs).map fun r => D.str (lineS r)
  | [], bs => by simp [zipD]
  | t :: ts, [] => by simp [zipD]
  | t :: ts, b :: bs => by
    have ez : zipD ((t :: ts).map tieD) ((b :: bs).map begD) = .tup [tieD t, begD b] :: zipD (ts.map tieD) (bs.map begD) := rfl
    rw [ez, List.map_cons, gT_of, zip_gT ts bs]
    rfl
section
variable {ob : List D} {l : Nat}
theorem strM_col {n : Nat} (hn : n ≤ 8) : strM (.int (n : Int)) = M.ret (.str (colS (some (n : Int)))) := by
  have e : ((n : Int)).natAbs.log2 < 1920 := by
    have : ((n : Int)).natAbs = n := rfl
    rw [this]
    by_cases h0 : n = 0
    · subst h0; decide
    · have := (Nat.log2_lt h0 (k := 4)).mpr (by omega)
      omega
  unfold strM
  dsimp only
  rw [if_pos e]
  rfl
theorem colour_told_run {b : Option Int} (h : begB b = true) : F_colour_told [begD b] ob = .ok (.str (colS b)) ⟨[], ob⟩ := by
  cases b with
  | none => simp [F_colour_told, m_colour_told, begD, isNone, colS]
  | some i =>
    obtain ⟨n, rfl, hn, _, _⟩ := colS_int h
    simp [F_colour_told, m_colour_told, begD, isNone, strM_col hn]
theorem rows_by_run {ps : List Str} {ts : List Tie} {bs : List (Option Int)} (W : WebOk ps ts) (B : BegOk bs ts) : F_rows_by [webO ps ts, begsD bs] ob = .ok (namesD (rowsL ps ts bs)) ⟨[], ob⟩ := by
  have h8 : ∀ x ∈ ps, x.length ≤ 8 := fun x hx => isName_len (W.nm x hx)
  have st1 : setO 2 (lcM [3] (itemsM (propM 0 F_Web_places (vget 0))) (setN 3) (M.ret true) (joinsM [fmtM (M.ret (.str "place")), M.ret (.str " "), fmtM (vget 3)] Str.empty)) ⟨[.d (webO ps ts), .d (begsD bs), .no, .no, .no, .no, .no], ob⟩ = .ok .nx ⟨[.d (webO ps ts), .d (begsD bs), .own (.lst (ps.map fun p => D.str (lineS (placeR p)))), .no, .no, .no, .no], ob⟩ := by
    have e : lcF [3] (setN 3) (M.ret true) (joinsM [fmtM (M.ret (.str "place")), M.ret (.str " "), fmtM (vget 3)] Str.empty) (ps.map D.str) ⟨[.d (webO ps ts), .d (begsD bs), .no, .no, .no, .no, .no], ob⟩ = .ok (.lst ((ps.map D.str).map fun d => match d with | .str p => .str (lineS (placeR p)) | _ => .non)) ⟨[.d (webO ps ts), .d (begsD bs), .no, .no, .no, .no, .no], ob⟩ :=
      lc_map _ (by simp; have := W.l6; omega) fun d hd => by
        obtain ⟨p, hp, rfl⟩ := List.mem_map.mp hd
        have hp8 := h8 p hp
        refine ⟨_, rfl, [.d (webO ps ts), .d (begsD bs), .no, .d (.str p), .no, .no, .no], ?_, rfl⟩
        have e1 : fmtM (M.ret (.str ("place" : Str))) ⟨[.d (webO ps ts), .d (begsD bs), .no, .d (.str p), .no, .no, .no], ob⟩ = .ok (.str "place") ⟨[.d (webO ps ts), .d (begsD bs), .no, .d (.str p), .no, .no, .no], ob⟩ := by
          simp [fmt_str (x := ("place" : Str)) (by rw [five]; omega)]
        have e2 : fmtM (vget 3) ⟨[.d (webO ps ts), .d (begsD bs), .no, .d (.str p), .no, .no, .no], ob⟩ = .ok (.str p) ⟨[.d (webO ps ts), .d (begsD bs), .no, .d (.str p), .no, .no, .no], ob⟩ := by
          simp [fmt_str (x := p) (by omega)]
        refine (joins_one e1 (by rw [str_len_app, five, zeroE]; omega)).trans ?_
        refine (joins_one (x := (" " : Str)) rfl (by rw [str_len_app, str_len_app, five, zeroE, onesp]; omega)).trans ?_
        refine (joins_one e2 (by rw [str_len_app, str_len_app, str_len_app, five, zeroE, onesp]; omega)).trans ?_
        rw [joinsM_nil, ← placeL]
    unfold setO
    rw [List.map_map] at e
    refine (bnd_of (a := .lst (ps.map fun p => D.str (lineS (placeR p)))) (S1 := ⟨[.d (webO ps ts), .d (begsD bs), .no, .no, .no, .no, .no], ob⟩) ?_).trans rfl
    have ei : itemsM (propM 0 F_Web_places (vget 0)) ⟨[.d (webO ps ts), .d (begsD bs), .no, .no, .no, .no, .no], ob⟩ = .ok (ps.map D.str) ⟨[.d (webO ps ts), .d (begsD bs), .no, .no, .no, .no, .no], ob⟩ := by
      simp [obj_web, noX, web_places, namesD]
    rw [lcM_ap, ei]
    exact e
  have st2 : exprS (extM 2 (lcM [4, 5, 6] (zipM (propM 0 F_Web_ties (vget 0)) (vget 1)) (tgT [tgT [setN 4, setN 5], setN 6]) (M.ret true) (joinsM [fmtM (M.ret (.str "tie")), M.ret (.str " "), fmtM (vget 4), M.ret (.str " "), fmtM (vget 5), M.ret (.str " "), fmtM (callE F_colour_told [vget 6])] Str.empty))) ⟨[.d (webO ps ts), .d (begsD bs), .own (.lst (ps.map fun p => D.str (lineS (placeR p)))), .no, .no, .no, .no], ob⟩ = .ok .nx ⟨[.d (webO ps ts), .d (begsD bs), .own (.lst ((rowsL ps ts bs).map .str)), .no, .no, .no, .no], ob⟩ := by
    generalize hS : (⟨[.d (webO ps ts), .d (begsD bs), .own (.lst (ps.map fun p => D.str (lineS (placeR p)))), .no, .no, .no, .no], ob⟩ : Stt) = S0
    have e : lcF [4, 5, 6] (tgT [tgT [setN 4, setN 5], setN 6]) (M.ret true) (joinsM [fmtM (M.ret (.str "tie")), M.ret (.str " "), fmtM (vget 4), M.ret (.str " "), fmtM (vget 5), M.ret (.str " "), fmtM (callE F_colour_told [vget 6])] Str.empty) (zipD (ts.map tieD) (bs.map begD)) ⟨[.d (webO ps ts), .d (begsD bs), .own (.lst (ps.map fun p => D.str (lineS (placeR p)))), .no, .no, .no, .no], ob⟩ = .ok (.lst ((zipD (ts.map tieD) (bs.map begD)).map gT)) ⟨[.d (webO ps ts), .d (begsD bs), .own (.lst (ps.map fun p => D.str (lineS (placeR p)))), .no, .no, .no, .no], ob⟩ :=
      lc_map _ (by
        have : (zipD (ts.map tieD) (bs.map begD)).length ≤ ts.length := by simp [zipD]; omega
        have := W.t9
        omega) fun d hd => by
        obtain ⟨t, b, ht, hb, rfl⟩ := zip_mem hd
        have h1 := h8 _ (W.tin t ht).1
        have h2 := h8 _ (W.tin t ht).2.1
        have hb := B.ok b hb
        have hc := colS_len hb
        refine ⟨[.d (webO ps ts), .d (begsD bs), .own (.lst (ps.map fun p => D.str (lineS (placeR p)))), .no, .d (.str t.1), .d (.str t.2), .d (begD b)], rfl, [.d (webO ps ts), .d (begsD bs), .own (.lst (ps.map fun p => D.str (lineS (placeR p)))), .no, .d (.str t.1), .d (.str t.2), .d (begD b)], ?_, rfl⟩
        generalize (Sl.own (.lst (ps.map fun p => D.str (lineS (placeR p))))) = s2
        have e1 : fmtM (M.ret (.str ("tie" : Str))) ⟨[.d (webO ps ts), .d (begsD bs), s2, .no, .d (.str t.1), .d (.str t.2), .d (begD b)], ob⟩ = .ok (.str "tie") ⟨[.d (webO ps ts), .d (begsD bs), s2, .no, .d (.str t.1), .d (.str t.2), .d (begD b)], ob⟩ := by
          simp [fmt_str (x := ("tie" : Str)) (by rw [three]; omega)]
        have e2 : fmtM (vget 4) ⟨[.d (webO ps ts), .d (begsD bs), s2, .no, .d (.str t.1), .d (.str t.2), .d (begD b)], ob⟩ = .ok (.str t.1) ⟨[.d (webO ps ts), .d (begsD bs), s2, .no, .d (.str t.1), .d (.str t.2), .d (begD b)], ob⟩ := by
          simp [fmt_str (x := t.1) (by omega)]
        have e3 : fmtM (vget 5) ⟨[.d (webO ps ts), .d (begsD bs), s2, .no, .d (.str t.1), .d (.str t.2), .d (begD b)], ob⟩ = .ok (.str t.2) ⟨[.d (webO ps ts), .d (begsD bs), s2, .no, .d (.str t.1), .d (.str t.2), .d (begD b)], ob⟩ := by
          simp [fmt_str (x := t.2) (by omega)]
        have e4 : fmtM (callE F_colour_told [vget 6]) ⟨[.d (webO ps ts), .d (begsD bs), s2, .no, .d (.str t.1), .d (.str t.2), .d (begD b)], ob⟩ = .ok (.str (colS b)) ⟨[.d (webO ps ts), .d (begsD bs), s2, .no, .d (.str t.1), .d (.str t.2), .d (begD b)], ob⟩ := by
          simp [colour_told_run hb, fmt_str (x := colS b) (by omega)]
        refine (joins_one e1 (by simp only [str_len_app, three, zeroE, onesp]; omega)).trans ?_
        refine (joins_one (x := (" " : Str)) rfl (by simp only [str_len_app, three, zeroE, onesp]; omega)).trans ?_
        refine (joins_one e2 (by simp only [str_len_app, three, zeroE, onesp]; omega)).trans ?_
        refine (joins_one (x := (" " : Str)) rfl (by simp only [str_len_app, three, zeroE, onesp]; omega)).trans ?_
        refine (joins_one e3 (by simp only [str_len_app, three, zeroE, onesp]; omega)).trans ?_
        refine (joins_one (x := (" " : Str)) rfl (by simp only [str_len_app, three, zeroE, onesp]; omega)).trans ?_
        refine (joins_one e4 (by simp only [str_len_app, three, zeroE, onesp]; omega)).trans ?_
        rw [joinsM_nil, gT_of, tieL]
    rw [zip_gT] at e
    have ei : zipM (propM 0 F_Web_ties (vget 0)) (vget 1) ⟨[.d (webO ps ts), .d (begsD bs), .own (.lst (ps.map fun p => D.str (lineS (placeR p)))), .no, .no, .no, .no], ob⟩ = .ok (zipD (ts.map tieD) (bs.map begD)) ⟨[.d (webO ps ts), .d (begsD bs), .own (.lst (ps.map fun p => D.str (lineS (placeR p)))), .no, .no, .no, .no], ob⟩ := by
      simp [obj_web, noX, web_ties, tiesD, begsD]
    rw [hS] at e ei
    refine exprS_of (d := .non) ?_
    unfold extM
    have hc : chgAt S0 2 = some (.lst (ps.map fun p => D.str (lineS (placeR p)))) := by rw [← hS]; rfl
    simp only [hc]
    rw [if_pos (show isLst (D.lst (ps.map fun p => D.str (lineS (placeR p)))) = true from rfl)]
    refine (bnd_of ((lcM_ap _ _ _ _ _ _).trans ((by rw [ei]; rfl : _ = lcF [4, 5, 6] (tgT [tgT [setN 4, setN 5], setN 6]) (M.ret true) (joinsM [fmtM (M.ret (.str "tie")), M.ret (.str " "), fmtM (vget 4), M.ret (.str " "), fmtM (vget 5), M.ret (.str " "), fmtM (callE F_colour_told [vget 6])] Str.empty) (zipD (ts.map tieD) (bs.map begD)) S0).trans e))).trans ?_
    simp only [hc]
    rw [if_pos (by
      have : (List.zipWith tieR ts bs).length ≤ ts.length := by simp; omega
      have := W.t9
      have := W.l6
      simp only [List.length_map]
      omega), rowsL_map, ← hS]
    rfl
  have st3 : retS (M.bnd (vgetR 2) tupM) ⟨[.d (webO ps ts), .d (begsD bs), .own (.lst ((rowsL ps ts bs).map .str)), .no, .no, .no, .no], ob⟩ = .ok (.rt (namesD (rowsL ps ts bs))) ⟨[.d (webO ps ts), .d (begsD bs), .own (.lst ((rowsL ps ts bs).map .str)), .no, .no, .no, .no], ob⟩ := rfl
  have al := (seqS_nx st1).trans ((seqS_nx st2).trans st3)
  show fnM 7 2 m_rows_by [webO ps ts, begsD bs] ob = _
  rw [fnM2]
  show fnR (m_rows_by ⟨[.d (webO ps ts), .d (begsD bs), .no, .no, .no, .no, .no], ob⟩) = _
  unfold m_rows_by
  rw [al]
  rfl
theorem web_rows_run {ps : List Str} {ts : List Tie} {bs : List (Option Int)} (W : WebOk ps ts) (B : BegOk bs ts) (hob : fnFrees ob = true) : F_web_rows [webO ps ts, begsD bs] ob = .ok (namesD (rowsL ps ts bs)) ⟨[], ob⟩ := by
  simp [F_web_rows, m_web_rows, check_beginning_run B hob, rows_by_run W B]
end
end LW
end
section
set_option Elab.async false
set_option linter.all false
set_option maxRecDepth 100000
set_option maxHeartbeats 2000000
/-! SQ2: told_row -/
namespace LW
open PySem PySem.Spec L2 DL SrtO
theorem word_free {x : Str} (h : isWordB x = true) : 32 ∉ TL.tl x := fun hm => by
  unfold isWordB at h
  simp only [Bool.and_eq_true, List.all_eq_true] at h
  have := h.2 32 hm
  simp [letterB] at this
theorem name_word {x : Str} (h : isNameB x = true) : isWordB x = true := by
  unfold isNameB at h
  simp only [Bool.and_eq_true] at h
  exact h.1
theorem tl_sp : TL.tl (" " : Str) = [32] := by decide +kernel
theorem sp_small : ((" " : Str)).cps.all (· < 256) = true := by decide +kernel
theorem place_free : 32 ∉ TL.tl ("place" : Str) := by decide +kernel
theorem tie_free : 32 ∉ TL.tl ("tie" : Str) := by decide +kernel
theorem dash_free : 32 ∉ TL.tl ("-" : Str) := by decide +kernel
theorem col_free {b : Option Int} (h : begB b = true) : 32 ∉ TL.tl (colS b) := by
  cases b with
  | none => exact dash_free
  | some i =>
    obtain ⟨n, rfl, hn, e, _⟩ := colS_int h
    rw [e, TL.tl_num]
    exact TL.numL_free (.inl (by decide))
theorem split_line {r : List Str} (hne : r ≠ []) (h : ∀ p ∈ r, 32 ∉ TL.tl p) : Txt.split (lineS r) (" " : Str) = r := TL.split_join tl_sp sp_small hne h
theorem place_split {p : Str} (h : isNameB p = true) : Txt.split (lineS (placeR p)) (" " : Str) = placeR p := split_line (by simp [placeR]) fun q hq => by
  simp only [placeR, List.mem_cons, List.not_mem_nil, or_false] at hq
  rcases hq with rfl | rfl
  · exact place_free
  · exact word_free (name_word h)
theorem tie_split {t : Tie} {b : Option Int} (h1 : isNameB t.1 = true) (h2 : isNameB t.2 = true) (hb : begB b = true) : Txt.split (lineS (tieR t b)) (" " : Str) = tieR t b := split_line (by simp [tieR]) fun q hq => by
  simp only [tieR, List.mem_cons, List.not_mem_nil, or_false] at hq
  rcases hq with rfl | rfl | rfl | rfl
  · exact tie_free
  · exact word_free (name_word h1)
  · exact word_free (name_word h2)
  · exact col_free hb
theorem place_len {p : Str} (h : isNameB p = true) : (lineS (placeR p)).length ≤ 100 := by
  have := isName_len h
  rw [placeL]
  simp only [str_len_app, five, zeroE, onesp]
  omega
theorem tie_len {t : Tie} {b : Option Int} (h1 : isNameB t.1 = true) (h2 : isNameB t.2 = true) (hb : begB b = true) : (lineS (tieR t b)).length ≤ 100 := by
  have := isName_len h1
  have := isName_len h2
  have := colS_len hb
  rw [tieL]
  simp only [str_len_app, three, zeroE, onesp]
  omega
theorem place_tie : (("place" : Str) = "tie") = False := eq_false (by decide +kernel)
theorem tie_place : (("tie" : Str) = "place") = False := eq_false (by decide +kernel)
theorem place_tieB : (("place" : Str) == "tie") = false := by decide +kernel
theorem tie_placeB : (("tie" : Str) == "place") = false := by decide +kernel
theorem long_place : KD_LONG.lookup ("place" : Str) = some (.int 2) := by
  show List.lookup ("place" : Str) [(("place" : Str), D.int 2), ("tie", .int 4)] = _
  rw [List.lookup_cons, beq_self_eq_true]
theorem long_tie : KD_LONG.lookup ("tie" : Str) = some (.int 4) := by
  show List.lookup ("tie" : Str) [(("place" : Str), D.int 2), ("tie", .int 4)] = _
  rw [List.lookup_cons, tie_placeB, List.lookup_cons, beq_self_eq_true]
theorem ord_place : ("place" : Str) ∈ K_ORDER := List.mem_cons_self
theorem ord_tie : ("tie" : Str) ∈ K_ORDER := List.mem_cons_of_mem _ List.mem_cons_self
theorem notin_ord {x : Str} (h : x ∈ K_ORDER) : notInM (.str x) (.ktup (K_ORDER.map .str)) = M.ret (.bl false) := by
  have := notInM_of (in_strsK x K_ORDER)
  rw [decide_eq_true h] at this
  exact this
section
variable {ob : List D} {l : Nat}
theorem figures_run {n : Nat} (hn : n ≤ 8) : F_is_figures [.str (colS (some (n : Int)))] ob = .ok (.bl true) ⟨[], ob⟩ := by
  match n, hn with
  | 0, _ => rfl
  | 1, _ => rfl
  | 2, _ => rfl
  | 3, _ => rfl
  | 4, _ => rfl
  | 5, _ => rfl
  | 6, _ => rfl
  | 7, _ => rfl
  | 8, _ => rfl
end
end LW
end
section
set_option Elab.async false
set_option linter.all false
set_option maxRecDepth 100000
set_option maxHeartbeats 2000000
/-! SQ3: told_row runs -/
namespace LW
open PySem PySem.Spec L2 DL SrtO
section
variable {ob : List D} {l : Nat}
abbrev rowSplit : M Fl := asgS (ifV (M.bnd (op2 (vget 0) (M.ret (.ty "str")) isiM) tru) (M.bnd (m1M (vget 0) (M.ret (.str " ")) splitM) tupM) (tupE [M.ret (.str "")])) (setN 1)
theorem rowSplit_run {x : Str} {r : List Str} (h : Txt.split x (" " : Str) = r) (hl : x.length ≤ 100) : rowSplit ⟨[.d (.str x), .no, .no], ob⟩ = .ok .nx ⟨[.d (.str x), .d (namesD r), .no], ob⟩ := by
  refine asgS_of (d := namesD r) (S1 := ⟨[.d (.str x), .no, .no], ob⟩) ?_ rfl
  simp [splitM_of h (by omega), namesD]
abbrev rowTest : M Bool := orB (M.bnd (op2 (op2 (vget 1) (M.ret (.int 0)) ixM) (M.ret (.ktup (K_ORDER.map .str))) notInM) bool1) (orB (M.bnd (op2 (M.bnd (vget 1) lenM) (kgetM KD_LONG (op2 (vget 1) (M.ret (.int 0)) ixM)) neM) bool1) (notB (M.bnd (M.bnd (lcM [2] (itemsM (slE (vget 1) (M.bnd (M.ret (.int 1)) partOf) (M.bnd (M.ret (.int 3)) partOf))) (setN 2) (M.ret true) (callE F_is_word [vget 2])) allM) tru)))
theorem kget_at {kvs : List (Str × D)} {f : M D} {S S1 : Stt} {z : Str} {d : D} (h : f S = .ok (.str z) S1) (e : kvs.lookup z = some d) : kgetM kvs f S = .ok d S1 := by
  unfold kgetM
  refine (bnd_of h).trans ?_
  dsimp only
  rw [e]
  rfl
theorem rowTest_run {s0 : Sl} {k : Str} {r : List Str} {n : Int} (hk : k ∈ K_ORDER) (hl : KD_LONG.lookup k = some (.int n)) (hn : (((k :: r).length : Nat) : Int) = n) {w : List Str} (hw : cutD ((k :: r).map D.str) (some 1) (some 3) = w.map D.str) (ha : ∀ x ∈ w, isNameB x = true) (hwl : w.length ≤ 100) : rowTest ⟨[s0, .d (namesD (k :: r)), .no], ob⟩ = .ok false ⟨[s0, .d (namesD (k :: r)), .no], ob⟩ := by
  have i0 : ixM (namesD (k :: r)) (.int 0) ⟨[s0, .d (namesD (k :: r)), .no], ob⟩ = .ok (.str k) ⟨[s0, .d (namesD (k :: r)), .no], ob⟩ := by simp [namesD]
  have g0 : op2 (vget 1) (M.ret (.int 0)) ixM ⟨[s0, .d (namesD (k :: r)), .no], ob⟩ = .ok (.str k) ⟨[s0, .d (namesD (k :: r)), .no], ob⟩ := by simp [i0]
  have el : lenM (namesD (k :: r)) = M.ret (.int n) := by
    rw [namesD, lenM_tup, List.length_map, hn]
  have t1 : M.bnd (op2 (op2 (vget 1) (M.ret (.int 0)) ixM) (M.ret (.ktup (K_ORDER.map .str))) notInM) bool1 ⟨[s0, .d (namesD (k :: r)), .no], ob⟩ = .ok false ⟨[s0, .d (namesD (k :: r)), .no], ob⟩ := by
    rw [bnd_ap, op2_ap, g0, Res.bnd_ok]
    simp [notin_ord hk]
  have t2 : M.bnd (op2 (M.bnd (vget 1) lenM) (kgetM KD_LONG (op2 (vget 1) (M.ret (.int 0)) ixM)) neM) bool1 ⟨[s0, .d (namesD (k :: r)), .no], ob⟩ = .ok false ⟨[s0, .d (namesD (k :: r)), .no], ob⟩ := by
    simp [el, kget_at g0 hl]
  have t3 : lcM [2] (itemsM (slE (vget 1) (M.bnd (M.ret (.int 1)) partOf) (M.bnd (M.ret (.int 3)) partOf))) (setN 2) (M.ret true) (callE F_is_word [vget 2]) ⟨[s0, .d (namesD (k :: r)), .no], ob⟩ = .ok (.lst (w.map fun _ => D.bl true)) ⟨[s0, .d (namesD (k :: r)), .no], ob⟩ := by
    have es : slF (namesD (k :: r)) (some 1) (some 3) = some (.tup (w.map D.str)) := by
      rw [namesD, slF_tup, hw]
    have ei : itemsM (slE (vget 1) (M.bnd (M.ret (.int 1)) partOf) (M.bnd (M.ret (.int 3)) partOf)) ⟨[s0, .d (namesD (k :: r)), .no], ob⟩ = .ok (w.map D.str) ⟨[s0, .d (namesD (k :: r)), .no], ob⟩ := by
      simp [es]
    rw [lcM_ap, ei, Res.bnd_ok]
    have e := lc_map (vs := [2]) (t := setN 2) (e := callE F_is_word [vget 2]) (ob := ob) (sl := [s0, .d (namesD (k :: r)), .no]) (ds := w.map D.str) (fun _ => .bl true) (by simp; omega) fun d hd => by
      obtain ⟨p, hp, rfl⟩ := List.mem_map.mp hd
      refine ⟨_, rfl, [s0, .d (namesD (k :: r)), .d (.str p)], ?_, rfl⟩
      have := name_word (ha p hp)
      have l8 := isName_len (ha p hp)
      simp [is_word_str p (by omega), this]
    rw [e, List.map_map]
    rfl
  have t4 : notB (M.bnd (M.bnd (lcM [2] (itemsM (slE (vget 1) (M.bnd (M.ret (.int 1)) partOf) (M.bnd (M.ret (.int 3)) partOf))) (setN 2) (M.ret true) (callE F_is_word [vget 2])) allM) tru) ⟨[s0, .d (namesD (k :: r)), .no], ob⟩ = .ok false ⟨[s0, .d (namesD (k :: r)), .no], ob⟩ := by
    have : bls (w.map fun _ => D.bl true) = some (w.map fun _ => true) := bls_map (fun _ => true) w
    have h2 : (w.map fun _ => true).all id = true := by simp
    rw [notB_ap, bnd_ap, bnd_ap, t3, Res.bnd_ok, allM_lst, this]
    dsimp only
    rw [h2]
    rfl
  unfold rowTest
  rw [orB_ap, t1]
  simp only [Res.bnd_ok]
  rw [if_neg (by simp), orB_ap, t2]
  simp only [Res.bnd_ok]
  rw [if_neg (by simp), t4]
theorem told_place {p : Str} (h : isNameB p = true) : F_told_row [.str (lineS (placeR p))] ob = .ok (namesD (placeR p)) ⟨[], ob⟩ := by
  have st1 := rowSplit_run (ob := ob) (place_split h) (place_len h)
  have st2 := rowTest_run (ob := ob) (s0 := .d (.str (lineS (placeR p)))) (k := "place") (r := [p]) (w := [p]) ord_place long_place rfl rfl (by simpa using h) (by simp)
  show fnM 3 1 m_told_row [.str (lineS (placeR p))] ob = _
  rw [fnM1]
  have al : m_told_row ⟨[.d (.str (lineS (placeR p))), .no, .no], ob⟩ = .ok (.rt (namesD (placeR p))) ⟨[.d (.str (lineS (placeR p))), .d (namesD (placeR p)), .no], ob⟩ := by
    unfold m_told_row
    rw [seqS_nx st1]
    refine (seqS_nx (S1 := ⟨[.d (.str (lineS (placeR p))), .d (namesD (placeR p)), .no], ob⟩) ?_).trans ?_
    · rw [ifV_ap]
      refine Eq.trans (congrArg (fun r => Res.bnd r _) st2) ?_
      rfl
    · refine retS_of ?_
      simp [namesD, placeR]
  show fnR (m_told_row ⟨[.d (.str (lineS (placeR p))), .no, .no], ob⟩) = _
  rw [al]
  rfl
theorem told_tie {t : Tie} {b : Option Int} (h1 : isNameB t.1 = true) (h2 : isNameB t.2 = true) (hb : begB b = true) : F_told_row [.str (lineS (tieR t b))] ob = .ok (namesD (tieR t b)) ⟨[], ob⟩ := by
  have st1 := rowSplit_run (ob := ob) (tie_split h1 h2 hb) (tie_len h1 h2 hb)
  have st2 := rowTest_run (ob := ob) (s0 := .d (.str (lineS (tieR t b)))) (k := "tie") (r := [t.1, t.2, colS b]) (w := [t.1, t.2]) ord_tie long_tie rfl rfl (by simp [h1, h2]) (by simp)
  show fnM 3 1 m_told_row [.str (lineS (tieR t b))] ob = _
  rw [fnM1]
  have al : m_told_row ⟨[.d (.str (lineS (tieR t b))), .no, .no], ob⟩ = .ok (.rt (namesD (tieR t b))) ⟨[.d (.str (lineS (tieR t b))), .d (namesD (tieR t b)), .no], ob⟩ := by
    unfold m_told_row
    rw [seqS_nx st1]
    refine (seqS_nx (S1 := ⟨[.d (.str (lineS (tieR t b))), .d (namesD (tieR t b)), .no], ob⟩) ?_).trans ?_
    · rw [ifV_ap]
      refine Eq.trans (congrArg (fun r => Res.bnd r _) st2) ?_
      rfl
    · refine retS_of ?_
      cases b with
      | none =>
        simp [namesD, tieR, tie_placeB, colS]
      | some i =>
        obtain ⟨n, rfl, hn, _, _⟩ := colS_int hb
        have f := figures_run (ob := ob) hn
        by_cases hd : colS (some (n : Int)) = "-"
        · simp [namesD, tieR, tie_placeB, hd]
        · have hdb : (colS (some (n : Int)) == ("-" : Str)) = false := beq_eq_false_iff_ne.mpr hd
          simp [namesD, tieR, tie_placeB, hdb, f]
  show fnR (m_told_row ⟨[.d (.str (lineS (tieR t b))), .no, .no], ob⟩) = _
  rw [al]
  rfl
end
end LW
end
section
set_option Elab.async false
set_option linter.all false
set_option maxRecDepth 100000
set_option maxHeartbeats 2000000
/-! SQ4: wrong_in_lines, told_by, read_web -/
namespace LW
open PySem PySem.Spec L2 DL SrtO
def RowOk (r : List Str) : Prop := (∃ p, isNameB p = true ∧ r = placeR p) ∨ ∃ t b, isNameB t.1 = true ∧ isNameB t.2 = true ∧ begB b = true ∧ r = tieR t b
theorem RowOk.split {r : List Str} (h : RowOk r) : Txt.split (lineS r) (" " : Str) = r := by
  rcases h with ⟨p, hp, rfl⟩ | ⟨t, b, h1, h2, hb, rfl⟩
  · exact place_split hp
  · exact tie_split h1 h2 hb
def kS : Bool → Str
  | false => "place"
  | true => "tie"
def goodK : Bool → List (List Str) → Prop
  | _, [] => True
  | b, r :: R => ∃ b' q, r = kS b' :: q ∧ (b = true → b' = true) ∧ goodK b' R
theorem good_ties : ∀ (b : Bool) (zs : List (Tie × Option Int)), goodK b (zs.map fun x => tieR x.1 x.2)
  | _, [] => trivial
  | b, z :: zs => ⟨true, [z.1.1, z.1.2, colS z.2], rfl, fun _ => rfl, good_ties true zs⟩
theorem good_rows : ∀ (ps : List Str) (zs : List (Tie × Option Int)), goodK false (ps.map placeR ++ zs.map fun x => tieR x.1 x.2)
  | [], zs => good_ties false zs
  | p :: ps, zs => ⟨false, [p], rfl, fun z => z, good_rows ps zs⟩
theorem zw (ts : List Tie) (bs : List (Option Int)) : List.zipWith tieR ts bs = (ts.zip bs).map fun x => tieR x.1 x.2 := by
  induction ts generalizing bs with
  | nil => simp
  | cons t ts ih =>
    cases bs with
    | nil => simp
    | cons b bs => simp [ih]
theorem rowsR_eq (ps : List Str) (ts : List Tie) (bs : List (Option Int)) : rowsR ps ts bs = ps.map placeR ++ (ts.zip bs).map fun x => tieR x.1 x.2 := by
  rw [rowsR, zw]
theorem rows_ok {ps : List Str} {ts : List Tie} {bs : List (Option Int)} (W : WebOk ps ts) (B : BegOk bs ts) : ∀ r ∈ rowsR ps ts bs, RowOk r := fun r hr => by
  rw [rowsR_eq, List.mem_append] at hr
  rcases hr with hr | hr
  · obtain ⟨p, hp, rfl⟩ := List.mem_map.mp hr
    exact .inl ⟨p, W.nm p hp, rfl⟩
  · obtain ⟨⟨t, b⟩, hx, rfl⟩ := List.mem_map.mp hr
    have h1 := List.of_mem_zip hx
    exact .inr ⟨t, b, W.nm _ (W.tin t h1.1).1, W.nm _ (W.tin t h1.1).2.1, B.ok b h1.2, rfl⟩
theorem ord_at (b : Bool) : idxS (kS b) K_ORDER 0 = some (if b then 1 else 0) := by cases b <;> decide +kernel
section
variable {ob : List D} {l : Nat}
theorem told_row_run {r : List Str} (h : RowOk r) : F_told_row [.str (lineS r)] ob = .ok (namesD r) ⟨[], ob⟩ := by
  rcases h with ⟨p, hp, rfl⟩ | ⟨t, b, h1, h2, hb, rfl⟩
  · exact told_place hp
  · exact told_tie h1 h2 hb
theorem idx_run {f : M D} {S : Stt} {b : Bool} (h : f S = .ok (.str (kS b)) S) : idxM K_ORDER f S = .ok (.int (if b then 1 else 0)) S := by
  unfold idxM
  refine (bnd_of h).trans ?_
  dsimp only
  rw [ord_at]
  cases b <;> rfl
theorem lc_rows {R : List (List Str)} (hR : ∀ r ∈ R, RowOk r) (hl : R.length ≤ 1000) {s1 s2 s3 : Sl} {tl : List Sl} : lcM [4] (itemsM (vget 0)) (setN 4) (M.ret true) (callE F_told_row [vget 4]) ⟨.d (namesD (R.map lineS)) :: s1 :: s2 :: s3 :: .no :: tl, ob⟩ = .ok (.lst (R.map namesD)) ⟨.d (namesD (R.map lineS)) :: s1 :: s2 :: s3 :: .no :: tl, ob⟩ := by
  have ei : itemsM (vget 0) ⟨.d (namesD (R.map lineS)) :: s1 :: s2 :: s3 :: .no :: tl, ob⟩ = .ok ((R.map lineS).map D.str) ⟨.d (namesD (R.map lineS)) :: s1 :: s2 :: s3 :: .no :: tl, ob⟩ := by simp [namesD]
  rw [lcM_ap, ei, Res.bnd_ok]
  have e := lc_map (vs := [4]) (t := setN 4) (e := callE F_told_row [vget 4]) (ob := ob) (sl := .d (namesD (R.map lineS)) :: s1 :: s2 :: s3 :: .no :: tl) (ds := (R.map lineS).map D.str) (fun d => match d with | .str x => namesD (Txt.split x (" " : Str)) | _ => .non) (by simp; omega) fun d hd => by
    obtain ⟨x, hx, rfl⟩ := List.mem_map.mp hd
    obtain ⟨r, hr, rfl⟩ := List.mem_map.mp hx
    refine ⟨_, rfl, .d (namesD (R.map lineS)) :: s1 :: s2 :: s3 :: .d (.str (lineS r)) :: tl, ?_, rfl⟩
    have e1 := told_row_run (ob := ob) (hR r hr)
    simp [e1, (hR r hr).split]
  rw [e, List.map_map, List.map_map]
  have : (R.map (((fun d => match d with | .str x => namesD (Txt.split x (" " : Str)) | _ => .non) ∘ D.str) ∘ lineS)) = R.map namesD := List.map_congr_left fun r hr => by
    show namesD (Txt.split (lineS r) (" " : Str)) = _
    rw [(hR r hr).split]
  rw [this]
  rfl
abbrev linesBody : M Fl := seqS (ifV (orB (M.bnd (op2 (vget 3) (tupE []) eqM) bool1) (M.bnd (op2 (idxM K_ORDER (op2 (vget 3) (M.ret (.int 0)) ixM)) (idxM K_ORDER (vget 1)) ltM) bool1)) (retS (lstE [vget 2])) (skip)) (asgS (op2 (vget 3) (M.ret (.int 0)) ixM) (setN 1))
theorem linesBody_run {s0 s2 s4 : Sl} {b b' : Bool} {q : List Str} (h : b = true → b' = true) : linesBody ⟨[s0, .d (.str (kS b)), s2, .d (namesD (kS b' :: q)), s4], ob⟩ = .ok .nx ⟨[s0, .d (.str (kS b')), s2, .d (namesD (kS b' :: q)), s4], ob⟩ := by
  have i0 : op2 (vget 3) (M.ret (.int 0)) ixM ⟨[s0, .d (.str (kS b)), s2, .d (namesD (kS b' :: q)), s4], ob⟩ = .ok (.str (kS b')) ⟨[s0, .d (.str (kS b)), s2, .d (namesD (kS b' :: q)), s4], ob⟩ := by simp [namesD]
  have e1 := idx_run i0
  have e2 := idx_run (f := vget 1) (S := ⟨[s0, .d (.str (kS b)), s2, .d (namesD (kS b' :: q)), s4], ob⟩) (b := b) rfl
  have en : eqM (namesD (kS b' :: q)) (.tup []) = M.ret (.bl false) := eqM_nil _
  refine (seqS_nx (S1 := ⟨[s0, .d (.str (kS b)), s2, .d (namesD (kS b' :: q)), s4], ob⟩) ?_).trans (asgS_of i0 rfl)
  have hlt : decide ((if b' = true then (1 : Int) else 0) < if b = true then 1 else 0) = false := by
    cases b <;> cases b' <;> simp_all
  rw [ifV_ap, orB_ap]
  have t1 : M.bnd (op2 (vget 3) (tupE []) eqM) bool1 ⟨[s0, .d (.str (kS b)), s2, .d (namesD (kS b' :: q)), s4], ob⟩ = .ok false ⟨[s0, .d (.str (kS b)), s2, .d (namesD (kS b' :: q)), s4], ob⟩ := by
    simp [en]
  have t2 : M.bnd (op2 (idxM K_ORDER (op2 (vget 3) (M.ret (.int 0)) ixM)) (idxM K_ORDER (vget 1)) ltM) bool1 ⟨[s0, .d (.str (kS b)), s2, .d (namesD (kS b' :: q)), s4], ob⟩ = .ok false ⟨[s0, .d (.str (kS b)), s2, .d (namesD (kS b' :: q)), s4], ob⟩ := by
    rw [bnd_ap, op2_ap, e1, Res.bnd_ok, bnd_ap, e2, Res.bnd_ok, ltM_int, hlt]
    rfl
  rw [t1]
  simp only [Res.bnd_ok]
  rw [if_neg (by simp), t2]
  rfl
theorem lines_loop {s0 s4 : Sl} : ∀ (R : List (List Str)) (k : Nat) (b : Bool) (s2 s3 : Sl), goodK b R → ∃ (b' : Bool) (s2' s3' : Sl), DL.forM (tgT [setN 2, setN 3]) linesBody (((R.map namesD).zipIdx k).map fun p => D.tup [.int (p.2 : Nat), p.1]) ⟨[s0, .d (.str (kS b)), s2, s3, s4], ob⟩ = .ok .nx ⟨[s0, .d (.str (kS b')), s2', s3', s4], ob⟩
  | [], k, b, s2, s3, _ => ⟨b, s2, s3, rfl⟩
  | r :: R, k, b, s2, s3, ⟨b', q, e, hb, hg⟩ => by
    subst e
    obtain ⟨b2, s2', s3', e⟩ := lines_loop (s0 := s0) (s4 := s4) R (k + 1) b' (.d (.int (k : Nat))) (.d (namesD (kS b' :: q))) hg
    refine ⟨b2, s2', s3', ?_⟩
    have ez : (((kS b' :: q) :: R).map namesD).zipIdx k = (namesD (kS b' :: q), k) :: (R.map namesD).zipIdx (k + 1) := by simp [List.zipIdx_cons]
    rw [ez, List.map_cons, forM_cons (S1 := ⟨[s0, .d (.str (kS b)), .d (.int (k : Nat)), .d (namesD (kS b' :: q)), s4], ob⟩) rfl, linesBody_run hb]
    exact e
theorem rows_len {ps : List Str} {ts : List Tie} {bs : List (Option Int)} (W : WebOk ps ts) : (rowsR ps ts bs).length ≤ 15 := by
  have := W.l6
  have := W.t9
  simp [rowsR]
  omega
theorem rows_ne {ps : List Str} {ts : List Tie} {bs : List (Option Int)} (W : WebOk ps ts) : rowsL ps ts bs ≠ [] := by
  have h2 := W.l2
  intro e
  cases ps with
  | nil => simp at h2
  | cons p q => simp [rowsL, rowsR] at e
theorem wrong_in_lines_run {ps : List Str} {ts : List Tie} {bs : List (Option Int)} (W : WebOk ps ts) (B : BegOk bs ts) : F_wrong_in_lines [namesD (rowsL ps ts bs)] ob = .ok (.lst []) ⟨[], ob⟩ := by
  have en : eqM (namesD (rowsL ps ts bs)) (.tup []) = M.ret (.bl false) := by
    rw [namesD, eqM_nil]
    have : ((rowsL ps ts bs).map D.str).isEmpty = false := by
      rw [List.isEmpty_eq_false_iff]
      simpa using rows_ne W
    rw [this]
  have ht : isiM (namesD (rowsL ps ts bs)) (.ty "tuple") = M.ret (.bl true) := by rw [namesD, isi_tup_t]
  obtain ⟨b', s2', s3', e⟩ := lines_loop (ob := ob) (s0 := .d (namesD (rowsL ps ts bs))) (s4 := .no) (rowsR ps ts bs) 0 false .no .no (by rw [rowsR_eq]; exact good_rows _ _)
  have er := lc_rows (ob := ob) (s1 := .d (.str "place")) (s2 := .no) (s3 := .no) (tl := []) (rows_ok W B) (by have := rows_len (bs := bs) W; omega)
  have al : m_wrong_in_lines ⟨[.d (namesD (rowsL ps ts bs)), .no, .no, .no, .no], ob⟩ = .ok (.rt (.lst [])) ⟨[.d (namesD (rowsL ps ts bs)), .d (.str (kS b')), s2', s3', .no], ob⟩ := by
    unfold m_wrong_in_lines
    refine (seqS_nx (S1 := ⟨[.d (namesD (rowsL ps ts bs)), .no, .no, .no, .no], ob⟩) ?_).trans ?_
    · simp [en, ht]
    · refine (seqS_nx (S1 := ⟨[.d (namesD (rowsL ps ts bs)), .d (.str "place"), .no, .no, .no], ob⟩) rfl).trans ?_
      refine (seqS_nx (S1 := ⟨[.d (namesD (rowsL ps ts bs)), .d (.str (kS b')), s2', s3', .no], ob⟩) ?_).trans rfl
      refine (forS_of (ds := enumD ((rowsR ps ts bs).map namesD)) (S1 := ⟨[.d (namesD (rowsL ps ts bs)), .d (.str "place"), .no, .no, .no], ob⟩) ?_).trans e
      rw [enumM_ap, seqM_cons]
      refine Eq.trans (congrArg (fun r => Res.bnd (Res.bnd r _) _) er) ?_
      simp
      rfl
  show fnM 5 1 m_wrong_in_lines [namesD (rowsL ps ts bs)] ob = _
  rw [fnM1]
  show fnR (m_wrong_in_lines ⟨[.d (namesD (rowsL ps ts bs)), .no, .no, .no, .no], ob⟩) = _
  rw [al]
  rfl
end
end LW
end
section
set_option Elab.async false
set_option linter.all false
set_option maxRecDepth 100000
set_option maxHeartbeats 2000000
/-! SQ5: told_by, read_web -/
namespace LW
open PySem PySem.Spec L2 DL SrtO
def headB (k : Str) : D → Bool
  | .tup (.str h :: _) => h == k
  | _ => false
def g1 : D → D
  | .tup (_ :: x :: _) => x
  | _ => .non
def g2 : D → D
  | .tup ds => .tup (cutD ds (some 1) (some 3))
  | _ => .non
def g3 : D → D
  | .tup [_, _, _, .str c] => if c == ("-" : Str) then .non else match PySem.intText? c with
    | some n => .int n
    | none => .non
  | _ => .non
abbrev tieZ (x : Tie × Option Int) : List Str := tieR x.1 x.2
theorem head_place (k : Str) (p : Str) : headB k (namesD (placeR p)) = (("place" : Str) == k) := rfl
theorem head_tie (k : Str) (t : Tie) (b : Option Int) : headB k (namesD (tieR t b)) = (("tie" : Str) == k) := rfl
theorem g1_place (p : Str) : g1 (namesD (placeR p)) = .str p := rfl
theorem g2_tie (t : Tie) (b : Option Int) : g2 (namesD (tieR t b)) = tieD t := rfl
theorem col_dash {n : Nat} (hn : n ≤ 8) : (colS (some (n : Int)) == ("-" : Str)) = false := by
  match n, hn with
  | 0, _ => decide +kernel
  | 1, _ => decide +kernel
  | 2, _ => decide +kernel
  | 3, _ => decide +kernel
  | 4, _ => decide +kernel
  | 5, _ => decide +kernel
  | 6, _ => decide +kernel
  | 7, _ => decide +kernel
  | 8, _ => decide +kernel
theorem col_back {n : Nat} (hn : n ≤ 8) : PySem.intText? (colS (some (n : Int))) = some (n : Int) := by
  refine TL.int_num ?_
  rw [TL.numL_lt (by omega)]
  exact (show (1 : Nat) ≤ 4300 by decide)
theorem g3_tie (t : Tie) {b : Option Int} (hb : begB b = true) : g3 (namesD (tieR t b)) = begD b := by
  show (if colS b == ("-" : Str) then D.non else match PySem.intText? (colS b) with
    | some n => .int n
    | none => .non) = _
  cases b with
  | none =>
    have : (colS none == ("-" : Str)) = true := by decide +kernel
    rw [if_pos this]
    rfl
  | some i =>
    obtain ⟨n, rfl, hn, _, _⟩ := colS_int hb
    rw [col_dash hn, if_neg (by simp), col_back hn]
    rfl
theorem filt_tie (ps : List Str) (zs : List (Tie × Option Int)) : ((ps.map placeR ++ zs.map tieZ).map namesD).filter (headB "tie") = zs.map fun x => namesD (tieZ x) := by
  rw [List.map_append, List.filter_append, List.filter_eq_nil_iff.mpr, List.filter_eq_self.mpr]
  · simp [Function.comp_def]
  · intro d hd
    simp only [List.map_map, List.mem_map, Function.comp] at hd
    obtain ⟨x, _, rfl⟩ := hd
    rw [head_tie, beq_self_eq_true]
  · intro d hd
    simp only [List.map_map, List.mem_map, Function.comp] at hd
    obtain ⟨x, _, rfl⟩ := hd
    rw [head_place, place_tieB]
    simp
theorem filt_place (ps : List Str) (zs : List (Tie × Option Int)) : ((ps.map placeR ++ zs.map tieZ).map namesD).filter (headB "place") = ps.map fun x => namesD (placeR x) := by
  rw [List.map_append, List.filter_append, List.filter_eq_self.mpr, List.filter_eq_nil_iff.mpr]
  · simp [Function.comp_def]
  · intro d hd
    simp only [List.map_map, List.mem_map, Function.comp] at hd
    obtain ⟨x, _, rfl⟩ := hd
    rw [head_tie, tie_placeB]
    simp
  · intro d hd
    simp only [List.map_map, List.mem_map, Function.comp] at hd
    obtain ⟨x, _, rfl⟩ := hd
    rw [head_place, beq_self_eq_true]
section
variable {ob : List D} {l : Nat}
theorem head_run {k k' : Str} {q : List Str} {sl : List Sl} (h : sl[5]? = some (.d (namesD (k :: q)))) : M.bnd (op2 (op2 (vget 5) (M.ret (.int 0)) ixM) (M.ret (.str k')) eqM) bool1 ⟨sl, ob⟩ = .ok (headB k' (namesD (k :: q))) ⟨sl, ob⟩ := by
  have : headB k' (namesD (k :: q)) = (k == k') := rfl
  rw [this]
  simp [h, namesD]
theorem row_cases {ps : List Str} {zs : List (Tie × Option Int)} {d : D} (h : d ∈ (ps.map placeR ++ zs.map tieZ).map namesD) : (∃ p, d = namesD (placeR p)) ∨ ∃ x ∈ zs, d = namesD (tieZ x) := by
  rw [List.map_append, List.mem_append] at h
  rcases h with h | h
  · simp only [List.map_map, List.mem_map, Function.comp] at h
    obtain ⟨x, _, rfl⟩ := h
    exact .inl ⟨x, rfl⟩
  · simp only [List.map_map, List.mem_map, Function.comp] at h
    obtain ⟨x, hx, rfl⟩ := h
    exact .inr ⟨x, hx, rfl⟩
theorem told_by_run {ps : List Str} {ts : List Tie} {bs : List (Option Int)} (W : WebOk ps ts) (B : BegOk bs ts) : F_told_by [namesD (rowsL ps ts bs)] ob = .ok (.tup [namesD ps, tiesD ts, begsD bs]) ⟨[], ob⟩ := by
  have er := lc_rows (ob := ob) (s1 := .no) (s2 := .no) (s3 := .no) (tl := [.no]) (rows_ok W B) (by have := rows_len (bs := bs) W; omega)
  have hlen := rows_len (bs := bs) W
  generalize hs0 : Sl.d (namesD (rowsL ps ts bs)) = s0
  have er2 : lcM [4] (itemsM (vget 0)) (setN 4) (M.ret true) (callE F_told_row [vget 4]) ⟨[s0, .no, .no, .no, .no, .no], ob⟩ = .ok (.lst ((rowsR ps ts bs).map namesD)) ⟨[s0, .no, .no, .no, .no, .no], ob⟩ := by
    rw [← hs0]
    exact er
  have erR : rowsR ps ts bs = ps.map placeR ++ (ts.zip bs).map tieZ := rowsR_eq ps ts bs
  rw [erR] at er2 hlen
  generalize hL : (ps.map placeR ++ (ts.zip bs).map tieZ).map namesD = L at er2
  have hLl : L.length ≤ 15 := by
    rw [← hL, List.length_map]
    exact hlen
  have st1 : asgS (lcM [4] (itemsM (vget 0)) (setN 4) (M.ret true) (callE F_told_row [vget 4])) (setN 1) ⟨[s0, .no, .no, .no, .no, .no], ob⟩ = .ok .nx ⟨[s0, .d (.lst L), .no, .no, .no, .no], ob⟩ := asgS_of er2 rfl
  have cut : ∀ (k : Str) (s2 s3 : Sl) (d : D), d ∈ L → M.bnd (op2 (op2 (vget 5) (M.ret (.int 0)) ixM) (M.ret (.str k)) eqM) bool1 ⟨[s0, .d (.lst L), s2, s3, .no, .d d], ob⟩ = .ok (headB k d) ⟨[s0, .d (.lst L), s2, s3, .no, .d d], ob⟩ := fun k s2 s3 d hd => by
    rw [← hL] at hd
    rcases row_cases hd with ⟨p, rfl⟩ | ⟨x, _, rfl⟩
    · exact head_run rfl
    · exact head_run rfl
  have st2 : asgS (lcM [5] (itemsM (vget 1)) (setN 5) (M.bnd (op2 (op2 (vget 5) (M.ret (.int 0)) ixM) (M.ret (.str "tie")) eqM) bool1) (vget 5)) (setN 2) ⟨[s0, .d (.lst L), .no, .no, .no, .no], ob⟩ = .ok .nx ⟨[s0, .d (.lst L), .d (.lst ((ts.zip bs).map fun x => namesD (tieZ x))), .no, .no, .no], ob⟩ := by
    refine asgS_of (d := .lst ((ts.zip bs).map fun x => namesD (tieZ x))) (S1 := ⟨[s0, .d (.lst L), .no, .no, .no, .no], ob⟩) ?_ rfl
    have ei : itemsM (vget 1) ⟨[s0, .d (.lst L), .no, .no, .no, .no], ob⟩ = .ok L ⟨[s0, .d (.lst L), .no, .no, .no, .no], ob⟩ := by simp
    rw [lcM_ap, ei, Res.bnd_ok]
    have e := lc_pure (vs := [5]) (t := setN 5) (c := M.bnd (op2 (op2 (vget 5) (M.ret (.int 0)) ixM) (M.ret (.str "tie")) eqM) bool1) (e := vget 5) (ob := ob) (sl := [s0, .d (.lst L), .no, .no, .no, .no]) (ds := L) (headB "tie") (fun d => d) (by omega) fun d hd => ⟨⟨[s0, .d (.lst L), .no, .no, .no, .d d], ob⟩, rfl, _, cut "tie" .no .no d hd, fun _ => rfl, fun _ => ⟨_, rfl, rfl⟩⟩
    rw [e, List.map_id', ← hL, filt_tie]
    rfl
  have zt : (ts.zip bs).map Prod.fst = ts := List.map_fst_zip (by rw [B.len]; exact Nat.le_refl _)
  have zb : (ts.zip bs).map Prod.snd = bs := List.map_snd_zip (by rw [B.len]; exact Nat.le_refl _)
  generalize hM : ((ts.zip bs).map fun x => namesD (tieZ x)) = M2 at st2
  have hMl : M2.length ≤ 15 := by
    rw [← hM]
    have := W.t9
    simp
    omega
  have hMm : ∀ d ∈ M2, ∃ t b, begB b = true ∧ d = namesD (tieR t b) := fun d hd => by
    rw [← hM] at hd
    obtain ⟨⟨t, b⟩, hx, rfl⟩ := List.mem_map.mp hd
    exact ⟨t, b, B.ok b (List.of_mem_zip hx).2, rfl⟩
  have st3 : asgS (M.bnd (lcM [5] (itemsM (vget 2)) (setN 5) (M.ret true) (ifV (M.bnd (op2 (op2 (vget 5) (M.ret (.int 3)) ixM) (M.ret (.str "-")) eqM) bool1) (M.ret .non) (M.bnd (op2 (vget 5) (M.ret (.int 3)) ixM) intM))) tupM) (setN 3) ⟨[s0, .d (.lst L), .d (.lst M2), .no, .no, .no], ob⟩ = .ok .nx ⟨[s0, .d (.lst L), .d (.lst M2), .d (begsD bs), .no, .no], ob⟩ := by
    refine asgS_of (d := begsD bs) (S1 := ⟨[s0, .d (.lst L), .d (.lst M2), .no, .no, .no], ob⟩) ?_ rfl
    have ei : itemsM (vget 2) ⟨[s0, .d (.lst L), .d (.lst M2), .no, .no, .no], ob⟩ = .ok M2 ⟨[s0, .d (.lst L), .d (.lst M2), .no, .no, .no], ob⟩ := by simp
    rw [bnd_ap, lcM_ap, ei, Res.bnd_ok]
    have e := lc_map (vs := [5]) (t := setN 5) (e := ifV (M.bnd (op2 (op2 (vget 5) (M.ret (.int 3)) ixM) (M.ret (.str "-")) eqM) bool1) (M.ret .non) (M.bnd (op2 (vget 5) (M.ret (.int 3)) ixM) intM)) (ob := ob) (sl := [s0, .d (.lst L), .d (.lst M2), .no, .no, .no]) (ds := M2) g3 (by omega) fun d hd => by
      obtain ⟨t, b, hb, rfl⟩ := hMm d hd
      refine ⟨[s0, .d (.lst L), .d (.lst M2), .no, .no, .d (namesD (tieR t b))], rfl, [s0, .d (.lst L), .d (.lst M2), .no, .no, .d (namesD (tieR t b))], ?_, rfl⟩
      rw [g3_tie t hb]
      cases b with
      | none => simp [namesD, tieR, colS, begD]
      | some i =>
        obtain ⟨n, rfl, hn, _, h1⟩ := colS_int hb
        have ei : intM (.str (colS (some (n : Int)))) = M.ret (.int (n : Int)) := by
          unfold intM
          dsimp only
          rw [if_pos (by omega), col_back hn]
        simp [namesD, tieR, col_dash hn, ei, begD]
    rw [e, Res.bnd_ok, ← hM, List.map_map]
    have : (ts.zip bs).map (g3 ∘ fun x => namesD (tieZ x)) = bs.map begD := by
      have q : (ts.zip bs).map (g3 ∘ fun x => namesD (tieZ x)) = (ts.zip bs).map (begD ∘ Prod.snd) := List.map_congr_left fun x hx => g3_tie x.1 (B.ok _ (List.of_mem_zip (show (x.1, x.2) ∈ ts.zip bs from hx)).2)
      rw [q, ← List.map_map, zb]
    rw [this]
    rfl
  have st4 : retS (tupE [M.bnd (lcM [5] (itemsM (vget 1)) (setN 5) (M.bnd (op2 (op2 (vget 5) (M.ret (.int 0)) ixM) (M.ret (.str "place")) eqM) bool1) (op2 (vget 5) (M.ret (.int 1)) ixM)) tupM, M.bnd (lcM [5] (itemsM (vget 2)) (setN 5) (M.ret true) (slE (vget 5) (M.bnd (M.ret (.int 1)) partOf) (M.bnd (M.ret (.int 3)) partOf))) tupM, vget 3]) ⟨[s0, .d (.lst L), .d (.lst M2), .d (begsD bs), .no, .no], ob⟩ = .ok (.rt (.tup [namesD ps, tiesD ts, begsD bs])) ⟨[s0, .d (.lst L), .d (.lst M2), .d (begsD bs), .no, .no], ob⟩ := by
    refine retS_of ?_
    have ei : itemsM (vget 1) ⟨[s0, .d (.lst L), .d (.lst M2), .d (begsD bs), .no, .no], ob⟩ = .ok L ⟨[s0, .d (.lst L), .d (.lst M2), .d (begsD bs), .no, .no], ob⟩ := by simp
    have ej : itemsM (vget 2) ⟨[s0, .d (.lst L), .d (.lst M2), .d (begsD bs), .no, .no], ob⟩ = .ok M2 ⟨[s0, .d (.lst L), .d (.lst M2), .d (begsD bs), .no, .no], ob⟩ := by simp
    have e1 : lcM [5] (itemsM (vget 1)) (setN 5) (M.bnd (op2 (op2 (vget 5) (M.ret (.int 0)) ixM) (M.ret (.str "place")) eqM) bool1) (op2 (vget 5) (M.ret (.int 1)) ixM) ⟨[s0, .d (.lst L), .d (.lst M2), .d (begsD bs), .no, .no], ob⟩ = .ok (.lst (ps.map .str)) ⟨[s0, .d (.lst L), .d (.lst M2), .d (begsD bs), .no, .no], ob⟩ := by
      rw [lcM_ap, ei, Res.bnd_ok]
      have e := lc_pure (vs := [5]) (t := setN 5) (c := M.bnd (op2 (op2 (vget 5) (M.ret (.int 0)) ixM) (M.ret (.str "place")) eqM) bool1) (e := op2 (vget 5) (M.ret (.int 1)) ixM) (ob := ob) (sl := [s0, .d (.lst L), .d (.lst M2), .d (begsD bs), .no, .no]) (ds := L) (headB "place") g1 (by omega) fun d hd => ⟨⟨[s0, .d (.lst L), .d (.lst M2), .d (begsD bs), .no, .d d], ob⟩, rfl, _, cut "place" _ _ d hd, fun _ => rfl, fun _ => by
        rw [← hL] at hd
        refine ⟨[s0, .d (.lst L), .d (.lst M2), .d (begsD bs), .no, .d d], ?_, rfl⟩
        rcases row_cases hd with ⟨p, rfl⟩ | ⟨x, _, rfl⟩
        · rw [g1_place]; simp [namesD, placeR]
        · simp [namesD, tieR, g1]⟩
      rw [e, ← hL, filt_place, List.map_map]
      have : (ps.map (g1 ∘ fun x => namesD (placeR x))) = ps.map D.str := rfl
      rw [this]
      rfl
    have e2 : lcM [5] (itemsM (vget 2)) (setN 5) (M.ret true) (slE (vget 5) (M.bnd (M.ret (.int 1)) partOf) (M.bnd (M.ret (.int 3)) partOf)) ⟨[s0, .d (.lst L), .d (.lst M2), .d (begsD bs), .no, .no], ob⟩ = .ok (.lst (ts.map tieD)) ⟨[s0, .d (.lst L), .d (.lst M2), .d (begsD bs), .no, .no], ob⟩ := by
      rw [lcM_ap, ej, Res.bnd_ok]
      have e := lc_map (vs := [5]) (t := setN 5) (e := slE (vget 5) (M.bnd (M.ret (.int 1)) partOf) (M.bnd (M.ret (.int 3)) partOf)) (ob := ob) (sl := [s0, .d (.lst L), .d (.lst M2), .d (begsD bs), .no, .no]) (ds := M2) g2 (by omega) fun d hd => by
        obtain ⟨t, b, hb, rfl⟩ := hMm d hd
        refine ⟨[s0, .d (.lst L), .d (.lst M2), .d (begsD bs), .no, .d (namesD (tieR t b))], rfl, [s0, .d (.lst L), .d (.lst M2), .d (begsD bs), .no, .d (namesD (tieR t b))], ?_, rfl⟩
        have es : slF (namesD (tieR t b)) (some 1) (some 3) = some (g2 (namesD (tieR t b))) := rfl
        simp [es]
      rw [e, ← hM, List.map_map]
      have : (ts.zip bs).map (g2 ∘ fun x => namesD (tieZ x)) = ts.map tieD := by
        have q : (ts.zip bs).map (g2 ∘ fun x => namesD (tieZ x)) = (ts.zip bs).map (tieD ∘ Prod.fst) := rfl
        rw [q, ← List.map_map, zt]
      rw [this]
      rfl
    simp only [tupE_ap, seqM_cons, seqM_nil, bnd_ap, e1, e2, Res.bnd_ok, tupM_lst, ret_ap, vget_ap, List.getElem?_cons_succ, List.getElem?_cons_zero]
    rfl
  have al := (seqS_nx st1).trans ((seqS_nx st2).trans ((seqS_nx st3).trans st4))
  show fnM 6 1 m_told_by [namesD (rowsL ps ts bs)] ob = _
  rw [fnM1]
  show fnR (m_told_by ⟨[.d (namesD (rowsL ps ts bs)), .no, .no, .no, .no, .no], ob⟩) = _
  rw [hs0]
  unfold m_told_by
  rw [al]
  rfl
theorem read_web_run {ps : List Str} {ts : List Tie} {bs : List (Option Int)} (W : WebOk ps ts) (B : BegOk bs ts) (O : ObOk ob) : F_read_web [namesD (rowsL ps ts bs)] ob = .ok (.tup [webO ps ts, begsD bs]) ⟨[], ob⟩ := by
  generalize hx : namesD (rowsL ps ts bs) = x
  have e1 : F_wrong_in_lines [x] ob = .ok (.lst []) ⟨[], ob⟩ := by rw [← hx]; exact wrong_in_lines_run W B
  have e2 : F_told_by [x] ob = .ok (.tup [namesD ps, tiesD ts, begsD bs]) ⟨[], ob⟩ := by rw [← hx]; exact told_by_run W B
  have al : m_read_web ⟨[.d x, .no, .no, .no, .no, .no], ob⟩ = .ok (.rt (.tup [webO ps ts, begsD bs])) ⟨[.d x, .no, .d (namesD ps), .d (tiesD ts), .d (begsD bs), .d (webO ps ts)], ob⟩ := by
    unfold m_read_web
    refine (seqS_nx (S1 := ⟨[.d x, .no, .no, .no, .no, .no], ob⟩) ?_).trans ?_
    · refine (forS_of (ds := []) (S1 := ⟨[.d x, .no, .no, .no, .no, .no], ob⟩) ?_).trans rfl
      simp [e1]
    refine (seqS_nx (S1 := ⟨[.d x, .no, .d (namesD ps), .d (tiesD ts), .d (begsD bs), .no], ob⟩) ?_).trans ?_
    · refine asgS_of (d := .tup [namesD ps, tiesD ts, begsD bs]) (S1 := ⟨[.d x, .no, .no, .no, .no, .no], ob⟩) ?_ rfl
      simp [e2]
    refine (seqS_nx (S1 := ⟨[.d x, .no, .d (namesD ps), .d (tiesD ts), .d (begsD bs), .d (webO ps ts)], ob⟩) ?_).trans ?_
    · refine asgS_of (d := webO ps ts) (S1 := ⟨[.d x, .no, .d (namesD ps), .d (tiesD ts), .d (begsD bs), .no], ob⟩) ?_ rfl
      unfold makeV
      exact (bnd_of (a := [namesD ps, tiesD ts]) (S1 := ⟨[.d x, .no, .d (namesD ps), .d (tiesD ts), .d (begsD bs), .no], ob⟩) rfl).trans (make_web W O _)
    refine (seqS_nx (S1 := ⟨[.d x, .no, .d (namesD ps), .d (tiesD ts), .d (begsD bs), .d (webO ps ts)], ob⟩) ?_).trans rfl
    refine exprS_of (d := .non) ?_
    simp [check_beginning_run B O.fr]
  show fnM 6 1 m_read_web [x] ob = _
  rw [fnM1]
  show fnR (m_read_web ⟨[.d x, .no, .no, .no, .no, .no], ob⟩) = _
  rw [al]
  rfl
end
end LW
end
section
set_option Elab.async false
set_option linter.all false
set_option maxRecDepth 100000
set_option maxHeartbeats 2000000
/-! SQ6: _law_same -/
namespace LW
open PySem PySem.Spec L2 DL SrtO
def sm : Nat → D → Bool
  | _, .int _ => true
  | _, .str _ => true
  | _, .non => true
  | n + 1, .tup ds => decide (ds.length ≤ 1000) && ds.all (sm n)
  | n + 1, .lst ds => decide (ds.length ≤ 1000) && ds.all (sm n)
  | _, _ => false
theorem zip_self (ds : List D) : zipD ds ds = ds.map fun x => .tup [x, x] := by
  induction ds with
  | nil => rfl
  | cons a r ih =>
    show .tup [a, a] :: zipD r r = _
    rw [ih]
    rfl
section
variable {ob : List D} {l : Nat}
theorem same_all {F : Fn} {s0 s1 : Sl} {ds : List D} (hl : ds.length ≤ 1000) (h : ∀ x ∈ ds, F [x, x] ob = .ok (.bl true) ⟨[], ob⟩) : lcF [2, 3] (tgT [setN 2, setN 3]) (M.ret true) (callE F [vget 2, vget 3]) (zipD ds ds) ⟨[s0, s1, .no, .no], ob⟩ = .ok (.lst (ds.map fun _ => .bl true)) ⟨[s0, s1, .no, .no], ob⟩ := by
  have e := lc_map (vs := [2, 3]) (t := tgT [setN 2, setN 3]) (e := callE F [vget 2, vget 3]) (ob := ob) (sl := [s0, s1, .no, .no]) (ds := zipD ds ds) (fun _ => .bl true) (by rw [zip_self, List.length_map]; omega) fun d hd => by
    rw [zip_self] at hd
    obtain ⟨x, hx, rfl⟩ := List.mem_map.mp hd
    refine ⟨[s0, s1, .d x, .d x], rfl, [s0, s1, .d x, .d x], ?_, rfl⟩
    simp [h x hx]
  rw [e, zip_self, List.map_map]
  rfl
theorem all_true (ds : List D) : allM (.lst (ds.map fun _ => D.bl true)) = M.ret (.bl true) := by
  have : bls (ds.map fun _ => D.bl true) = some (ds.map fun _ => true) := bls_map (fun _ => true) ds
  rw [allM_lst, this]
  dsimp only
  have h2 : (ds.map fun _ => true).all id = true := by simp
  rw [h2]
theorem same_run : ∀ (n : Nat) (d : D), sm n d = true → recN (fun F => fnM 4 2 (m__law_same F)) (n + 1) [d, d] ob = .ok (.bl true) ⟨[], ob⟩ := by
  intro n
  induction n with
  | zero =>
    intro d h
    show fnM 4 2 (m__law_same _) [d, d] ob = _
    cases d with
    | int i => simp [m__law_same, isNone]
    | str x => simp [m__law_same, isNone]
    | non => simp [m__law_same, isNone]
    | _ => cases h
  | succ n ih =>
    intro d h
    show fnM 4 2 (m__law_same (recN (fun F => fnM 4 2 (m__law_same F)) (n + 1))) [d, d] ob = _
    generalize hF : recN (fun F => fnM 4 2 (m__law_same F)) (n + 1) = F
    cases d with
    | int i => simp [m__law_same, isNone]
    | str x => simp [m__law_same, isNone]
    | non => simp [m__law_same, isNone]
    | tup ds =>
      have h' : (decide (ds.length ≤ 1000) && ds.all (sm n)) = true := h
      simp only [Bool.and_eq_true, decide_eq_true_eq, List.all_eq_true] at h'
      have e := same_all (ob := ob) (s0 := .d (.tup ds)) (s1 := .d (.tup ds)) (F := F) h'.1 fun x hx => by rw [← hF]; exact ih x (h'.2 x hx)
      have hb : bls (ds.map fun _ => D.bl true) = some (ds.map fun _ => true) := bls_map (fun _ => true) ds
      simp [m__law_same, e, hb]
    | lst ds =>
      have h' : (decide (ds.length ≤ 1000) && ds.all (sm n)) = true := h
      simp only [Bool.and_eq_true, decide_eq_true_eq, List.all_eq_true] at h'
      have e := same_all (ob := ob) (s0 := .d (.lst ds)) (s1 := .d (.lst ds)) (F := F) h'.1 fun x hx => by rw [← hF]; exact ih x (h'.2 x hx)
      have hb : bls (ds.map fun _ => D.bl true) = some (ds.map fun _ => true) := bls_map (fun _ => true) ds
      simp [m__law_same, e, hb]
    | _ => cases h
theorem law_same_run {d : D} (h : sm 5 d = true) : F__law_same [d, d] ob = .ok (.bl true) ⟨[], ob⟩ := same_run 5 d h
end
theorem sm_int (n : Nat) (i : Int) : sm n (.int i) = true := by cases n <;> rfl
theorem sm_str (n : Nat) (i : Str) : sm n (.str i) = true := by cases n <;> rfl
theorem sm_non (n : Nat) : sm n .non = true := by cases n <;> rfl
theorem sm_tup {n : Nat} {ds : List D} (hl : ds.length ≤ 1000) (h : ∀ d ∈ ds, sm n d = true) : sm (n + 1) (.tup ds) = true := by
  show (decide (ds.length ≤ 1000) && ds.all (sm n)) = true
  simp only [Bool.and_eq_true, decide_eq_true_eq, List.all_eq_true]
  exact ⟨hl, h⟩
theorem sm_lst {n : Nat} {ds : List D} (hl : ds.length ≤ 1000) (h : ∀ d ∈ ds, sm n d = true) : sm (n + 1) (.lst ds) = true := sm_tup hl h
theorem sm_names {n : Nat} {xs : List Str} (h : xs.length ≤ 1000) : sm (n + 1) (namesD xs) = true := sm_tup (by simpa using h) fun d hd => by
  obtain ⟨x, _, rfl⟩ := List.mem_map.mp hd
  exact sm_str n x
theorem sm_tie (n : Nat) (t : Tie) : sm (n + 1) (tieD t) = true := sm_tup (by simp) fun d hd => by
  simp at hd
  rcases hd with rfl | rfl
  · exact sm_str _ _
  · exact sm_str _ _
theorem sm_ties {n : Nat} {ts : List Tie} (h : ts.length ≤ 1000) : sm (n + 2) (tiesD ts) = true := sm_tup (by simpa using h) fun d hd => by
  obtain ⟨x, _, rfl⟩ := List.mem_map.mp hd
  exact sm_tie n x
theorem sm_begs {n : Nat} {bs : List (Option Int)} (h : bs.length ≤ 1000) : sm (n + 1) (begsD bs) = true := sm_tup (by simpa using h) fun d hd => by
  obtain ⟨x, _, rfl⟩ := List.mem_map.mp hd
  cases x with
  | none => exact sm_non n
  | some i => exact sm_int n i
theorem sm_web {n : Nat} {ps : List Str} {ts : List Tie} (h : ps.length ≤ 1000) (h2 : ts.length ≤ 1000) : sm (n + 3) (webD ps ts) = true := sm_tup (by simp) fun d hd => by
  simp at hd
  rcases hd with rfl | rfl
  · exact sm_names h
  · exact sm_ties h2
end LW
end
section
set_option Elab.async false
set_option linter.all false
set_option maxRecDepth 100000
set_option maxHeartbeats 2000000
/-! SQ7: _law_right -/
namespace LW
open PySem PySem.Spec L2 DL SrtO
theorem rowsL_inj {ps qs : List Str} {ts us : List Tie} {bs cs : List (Option Int)} (W : WebOk ps ts) (B : BegOk bs ts) (W' : WebOk qs us) (B' : BegOk cs us) (h : rowsL ps ts bs = rowsL qs us cs) : ps = qs ∧ ts = us ∧ bs = cs := by
  have e1 := told_by_run (ob := []) W B
  have e2 := told_by_run (ob := []) W' B'
  rw [h, e2] at e1
  injection e1 with e1
  injection e1 with e1
  simp only [List.cons.injEq, and_true] at e1
  exact ⟨(strs_inj e1.1).symm, (tiesD_inj e1.2.1).symm, (begsD_inj e1.2.2).symm⟩
/-- two answers, the same question -/
theorem same_test {x y z w : D} (hx : tidy depthLine x = true) (hy : tidy depthLine y = true) (hz : tidy depthLine z = true) (hw : tidy depthLine w = true) (h : x = y ↔ z = w) :
    ∃ b, eqM x y = M.ret (.bl b) ∧ eqM z w = M.ret (.bl b) := by
  by_cases e : x = y
  · haveI : Decidable (x = y) := .isTrue e
    haveI : Decidable (z = w) := .isTrue (h.mp e)
    refine ⟨true, ?_, ?_⟩
    · rw [eqM_dec hx hy, decide_eq_true e]
    · rw [eqM_dec hz hw, decide_eq_true (h.mp e)]
  · haveI : Decidable (x = y) := .isFalse e
    haveI : Decidable (z = w) := .isFalse fun z => e (h.mpr z)
    refine ⟨false, ?_, ?_⟩
    · rw [eqM_dec hx hy, decide_eq_false e]
    · rw [eqM_dec hz hw, decide_eq_false fun z => e (h.mpr z)]
section
variable {ob : List D} {l : Nat}
abbrev toldTest : M Fl := ifV (orB (notB (M.bnd (op2 (vget 6) (M.ret (.ty "tuple")) isiM) tru)) (orB (M.bnd (op2 (M.bnd (vget 6) lenM) (M.ret (.int 2)) neM) bool1) (orB (notB (M.bnd (callE F__law_same [lstE [propM 0 F_Web_parts (op2 (vget 6) (M.ret (.int 0)) ixM), op2 (vget 6) (M.ret (.int 1)) ixM], lstE [vget 2, vget 4]]) tru)) (M.bnd (op2 (op2 (vget 6) (M.ret (.int 0)) ixM) (vget 3) (neoM 0 F_Web___eq__)) bool1)))) (retS (M.ret (.bl false))) (skip)
theorem neo_self (ps : List Str) (ts : List Tie) (sl : List Sl) : neoM 0 F_Web___eq__ (webO ps ts) (webO ps ts) ⟨sl, ob⟩ = .ok (.bl false) ⟨sl, ob⟩ := by
  obtain ⟨b, e, i⟩ := web_eq (ob := ob) ps ps ts ts
  have hb : b = true := i.mpr ⟨rfl, rfl⟩
  subst hb
  unfold neoM eqo
  simp only [obj_web, callF_ap, e, after_ok]
  rfl
theorem toldTest_run {ps : List Str} {ts : List Tie} {bs : List (Option Int)} (W : WebOk ps ts) (B : BegOk bs ts) {s0 s1 s5 s7 s8 s9 : Sl} :
    toldTest ⟨[s0, s1, .d (webD ps ts), .d (webO ps ts), .d (begsD bs), s5, .d (.tup [webO ps ts, begsD bs]), s7, s8, s9], ob⟩ = .ok .nx ⟨[s0, s1, .d (webD ps ts), .d (webO ps ts), .d (begsD bs), s5, .d (.tup [webO ps ts, begsD bs]), s7, s8, s9], ob⟩ := by
  have es := law_same_run (ob := ob) (d := .lst [webD ps ts, begsD bs]) (sm_lst (by simp) fun d hd => by
    simp at hd
    have := W.l6
    have := W.t9
    rcases hd with rfl | rfl
    · exact sm_web (n := 1) (by omega) (by omega)
    · exact sm_begs (n := 3) (by rw [B.len]; omega))
  have en := fun sl => neo_self (ob := ob) ps ts sl
  simp [toldTest, obj_web, noX, web_parts, es, en]
theorem told_loop {ps : List Str} {ts : List Tie} {bs : List (Option Int)} (W : WebOk ps ts) (B : BegOk bs ts) {s0 s1 s5 s7 s8 s9 : Sl} : ∀ (n : Nat) (s6 : Sl), ∃ s6' : Sl,
    DL.forM (setN 6) toldTest (List.replicate n (.tup [webO ps ts, begsD bs])) ⟨[s0, s1, .d (webD ps ts), .d (webO ps ts), .d (begsD bs), s5, s6, s7, s8, s9], ob⟩ = .ok .nx ⟨[s0, s1, .d (webD ps ts), .d (webO ps ts), .d (begsD bs), s5, s6', s7, s8, s9], ob⟩
  | 0, s6 => ⟨s6, rfl⟩
  | n + 1, s6 => by
    obtain ⟨s6', e⟩ := told_loop W B (s0 := s0) (s1 := s1) (s5 := s5) (s7 := s7) (s8 := s8) (s9 := s9) n (.d (.tup [webO ps ts, begsD bs]))
    refine ⟨s6', ?_⟩
    rw [List.replicate_succ, forM_cons (S1 := ⟨[s0, s1, .d (webD ps ts), .d (webO ps ts), .d (begsD bs), s5, .d (.tup [webO ps ts, begsD bs]), s7, s8, s9], ob⟩) rfl, toldTest_run W B]
    exact e
abbrev bx1 : M Fl := asgS (callE F__law_web [vget 0, M.ret (.int 2), M.ret (.int 6), M.ret (.int 9)]) (setN 2)
abbrev bx2 : M Fl := parS 3 4 .d .d (callE F__law_made [vget 2]) (callE F__law_begin [vget 0, vget 2])
abbrev bx3 : M Fl := asgS (callE F__law_text [vget 2, vget 4]) (setN 5)
abbrev bx4 : M Fl := ifV (notB (M.bnd (callE F__law_same [lstE [callE F_web_rows [vget 3, vget 4], callK F_web_rows [1, 0] [] [vget 4, vget 3]], lstE [vget 5, vget 5]]) tru)) (retS (M.ret (.bl false))) (skip)
abbrev bx5 : M Fl := forS (itemsM (lstE [callE F_read_web [vget 5], callK F_read_web [0] [] [vget 5], callE F_read_web [callE F_web_rows [vget 3, vget 4]]])) (setN 6) toldTest
abbrev bx6 : M Fl := parS 7 8 .d .d (callE F__law_web [vget 0, M.ret (.int 2), M.ret (.int 3), M.ret (.int 3)]) (callE F__law_begin [vget 0, vget 2])
abbrev bx7 : M Fl := asgS (callE F__law_begin [vget 0, vget 7]) (setN 9)
abbrev bx8 : M Fl := ifV (orB (M.bnd (op2 (op2 (callE F_web_rows [callE F__law_made [vget 7], vget 9]) (vget 5) eqM) (op2 (tupE [vget 7, vget 9]) (tupE [vget 2, vget 4]) eqM) neM) bool1) (M.bnd (op2 (op2 (callE F_web_rows [vget 3, vget 8]) (vget 5) eqM) (op2 (vget 8) (vget 4) eqM) neM) bool1)) (retS (M.ret (.bl false))) (skip)
abbrev bxA : M Fl := seqS bx1 (seqS bx2 (seqS bx3 (seqS bx4 (seqS bx5 (seqS bx6 (seqS bx7 bx8))))))
theorem right_eq : m__law_right = seqS (forS (rng1M (M.ret (.int 4))) (setN 1) bxA) (retS (M.ret (.bl true))) := rfl
theorem tidy_rows (n : Nat) (xs : List Str) : tidy (n + 1) (namesD xs) = true := tidy_namesD n xs
theorem bxA_run {s1 s2 s3 s4 s5 s6 s7 s8 s9 : Sl} {a b c : Int} (h : ob[l]? = some (lst3 a b c)) (O : ObOk ob) : ∃ (s2' s3' s4' s5' s6' s7' s8' s9' : Sl) (ob' : List D), bxA ⟨[.d (.loc l), s1, s2, s3, s4, s5, s6, s7, s8, s9], ob⟩ = .ok .nx ⟨[.d (.loc l), s1, s2', s3', s4', s5', s6', s7', s8', s9'], ob'⟩ ∧ Drew l ob ob' := by
  obtain ⟨ps, ts, ob1, e1, dr1, N, W, _, _, _⟩ := web_run (least := 2) (most := 6) (many := 9) h (by decide) (by decide) (by decide)
  obtain ⟨a1, b1, c1, h1⟩ := dr1.at
  have O1 := dr1.ob O
  obtain ⟨bs, ob2, e2, B, dr2⟩ := begin_run (ps := ps) (ts := ts) h1 W.t9
  obtain ⟨a2, b2, c2, h2⟩ := dr2.at
  have O2 := dr2.ob O1
  obtain ⟨qs, us, ob3, e3, dr3, _, W', _, _, _⟩ := web_run (least := 2) (most := 3) (many := 3) h2 (by decide) (by decide) (by decide)
  obtain ⟨a3, b3, c3, h3⟩ := dr3.at
  have O3 := dr3.ob O2
  obtain ⟨fs, ob4, e4, BF, dr4⟩ := begin_run (ps := ps) (ts := ts) h3 W.t9
  obtain ⟨a4, b4, c4, h4⟩ := dr4.at
  have O4 := dr4.ob O3
  obtain ⟨gs, ob5, e5, BG, dr5⟩ := begin_run (ps := qs) (ts := us) h4 W'.t9
  have O5 := dr5.ob O4
  have st1 : bx1 ⟨[.d (.loc l), s1, s2, s3, s4, s5, s6, s7, s8, s9], ob⟩ = .ok .nx ⟨[.d (.loc l), s1, .d (webD ps ts), s3, s4, s5, s6, s7, s8, s9], ob1⟩ := by
    refine asgS_of (d := webD ps ts) (S1 := ⟨[.d (.loc l), s1, s2, s3, s4, s5, s6, s7, s8, s9], ob1⟩) ?_ rfl
    simp [e1]
  have st2 : bx2 ⟨[.d (.loc l), s1, .d (webD ps ts), s3, s4, s5, s6, s7, s8, s9], ob1⟩ = .ok .nx ⟨[.d (.loc l), s1, .d (webD ps ts), .d (webO ps ts), .d (begsD bs), s5, s6, s7, s8, s9], ob2⟩ := by
    simp [bx2, made_run W O1, e2]
  have st3 : bx3 ⟨[.d (.loc l), s1, .d (webD ps ts), .d (webO ps ts), .d (begsD bs), s5, s6, s7, s8, s9], ob2⟩ = .ok .nx ⟨[.d (.loc l), s1, .d (webD ps ts), .d (webO ps ts), .d (begsD bs), .d (namesD (rowsL ps ts bs)), s6, s7, s8, s9], ob2⟩ := by
    refine asgS_of (d := namesD (rowsL ps ts bs)) (S1 := ⟨[.d (.loc l), s1, .d (webD ps ts), .d (webO ps ts), .d (begsD bs), s5, s6, s7, s8, s9], ob2⟩) ?_ rfl
    simp [text_run (ob := ob2) W B]
  have er := web_rows_run (ob := ob2) W B O2.fr
  have kr : ∀ sl, sl[3]? = some (.d (webO ps ts)) → sl[4]? = some (.d (begsD bs)) → callK F_web_rows [1, 0] [] [vget 4, vget 3] ⟨sl, ob2⟩ = .ok (namesD (rowsL ps ts bs)) ⟨sl, ob2⟩ := fun sl q1 q2 => by
    have ep : ∀ x y : D, permL [1, 0] ([] ++ [x, y]) = [y, x] := fun x y => rfl
    unfold callK kwM
    simp [q1, q2, ep, er]
    have ep2 : ∀ x y : D, permL [1, 0] [x, y] = [y, x] := fun x y => rfl
    simp [ep2, er]
  have kd : ∀ sl, sl[5]? = some (.d (namesD (rowsL ps ts bs))) → callK F_read_web [0] [] [vget 5] ⟨sl, ob2⟩ = .ok (.tup [webO ps ts, begsD bs]) ⟨sl, ob2⟩ := fun sl q => by
    have ep2 : ∀ x : D, permL [0] [x] = [x] := fun x => rfl
    unfold callK kwM
    simp [q, ep2, read_web_run W B O2]
  have rl15 : (rowsL ps ts bs).length ≤ 15 := by
    have := rows_len (bs := bs) W
    simpa [rowsL] using this
  have st4 : bx4 ⟨[.d (.loc l), s1, .d (webD ps ts), .d (webO ps ts), .d (begsD bs), .d (namesD (rowsL ps ts bs)), s6, s7, s8, s9], ob2⟩ = .ok .nx ⟨[.d (.loc l), s1, .d (webD ps ts), .d (webO ps ts), .d (begsD bs), .d (namesD (rowsL ps ts bs)), s6, s7, s8, s9], ob2⟩ := by
    have es := law_same_run (ob := ob2) (d := .lst [namesD (rowsL ps ts bs), namesD (rowsL ps ts bs)]) (sm_lst (by simp) fun d hd => by
      simp at hd
      subst hd
      exact sm_names (by omega))
    simp [bx4, er, kr, es]
  obtain ⟨s6', e6⟩ := told_loop (ob := ob2) W B (s0 := .d (.loc l)) (s1 := s1) (s5 := .d (namesD (rowsL ps ts bs))) (s7 := s7) (s8 := s8) (s9 := s9) 3 s6
  have st5 : bx5 ⟨[.d (.loc l), s1, .d (webD ps ts), .d (webO ps ts), .d (begsD bs), .d (namesD (rowsL ps ts bs)), s6, s7, s8, s9], ob2⟩ = .ok .nx ⟨[.d (.loc l), s1, .d (webD ps ts), .d (webO ps ts), .d (begsD bs), .d (namesD (rowsL ps ts bs)), s6', s7, s8, s9], ob2⟩ := by
    refine (forS_of (ds := List.replicate 3 (.tup [webO ps ts, begsD bs])) (S1 := ⟨[.d (.loc l), s1, .d (webD ps ts), .d (webO ps ts), .d (begsD bs), .d (namesD (rowsL ps ts bs)), s6, s7, s8, s9], ob2⟩) ?_).trans e6
    simp [er, kd, read_web_run W B O2]
  have st6 : bx6 ⟨[.d (.loc l), s1, .d (webD ps ts), .d (webO ps ts), .d (begsD bs), .d (namesD (rowsL ps ts bs)), s6', s7, s8, s9], ob2⟩ = .ok .nx ⟨[.d (.loc l), s1, .d (webD ps ts), .d (webO ps ts), .d (begsD bs), .d (namesD (rowsL ps ts bs)), s6', .d (webD qs us), .d (begsD fs), s9], ob4⟩ := by
    simp [bx6, e3, e4]
  have st7 : bx7 ⟨[.d (.loc l), s1, .d (webD ps ts), .d (webO ps ts), .d (begsD bs), .d (namesD (rowsL ps ts bs)), s6', .d (webD qs us), .d (begsD fs), s9], ob4⟩ = .ok .nx ⟨[.d (.loc l), s1, .d (webD ps ts), .d (webO ps ts), .d (begsD bs), .d (namesD (rowsL ps ts bs)), s6', .d (webD qs us), .d (begsD fs), .d (begsD gs)], ob5⟩ := by
    refine asgS_of (d := begsD gs) (S1 := ⟨[.d (.loc l), s1, .d (webD ps ts), .d (webO ps ts), .d (begsD bs), .d (namesD (rowsL ps ts bs)), s6', .d (webD qs us), .d (begsD fs), s9], ob5⟩) ?_ rfl
    simp [e5]
  have st8 : bx8 ⟨[.d (.loc l), s1, .d (webD ps ts), .d (webO ps ts), .d (begsD bs), .d (namesD (rowsL ps ts bs)), s6', .d (webD qs us), .d (begsD fs), .d (begsD gs)], ob5⟩ = .ok .nx ⟨[.d (.loc l), s1, .d (webD ps ts), .d (webO ps ts), .d (begsD bs), .d (namesD (rowsL ps ts bs)), s6', .d (webD qs us), .d (begsD fs), .d (begsD gs)], ob5⟩ := by
    have r1 := web_rows_run (ob := ob5) W' BG O5.fr
    have r2 := web_rows_run (ob := ob5) W BF O5.fr
    have m1 := made_run (ob := ob5) W' O5
    obtain ⟨v, v1, v2⟩ := same_test (x := namesD (rowsL qs us gs)) (y := namesD (rowsL ps ts bs)) (z := .tup [webD qs us, begsD gs]) (w := .tup [webD ps ts, begsD bs]) (tidy_namesD 11 _) (tidy_namesD 11 _)
      (by rw [show depthLine = 11 + 1 from rfl, tidy_tup]; simp [tidy_webD 8, tidy_begsD 10]) (by rw [show depthLine = 11 + 1 from rfl, tidy_tup]; simp [tidy_webD 8, tidy_begsD 10])
      ⟨fun q => by
        obtain ⟨rfl, rfl, rfl⟩ := rowsL_inj W' BG W B (strs_inj q)
        rfl, fun q => by
        injection q with q
        simp only [List.cons.injEq, and_true] at q
        obtain ⟨rfl, rfl⟩ := webD_inj q.1
        have := begsD_inj q.2
        subst this
        rfl⟩
    obtain ⟨u, u1, u2⟩ := same_test (x := namesD (rowsL ps ts fs)) (y := namesD (rowsL ps ts bs)) (z := begsD fs) (w := begsD bs) (tidy_namesD 11 _) (tidy_namesD 11 _) (tidy_begsD 11 _) (tidy_begsD 11 _)
      ⟨fun q => by
        obtain ⟨_, _, rfl⟩ := rowsL_inj W BF W B (strs_inj q)
        rfl, fun q => by
        have := begsD_inj q
        subst this
        rfl⟩
    have t1 : M.bnd (op2 (op2 (callE F_web_rows [callE F__law_made [vget 7], vget 9]) (vget 5) eqM) (op2 (tupE [vget 7, vget 9]) (tupE [vget 2, vget 4]) eqM) neM) bool1 ⟨[.d (.loc l), s1, .d (webD ps ts), .d (webO ps ts), .d (begsD bs), .d (namesD (rowsL ps ts bs)), s6', .d (webD qs us), .d (begsD fs), .d (begsD gs)], ob5⟩ = .ok false ⟨[.d (.loc l), s1, .d (webD ps ts), .d (webO ps ts), .d (begsD bs), .d (namesD (rowsL ps ts bs)), s6', .d (webD qs us), .d (begsD fs), .d (begsD gs)], ob5⟩ := by
      simp [m1, r1, v1, v2]
    have t2 : M.bnd (op2 (op2 (callE F_web_rows [vget 3, vget 8]) (vget 5) eqM) (op2 (vget 8) (vget 4) eqM) neM) bool1 ⟨[.d (.loc l), s1, .d (webD ps ts), .d (webO ps ts), .d (begsD bs), .d (namesD (rowsL ps ts bs)), s6', .d (webD qs us), .d (begsD fs), .d (begsD gs)], ob5⟩ = .ok false ⟨[.d (.loc l), s1, .d (webD ps ts), .d (webO ps ts), .d (begsD bs), .d (namesD (rowsL ps ts bs)), s6', .d (webD qs us), .d (begsD fs), .d (begsD gs)], ob5⟩ := by
      simp [r2, u1, u2]
    unfold bx8
    rw [ifV_ap, orB_ap, t1]
    simp only [Res.bnd_ok]
    rw [if_neg (by simp), t2]
    rfl
  exact ⟨_, _, _, _, _, _, _, _, _, (seqS_nx st1).trans ((seqS_nx st2).trans ((seqS_nx st3).trans ((seqS_nx st4).trans ((seqS_nx st5).trans ((seqS_nx st6).trans ((seqS_nx st7).trans st8)))))), (((dr1.trans dr2).trans dr3).trans dr4).trans dr5⟩
theorem right_loop : ∀ (ds : List D) (s1 s2 s3 s4 s5 s6 s7 s8 s9 : Sl) (ob : List D), (∃ a b c, ob[l]? = some (lst3 a b c)) → ObOk ob → ∃ (sl' : List Sl) (ob' : List D), DL.forM (setN 1) bxA ds ⟨[.d (.loc l), s1, s2, s3, s4, s5, s6, s7, s8, s9], ob⟩ = .ok .nx ⟨sl', ob'⟩ ∧ Drew l ob ob'
  | [], s1, s2, s3, s4, s5, s6, s7, s8, s9, ob, ⟨a, b, c, h⟩, O => ⟨_, _, rfl, Drew.refl h⟩
  | d :: r, s1, s2, s3, s4, s5, s6, s7, s8, s9, ob, ⟨a, b, c, h⟩, O => by
    obtain ⟨t2, t3, t4, t5, t6, t7, t8, t9, ob1, e1, dr1⟩ := bxA_run (s1 := .d d) (s2 := s2) (s3 := s3) (s4 := s4) (s5 := s5) (s6 := s6) (s7 := s7) (s8 := s8) (s9 := s9) h O
    obtain ⟨sl', ob2, e2, dr2⟩ := right_loop r (.d d) t2 t3 t4 t5 t6 t7 t8 t9 ob1 dr1.at (dr1.ob O)
    refine ⟨sl', ob2, ?_, dr1.trans dr2⟩
    rw [forM_cons (S1 := ⟨[.d (.loc l), .d d, s2, s3, s4, s5, s6, s7, s8, s9], ob⟩) rfl, e1]
    exact e2
theorem right_run {a b c : Int} (h : ob[l]? = some (lst3 a b c)) (O : ObOk ob) : ∃ ob', F__law_right [.loc l] ob = .ok (.bl true) ⟨[], ob'⟩ ∧ Drew l ob ob' := by
  obtain ⟨sl', ob', e, dr⟩ := right_loop (l := l) (rangeD 0 4) .no .no .no .no .no .no .no .no .no ob ⟨a, b, c, h⟩ O
  refine ⟨ob', ?_, dr⟩
  have al : m__law_right ⟨[.d (.loc l), .no, .no, .no, .no, .no, .no, .no, .no, .no], ob⟩ = .ok (.rt (.bl true)) ⟨sl', ob'⟩ := by
    rw [right_eq]
    exact (seqS_nx ((forS_of (rng1M_of (f := M.ret (.int 4)) (n := 4) rfl (by decide) (by decide))).trans e)).trans rfl
  show fnM 10 1 m__law_right [.loc l] ob = _
  rw [fnM1]
  show fnR (m__law_right ⟨[.d (.loc l), .no, .no, .no, .no, .no, .no, .no, .no, .no], ob⟩) = _
  rw [al]
  rfl
end
end LW
end
section
set_option Elab.async false
set_option linter.all false
set_option maxRecDepth 100000
set_option maxHeartbeats 2000000
/-! SQ8: the lofts, the law -/
namespace LW
open PySem PySem.Spec L2 DL SrtO
def Lofts (ob : List D) : Prop := ∀ d ∈ ob, ∃ a b c, d = lst3 a b c
theorem Lofts.ok {ob : List D} (h : Lofts ob) : ObOk ob := ⟨fnFrees_iff.mpr fun d hd => by
  obtain ⟨a, b, c, rfl⟩ := h d hd
  rfl, fun d hd => by
  obtain ⟨a, b, c, rfl⟩ := h d hd
  rfl⟩
theorem Lofts.drew {l : Nat} {ob ob' : List D} (h : Lofts ob) (dr : Drew l ob ob') : Lofts ob' := by
  obtain ⟨_, a, b, c, rfl⟩ := dr
  intro d hd
  rcases List.mem_or_eq_of_mem_set hd with q | q
  · exact h d q
  · exact ⟨a, b, c, q⟩
theorem Lofts.snoc {ob : List D} (h : Lofts ob) (a b c : Int) : Lofts (ob ++ [lst3 a b c]) := fun d hd => by
  rcases List.mem_append.mp hd with q | q
  · exact h d q
  · exact ⟨a, b, c, List.mem_singleton.mp q⟩
section
variable {ob : List D} {l : Nat}
abbrev foldE : M Fl := asgS (op2 (M.bnd (op2 (op2 (op2 (vget 3) (M.ret (.int 14563)) mulM) (op2 (M.bnd (vget 4) intM) (M.ret (.int 2147482003)) modM) addM) (M.ret (.int 197)) addM) intM) (M.ret (.int 2147482549)) modM) (setN 3)
theorem foldE_run {s0 s1 s2 : Sl} {h x : Int} : ∃ h' : Int, foldE ⟨[s0, s1, s2, .d (.int h), .d (.int x)], ob⟩ = .ok .nx ⟨[s0, s1, s2, .d (.int h'), .d (.int x)], ob⟩ := by
  refine ⟨(h * 14563 + x % 2147482003 + 197) % 2147482549, ?_⟩
  refine asgS_of (d := .int ((h * 14563 + x % 2147482003 + 197) % 2147482549)) (S1 := ⟨[s0, s1, s2, .d (.int h), .d (.int x)], ob⟩) ?_ rfl
  have m1 : mulM (.int h) (.int 14563) = M.ret (.int (h * 14563)) := mulM_r _ _ (by decide)
  simp only [op2_ap, bnd_ap, vget_ap, List.getElem?_cons_succ, List.getElem?_cons_zero, Res.bnd_ok, ret_ap, m1, intM_int, modM_int x 2147482003 (by decide), addM_int, modM_int _ 2147482549 (by decide)]
theorem fold_loop {s0 s1 s2 : Sl} : ∀ (xs : List Int) (h : Int) (s4 : Sl), ∃ (h' : Int) (s4' : Sl), DL.forM (setN 4) foldE (xs.map .int) ⟨[s0, s1, s2, .d (.int h), s4], ob⟩ = .ok .nx ⟨[s0, s1, s2, .d (.int h'), s4'], ob⟩
  | [], h, s4 => ⟨h, s4, rfl⟩
  | x :: xs, h, s4 => by
    obtain ⟨h1, e1⟩ := foldE_run (ob := ob) (s0 := s0) (s1 := s1) (s2 := s2) (h := h) (x := x)
    obtain ⟨h', s4', e⟩ := fold_loop xs h1 (.d (.int x))
    refine ⟨h', s4', ?_⟩
    rw [List.map_cons, forM_cons (S1 := ⟨[s0, s1, s2, .d (.int h), .d (.int x)], ob⟩) rfl, e1]
    exact e
abbrev fixE : M D := ifV (M.bnd (op2 (vget 1) (M.bnd (vget 0) lenM) ltM) bool1) (M.bnd (op2 (vget 0) (vget 1) ixM) intM) (M.ret (.int 0))
theorem fixE_run {ns : List Int} {i : Nat} {s2 s3 s4 : Sl} : ∃ f : Int, fixE ⟨[.d (.klst (ns.map .int)), .d (.int (i : Int)), s2, s3, s4], ob⟩ = .ok (.int f) ⟨[.d (.klst (ns.map .int)), .d (.int (i : Int)), s2, s3, s4], ob⟩ := by
  have el : lenM (.klst (ns.map .int)) = M.ret (.int ns.length) := by rw [lenM_klst, List.length_map]
  by_cases h : i < ns.length
  · refine ⟨ns[i], ?_⟩
    have ea : atI (ns.map D.int) (i : Int) = some (.int ns[i]) := by
      unfold atI ixN
      rw [if_pos (by omega), if_pos (by rw [List.length_map]; omega)]
      simp [h]
    have ei : ixM (.klst (ns.map .int)) (.int (i : Int)) ⟨[.d (.klst (ns.map .int)), .d (.int (i : Int)), s2, s3, s4], ob⟩ = .ok (.int ns[i]) ⟨[.d (.klst (ns.map .int)), .d (.int (i : Int)), s2, s3, s4], ob⟩ := ixM_of (fun _ => by simp) ea
    have hd : decide ((i : Int) < ns.length) = true := decide_eq_true (by omega)
    unfold fixE
    rw [ifV_ap]
    simp only [op2_ap, bnd_ap, vget_ap, List.getElem?_cons_succ, List.getElem?_cons_zero, Res.bnd_ok, ret_ap, el, ltM_int, hd, bool1_bl, if_true, ei, intM_int]
  · refine ⟨0, ?_⟩
    have hd : decide ((i : Int) < ns.length) = false := decide_eq_false (by omega)
    unfold fixE
    rw [ifV_ap]
    simp only [op2_ap, bnd_ap, vget_ap, List.getElem?_cons_succ, List.getElem?_cons_zero, Res.bnd_ok, ret_ap, el, ltM_int, hd, bool1_bl, if_false, Bool.false_eq_true]
abbrev farE : M D := ifV (orB (M.bnd (op2 (vget 2) (M.ret (.int 0)) ltM) bool1) (M.bnd (op2 (vget 2) (op2 (M.ret (.int 10)) (M.ret (.int 16)) powM) geM) bool1)) (op2 (M.bnd (vget 2) absM) (op2 (M.ret (.int 10)) (M.ret (.int 60)) powM) modM) (M.ret (.int 0))
theorem farE_run {s0 s1 s3 s4 : Sl} {f : Int} : ∃ a : Int, farE ⟨[s0, s1, .d (.int f), s3, s4], ob⟩ = .ok (.int a) ⟨[s0, s1, .d (.int f), s3, s4], ob⟩ := by
  have p1 : powM (.int 10) (.int 16) = M.ret (.int ((10 : Int) ^ (16 : Int).toNat)) := powM_int _ _ (by decide)
  have p2 : powM (.int 10) (.int 60) = M.ret (.int ((10 : Int) ^ (60 : Int).toNat)) := powM_int _ _ (by decide)
  have pos : (0 : Int) < (10 : Int) ^ (60 : Int).toNat := Int.pow_pos (by decide)
  generalize (10 : Int) ^ (60 : Int).toNat = q at p2 pos
  generalize (10 : Int) ^ (16 : Int).toNat = q1 at p1
  have yes : ∃ a : Int, op2 (M.bnd (vget 2) absM) (op2 (M.ret (.int 10)) (M.ret (.int 60)) powM) modM ⟨[s0, s1, .d (.int f), s3, s4], ob⟩ = .ok (.int a) ⟨[s0, s1, .d (.int f), s3, s4], ob⟩ := by
    refine ⟨(if f < 0 then -f else f) % q, ?_⟩
    simp only [op2_ap, bnd_ap, vget_ap, List.getElem?_cons_succ, List.getElem?_cons_zero, Res.bnd_ok, ret_ap, absM_int, p2, modM_int _ q pos]
  obtain ⟨a, ea⟩ := yes
  by_cases h1 : f < 0
  · refine ⟨a, ?_⟩
    unfold farE
    rw [ifV_ap, orB_ap]
    simp only [op2_ap, bnd_ap, vget_ap, List.getElem?_cons_succ, List.getElem?_cons_zero, Res.bnd_ok, ret_ap, ltM_int, decide_eq_true h1, bool1_bl, if_true]
    exact ea
  · by_cases h2 : q1 ≤ f
    · refine ⟨a, ?_⟩
      unfold farE
      rw [ifV_ap, orB_ap]
      simp only [op2_ap, bnd_ap, vget_ap, List.getElem?_cons_succ, List.getElem?_cons_zero, Res.bnd_ok, ret_ap, ltM_int, decide_eq_false h1, bool1_bl, Bool.false_eq_true, if_false, p1, geM_int, decide_eq_true h2, if_true]
      exact ea
    · refine ⟨0, ?_⟩
      unfold farE
      rw [ifV_ap, orB_ap]
      simp only [op2_ap, bnd_ap, vget_ap, List.getElem?_cons_succ, List.getElem?_cons_zero, Res.bnd_ok, ret_ap, ltM_int, decide_eq_false h1, bool1_bl, Bool.false_eq_true, if_false, p1, geM_int, decide_eq_false h2]
theorem loft_run {ns : List Int} {i : Nat} (hl : ns.length ≤ 1000) (hi : i ≤ 1000) : ∃ a b : Int, F__law_loft [.klst (ns.map .int), .int (i : Int)] ob = .ok (.loc ob.length) ⟨[], ob ++ [lst3 a b 0]⟩ := by
  obtain ⟨f, e1⟩ := fixE_run (ob := ob) (ns := ns) (i := i) (s2 := .no) (s3 := .no) (s4 := .no)
  obtain ⟨h', s4', e3⟩ := fold_loop (ob := ob) (s0 := .d (.klst (ns.map .int))) (s1 := .d (.int (i : Int))) (s2 := .d (.int f)) (cutD ns none (some 9) ++ [f]) (7621 + 499 * (i : Int)) .no
  obtain ⟨a, e4⟩ := farE_run (ob := ob) (s0 := .d (.klst (ns.map .int))) (s1 := .d (.int (i : Int))) (f := f) (s3 := .d (.int h')) (s4 := s4')
  refine ⟨a, h', ?_⟩
  have st1 : asgS fixE (setN 2) ⟨[.d (.klst (ns.map .int)), .d (.int (i : Int)), .no, .no, .no], ob⟩ = .ok .nx ⟨[.d (.klst (ns.map .int)), .d (.int (i : Int)), .d (.int f), .no, .no], ob⟩ := asgS_of e1 rfl
  have st2 : asgS (op2 (M.ret (.int 7621)) (op2 (M.ret (.int 499)) (vget 1) mulM) addM) (setN 3) ⟨[.d (.klst (ns.map .int)), .d (.int (i : Int)), .d (.int f), .no, .no], ob⟩ = .ok .nx ⟨[.d (.klst (ns.map .int)), .d (.int (i : Int)), .d (.int f), .d (.int (7621 + 499 * (i : Int))), .no], ob⟩ := by
    refine asgS_of (d := .int (7621 + 499 * (i : Int))) (S1 := ⟨[.d (.klst (ns.map .int)), .d (.int (i : Int)), .d (.int f), .no, .no], ob⟩) ?_ rfl
    have m1 : mulM (.int 499) (.int (i : Int)) = M.ret (.int (499 * (i : Int))) := mulM_l _ _ (by decide)
    simp only [op2_ap, bnd_ap, vget_ap, List.getElem?_cons_succ, List.getElem?_cons_zero, Res.bnd_ok, ret_ap, m1, addM_int]
  have st3 : forS (itemsM (op2 (slE (vget 0) (M.ret none) (M.bnd (M.ret (.int 9)) partOf)) (lstE [vget 2]) addM)) (setN 4) foldE ⟨[.d (.klst (ns.map .int)), .d (.int (i : Int)), .d (.int f), .d (.int (7621 + 499 * (i : Int))), .no], ob⟩ = .ok .nx ⟨[.d (.klst (ns.map .int)), .d (.int (i : Int)), .d (.int f), .d (.int h'), s4'], ob⟩ := by
    refine (forS_of (ds := (cutD ns none (some 9) ++ [f]).map .int) (S1 := ⟨[.d (.klst (ns.map .int)), .d (.int (i : Int)), .d (.int f), .d (.int (7621 + 499 * (i : Int))), .no], ob⟩) ?_).trans e3
    have ec : cutD (ns.map D.int) none (some 9) = (cutD ns none (some 9)).map .int := by
      unfold cutD
      rw [List.length_map, ← List.map_drop, ← List.map_take]
    have hcl : (cutD ns none (some 9)).length ≤ ns.length := by
      unfold cutD
      rw [List.length_take, List.length_drop]
      omega
    have hs : ((cutD ns none (some 9)).map D.int).length + [D.int f].length ≤ 16777216 := by
      simp only [List.length_map, List.length_singleton]
      omega
    have ea : addM (.lst ((cutD ns none (some 9)).map .int)) (.lst [.int f]) = M.ret (.lst ((cutD ns none (some 9)).map .int ++ [.int f])) := by
      rw [addM_lst, if_pos hs]
    rw [itemsM_ap, op2_ap, slE_ap]
    simp only [op2_ap, bnd_ap, vget_ap, List.getElem?_cons_succ, List.getElem?_cons_zero, Res.bnd_ok, ret_ap, partOf_int, slF_klst, ofO_some, ec, lstE_ap, seqM_cons, seqM_nil, ea, itemsD_lst]
    rw [List.map_append]
    rfl
  have st4 : retLoc (lstE [farE, vget 3, M.ret (.int 0)]) ⟨[.d (.klst (ns.map .int)), .d (.int (i : Int)), .d (.int f), .d (.int h'), s4'], ob⟩ = .ok (.rt (.loc ob.length)) ⟨[.d (.klst (ns.map .int)), .d (.int (i : Int)), .d (.int f), .d (.int h'), s4'], ob ++ [lst3 a h' 0]⟩ := by
    unfold retLoc
    refine (bnd_of (a := lst3 a h' 0) (S1 := ⟨[.d (.klst (ns.map .int)), .d (.int (i : Int)), .d (.int f), .d (.int h'), s4'], ob⟩) ?_).trans rfl
    rw [lstE_ap, seqM_cons, e4]
    rfl
  have al := (seqS_nx st1).trans ((seqS_nx st2).trans ((seqS_nx st3).trans st4))
  show fnM 5 2 m__law_loft [.klst (ns.map .int), .int (i : Int)] ob = _
  rw [fnM2]
  show fnR (m__law_loft ⟨[.d (.klst (ns.map .int)), .d (.int (i : Int)), .no, .no, .no], ob⟩) = _
  unfold m__law_loft
  rw [al]
  rfl
abbrev lawE : M D := callE F__law_right [callE F__law_loft [vget 0, vget 1]]
theorem lawGo {ns : List Int} (hl : ns.length ≤ 1000) : ∀ (is : List Nat) (s1 : Sl) (ob : List D), (∀ i ∈ is, i ≤ 1000) → Lofts ob → ∃ (s1' : Sl) (ob' : List D), lcGo [1] (setN 1) (M.ret true) lawE (is.map fun i => D.int (i : Nat)) ⟨[.d (.klst (ns.map .int)), s1], ob⟩ = .ok (is.map fun _ => .bl true) ⟨[.d (.klst (ns.map .int)), s1'], ob'⟩
  | [], s1, ob, _, _ => ⟨s1, ob, rfl⟩
  | i :: r, s1, ob, hi, L => by
    obtain ⟨a, b, e1⟩ := loft_run (ob := ob) hl (hi i List.mem_cons_self)
    obtain ⟨ob1, e2, dr⟩ := right_run (ob := ob ++ [lst3 a b 0]) (l := ob.length) (a := a) (b := b) (c := 0) (by simp) (L.snoc a b 0).ok
    obtain ⟨s1', ob', e3⟩ := lawGo hl r (.d (.int (i : Nat))) ob1 (fun i h => hi i (List.mem_cons_of_mem _ h)) ((L.snoc a b 0).drew dr)
    refine ⟨s1', ob', ?_⟩
    show (M.bnd (M.ret true) fun b => if b = true then M.bnd lawE fun x => M.bnd (lcGo [1] (setN 1) (M.ret true) lawE (r.map fun i => D.int (i : Nat))) fun xs => M.ret (x :: xs) else lcGo [1] (setN 1) (M.ret true) lawE (r.map fun i => D.int (i : Nat))) ⟨[.d (.klst (ns.map .int)), .d (.int (i : Nat))], ob⟩ = _
    have el : lawE ⟨[.d (.klst (ns.map .int)), .d (.int (i : Nat))], ob⟩ = .ok (.bl true) ⟨[.d (.klst (ns.map .int)), .d (.int (i : Nat))], ob1⟩ := by
      simp only [lawE, callE_ap, seqM_cons, seqM_nil, vget_ap, List.getElem?_cons_succ, List.getElem?_cons_zero, Res.bnd_ok, bnd_ap, ret_ap, callF_ap, e1, after_ok, e2]
    rw [bnd_ap, ret_ap, Res.bnd_ok, if_pos rfl, bnd_ap, el, Res.bnd_ok, bnd_ap, e3, Res.bnd_ok]
    rfl
theorem law_run {ns : List Int} (hl : ns.length ≤ 63) : ∃ S, F_law [.klst (ns.map .int)] [] = .ok (.bl true) S := by
  have el : lenM (.klst (ns.map .int)) = M.ret (.int ns.length) := by rw [lenM_klst, List.length_map]
  obtain ⟨n, hn, h3, e0⟩ : ∃ n : Nat, 1 ≤ n ∧ n ≤ 3 ∧ op2 (M.ret (.int 1)) (op2 (M.bnd (vget 0) lenM) (M.ret (.int 3)) minM) maxM ⟨[.d (.klst (ns.map .int)), .no], []⟩ = .ok (.int (n : Int)) ⟨[.d (.klst (ns.map .int)), .no], []⟩ := by
    have key : ∀ m : Int, (if (m : Int) > 1 then m else 1) = ((if m > 1 then m else 1).toNat : Int) := fun m => by split <;> omega
    refine ⟨(if (if (3 : Int) < ns.length then (3 : Int) else ns.length) > 1 then (if (3 : Int) < ns.length then (3 : Int) else ns.length) else 1).toNat, ?_, ?_, ?_⟩
    · split <;> split <;> omega
    · split <;> split <;> omega
    · simp only [op2_ap, bnd_ap, vget_ap, List.getElem?_cons_succ, List.getElem?_cons_zero, Res.bnd_ok, ret_ap, el, minM_int, maxM_int]
      rw [← key]
  obtain ⟨s1', ob', e1⟩ := lawGo (ns := ns) (by omega) (List.range n) .no [] (fun i hi => by have := List.mem_range.mp hi; omega) (fun d hd => by cases hd)
  have er : rangeD 0 n = (List.range n).map fun i => D.int (i : Nat) := by
    unfold rangeD
    refine List.map_congr_left fun i _ => ?_
    show D.int (0 + (i : Int)) = _
    rw [Int.zero_add]
  have e2 : lcM [1] (rng1M (op2 (M.ret (.int 1)) (op2 (M.bnd (vget 0) lenM) (M.ret (.int 3)) minM) maxM)) (setN 1) (M.ret true) lawE ⟨[.d (.klst (ns.map .int)), .no], []⟩ = .ok (.lst ((List.range n).map fun _ => .bl true)) ⟨[.d (.klst (ns.map .int)), .no], ob'⟩ := by
    unfold lcM
    refine (bnd_of (rng1M_of e0 (by omega) (show ((n : Int)).toNat = n by omega))).trans ?_
    unfold lcF
    rw [if_pos (by simp [rangeD]; omega), er, e1]
    rfl
  have hb : bls ((List.range n).map fun _ => D.bl true) = some ((List.range n).map fun _ => true) := bls_map (fun _ => true) _
  have al : m_law ⟨[.d (.klst (ns.map .int)), .no], []⟩ = .ok (.rt (.bl true)) ⟨[.d (.klst (ns.map .int)), .no], ob'⟩ := by
    unfold m_law
    refine retS_of ((bnd_of e2).trans ?_)
    rw [allM_lst, hb]
    dsimp only
    have h2 : ((List.range n).map fun _ => true).all id = true := by simp
    rw [h2]
    rfl
  refine ⟨⟨[], ob'⟩, ?_⟩
  show fnM 2 1 m_law [.klst (ns.map .int)] [] = _
  rw [fnM1]
  show fnR (m_law ⟨[.d (.klst (ns.map .int)), .no], []⟩) = _
  rw [al]
  rfl
end
end LW
end
theorem PySem.Challenge.cw_rainbowways_k83_whole_texts_of_webs_holds : PySem.Challenge.rw_rainbowways_k83_whole_texts_of_webs.Holds :=
  LW.holds_of fun ns h _ => LW.law_run h
