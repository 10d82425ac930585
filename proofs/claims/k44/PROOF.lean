import PyProof.Rows.All
import HandS.ForMost
import HandS.Deep
import HandS.Defaults
import HandS.TupAny
import HandS.IsInst
import HandS.Wide
import HandS.Style
import HandS.More
import HandS.Text
import PySem.Challenge.RW_bracketyard_k44_formulas_and_steps
import HandS.HeadHook2
import Wide.All
import OpenK.AllK
import Wide.FinOn
import KE.KStateDown
import HandS.Head0
import HandS.Head1
import HandS.Head2
import HandS.HeadEnd
import HandS.HeadHook1
set_option Elab.async false
set_option linter.all false
set_option maxRecDepth 100000
set_option maxHeartbeats 0
/-! Z: data, the interpreter's state, how they stand in the abstract heap. -/
namespace Z
open PySem PySem.Spec PyProof.Rows L2

/-- data: what a Python value tells. obj i: the i-th shared object; scr: the script -/
inductive D where
  | none | bl (b : Bool) | int (i : Int) | str (s : Str)
  | tup (ds : List D) | lst (ds : List D) | dic (ks vs : List D) | obj (i : Nat) | scr (ns : List Int)
deriving Inhabited

/-- a shared object -/
inductive SO where
  | lst (ds : List D)
  | ins (c : Nat) (fs : List (Str × D))
deriving Inhabited

inductive Slot where
  | un | pu (d : D) | ow (d : D)
deriving Inhabited

structure Gh where
  ρ : List Slot
  st : List SO
  As : List Addr
  M : List Addr

def hid (M : List Addr) (H : Hp) : Hp := fun a => if a ∈ M then none else H a
theorem hid_of {M : List Addr} {H : Hp} {a : Addr} {o : HO} (h : hid M H a = some o) : a ∉ M ∧ H a = some o := by
  unfold hid at h
  split at h
  · cases h
  · rename_i n; exact ⟨n, h⟩
theorem hid_mk {M : List Addr} {H : Hp} {a : Addr} {o : HO} (n : a ∉ M) (h : H a = some o) : hid M H a = some o := by
  unfold hid; rw [if_neg n]; exact h

/-- what a dict's object holds, raw (told later) -/
def DicAt (K : PySem.W.Frag) (H : Hp) (a : Addr) (ks vs : List V) : Prop := False

mutual
def Rep (K : PySem.W.Frag) (As : List Addr) (H : Hp) : D → V → Prop
  | .none, v => v = .non
  | .bl b, v => v = .bl b
  | .int i, v => v = .int i
  | .str s, v => v = .str s
  | .tup ds, v => ∃ a vs, v = .ref a ∧ H a = some (.tup vs) ∧ Reps K As H ds vs
  | .lst ds, v => ∃ a vs, v = .ref a ∧ H a = some (.lst vs) ∧ Reps K As H ds vs
  | .dic ks ws, v => ∃ a us vs, v = .ref a ∧ DicAt K H a us vs ∧ Reps K As H ks us ∧ Reps K As H ws vs
  | .obj i, v => ∃ a, v = .ref a ∧ As[i]? = some a
  | .scr ns, v => ∃ a, v = .ref a ∧ SqL K H a (ns.map V.int)
def Reps (K : PySem.W.Frag) (As : List Addr) (H : Hp) : List D → List V → Prop
  | [], vs => vs = []
  | d :: ds, vs => ∃ v ws, vs = v :: ws ∧ Rep K As H d v ∧ Reps K As H ds ws
end

section
variable {K : PySem.W.Frag} {As As' : List Addr} {H H' : Hp}
mutual
theorem Rep.mono (hA : ∀ (i : Nat) (a : Addr), As[i]? = some a → As'[i]? = some a) (hv : Same H H') : ∀ {d : D} {v : V}, Rep K As H d v → Rep K As' H' d v
  | .none, _, h => h
  | .bl _, _, h => h
  | .int _, _, h => h
  | .str _, _, h => h
  | .tup ds, v, h => by
    obtain ⟨a, vs, e, h1, h2⟩ := h
    exact ⟨a, vs, e, hv _ _ h1, Reps.mono hA hv h2⟩
  | .lst ds, v, h => by
    obtain ⟨a, vs, e, h1, h2⟩ := h
    exact ⟨a, vs, e, hv _ _ h1, Reps.mono hA hv h2⟩
  | .dic ks ws, v, h => by
    obtain ⟨a, us, vs, e, h1, h2, h3⟩ := h
    exact h1.elim
  | .obj i, v, h => by
    obtain ⟨a, e, h1⟩ := h
    exact ⟨a, e, hA _ _ h1⟩
  | .scr ns, v, h => by
    obtain ⟨a, e, h1⟩ := h
    exact ⟨a, e, hv.seq h1⟩
theorem Reps.mono (hA : ∀ (i : Nat) (a : Addr), As[i]? = some a → As'[i]? = some a) (hv : Same H H') : ∀ {ds : List D} {vs : List V}, Reps K As H ds vs → Reps K As' H' ds vs
  | [], _, h => h
  | d :: ds, vs, h => by
    obtain ⟨v, ws, e, h1, h2⟩ := h
    exact ⟨v, ws, e, Rep.mono hA hv h1, Reps.mono hA hv h2⟩
end
theorem Reps.length : ∀ {ds : List D} {vs : List V}, Reps K As H ds vs → vs.length = ds.length
  | [], _, h => by rw [h]; rfl
  | d :: ds, vs, h => by
    obtain ⟨v, ws, rfl, _, h2⟩ := h
    simp [Reps.length h2]
theorem Reps.get : ∀ {ds : List D} {vs : List V} {i : Nat} {d : D}, Reps K As H ds vs → ds[i]? = some d → ∃ v, vs[i]? = some v ∧ Rep K As H d v
  | [], _, i, d, _, e => by simp at e
  | d :: ds, vs, 0, d', h, e => by
    obtain ⟨v, ws, rfl, h1, h2⟩ := h
    simp at e; subst e
    exact ⟨v, rfl, h1⟩
  | d :: ds, vs, i + 1, d', h, e => by
    obtain ⟨v, ws, rfl, h1, h2⟩ := h
    simp at e
    obtain ⟨u, q1, q2⟩ := Reps.get h2 e
    exact ⟨u, by simpa using q1, q2⟩
theorem Reps.get' : ∀ {ds : List D} {vs : List V} {i : Nat} {v : V}, Reps K As H ds vs → vs[i]? = some v → ∃ d, ds[i]? = some d ∧ Rep K As H d v
  | [], _, i, d, h, e => by rw [h] at e; simp at e
  | d :: ds, vs, 0, d', h, e => by
    obtain ⟨v, ws, rfl, h1, h2⟩ := h
    simp at e; subst e
    exact ⟨d, rfl, h1⟩
  | d :: ds, vs, i + 1, d', h, e => by
    obtain ⟨v, ws, rfl, h1, h2⟩ := h
    simp at e
    obtain ⟨u, q1, q2⟩ := Reps.get' h2 e
    exact ⟨u, by simpa using q1, q2⟩
theorem Reps.nil : Reps K As H [] [] := rfl
theorem Reps.cons {d : D} {ds : List D} {v : V} {vs : List V} (h : Rep K As H d v) (hs : Reps K As H ds vs) : Reps K As H (d :: ds) (v :: vs) := ⟨v, vs, rfl, h, hs⟩
theorem Reps.append : ∀ {ds es : List D} {vs ws : List V}, Reps K As H ds vs → Reps K As H es ws → Reps K As H (ds ++ es) (vs ++ ws)
  | [], es, vs, ws, h, h' => by rw [show vs = [] from h]; exact h'
  | d :: ds, es, vs, ws, h, h' => by
    obtain ⟨v, us, rfl, h1, h2⟩ := h
    exact .cons h1 (Reps.append h2 h')
theorem Reps.take : ∀ {ds : List D} {vs : List V} (n : Nat), Reps K As H ds vs → Reps K As H (ds.take n) (vs.take n)
  | _, _, 0, _ => rfl
  | [], vs, n + 1, h => by rw [show vs = [] from h]; rfl
  | d :: ds, vs, n + 1, h => by
    obtain ⟨v, us, rfl, h1, h2⟩ := h
    exact .cons h1 (Reps.take n h2)
theorem Reps.drop : ∀ {ds : List D} {vs : List V} (n : Nat), Reps K As H ds vs → Reps K As H (ds.drop n) (vs.drop n)
  | _, _, 0, h => h
  | [], vs, n + 1, h => by rw [show vs = [] from h]; rfl
  | d :: ds, vs, n + 1, h => by
    obtain ⟨v, us, rfl, h1, h2⟩ := h
    exact Reps.drop n h2
theorem Reps.set {d : D} {v : V} (r : Rep K As H d v) : ∀ {ds : List D} {vs : List V} (i : Nat), Reps K As H ds vs → Reps K As H (ds.set i d) (vs.set i v)
  | [], vs, i, h => by rw [show vs = [] from h]; rfl
  | _ :: _, _, 0, h => by
    obtain ⟨v, us, rfl, h1, h2⟩ := h
    exact .cons r h2
  | _ :: _, _, i + 1, h => by
    obtain ⟨v, us, rfl, h1, h2⟩ := h
    exact .cons h1 (Reps.set r i h2)
theorem Reps.eraseIdx : ∀ {ds : List D} {vs : List V} (i : Nat), Reps K As H ds vs → Reps K As H (ds.eraseIdx i) (vs.eraseIdx i)
  | [], vs, i, h => by rw [show vs = [] from h]; rfl
  | _ :: _, _, 0, h => by
    obtain ⟨v, us, rfl, h1, h2⟩ := h
    exact h2
  | _ :: _, _, i + 1, h => by
    obtain ⟨v, us, rfl, h1, h2⟩ := h
    exact .cons h1 (Reps.eraseIdx i h2)
theorem Reps.reverse : ∀ {ds : List D} {vs : List V}, Reps K As H ds vs → Reps K As H ds.reverse vs.reverse
  | [], vs, h => by rw [show vs = [] from h]; rfl
  | d :: ds, vs, h => by
    obtain ⟨v, us, rfl, h1, h2⟩ := h
    rw [List.reverse_cons, List.reverse_cons]
    exact (Reps.reverse h2).append (.cons h1 .nil)
theorem Reps.of_ints : ∀ (ns : List Int), Reps K As H (ns.map D.int) (ns.map V.int)
  | [] => rfl
  | n :: ns => .cons rfl (Reps.of_ints ns)
end

/-- an owned container's content -/
def Cel (K : PySem.W.Frag) (As : List Addr) (Hh H : Hp) (d : D) (p : Addr) : Prop := match d with
  | .lst ds => ∃ vs, H p = some (.lst vs) ∧ Reps K As Hh ds vs
  | .dic ks ws => ∃ us vs, DicAt K H p us vs ∧ Reps K As Hh ks us ∧ Reps K As Hh ws vs
  | _ => False
def SOk (K : PySem.W.Frag) (As : List Addr) (Hh H : Hp) (so : SO) (a : Addr) : Prop := match so with
  | .lst ds => ∃ vs, H a = some (.lst vs) ∧ Reps K As Hh ds vs
  | .ins _ _ => False

def Own (ρ : List Slot) (σ : L2.St) (p : Addr) : Prop := ∃ (i : Nat) (d : D), ρ[i]? = some (.ow d) ∧ σ[i]? = some (some (.ref p))

def SlotOk (K : PySem.W.Frag) (g : Gh) (H : Hp) (s : Slot) (x : Option (Option V)) : Prop := match s with
  | .un => True
  | .pu d => ∃ v, x = some (some v) ∧ Rep K g.As (hid g.M H) d v
  | .ow d => ∃ p, x = some (some (.ref p)) ∧ p ∈ g.M ∧ Cel K g.As (hid g.M H) H d p

structure Good (K : PySem.W.Frag) (g : Gh) (σ : L2.St) (H : Hp) : Prop where
  len : g.ρ.length = σ.length
  slot : ∀ (i : Nat) (s : Slot), g.ρ[i]? = some s → SlotOk K g H s (σ[i]?)
  inj : ∀ (i j : Nat) (d d' : D) (p : Addr), g.ρ[i]? = some (.ow d) → g.ρ[j]? = some (.ow d') → σ[i]? = some (some (.ref p)) → σ[j]? = some (some (.ref p)) → i = j
  oas : ∀ p, Own g.ρ σ p → p ∉ g.As
  sto : ∀ (i : Nat) (so : SO), g.st[i]? = some so → ∃ a, g.As[i]? = some a ∧ SOk K g.As (hid g.M H) H so a
  asl : g.st.length = g.As.length
  asn : g.As.Nodup
  asm : ∀ a ∈ g.As, a ∈ g.M
  trk : ∀ p ∈ g.M, H p ≠ none

structure Ext (g : Gh) (σ : L2.St) (H : Hp) (g' : Gh) (σ' : L2.St) (H' : Hp) : Prop where
  pre : ∃ more, g'.As = g.As ++ more ∧ ∀ a ∈ more, H a = none
  vis : ∀ b o, b ∉ g.M → H b = some o → b ∉ g'.M ∧ H' b = some o
  kep : ∀ p ∈ g.M, p ∉ g.As → ¬ Own g.ρ σ p → p ∈ g'.M ∧ H' p = H p
  trk : ∀ b, H b ≠ none → H' b ≠ none
  own : ∀ p, Own g'.ρ σ' p → Own g.ρ σ p ∨ H p = none

section
variable {K : PySem.W.Frag} {g g' g'' : Gh} {σ σ' σ'' : L2.St} {H H' H'' : Hp}
theorem Ext.refl : Ext g σ H g σ H := ⟨⟨[], by simp⟩, fun _ _ n h => ⟨n, h⟩, fun _ h _ _ => ⟨h, rfl⟩, fun _ h => h, fun _ h => .inl h⟩
theorem Ext.asget (e : Ext g σ H g' σ' H') (i : Nat) (a : Addr) (h : g.As[i]? = some a) : g'.As[i]? = some a := by
  obtain ⟨more, q, _⟩ := e.pre
  rw [q, List.getElem?_append_left (List.getElem?_eq_some_iff.mp h).1]
  exact h
theorem Ext.same (e : Ext g σ H g' σ' H') : Same (hid g.M H) (hid g'.M H') := fun b o h => by
  obtain ⟨n, q⟩ := hid_of h
  obtain ⟨n', q'⟩ := e.vis b o n q
  exact hid_mk n' q'
theorem Ext.rep (e : Ext g σ H g' σ' H') {d : D} {v : V} (r : Rep K g.As (hid g.M H) d v) : Rep K g'.As (hid g'.M H') d v := r.mono e.asget e.same
theorem Ext.reps (e : Ext g σ H g' σ' H') {d : List D} {v : List V} (r : Reps K g.As (hid g.M H) d v) : Reps K g'.As (hid g'.M H') d v := r.mono e.asget e.same
theorem Ext.fresh (e : Ext g σ H g' σ' H') {p : Addr} (h : H' p = none) : H p = none := by
  cases q : H p with
  | none => rfl
  | some o => exact absurd h (e.trk p (by rw [q]; exact fun z => nomatch z))
theorem Ext.trans (G : Good K g σ H) (a : Ext g σ H g' σ' H') (b : Ext g' σ' H' g'' σ'' H'') : Ext g σ H g'' σ'' H'' := by
  refine ⟨?_, fun c o n h => ?_, fun p hp hA hO => ?_, fun c h => b.trk c (a.trk c h), fun p h => ?_⟩
  · obtain ⟨m1, e1, f1⟩ := a.pre
    obtain ⟨m2, e2, f2⟩ := b.pre
    refine ⟨m1 ++ m2, by rw [e2, e1, List.append_assoc], fun c hc => ?_⟩
    rcases List.mem_append.mp hc with h | h
    · exact f1 c h
    · exact a.fresh (f2 c h)
  · obtain ⟨n1, h1⟩ := a.vis c o n h
    exact b.vis c o n1 h1
  · obtain ⟨h1, e1⟩ := a.kep p hp hA hO
    have nn := G.trk p hp
    obtain ⟨m1, q1, f1⟩ := a.pre
    obtain ⟨h2, e2⟩ := b.kep p h1 (by
      rw [q1]
      intro z
      rcases List.mem_append.mp z with z | z
      · exact hA z
      · exact nn (f1 p z)) (fun z => by
        rcases a.own p z with z | z
        · exact hO z
        · exact nn z)
    exact ⟨h2, e2.trans e1⟩
  · rcases b.own p h with h | h
    · exact a.own p h
    · exact .inr (a.fresh h)
end
end Z

/-! Z2: the interpreter's monad; what a computation means at a place. -/
namespace Z
open PySem PySem.Spec PyProof.Rows L2

structure S where
  ρ : List Slot
  st : List SO

inductive Out (α : Type) where
  | ok (a : α) (s : S)
  | exc (c : Nat) (fs : List (Str × D)) (s : S)
  | bad

def M (α : Type) : Type := S → Out α
def M.pure {α : Type} (a : α) : M α := fun s => .ok a s
def M.bind {α β : Type} (m : M α) (f : α → M β) : M β := fun s => match m s with
  | .ok a s' => f a s'
  | .exc c fs s' => .exc c fs s'
  | .bad => .bad
instance : Monad M where
  pure := M.pure
  bind := M.bind
def bad {α : Type} : M α := fun _ => .bad
def getS : M S := fun s => .ok s s
def putS (s : S) : M Unit := fun _ => .ok () s
def liftO {α : Type} (o : Option α) : M α := fun s => match o with
  | some a => .ok a s
  | none => .bad
/-- the computations that raise nothing: a raise is bad -/
def calm {α : Type} (m : M α) : M α := fun s => match m s with
  | .ok a s' => .ok a s'
  | _ => .bad
theorem pure_run {α : Type} (a : α) (s : S) : (Pure.pure a : M α) s = .ok a s := rfl
theorem bind_run {α β : Type} (m : M α) (f : α → M β) (s : S) : (m >>= f) s = match m s with
  | .ok a s' => f a s'
  | .exc c fs s' => .exc c fs s'
  | .bad => .bad := rfl

abbrev Gh.S (g : Gh) : S := ⟨g.ρ, g.st⟩
abbrev WX := Nat → List (Str × D) → Gh → Hp → Prop

/-- what follows a computation -/
def At (K : PySem.W.Frag) (w : WX) {α : Type} (m : M α) (g : Gh) (σ : L2.St) (H : Hp) (k : α → Gh → Hp → Prop) : Prop := match m g.S with
  | .ok a s' => ∀ As' M' H', Good K ⟨s'.ρ, s'.st, As', M'⟩ σ H' → Ext g σ H ⟨s'.ρ, s'.st, As', M'⟩ σ H' → k a ⟨s'.ρ, s'.st, As', M'⟩ H'
  | .exc c fs s' => ∀ As' M' H', Good K ⟨s'.ρ, s'.st, As', M'⟩ σ H' → Ext g σ H ⟨s'.ρ, s'.st, As', M'⟩ σ H' → w c fs ⟨s'.ρ, s'.st, As', M'⟩ H'
  | .bad => False

section
variable {K : PySem.W.Frag} {w : WX} {α β : Type} {g : Gh} {σ : L2.St} {H : Hp}
theorem At.bind {m : M α} {f : α → M β} {k : β → Gh → Hp → Prop} (G : Good K g σ H) (h : At K w (m >>= f) g σ H k) :
    At K w m g σ H fun a g1 H1 => Good K g1 σ H1 ∧ Ext g σ H g1 σ H1 ∧ At K w (f a) g1 σ H1 k := by
  unfold At at h ⊢
  rw [bind_run] at h
  cases e : m g.S with
  | bad => rw [e] at h; exact h
  | exc c fs s' => rw [e] at h; exact h
  | ok a s1 =>
    rw [e] at h
    intro As1 M1 H1 G1 E1
    refine ⟨G1, E1, ?_⟩
    show match (f a) s1 with
      | .ok b s' => _
      | .exc c fs s' => _
      | .bad => False
    have h : match (f a) s1 with
      | .ok b s' => ∀ As' M' H', Good K ⟨s'.ρ, s'.st, As', M'⟩ σ H' → Ext g σ H ⟨s'.ρ, s'.st, As', M'⟩ σ H' → k b ⟨s'.ρ, s'.st, As', M'⟩ H'
      | .exc c fs s' => ∀ As' M' H', Good K ⟨s'.ρ, s'.st, As', M'⟩ σ H' → Ext g σ H ⟨s'.ρ, s'.st, As', M'⟩ σ H' → w c fs ⟨s'.ρ, s'.st, As', M'⟩ H'
      | .bad => False := h
    cases e2 : (f a) s1 with
    | bad => rw [e2] at h; exact h
    | exc c fs s' => rw [e2] at h; exact fun As' M' H' G' E' => h As' M' H' G' (E1.trans G E')
    | ok b s' => rw [e2] at h; exact fun As' M' H' G' E' => h As' M' H' G' (E1.trans G E')
theorem At.imp {m : M α} {k k' : α → Gh → Hp → Prop} (h : At K w m g σ H k) (i : ∀ a g1 H1, Good K g1 σ H1 → Ext g σ H g1 σ H1 → k a g1 H1 → k' a g1 H1) : At K w m g σ H k' := by
  unfold At at h ⊢
  cases e : m g.S with
  | bad => rw [e] at h; exact h
  | exc c fs s' => rw [e] at h; exact h
  | ok a s1 => rw [e] at h; exact fun As' M' H' G' E' => i _ _ _ G' E' (h As' M' H' G' E')
/-- a pure result -/
theorem At.pure_ {a : α} {k : α → Gh → Hp → Prop} (G : Good K g σ H) (h : At K w (Pure.pure a : M α) g σ H k) : k a g H := h g.As g.M H G Ext.refl
theorem At.of_pure {a : α} {k : α → Gh → Hp → Prop} (h : ∀ g1 H1, Good K g1 σ H1 → Ext g σ H g1 σ H1 → k a g1 H1) : At K w (Pure.pure a : M α) g σ H k := fun As' M' H' G' E' => h _ _ G' E'
theorem At.liftO_ {o : Option α} {k : α → Gh → Hp → Prop} (G : Good K g σ H) (h : At K w (liftO o) g σ H k) : ∃ a, o = some a ∧ k a g H := by
  cases o with
  | none => exact h.elim
  | some a => exact ⟨a, rfl, At.pure_ G h⟩
/-- the same result in a grown state -/
theorem At.liftE {o : Option α} {k : α → Gh → Hp → Prop} (h : At K w (liftO o) g σ H k) : ∃ a, o = some a ∧ ∀ As' M' H', Good K ⟨g.ρ, g.st, As', M'⟩ σ H' → Ext g σ H ⟨g.ρ, g.st, As', M'⟩ σ H' → k a ⟨g.ρ, g.st, As', M'⟩ H' := by
  cases o with
  | none => exact h.elim
  | some a => exact ⟨a, rfl, h⟩
end

/-- an expression's result: its data, whether the container is new and held by nobody -/
abbrev Rs := D × Bool
/-- a new container, held by nobody -/
structure New (K : PySem.W.Frag) (H0 : Hp) (g : Gh) (σ : L2.St) (H : Hp) (d : D) (p : Addr) : Prop where
  was : H0 p = none
  mem : p ∈ g.M
  nas : p ∉ g.As
  now : ¬ Own g.ρ σ p
  cel : Cel K g.As (hid g.M H) H d p
def RelR (K : PySem.W.Frag) (H0 : Hp) (g : Gh) (σ : L2.St) (H : Hp) (r : Rs) (v : V) : Prop :=
  if r.2 = true then ∃ p, v = .ref p ∧ New K H0 g σ H r.1 p else Rep K g.As (hid g.M H) r.1 v

theorem New.older {K : PySem.W.Frag} {H0 H1 : Hp} {g0 g1 g : Gh} {σ σ0 σ1 : L2.St} {H : Hp} {d : D} {p : Addr} (e : Ext g0 σ0 H0 g1 σ1 H1) (n : New K H1 g σ H d p) : New K H0 g σ H d p :=
  ⟨e.fresh n.was, n.mem, n.nas, n.now, n.cel⟩
theorem RelR.older {K : PySem.W.Frag} {H0 H1 : Hp} {g0 g1 g : Gh} {σ σ0 σ1 : L2.St} {H : Hp} {r : Rs} {v : V} (e : Ext g0 σ0 H0 g1 σ1 H1) (n : RelR K H1 g σ H r v) : RelR K H0 g σ H r v := by
  unfold RelR at n ⊢
  split
  · rename_i h; rw [if_pos h] at n; obtain ⟨p, e1, e2⟩ := n; exact ⟨p, e1, e2.older e⟩
  · rename_i h; rw [if_neg h] at n; exact n

section
variable {K : PySem.W.Frag} {g : Gh} {σ : L2.St} {H : Hp}
theorem mem_erase_ne {M : List Addr} {p q : Addr} : q ∈ M.filter (fun x => decide (x ≠ p)) ↔ q ∈ M ∧ q ≠ p := by
  simp [List.mem_filter]
theorem hid_filter {M : List Addr} {p : Addr} {H : Hp} : Same (hid M H) (hid (M.filter fun x => decide (x ≠ p)) H) := fun b o h => by
  obtain ⟨n, q⟩ := hid_of h
  exact hid_mk (fun z => n (mem_erase_ne.mp z).1) q
theorem Cel.rep {As : List Addr} {Hh : Hp} {d : D} {p : Addr} (h : Cel K As Hh H d p) (e : Hh p = H p) : Rep K As Hh d (.ref p) := by
  cases d with
  | lst ds => obtain ⟨vs, h1, h2⟩ := h; exact ⟨p, vs, rfl, e.trans h1, h2⟩
  | dic ks ws => obtain ⟨us, vs, h1, _⟩ := h; exact h1.elim
  | _ => exact h.elim
theorem Cel.some_ {As : List Addr} {Hh : Hp} {d : D} {p : Addr} (h : Cel K As Hh H d p) : H p ≠ none := by
  cases d with
  | lst ds => obtain ⟨vs, h1, h2⟩ := h; rw [h1]; exact fun z => nomatch z
  | dic ks ws => obtain ⟨us, vs, h1, _⟩ := h; exact h1.elim
  | _ => exact h.elim
theorem Cel.mono {As As' : List Addr} {Hh Hh' H' : Hp} {d : D} {p : Addr} (hA : ∀ (i : Nat) (a : Addr), As[i]? = some a → As'[i]? = some a) (hv : Same Hh Hh') (e : H' p = H p) (h : Cel K As Hh H d p) : Cel K As' Hh' H' d p := by
  cases d with
  | lst ds => obtain ⟨vs, h1, h2⟩ := h; exact ⟨vs, e.trans h1, h2.mono hA hv⟩
  | dic ks ws => obtain ⟨us, vs, h1, _⟩ := h; exact h1.elim
  | _ => exact h.elim
theorem SOk.mono {As As' : List Addr} {Hh Hh' H' : Hp} {so : SO} {p : Addr} (hA : ∀ (i : Nat) (a : Addr), As[i]? = some a → As'[i]? = some a) (hv : Same Hh Hh') (e : H' p = H p) (h : SOk K As Hh H so p) : SOk K As' Hh' H' so p := by
  cases so with
  | lst ds => obtain ⟨vs, h1, h2⟩ := h; exact ⟨vs, e.trans h1, h2.mono hA hv⟩
  | ins c fs => exact h.elim
/-- p leaves the hidden ones: it is no slot's, no shared one's -/
theorem Good.show_ {p : Addr} (G : Good K g σ H) (nas : p ∉ g.As) (now : ¬ Own g.ρ σ p) : Good K { g with M := g.M.filter fun x => decide (x ≠ p) } σ H := by
  have hA : ∀ (i : Nat) (a : Addr), g.As[i]? = some a → g.As[i]? = some a := fun _ _ h => h
  refine ⟨G.len, fun i s h => ?_, G.inj, G.oas, fun i so h => ?_, G.asl, G.asn, fun a h => ?_, fun q h => G.trk q (mem_erase_ne.mp h).1⟩
  · have q := G.slot i s h
    cases s with
    | un => trivial
    | pu d => obtain ⟨v, e, r⟩ := q; exact ⟨v, e, r.mono hA hid_filter⟩
    | ow d =>
      obtain ⟨a, e, m, c⟩ := q
      exact ⟨a, e, mem_erase_ne.mpr ⟨m, fun z => now (z ▸ ⟨i, d, h, e⟩)⟩, c.mono hA hid_filter rfl⟩
  · obtain ⟨a, e, q⟩ := G.sto i so h
    exact ⟨a, e, q.mono hA hid_filter rfl⟩
  · exact mem_erase_ne.mpr ⟨G.asm a h, fun z => nas (z ▸ h)⟩
theorem Ext.show_ {g0 : Gh} {σ0 : L2.St} {H0 : Hp} {p : Addr} (G0 : Good K g0 σ0 H0) (e : Ext g0 σ0 H0 g σ H) (was : H0 p = none) : Ext g0 σ0 H0 { g with M := g.M.filter fun x => decide (x ≠ p) } σ H :=
  ⟨e.pre, fun b o n h => let ⟨a, c⟩ := e.vis b o n h; ⟨fun z => a (mem_erase_ne.mp z).1, c⟩, fun q hq h1 h2 => let ⟨a, c⟩ := e.kep q hq h1 h2; ⟨mem_erase_ne.mpr ⟨a, fun z => G0.trk q hq (z ▸ was)⟩, c⟩, e.trk, e.own⟩
theorem New.rep {H0 : Hp} {d : D} {p : Addr} (n : New K H0 g σ H d p) : Rep K g.As (hid (g.M.filter fun x => decide (x ≠ p)) H) d (.ref p) := by
  refine (n.cel.mono (fun _ _ h => h) hid_filter rfl).rep ?_
  unfold hid
  rw [if_neg (fun z => (mem_erase_ne.mp z).2 rfl)]
end

/-! ### readings -/
/-- an expression as the interpreter has it -/
def Tr (K : PySem.W.Frag) (w : WX) (m : M Rs) : TE := fun σ H Q => ∃ g, Good K g σ H ∧ At K w m g σ H fun r g1 H1 => ∀ v, RelR K H g1 σ H1 r v → Q v H1
/-- .. its data alone -/
def Td (K : PySem.W.Frag) (w : WX) (m : M D) : TE := fun σ H Q => ∃ g, Good K g σ H ∧ At K w m g σ H fun d g1 H1 => ∀ v, Rep K g1.As (hid g1.M H1) d v → Q v H1
/-- an operand: a value, or a slot that is looked up later -/
inductive Opd where
  | val (d : D) | slot (i : Nat)
def RelO (K : PySem.W.Frag) (g : Gh) (σ : L2.St) (H : Hp) : Opd → V → Prop
  | .val d, v => Rep K g.As (hid g.M H) d v
  | .slot i, v => σ[i]? = some (some v)
def To (K : PySem.W.Frag) (w : WX) (m : M Opd) : TE := fun σ H Q => ∃ g, Good K g σ H ∧ At K w m g σ H fun o g1 H1 => ∀ v, RelO K g1 σ H1 o v → Q v H1
def Tt (K : PySem.W.Frag) (w : WX) (m : M Bool) : TT := fun σ H Q => ∃ g, Good K g σ H ∧ At K w m g σ H fun b _ H1 => Q b H1
inductive RelOs (K : PySem.W.Frag) (g : Gh) (σ : L2.St) (H : Hp) : List Opd → List V → Prop
  | nil : RelOs K g σ H [] []
  | cons {o : Opd} {os : List Opd} {v : V} {vs : List V} : RelO K g σ H o v → RelOs K g σ H os vs → RelOs K g σ H (o :: os) (v :: vs)
def Tos (K : PySem.W.Frag) (w : WX) (m : M (List Opd)) : TA := fun σ H Q => ∃ g, Good K g σ H ∧ At K w m g σ H fun os g1 H1 => ∀ vs, RelOs K g1 σ H1 os vs → Q vs H1
def Tds (K : PySem.W.Frag) (w : WX) (m : M (List D)) : TA := fun σ H Q => ∃ g, Good K g σ H ∧ At K w m g σ H fun os g1 H1 => ∀ vs, Reps K g1.As (hid g1.M H1) os vs → Q vs H1

theorem _root_.L2.PE.weak {X : Cx} {e : Expr} {t t' : TE} (h : PE X e t) (i : ∀ σ H Q, t' σ H Q → t σ H Q) : PE X e t' := ⟨fun pins s σ H Q I q => h.run pins s σ H Q I (i σ H Q q)⟩
theorem _root_.L2.PT.weak {X : Cx} {e : Expr} {t t' : TT} (h : PT X e t) (i : ∀ σ H Q, t' σ H Q → t σ H Q) : PT X e t' := ⟨fun pins s σ H Q I q => h.run pins s σ H Q I (i σ H Q q)⟩
theorem _root_.L2.PA.weak {X : Cx} {e : List Expr} {t t' : TA} (h : PA X e t) (i : ∀ σ H Q, t' σ H Q → t σ H Q) : PA X e t' := ⟨fun pos pins s σ H Q I q => h.run pos pins s σ H Q I (i σ H Q q)⟩
theorem _root_.L2.PS.weak {X : Cx} {e : Stmt} {t t' : TS} (h : PS X e t) (i : ∀ D σ H, t' D σ H → t D σ H) : PS X e t' := ⟨fun pins s σ H D I q => h.run pins s σ H D I (i D σ H q)⟩
theorem _root_.L2.PSs.weak {X : Cx} {e : List Stmt} {t t' : TS} (h : PSs X e t) (i : ∀ D σ H, t' D σ H → t D σ H) : PSs X e t' := ⟨fun pins s σ H D I q => h.run pins s σ H D I (i D σ H q)⟩

/-- the data of an expression: a new container is let go -/
def dat (m : M Rs) : M D := do
  let r ← m
  Pure.pure r.1
section
variable {K : PySem.W.Frag} {w : WX} {g : Gh} {σ : L2.St} {H : Hp}
theorem At.dat_ {m : M Rs} {k : D → Gh → Hp → Prop} (G : Good K g σ H) (h : At K w (dat m) g σ H k) :
    At K w m g σ H fun r g1 H1 => ∀ v, RelR K H g1 σ H1 r v → ∃ g2, Good K g2 σ H1 ∧ Ext g σ H g2 σ H1 ∧ Rep K g2.As (hid g2.M H1) r.1 v ∧ k r.1 g2 H1 := by
  unfold At at h ⊢
  unfold dat at h
  rw [bind_run] at h
  cases e : m g.S with
  | bad => rw [e] at h; exact h
  | exc c fs s' => rw [e] at h; exact h
  | ok r s1 =>
    rw [e] at h
    intro As1 M1 H1 G1 E1 v rv
    have h : ∀ As' M' H', Good K ⟨s1.ρ, s1.st, As', M'⟩ σ H' → Ext g σ H ⟨s1.ρ, s1.st, As', M'⟩ σ H' → k r.1 ⟨s1.ρ, s1.st, As', M'⟩ H' := h
    unfold RelR at rv
    split at rv
    · obtain ⟨p, rfl, n⟩ := rv
      have G2 := G1.show_ n.nas n.now
      have E2 := E1.show_ G n.was
      exact ⟨_, G2, E2, n.rep, h _ _ _ G2 E2⟩
    · exact ⟨_, G1, E1, rv, h _ _ _ G1 E1⟩
/-- an operand: a name stands for its slot -/
def opd (m : M Rs) : M Opd := do
  let d ← dat m
  Pure.pure (.val d)
theorem At.opd_ {m : M Rs} {k : Opd → Gh → Hp → Prop} (G : Good K g σ H) (h : At K w (opd m) g σ H k) :
    At K w m g σ H fun r g1 H1 => ∀ v, RelR K H g1 σ H1 r v → ∃ g2, Good K g2 σ H1 ∧ Ext g σ H g2 σ H1 ∧ Rep K g2.As (hid g2.M H1) r.1 v ∧ k (.val r.1) g2 H1 := by
  have h2 : At K w (dat m) g σ H (fun d g1 H1 => k (.val d) g1 H1) := (At.bind G h).imp fun d g1 H1 G1 E1 ⟨_, _, q⟩ => At.pure_ G1 q
  exact At.dat_ G h2
end
section
variable {X : Cx} {w : WX} {e : Expr}
theorem Tr.dat {m : M Rs} (h : PE X e (Tr X.K w m)) : PE X e (Td X.K w (dat m)) := h.weak fun σ H Q ⟨g, G, q⟩ => ⟨g, G, (At.dat_ G q).imp fun r g1 H1 _ _ q2 v rv => by
  obtain ⟨g2, G2, E2, r2, k2⟩ := q2 v rv
  exact k2 v r2⟩
theorem Tr.opd {m : M Rs} (h : PE X e (Tr X.K w m)) : PE X e (To X.K w (opd m)) := h.weak fun σ H Q ⟨g, G, q⟩ => ⟨g, G, (At.opd_ G q).imp fun r g1 H1 _ _ q2 v rv => by
  obtain ⟨g2, G2, E2, r2, k2⟩ := q2 v rv
  exact k2 v r2⟩
end
end Z

/-! Z3: the interpreter's language and its evaluation. -/
namespace Z
open PySem PySem.Spec PyProof.Rows L2

inductive BOp where
  | add | sub | mul | fdiv | mod | pow
deriving DecidableEq
inductive COp where
  | eq | ne | lt | le | gt | ge | isin | notin
deriving DecidableEq
inductive Ty where
  | int | bool | str | tuple | list
deriving DecidableEq
inductive Blt where
  | len | tuple | list | max2 | abs | sum | all | any
deriving DecidableEq
inductive Tg where
  | nm (i : Nat)
  | tup (ts : List Tg)
inductive IK where
  | seq | rng1 | rng2 | enum | zip
deriving DecidableEq

inductive Ex where
  | var (i : Nat)
  | con (d : D)
  | tup (es : List Ex)
  | lst (es : List Ex)
  | shr (e : Ex)
  | bin (op : BOp) (a b : Ex)
  | neg (a : Ex)
  | cmp (op : COp) (a b : Ex)
  | cmp2 (op op' : COp) (a b c : Ex)
  | isN (no : Bool) (a : Ex)
  | and2 (a b : Ex)
  | or2 (a b : Ex)
  | not1 (a : Ex)
  | ife (c a b : Ex)
  | idx (a i : Ex)
  | sli (a : Ex) (lo hi : Option Ex)
  | rev (a : Ex)
  | call (f : Nat) (es : List Ex)
  | blt (b : Blt) (es : List Ex)
  | isi (ts : List Ty) (a : Ex)
  | lc (elt : Ex) (tg : Tg) (ik : IK) (src conds : List Ex) (own : List Nat)
  | popk (i : Nat) (k : Ex)
  | popl (i : Nat)

inductive Sm where
  | asg (i : Nat) (e : Ex)
  | asgT (ts : List Tg) (e : Ex)
  | aug (op : BOp) (i : Nat) (e : Ex)
  | setI (o k e : Ex)
  | app (i : Nat) (e : Ex)
  | ext (i : Nat) (e : Ex)
  | ins (i : Nat) (k e : Ex)
  | expr (e : Ex)
  | ret (e : Ex)
  | retN
  | ife (c : Ex) (a b : List Sm)
  | forE (tg : Tg) (ik : IK) (src : List Ex) (body : List Sm)
  | whil (c : Ex) (body : List Sm)
  | brk | cont | pass

inductive Flow where
  | nx | brk | cont | ret (r : Rs)

/-- a call's result: the data, the shared objects behind it -/
inductive R where
  | ok (r : Rs) (st : List SO)
  | exc (c : Nat) (fs : List (Str × D)) (st : List SO)
  | bad
abbrev CallT := Nat → List D → List SO → R

/-! ### operations on data -/
def line : Nat := 16777216
theorem line_eq : line = sizeLine := by rw [sizeLine_eq]; rfl
def mulOk (i j : Int) : Bool := decide (i.natAbs < 2 ^ 64) || (decide (j.natAbs < 2 ^ 64) || decide (i.natAbs.log2 + j.natAbs.log2 < 1000000))

-- the plain data that HandS compares
mutual
def toP : D → PyData
  | .none => .none
  | .bl b => .bool b
  | .int i => .int i
  | .str s => .str s
  | .tup ds => .tuple (toPs ds)
  | .lst ds => .list (toPs ds)
  | .dic _ _ => .none
  | .obj _ => .none
  | .scr _ => .none
def toPs : List D → List PyData
  | [] => []
  | d :: ds => toP d :: toPs ds
end
mutual
def plain : D → Bool
  | .none => true
  | .bl _ => true
  | .int _ => true
  | .str s => PyData.strOk s
  | .tup ds => plains ds
  | .lst ds => plains ds
  | .dic _ _ => false
  | .obj _ => false
  | .scr _ => false
def plains : List D → Bool
  | [] => true
  | d :: ds => plain d && plains ds
end
-- no container within that could be changed
mutual
def still : D → Bool
  | .none => true
  | .bl _ => true
  | .int _ => true
  | .str _ => true
  | .tup ds => stills ds
  | .lst _ => false
  | .dic _ _ => false
  | .obj _ => true
  | .scr _ => false
def stills : List D → Bool
  | [] => true
  | d :: ds => still d && stills ds
end
def stillSO : SO → Bool
  | .lst ds => stills ds
  | .ins _ fs => stills (fs.map (·.2))
def fitD (d : D) : Bool := plain d && decide ((toP d).depth ≤ 60)
def eqD (d e : D) : Bool := PyData.eqv (toP d) (toP e)

def tyD : Ty → D → Option Bool
  | t, .none => some false
  | t, .bl _ => some (t == .bool || t == .int)
  | t, .int _ => some (t == .int)
  | t, .str _ => some (t == .str)
  | t, .tup _ => some (t == .tuple)
  | t, .lst _ => some (t == .list)
  | _, _ => none
def isiD (ts : List Ty) (d : D) : Option Bool := ts.foldr (fun t r => (tyD t d).bind fun a => r.map fun b => a || b) (some false)

def binD (op : BOp) (a b : D) : Option Rs := match op, a, b with
  | .add, .int i, .int j => some (.int (i + j), false)
  | .add, .str x, .str y => if x.length + y.length ≤ line then some (.str (x ++ y), false) else none
  | .add, .tup x, .tup y => if x.length + y.length ≤ line then some (.tup (x ++ y), false) else none
  | .add, .lst x, .lst y => if x.length + y.length ≤ line then some (.lst (x ++ y), true) else none
  | .sub, .int i, .int j => some (.int (i - j), false)
  | .mul, .int i, .int j => if mulOk i j then some (.int (i * j), false) else none
  | .fdiv, .int i, .int j => if 0 < j ∧ j.natAbs.log2 < 9000 then some (.int (i / j), false) else none
  | .mod, .int i, .int j => if 0 < j then some (.int (i % j), false) else none
  | .pow, .int i, .int j => if 0 ≤ j ∧ j ≤ 1000000 ∧ i.natAbs < 2 ^ 64 then some (.int (i ^ j.toNat), false) else none
  | _, _, _ => none
/-- one sign in a text -/
def inStr (x y : Str) : Bool := !(Builtin.Str.occurrences y x 0 y.length 1).isEmpty
def cmpD (op : COp) (a b : D) : Option Bool := match op with
  | .eq => if fitD a && fitD b then some (eqD a b) else none
  | .ne => if fitD a && fitD b then some (!eqD a b) else none
  | .lt => (match a, b with
    | .int i, .int j => some (decide (i < j))
    | _, _ => none)
  | .le => (match a, b with
    | .int i, .int j => some (decide (i ≤ j))
    | _, _ => none)
  | .gt => (match a, b with
    | .int i, .int j => some (decide (j < i))
    | _, _ => none)
  | .ge => (match a, b with
    | .int i, .int j => some (decide (j ≤ i))
    | _, _ => none)
  | .isin => (match a, b with
    | .str x, .str y => some (inStr x y)
    | d, .lst ds => if fitD d && fitD (.lst ds) then some (ds.any fun z => eqD z d) else none
    | d, .tup ds => if fitD d && fitD (.tup ds) then some (ds.any fun z => eqD z d) else none
    | _, _ => none)
  | .notin => (match a, b with
    | .str x, .str y => some (!inStr x y)
    | d, .lst ds => if fitD d && fitD (.lst ds) then some (!ds.any fun z => eqD z d) else none
    | d, .tup ds => if fitD d && fitD (.tup ds) then some (!ds.any fun z => eqD z d) else none
    | _, _ => none)
def seqD (st : List SO) (d : D) : Option (List D) := match d with
  | .tup ds => some ds
  | .lst ds => some ds
  | .obj i => (match st[i]? with
    | some (.lst ds) => some ds
    | _ => none)
  | _ => none
def idxD (st : List SO) (a i : D) : Option D := match i with
  | .int k => (match a with
    | .str s => if s.length ≤ line then (atI s.cps.toList k).map fun c => .str ⟨#[c]⟩ else none
    | _ => (seqD st a).bind fun ds => atI ds k)
  | _ => none
def cutD (ds : List D) (lo hi : Option Int) : List D := (ds.drop (HT.sIx ds.length 0 lo)).take (HT.sIx ds.length ds.length hi - HT.sIx ds.length 0 lo)
def sliD (a : D) (lo hi : Option Int) : Option Rs := match a with
  | .tup ds => some (.tup (cutD ds lo hi), false)
  | .lst ds => some (.lst (cutD ds lo hi), true)
  | .str s => if s.length ≤ line then some (.str (cutS s lo hi), false) else none
  | _ => none
def boolsD : List D → Option (List Bool)
  | [] => some []
  | .bl b :: ds => (boolsD ds).map (b :: ·)
  | _ => none
def intsD : List D → Option (List Int)
  | [] => some []
  | .int b :: ds => (intsD ds).map (b :: ·)
  | _ => none
def lenD (st : List SO) (d : D) : Option Rs := match d with
  | .str s => if s.length ≤ line then some (.int s.length, false) else none
  | d => (seqD st d).map fun ds => (.int ds.length, false)
def tupleD : D → Option Rs
  | .tup ds => some (.tup ds, false)
  | .lst ds => some (.tup ds, false)
  | _ => none
def listD : D → Option Rs
  | .scr ns => some (.lst (ns.map .int), true)
  | .tup ds => some (.lst ds, true)
  | .lst ds => some (.lst ds, true)
  | _ => none
def absD : D → Option Rs
  | .int i => some (.int (if i < 0 then -i else i), false)
  | _ => none
def max2D (d e : D) : Option Rs := match d, e with
  | .int i, .int j => some (.int (if j > i then j else i), false)
  | _, _ => none
def sumD : D → Option Rs
  | .lst ds => (intsD ds).map fun ns => (.int ns.sum, false)
  | _ => none
def allD : D → Option Rs
  | .lst ds => (boolsD ds).map fun bs => (.bl (bs.all id), false)
  | _ => none
def anyD : D → Option Rs
  | .lst ds => (boolsD ds).map fun bs => (.bl (bs.any id), false)
  | _ => none
def on1 (f : D → Option Rs) : List D → Option Rs
  | [d] => f d
  | _ => none
def on2 (f : D → D → Option Rs) : List D → Option Rs
  | [d, e] => f d e
  | _ => none
def bltD (st : List SO) : Blt → List D → Option Rs
  | .len => on1 (lenD st)
  | .tuple => on1 tupleD
  | .list => on1 listD
  | .max2 => on2 max2D
  | .abs => on1 absD
  | .sum => on1 sumD
  | .all => on1 allD
  | .any => on1 anyD

/-! ### the state -/
def setρ (i : Nat) (x : Slot) : M Unit := fun s => if i < s.ρ.length then .ok () ⟨s.ρ.set i x, s.st⟩ else .bad
def rdSlot (i : Nat) : M D := fun s => match s.ρ[i]? with
  | some (.pu d) => .ok d s
  | some (.ow d) => .ok d s
  | _ => .bad
/-- the name as an expression: a container goes out of the frame's hands -/
def rdVar (i : Nat) : M Rs := fun s => match s.ρ[i]? with
  | some (.pu d) => .ok (d, false) s
  | some (.ow d) => .ok (d, false) ⟨s.ρ.set i (.pu d), s.st⟩
  | _ => .bad
/-- .. as what is returned -/
def rdRet (i : Nat) : M Rs := fun s => match s.ρ[i]? with
  | some (.pu d) => .ok (d, false) s
  | some (.ow d) => .ok (d, true) s
  | _ => .bad
def slotOpd (i : Nat) : M Opd := fun s => match s.ρ[i]? with
  | some (.pu _) => .ok (.slot i) s
  | some (.ow _) => .ok (.slot i) s
  | _ => .bad
def res : Opd → M D
  | .val d => Pure.pure d
  | .slot i => rdSlot i
def ress : List Opd → M (List D)
  | [] => Pure.pure []
  | o :: os => do
    let d ← res o
    let ds ← ress os
    Pure.pure (d :: ds)
/-- the slots that were handed to a call are let go -/
def letgo (ρ : List Slot) : List Opd → List Slot
  | [] => ρ
  | .val _ :: os => letgo ρ os
  | .slot i :: os => (match ρ[i]? with
    | some (.ow d) => letgo (ρ.set i (.pu d)) os
    | _ => letgo ρ os)
def afterCall (os : List Opd) (r : R) : M Rs := fun s => match r with
  | .ok r st => if (still r.1 && st.all stillSO) = true then .ok r ⟨s.ρ, st⟩ else .ok r ⟨letgo s.ρ os, st⟩
  | .exc c fs st => .exc c fs ⟨letgo s.ρ os, st⟩
  | .bad => .bad
def bindT : Tg → D → M Unit
  | .nm i, d => setρ i (.pu d)
  | .tup ts, d => (match d with
    | .tup ds => if ts.length = ds.length then bindTs ts ds else bad
    | _ => bad)
where bindTs : List Tg → List D → M Unit
  | [], _ => Pure.pure ()
  | t :: ts, d :: ds => do
    bindT t d
    bindTs ts ds
  | _ :: _, [] => bad
def wipeS (own : List Nat) : M Unit := fun s => .ok () ⟨own.foldr (fun i ρ => ρ.set i .un) s.ρ, s.st⟩
/-- behind a comprehension: its own names stand as before -/
def unwipe (own : List Nat) (ρ0 ρ : List Slot) : List Slot := own.foldr (fun i ρ => match ρ0[i]? with
  | some x => ρ.set i x
  | none => ρ) ρ
def it1 (f : D → Option (List D)) : List D → Option (List D)
  | [d] => f d
  | _ => none
def it2 (f : D → D → Option (List D)) : List D → Option (List D)
  | [d, e] => f d e
  | _ => none
def seqI : D → Option (List D)
  | .tup ds => some ds
  | .lst ds => some ds
  | .str s => some (s.cps.toList.map fun c => .str ⟨#[c]⟩)
  | _ => none
def rng1I : D → Option (List D)
  | .int n => if -(2 ^ 62) ≤ n ∧ n < 2 ^ 62 then some ((List.range n.toNat).map fun (k : Nat) => D.int (k : Int)) else none
  | _ => none
def rng2I (d e : D) : Option (List D) := match d, e with
  | .int a, .int b => if -(2 ^ 62) ≤ a ∧ a < 2 ^ 62 ∧ -(2 ^ 62) ≤ b ∧ b < 2 ^ 62 then some ((List.range (b - a).toNat).map fun (k : Nat) => D.int (a + (k : Int))) else none
  | _, _ => none
def enumI : D → Option (List D)
  | .lst ds => some (ds.mapIdx fun k d => .tup [.int (k : Int), d])
  | _ => none
def zipI (d e : D) : Option (List D) := match d, e with
  | .lst ds, .lst es => some ((ds.zip es).map fun p => .tup [p.1, p.2])
  | _, _ => none
def itemsD : IK → List D → Option (List D)
  | .seq => it1 seqI
  | .rng1 => it1 rng1I
  | .rng2 => it2 rng2I
  | .enum => it1 enumI
  | .zip => it2 zipI
def tick (acc : List D) (y : D) : M (List D) := if acc.length < line then Pure.pure (acc ++ [y]) else bad
def lcLoop (own : List Nat) (tg : Tg) (cond : M Bool) (elt : M D) : List D → List D → M (List D)
  | [], acc => Pure.pure acc
  | x :: xs, acc => do
    wipeS own
    bindT tg x
    let c ← cond
    if c = true then do
      let y ← elt
      let acc' ← tick acc y
      lcLoop own tg cond elt xs acc'
    else lcLoop own tg cond elt xs acc
/-- a block's end: the comprehension's own names as before; what it changed else stays -/
def blk (own : List Nat) (m : M (List D)) : M Rs := fun s => match m s with
  | .ok ds s' => .ok (.lst ds, true) ⟨unwipe own s.ρ s'.ρ, s'.st⟩
  | _ => .bad
def asB (m : M Rs) : M Bool := do
  let r ← m
  match r.1 with
  | .bl b => Pure.pure b
  | _ => bad
def ofB (m : M Bool) : M Rs := do
  let b ← m
  Pure.pure (.bl b, false)
def shrD (r : Rs) : M Rs := fun s => match r with
  | (.lst ds, true) => .ok (.obj s.st.length, false) ⟨s.ρ, s.st ++ [.lst ds]⟩
  | _ => .bad
def stO {α : Type} (f : List SO → Option α) : M α := fun s => match f s.st with
  | some a => .ok a s
  | none => .bad
/-- the place of an item -/
def ixP (n : Nat) (k : D) : Option Nat := match k with
  | .int i => if -(2 ^ 63) ≤ i ∧ i < 2 ^ 63 then ixN n i else none
  | _ => none
def ownL (i : Nat) : M Unit := fun s => match s.ρ[i]? with
  | some (.ow (.lst _)) => .ok () s
  | _ => .bad
def popAt (i : Nat) (k : D) : M Rs := fun s => match s.ρ[i]? with
  | some (.ow (.lst ds)) => (match ixP ds.length k with
    | some j => (match ds[j]? with
      | some d => .ok (d, false) ⟨s.ρ.set i (.ow (.lst (ds.eraseIdx j))), s.st⟩
      | none => .bad)
    | none => .bad)
  | _ => .bad
def popLast (i : Nat) : M Rs := fun s => match s.ρ[i]? with
  | some (.ow (.lst ds)) => (match ds[ds.length - 1]? with
    | some d => .ok (d, false) ⟨s.ρ.set i (.ow (.lst ds.dropLast)), s.st⟩
    | none => .bad)
  | _ => .bad
def opdV (x : Ex) (m : M Rs) : M Opd := match x with
  | .var i => slotOpd i
  | _ => opd m

mutual
def evalE (cl : CallT) : Ex → M Rs
  | .var i => rdVar i
  | .con d => Pure.pure (d, false)
  | .tup es => do
    let ds ← evalDs cl es
    if ds.length ≤ line then Pure.pure (.tup ds, false) else bad
  | .lst es => do
    let ds ← evalDs cl es
    if ds.length ≤ line then Pure.pure (.lst ds, true) else bad
  | .shr e => do
    let r ← evalE cl e
    shrD r
  | .bin op a b => do
    let x ← opdV a (evalE cl a)
    let y ← opdV b (evalE cl b)
    let d ← res x
    let e ← res y
    liftO (binD op d e)
  | .neg a => do
    let d ← dat (evalE cl a)
    match d with
    | .int i => Pure.pure (.int (-i), false)
    | _ => bad
  | .cmp op a b => do
    let x ← opdV a (evalE cl a)
    let y ← opdV b (evalE cl b)
    let d ← res x
    let e ← res y
    let c ← liftO (cmpD op d e)
    Pure.pure (.bl c, false)
  | .cmp2 op op' a b c => do
    let d ← dat (evalE cl a)
    let e ← dat (evalE cl b)
    let c1 ← liftO (cmpD op d e)
    if c1 = true then do
      let f ← dat (evalE cl c)
      let c2 ← liftO (cmpD op' e f)
      Pure.pure (.bl c2, false)
    else Pure.pure (.bl false, false)
  | .isN no a => do
    let x ← opdV a (evalE cl a)
    let d ← res x
    match d with
    | .none => Pure.pure (.bl (!no), false)
    | _ => Pure.pure (.bl no, false)
  | .and2 a b => do
    let c ← asB (evalE cl a)
    if c = true then ofB (asB (evalE cl b)) else Pure.pure (.bl false, false)
  | .or2 a b => do
    let c ← asB (evalE cl a)
    if c = true then Pure.pure (.bl true, false) else ofB (asB (evalE cl b))
  | .not1 a => do
    let c ← asB (evalE cl a)
    Pure.pure (.bl (!c), false)
  | .ife c a b => do
    let t ← asB (evalE cl c)
    if t = true then evalE cl a else evalE cl b
  | .idx a i => do
    let x ← opdV a (evalE cl a)
    let y ← opdV i (evalE cl i)
    let d ← res x
    let e ← res y
    let f ← stO fun st => idxD st d e
    Pure.pure (f, false)
  | .sli a lo hi => do
    let x ← opdV a (evalE cl a)
    let l ← evalPart cl lo
    let h ← evalPart cl hi
    let d ← res x
    liftO (sliD d l h)
  | .rev a => do
    let x ← opdV a (evalE cl a)
    let d ← res x
    match d with
    | .lst ds => Pure.pure (.lst ds.reverse, true)
    | _ => bad
  | .call f es => do
    let os ← evalOs cl es
    let ds ← ress os
    let s ← getS
    afterCall os (cl f ds s.st)
  | .blt b es => do
    let os ← evalOs cl es
    let ds ← ress os
    stO fun st => bltD st b ds
  | .isi ts a => do
    let x ← opdV a (evalE cl a)
    let d ← res x
    let b ← liftO (isiD ts d)
    Pure.pure (.bl b, false)
  | .lc elt tg ik src conds own => do
    let ds ← evalDs cl src
    let xs ← liftO (itemsD ik ds)
    blk own (calm (lcLoop own tg (evalCs cl conds) (dat (evalE cl elt)) xs []))
  | .popk i k => do
    ownL i
    let d ← dat (evalE cl k)
    popAt i d
  | .popl i => do
    ownL i
    popLast i
def evalDs (cl : CallT) : List Ex → M (List D)
  | [] => Pure.pure []
  | e :: es => do
    let d ← dat (evalE cl e)
    let ds ← evalDs cl es
    Pure.pure (d :: ds)
def evalOs (cl : CallT) : List Ex → M (List Opd)
  | [] => Pure.pure []
  | e :: es => do
    let d ← opdV e (evalE cl e)
    let ds ← evalOs cl es
    Pure.pure (d :: ds)
def evalCs (cl : CallT) : List Ex → M Bool
  | [] => Pure.pure true
  | e :: es => do
    let c ← asB (evalE cl e)
    if c = true then evalCs cl es else Pure.pure false
def evalPart (cl : CallT) : Option Ex → M (Option Int)
  | none => Pure.pure none
  | some e => do
    let d ← dat (evalE cl e)
    match d with
    | .int i => Pure.pure (some i)
    | _ => bad
end

/-! ### statements -/
def setR (i : Nat) (r : Rs) : M Unit := setρ i (if r.2 = true then .ow r.1 else .pu r.1)
def augD (op : BOp) (a b : D) : Option D := match op, a, b with
  | .add, .int i, .int j => some (.int (i + j))
  | .sub, .int i, .int j => some (.int (i - j))
  | _, _, _ => none
def appTo (i : Nat) (d : D) : M Unit := fun s => match s.ρ[i]? with
  | some (.ow (.lst ds)) => if ds.length < line then .ok () ⟨s.ρ.set i (.ow (.lst (ds ++ [d]))), s.st⟩ else .bad
  | _ => .bad
def extTo (i : Nat) (d : D) : M Unit := fun s => match s.ρ[i]?, d with
  | some (.ow (.lst ds)), .lst es => if ds.length + es.length ≤ line then .ok () ⟨s.ρ.set i (.ow (.lst (ds ++ es))), s.st⟩ else .bad
  | _, _ => .bad
def insTo (i : Nat) (k d : D) : M Unit := fun s => match s.ρ[i]?, k with
  | some (.ow (.lst ds)), .int j => if ds.length < line ∧ 0 ≤ j ∧ j < 2 ^ 63 then .ok () ⟨s.ρ.set i (.ow (.lst (ds.take j.toNat ++ [d] ++ ds.drop j.toNat))), s.st⟩ else .bad
  | _, _ => .bad
/-- the list that stands at an operand: an owned slot's, a shared one -/
def setAt (o : Opd) (k d : D) : M Unit := fun s => match o with
  | .slot i => (match s.ρ[i]? with
    | some (.ow (.lst ds)) => (match k with
      | .int z => (match ixN ds.length z with
        | some j => .ok () ⟨s.ρ.set i (.ow (.lst (ds.set j d))), s.st⟩
        | none => .bad)
      | _ => .bad)
    | some (.pu (.obj n)) => (match s.st[n]? with
      | some (.lst ds) => (match k with
        | .int z => (match ixN ds.length z with
          | some j => .ok () ⟨s.ρ, s.st.set n (.lst (ds.set j d))⟩
          | none => .bad)
        | _ => .bad)
      | _ => .bad)
    | _ => .bad)
  | _ => .bad
def forLoop (tg : Tg) (body : M Flow) : List D → M Flow
  | [] => Pure.pure .nx
  | x :: xs => do
    bindT tg x
    let f ← body
    match f with
    | .nx => forLoop tg body xs
    | .cont => forLoop tg body xs
    | .brk => Pure.pure .nx
    | .ret r => Pure.pure (.ret r)
def whileLoop (c : M Bool) (body : M Flow) : Nat → M Flow
  | 0 => bad
  | n + 1 => do
    let b ← c
    if b = true then do
      let f ← body
      match f with
      | .nx => whileLoop c body n
      | .cont => whileLoop c body n
      | .brk => Pure.pure .nx
      | .ret r => Pure.pure (.ret r)
    else Pure.pure .nx
def retV (x : Ex) (m : M Rs) : M Rs := match x with
  | .var i => rdRet i
  | _ => m
mutual
def exec (cl : CallT) (wf : Nat) : Sm → M Flow
  | .asg i e => do
    let r ← evalE cl e
    setR i r
    Pure.pure .nx
  | .asgT ts e => do
    let d ← dat (evalE cl e)
    bindT (.tup ts) d
    Pure.pure .nx
  | .aug op i e => do
    let d ← rdSlot i
    let f ← dat (evalE cl e)
    let x ← liftO (augD op d f)
    setρ i (.pu x)
    Pure.pure .nx
  | .setI o k e => do
    let d ← dat (evalE cl e)
    let x ← opdV o (evalE cl o)
    let z ← dat (evalE cl k)
    setAt x z d
    Pure.pure .nx
  | .app i e => do
    ownL i
    let d ← dat (evalE cl e)
    appTo i d
    Pure.pure .nx
  | .ext i e => do
    ownL i
    let d ← dat (evalE cl e)
    extTo i d
    Pure.pure .nx
  | .ins i k e => do
    ownL i
    let z ← dat (evalE cl k)
    let d ← dat (evalE cl e)
    insTo i z d
    Pure.pure .nx
  | .expr e => do
    let _ ← dat (evalE cl e)
    Pure.pure .nx
  | .ret e => do
    let r ← retV e (evalE cl e)
    Pure.pure (.ret r)
  | .retN => Pure.pure (.ret (.none, false))
  | .ife c a b => do
    let t ← asB (evalE cl c)
    if t = true then execs cl wf a else execs cl wf b
  | .forE tg ik src body => do
    let ds ← evalDs cl src
    let xs ← liftO (itemsD ik ds)
    forLoop tg (execs cl wf body) xs
  | .whil c body => whileLoop (asB (evalE cl c)) (execs cl wf body) wf
  | .brk => Pure.pure .brk
  | .cont => Pure.pure .cont
  | .pass => Pure.pure .nx
def execs (cl : CallT) (wf : Nat) : List Sm → M Flow
  | [] => Pure.pure .nx
  | s :: ss => do
    let f ← exec cl wf s
    match f with
    | .nx => execs cl wf ss
    | .brk => Pure.pure .brk
    | .cont => Pure.pure .cont
    | .ret r => Pure.pure (.ret r)
end
/-- a def: its slots, its parameters, its body -/
structure FnD where
  n : Nat
  np : Nat
  body : List Sm
def runFn (cl : CallT) (wf : Nat) (f : FnD) (ds : List D) (st : List SO) : R :=
  if ds.length = f.np then
    match execs cl wf f.body ⟨ds.map .pu ++ List.replicate (f.n - f.np) .un, st⟩ with
    | .ok .nx s => .ok (.none, false) s.st
    | .ok (.ret r) s => .ok r s.st
    | .ok _ _ => .bad
    | .exc c fs s => .exc c fs s.st
    | .bad => .bad
  else .bad
/-- calls, at most so deep -/
def callF (fns : List FnD) (wf : Nat) : Nat → CallT
  | 0 => fun _ _ _ => .bad
  | n + 1 => fun f ds st => match fns[f]? with
    | some d => runFn (callF fns wf n) wf d ds st
    | none => .bad
end Z

/-! Z4: how the state goes on: new objects, slots let go; operands; names, constants, displays. -/
namespace Z
open PySem PySem.Spec PyProof.Rows L2

section
variable {K : PySem.W.Frag} {g : Gh} {σ : L2.St} {H : Hp} {p : Addr} {o : HO}
theorem Good.notM (G : Good K g σ H) (h : H p = none) : p ∉ g.M := fun z => G.trk p z h
theorem hid_upd {M : List Addr} (h : H p = none) : Same (hid M H) (hid M (upd H p o)) := fun b u q => by
  obtain ⟨n, q⟩ := hid_of q
  exact hid_mk n (by rw [upd_ne (ne_of_none q h)]; exact q)
theorem hid_updC {M : List Addr} (h : H p = none) : Same (hid M H) (hid (p :: M) (upd H p o)) := fun b u q => by
  obtain ⟨n, q⟩ := hid_of q
  have e := ne_of_none q h
  exact hid_mk (fun z => (List.mem_cons.mp z).elim e n) (by rw [upd_ne e]; exact q)
theorem asId {As : List Addr} : ∀ (i : Nat) (a : Addr), As[i]? = some a → As[i]? = some a := fun _ _ h => h
/-- a new object is laid -/
theorem Good.alloc (G : Good K g σ H) (h : H p = none) : Good K g σ (upd H p o) := by
  have up : ∀ a, H a ≠ none → upd H p o a = H a := fun a n => upd_ne (fun z => n (z ▸ h))
  refine ⟨G.len, fun i s e => ?_, G.inj, G.oas, fun i so e => ?_, G.asl, G.asn, G.asm, fun q hq => by rw [up q (G.trk q hq)]; exact G.trk q hq⟩
  · have q := G.slot i s e
    cases s with
    | un => trivial
    | pu d => obtain ⟨v, e, r⟩ := q; exact ⟨v, e, r.mono asId (hid_upd h)⟩
    | ow d => obtain ⟨a, e, m, c⟩ := q; exact ⟨a, e, m, c.mono asId (hid_upd h) (up a (G.trk a m))⟩
  · obtain ⟨a, e1, q⟩ := G.sto i so e
    exact ⟨a, e1, q.mono asId (hid_upd h) (up a (G.trk a (G.asm a (List.mem_of_getElem? e1))))⟩
theorem Ext.alloc (G : Good K g σ H) (h : H p = none) : Ext g σ H g σ (upd H p o) :=
  ⟨⟨[], by simp⟩, fun b u n q => ⟨n, by rw [upd_ne (ne_of_none q h)]; exact q⟩, fun q hq _ _ => ⟨hq, upd_ne (fun z => G.trk q hq (z ▸ h))⟩,
    fun b n => by unfold upd; split; exact (fun z => nomatch z); exact n, fun _ h => .inl h⟩
/-- .. a container of our own -/
theorem Good.allocM (G : Good K g σ H) (h : H p = none) : Good K { g with M := p :: g.M } σ (upd H p o) := by
  have up : ∀ a, H a ≠ none → upd H p o a = H a := fun a n => upd_ne (fun z => n (z ▸ h))
  refine ⟨G.len, fun i s e => ?_, G.inj, G.oas, fun i so e => ?_, G.asl, G.asn, fun a h => List.mem_cons_of_mem _ (G.asm a h), fun q hq => ?_⟩
  · have q := G.slot i s e
    cases s with
    | un => trivial
    | pu d => obtain ⟨v, e, r⟩ := q; exact ⟨v, e, r.mono asId (hid_updC h)⟩
    | ow d => obtain ⟨a, e, m, c⟩ := q; exact ⟨a, e, List.mem_cons_of_mem _ m, c.mono asId (hid_updC h) (up a (G.trk a m))⟩
  · obtain ⟨a, e1, q⟩ := G.sto i so e
    exact ⟨a, e1, q.mono asId (hid_updC h) (up a (G.trk a (G.asm a (List.mem_of_getElem? e1))))⟩
  · rcases List.mem_cons.mp hq with e | e
    · rw [e, upd_same]; exact fun z => nomatch z
    · rw [up q (G.trk q e)]; exact G.trk q e
theorem Ext.allocM (G : Good K g σ H) (h : H p = none) : Ext g σ H { g with M := p :: g.M } σ (upd H p o) :=
  ⟨⟨[], by simp⟩, fun b u n q => ⟨fun z => (List.mem_cons.mp z).elim (ne_of_none q h) n, by rw [upd_ne (ne_of_none q h)]; exact q⟩, fun q hq _ _ => ⟨List.mem_cons_of_mem _ hq, upd_ne (fun z => G.trk q hq (z ▸ h))⟩,
    fun b n => by unfold upd; split; exact (fun z => nomatch z); exact n, fun _ h => .inl h⟩
theorem Own.some_ (G : Good K g σ H) {q : Addr} (h : Own g.ρ σ q) : q ∈ g.M ∧ H q ≠ none := by
  obtain ⟨i, d, e1, e2⟩ := h
  obtain ⟨a, e3, m, c⟩ := G.slot i _ e1
  rw [e2] at e3; cases e3
  exact ⟨m, c.some_⟩
theorem New.lst (G : Good K g σ H) (h : H p = none) {ds : List D} {vs : List V} (r : Reps K g.As (hid g.M H) ds vs) : New K H { g with M := p :: g.M } σ (upd H p (.lst vs)) (.lst ds) p := by
  refine ⟨h, List.mem_cons_self, fun z => G.trk p (G.asm p z) h, fun z => (Own.some_ G z).2 h, vs, upd_same, r.mono asId (hid_updC h)⟩
/-- a slot's container is let go -/
theorem Good.let1 (G : Good K g σ H) {i : Nat} {d : D} (hi : g.ρ[i]? = some (.ow d)) (hs : σ[i]? = some (some (.ref p))) :
    Good K { g with ρ := g.ρ.set i (.pu d), M := g.M.filter fun x => decide (x ≠ p) } σ H ∧ Ext g σ H { g with ρ := g.ρ.set i (.pu d), M := g.M.filter fun x => decide (x ≠ p) } σ H ∧
    Rep K g.As (hid (g.M.filter fun x => decide (x ≠ p)) H) d (.ref p) := by
  obtain ⟨a, e3, m, c⟩ := G.slot i _ hi
  rw [hs] at e3; cases e3
  have hil : i < g.ρ.length := (List.getElem?_eq_some_iff.mp hi).1
  have rp : Rep K g.As (hid (g.M.filter fun x => decide (x ≠ p)) H) d (.ref p) := by
    refine (c.mono asId hid_filter rfl).rep ?_
    unfold hid
    rw [if_neg (fun z => (mem_erase_ne.mp z).2 rfl)]
  have sub : ∀ q, Own (g.ρ.set i (.pu d)) σ q → Own g.ρ σ q := fun q ⟨j, e, h1, h2⟩ => by
    by_cases hj : i = j
    · subst hj; rw [List.getElem?_set_self hil] at h1; cases h1
    · rw [List.getElem?_set_ne hj] at h1; exact ⟨j, e, h1, h2⟩
  refine ⟨⟨by simpa using G.len, fun j s e => ?_, fun j k d1 d2 q h1 h2 h3 h4 => ?_, fun q h => G.oas q (sub q h), fun j so e => ?_, G.asl, G.asn, fun a h => ?_, fun q hq => G.trk q (mem_erase_ne.mp hq).1⟩, ⟨⟨[], by simp⟩, fun b u n q => ⟨fun z => n (mem_erase_ne.mp z).1, q⟩, fun q hq _ hn => ⟨mem_erase_ne.mpr ⟨hq, fun z => hn (z ▸ ⟨i, d, hi, hs⟩)⟩, rfl⟩, fun _ h => h, fun q h => .inl (sub q h)⟩, rp⟩
  · by_cases hj : i = j
    · subst hj
      rw [List.getElem?_set_self hil] at e; cases e
      exact ⟨_, hs, rp⟩
    · rw [List.getElem?_set_ne hj] at e
      have q := G.slot j s e
      cases s with
      | un => trivial
      | pu d => obtain ⟨v, e, r⟩ := q; exact ⟨v, e, r.mono asId hid_filter⟩
      | ow d' => obtain ⟨a, e4, m', c'⟩ := q; exact ⟨a, e4, mem_erase_ne.mpr ⟨m', fun z => hj (G.inj i j _ _ p hi e hs (z ▸ e4))⟩, c'.mono asId hid_filter rfl⟩
  · by_cases hj : i = j
    · subst hj; rw [List.getElem?_set_self hil] at h1; cases h1
    · by_cases hk : i = k
      · subst hk; rw [List.getElem?_set_self hil] at h2; cases h2
      · rw [List.getElem?_set_ne hj] at h1; rw [List.getElem?_set_ne hk] at h2
        exact G.inj j k _ _ q h1 h2 h3 h4
  · obtain ⟨a, e1, q⟩ := G.sto j so e
    exact ⟨a, e1, q.mono asId hid_filter rfl⟩
  · exact mem_erase_ne.mpr ⟨G.asm a h, fun z => G.oas p ⟨i, d, hi, hs⟩ (z ▸ h)⟩
end

/-! ### operands -/
/-- a value as data, its own container perhaps an owned one -/
def RepB (K : PySem.W.Frag) (As : List Addr) (Hh H : Hp) (d : D) (v : V) : Prop := match d with
  | .lst ds => ∃ a vs, v = .ref a ∧ H a = some (.lst vs) ∧ Reps K As Hh ds vs
  | d => Rep K As Hh d v
section
variable {K : PySem.W.Frag} {w : WX} {g g1 : Gh} {σ : L2.St} {H H1 : Hp}
theorem RepB.of {As : List Addr} {M : List Addr} {d : D} {v : V} (r : Rep K As (hid M H) d v) : RepB K As (hid M H) H d v := by
  cases d with
  | lst ds => obtain ⟨a, vs, e, h1, h2⟩ := r; exact ⟨a, vs, e, (hid_of h1).2, h2⟩
  | _ => exact r
theorem RelO.ext {o : Opd} {v : V} (e : Ext g σ H g1 σ H1) (r : RelO K g σ H o v) : RelO K g1 σ H1 o v := by
  cases o with
  | val d => exact e.rep r
  | slot i => exact r
theorem RelOs.ext {os : List Opd} {vs : List V} (e : Ext g σ H g1 σ H1) (r : RelOs K g σ H os vs) : RelOs K g1 σ H1 os vs := by
  induction r with
  | nil => exact .nil
  | cons a _ ih => exact .cons (a.ext e) ih
theorem At.res_ {o : Opd} {v : V} {k : D → Gh → Hp → Prop} (G : Good K g σ H) (r : RelO K g σ H o v) (h : At K w (res o) g σ H k) : ∃ d, RepB K g.As (hid g.M H) H d v ∧ k d g H := by
  cases o with
  | val d => exact ⟨d, RepB.of r, At.pure_ G h⟩
  | slot i =>
    have h : At K w (rdSlot i) g σ H k := h
    have r : σ[i]? = some (some v) := r
    unfold At rdSlot at h
    cases e : g.ρ[i]? with
    | none => simp only [Gh.S, e] at h
    | some s =>
      cases s with
      | un => simp only [Gh.S, e] at h
      | pu d =>
        simp only [Gh.S, e] at h
        obtain ⟨u, e1, r1⟩ := G.slot i _ e
        rw [r] at e1; cases e1
        exact ⟨d, RepB.of r1, h g.As g.M H G Ext.refl⟩
      | ow d =>
        simp only [Gh.S, e] at h
        obtain ⟨p, e1, m, c⟩ := G.slot i _ e
        rw [r] at e1; cases e1
        refine ⟨d, ?_, h g.As g.M H G Ext.refl⟩
        cases d with
        | lst ds => obtain ⟨vs, h1, h2⟩ := c; exact ⟨p, vs, rfl, h1, h2⟩
        | dic ks ws => obtain ⟨us, vs, h1, _⟩ := c; exact h1.elim
        | _ => exact c.elim
inductive RepBs (K : PySem.W.Frag) (As : List Addr) (Hh H : Hp) : List D → List V → Prop
  | nil : RepBs K As Hh H [] []
  | cons {d : D} {ds : List D} {v : V} {vs : List V} : RepB K As Hh H d v → RepBs K As Hh H ds vs → RepBs K As Hh H (d :: ds) (v :: vs)
theorem At.ress_ : ∀ {os : List Opd} {vs : List V} {k : List D → Gh → Hp → Prop} (G : Good K g σ H) (r : RelOs K g σ H os vs) (h : At K w (ress os) g σ H k), ∃ ds, RepBs K g.As (hid g.M H) H ds vs ∧ k ds g H
  | _, _, k, G, .nil, h => ⟨[], .nil, At.pure_ G h⟩
  | _, _, k, G, .cons (o := o) (os := os) r rs, h => by
    have h : At K w (do let d ← res o; let ds ← ress os; Pure.pure (d :: ds)) g σ H k := h
    obtain ⟨d, q1, _, _, h1⟩ := At.res_ G r (At.bind G h)
    obtain ⟨ds, q2, _, _, h2⟩ := At.ress_ G rs (At.bind G h1)
    exact ⟨d :: ds, .cons q1 q2, At.pure_ G h2⟩
end

/-! ### names, constants -/
section
variable {X : Cx} {w : WX} {x : Str} {pos : Pos}
theorem rdVar_sem {i : Nat} {σ : L2.St} {H : Hp} {Q : VK} (h : Tr X.K w (rdVar i) σ H Q) : ∃ v, σ[i]? = some (some v) ∧ Q v H := by
  obtain ⟨g, G, q⟩ := h
  unfold At rdVar at q
  cases e : g.ρ[i]? with
  | none => simp only [Gh.S, e] at q
  | some s =>
    cases s with
    | un => simp only [Gh.S, e] at q
    | pu d =>
      simp only [Gh.S, e] at q
      obtain ⟨v, e1, r1⟩ := G.slot i _ e
      exact ⟨v, e1, q g.As g.M H G Ext.refl v r1⟩
    | ow d =>
      simp only [Gh.S, e] at q
      obtain ⟨p, e1, m, c⟩ := G.slot i _ e
      obtain ⟨G2, E2, r2⟩ := G.let1 e e1
      exact ⟨.ref p, e1, q _ _ H G2 E2 (.ref p) r2⟩
theorem pz_var (i : Nat) (hN : X.N[i]? = some x := by rfl) (hv : Vis X.env.scope x := by first | exact Or.inl rfl | exact Or.inr (Or.inl rfl) | exact Or.inr (Or.inr rfl)) (hd : (x == ("__debug__" : Str)) = false := by decide)
    (hcd : (x == ("__classdict__" : Str)) = false := by decide) : PE X (.Name x pos) (Tr X.K w (rdVar i)) := (pe_var hN hv hd hcd).weak fun _ _ _ h => rdVar_sem h
theorem slotOpd_sem {i : Nat} {σ : L2.St} {H : Hp} {Q : VK} (h : To X.K w (slotOpd i) σ H Q) : ∃ v, σ[i]? = some (some v) ∧ Q v H := by
  obtain ⟨g, G, q⟩ := h
  unfold At slotOpd at q
  cases e : g.ρ[i]? with
  | none => simp only [Gh.S, e] at q
  | some s =>
    cases s with
    | un => simp only [Gh.S, e] at q
    | pu d =>
      simp only [Gh.S, e] at q
      obtain ⟨v, e1, r1⟩ := G.slot i _ e
      exact ⟨v, e1, q g.As g.M H G Ext.refl v e1⟩
    | ow d =>
      simp only [Gh.S, e] at q
      obtain ⟨p, e1, m, c⟩ := G.slot i _ e
      exact ⟨.ref p, e1, q g.As g.M H G Ext.refl (.ref p) e1⟩
theorem po_var (i : Nat) (hN : X.N[i]? = some x := by rfl) (hv : Vis X.env.scope x := by first | exact Or.inl rfl | exact Or.inr (Or.inl rfl) | exact Or.inr (Or.inr rfl)) (hd : (x == ("__debug__" : Str)) = false := by decide)
    (hcd : (x == ("__classdict__" : Str)) = false := by decide) : PE X (.Name x pos) (To X.K w (slotOpd i)) := (pe_var hN hv hd hcd).weak fun _ _ _ h => slotOpd_sem h
theorem con_sem {d : D} {v : V} {σ : L2.St} {H : Hp} {Q : VK} (r : ∀ (As : List Addr) (H : Hp), Rep X.K As H d v) (h : Tr X.K w (Pure.pure (d, false)) σ H Q) : Q v H := by
  obtain ⟨g, G, q⟩ := h
  exact At.pure_ G q v (r _ _)
theorem pz_int {i : Int} {j pos} : PE X (.Constant (.int i) j pos) (Tr X.K w (Pure.pure (.int i, false))) := pe_int.weak fun _ _ _ h => con_sem (X := X) (d := .int i) (v := .int i) (fun _ _ => rfl) h
theorem pz_bl {b : Bool} {j pos} : PE X (.Constant (.bool b) j pos) (Tr X.K w (Pure.pure (.bl b, false))) := pe_bl.weak fun _ _ _ h => con_sem (X := X) (d := .bl b) (v := .bl b) (fun _ _ => rfl) h
theorem pz_non {j pos} : PE X (.Constant .none j pos) (Tr X.K w (Pure.pure (.none, false))) := pe_non.weak fun _ _ _ h => con_sem (X := X) (d := .none) (v := .non) (fun _ _ => rfl) h
theorem pz_str {s : Str} {j pos} : PE X (.Constant (.str s) j pos) (Tr X.K w (Pure.pure (.str s, false))) := pe_str.weak fun _ _ _ h => con_sem (X := X) (d := .str s) (v := .str s) (fun _ _ => rfl) h
/-- a module's constant -/
theorem pz_globI {i : Int} {t : Tok} (hg : Gl X x) (hm : X.mg x = some (.int i t)) (hd : (x == ("__debug__" : Str)) = false := by decide) : PE X (.Name x pos) (Tr X.K w (Pure.pure (.int i, false))) :=
  (pe_glob (v := .int i) hg hm ⟨t, rfl⟩ hd).weak fun _ _ _ h => con_sem (X := X) (d := .int i) (v := .int i) (fun _ _ => rfl) h
theorem pz_globS {s : Str} {t : Tok} (hg : Gl X x) (hm : X.mg x = some (.str s t)) (hd : (x == ("__debug__" : Str)) = false := by decide) : PE X (.Name x pos) (Tr X.K w (Pure.pure (.str s, false))) :=
  (pe_glob (v := .str s) hg hm ⟨t, rfl⟩ hd).weak fun _ _ _ h => con_sem (X := X) (d := .str s) (v := .str s) (fun _ _ => rfl) h
end

/-! ### argument lists, displays -/
section
variable {X : Cx} {w : WX} {cl : CallT} {e : Expr} {es : List Expr} {pos : Pos} {x : Ex} {xs : List Ex}
theorem pd_nil : PA X [] (Tds X.K w (evalDs cl [])) := pa_nil.weak fun _ _ _ ⟨g, G, q⟩ => At.pure_ G q [] rfl
theorem pd_cons (ha : PE X e (Tr X.K w (evalE cl x))) (hr : PA X es (Tds X.K w (evalDs cl xs))) (hs : starEach (e :: es) X.env = (false, eval e X.env) :: starEach es X.env := by rfl) : PA X (e :: es) (Tds X.K w (evalDs cl (x :: xs))) := by
  refine (pa_cons (Tr.dat ha) hr hs).weak fun σ H Q ⟨g, G, q⟩ => ⟨g, G, ?_⟩
  have q : At X.K w (do let d ← dat (evalE cl x); let ds ← evalDs cl xs; Pure.pure (d :: ds)) g σ H _ := q
  refine (At.bind G q).imp fun d g1 H1 G1 E1 ⟨_, _, q1⟩ v rv => ⟨g1, G1, ?_⟩
  refine (At.bind G1 q1).imp fun ds g2 H2 G2 E2 ⟨_, _, q2⟩ vs rvs => ?_
  exact At.pure_ G2 q2 (v :: vs) (.cons (E2.rep rv) rvs)
theorem pos_nil : PA X [] (Tos X.K w (evalOs cl [])) := pa_nil.weak fun _ _ _ ⟨g, G, q⟩ => At.pure_ G q [] .nil
theorem pos_cons (ha : PE X e (To X.K w (opdV x (evalE cl x)))) (hr : PA X es (Tos X.K w (evalOs cl xs))) (hs : starEach (e :: es) X.env = (false, eval e X.env) :: starEach es X.env := by rfl) : PA X (e :: es) (Tos X.K w (evalOs cl (x :: xs))) := by
  refine (pa_cons ha hr hs).weak fun σ H Q ⟨g, G, q⟩ => ⟨g, G, ?_⟩
  have q : At X.K w (do let d ← opdV x (evalE cl x); let ds ← evalOs cl xs; Pure.pure (d :: ds)) g σ H _ := q
  refine (At.bind G q).imp fun d g1 H1 G1 E1 ⟨_, _, q1⟩ v rv => ⟨g1, G1, ?_⟩
  refine (At.bind G1 q1).imp fun ds g2 H2 G2 E2 ⟨_, _, q2⟩ vs rvs => ?_
  exact At.pure_ G2 q2 (v :: vs) (.cons (rv.ext E2) rvs)

theorem line_le {n : Nat} (h : n ≤ line) : n ≤ sizeLine := by rw [← line_eq]; exact h
theorem line_lt {n : Nat} (h : n < line) : n < sizeLine := by rw [← line_eq]; exact h
/-- a new tuple as a result -/
theorem At.tupR {K : PySem.W.Frag} {g : Gh} {σ : L2.St} {H H0 : Hp} {Q : VK} {ds : List D} {vs : List V} {p : Addr} (G : Good K g σ H) (r : Reps K g.As (hid g.M H) ds vs) (hp : H p = none)
    (q : At K w (Pure.pure (D.tup ds, false) : M Rs) g σ H fun r g1 H1 => ∀ v, RelR K H0 g1 σ H1 r v → Q v H1) : Q (.ref p) (upd H p (.tup vs)) := by
  refine q g.As g.M (upd H p (.tup vs)) (G.alloc hp) (Ext.alloc G hp) (.ref p) ?_
  exact ⟨p, vs, rfl, hid_mk (G.notM hp) upd_same, r.mono asId (hid_upd hp)⟩
theorem At.lstR {K : PySem.W.Frag} {g0 g : Gh} {σ σ0 : L2.St} {H H0 : Hp} {Q : VK} {ds : List D} {vs : List V} {p : Addr} (E0 : Ext g0 σ0 H0 g σ H) (G : Good K g σ H) (r : Reps K g.As (hid g.M H) ds vs) (hp : H p = none)
    (q : At K w (Pure.pure (D.lst ds, true) : M Rs) g σ H fun r g1 H1 => ∀ v, RelR K H0 g1 σ H1 r v → Q v H1) : Q (.ref p) (upd H p (.lst vs)) := by
  refine q g.As (p :: g.M) (upd H p (.lst vs)) (G.allocM hp) (Ext.allocM G hp) (.ref p) ?_
  have n := New.lst G hp r
  exact ⟨p, rfl, E0.fresh n.was, n.mem, n.nas, n.now, n.cel⟩
theorem pz_tup {x1} (h : PA X es (Tds X.K w (evalDs cl xs))) : PE X (.Tuple es x1 pos) (Tr X.K w (evalE cl (.tup xs))) := by
  refine (pe_tup h).weak fun σ H Q ⟨g, G, q⟩ => ⟨g, G, ?_⟩
  have q : At X.K w (do let ds ← evalDs cl xs; if ds.length ≤ line then Pure.pure (D.tup ds, false) else bad) g σ H _ := q
  refine (At.bind G q).imp fun ds g1 H1 G1 E1 ⟨_, _, q1⟩ vs rvs => ?_
  have hl := Reps.length rvs
  split at q1
  · rename_i h
    exact ⟨line_le (by omega), fun p hp => At.tupR G1 rvs hp q1⟩
  · exact q1.elim
theorem pz_lst (h : PA X es (Tds X.K w (evalDs cl xs))) : PE X (.List es pos) (Tr X.K w (evalE cl (.lst xs))) := by
  refine (pe_lst h).weak fun σ H Q ⟨g, G, q⟩ => ⟨g, G, ?_⟩
  have q : At X.K w (do let ds ← evalDs cl xs; if ds.length ≤ line then Pure.pure (D.lst ds, true) else bad) g σ H _ := q
  refine (At.bind G q).imp fun ds g1 H1 G1 E1 ⟨_, _, q1⟩ vs rvs => ?_
  have hl := Reps.length rvs
  split at q1
  · rename_i h
    exact ⟨line_le (by omega), fun p hp => At.lstR E1 G1 rvs hp q1⟩
  · exact q1.elim
end
end Z

/-! Z5: operators, comparisons, tests, subscripts. -/
namespace Z
open PySem PySem.Spec PyProof.Rows L2

section
variable {K : PySem.W.Frag} {w : WX} {α : Type} {g : Gh} {σ : L2.St} {H : Hp}
theorem At.op2 {ma mb : M Opd} {f : D → D → M α} {k : α → Gh → Hp → Prop} (G : Good K g σ H) (h : At K w (do let x ← ma; let y ← mb; let d ← res x; let e ← res y; f d e) g σ H k) :
    At K w ma g σ H fun o g1 H1 => ∀ v, RelO K g1 σ H1 o v → ∃ g1, Good K g1 σ H1 ∧ At K w mb g1 σ H1 fun o' g2 H2 => ∀ u, RelO K g2 σ H2 o' u → ∃ d e, RepB K g2.As (hid g2.M H2) H2 d v ∧ RepB K g2.As (hid g2.M H2) H2 e u ∧ Good K g2 σ H2 ∧ Ext g σ H g2 σ H2 ∧ At K w (f d e) g2 σ H2 k := by
  refine (At.bind G h).imp fun o g1 H1 G1 E1 ⟨_, _, q1⟩ v rv => ⟨g1, G1, ?_⟩
  refine (At.bind G1 q1).imp fun o' g2 H2 G2 E2 ⟨_, _, q2⟩ u ru => ?_
  obtain ⟨d, r1, _, _, q3⟩ := At.res_ G2 (rv.ext E2) (At.bind G2 q2)
  obtain ⟨e, r2, _, _, q4⟩ := At.res_ G2 ru (At.bind G2 q3)
  exact ⟨d, e, r1, r2, G2, E1.trans G E2, q4⟩
theorem At.op1 {ma : M Opd} {f : D → M α} {k : α → Gh → Hp → Prop} (G : Good K g σ H) (h : At K w (do let x ← ma; let d ← res x; f d) g σ H k) :
    At K w ma g σ H fun o g1 H1 => ∀ v, RelO K g1 σ H1 o v → ∃ d, RepB K g1.As (hid g1.M H1) H1 d v ∧ Good K g1 σ H1 ∧ Ext g σ H g1 σ H1 ∧ At K w (f d) g1 σ H1 k := by
  refine (At.bind G h).imp fun o g1 H1 G1 E1 ⟨_, _, q1⟩ v rv => ?_
  obtain ⟨d, r1, _, _, q3⟩ := At.res_ G1 rv (At.bind G1 q1)
  exact ⟨d, r1, G1, E1, q3⟩
end

theorem mulOk_ok {i j : Int} (h : mulOk i j = true) : (CMul i j ∨ CMulW i j) := by
  unfold mulOk at h
  simp only [Bool.or_eq_true, decide_eq_true_eq] at h
  rcases h with h | h | h
  · exact .inl (.inl ⟨by omega, by omega⟩)
  · exact .inl (.inr ⟨by omega, by omega⟩)
  · exact .inr h

/-- the operators, by all kinds they serve -/
def rBin (K : PySem.W.Frag) : BOp → R2
  | .add => fun x y H Q => rI0 (fun i j => .int (i + j)) x y H Q ∨ (∃ i j, x = .str i ∧ y = .str j ∧ i.length + j.length ≤ sizeLine ∧ Q (.str (i ++ j)) H) ∨ rCatA K x y H Q ∨ rCat x y H Q
  | .sub => rI0 fun i j => .int (i - j)
  | .mul => fun x y H Q => rI CMul (fun i j => .int (i * j)) x y H Q ∨ rI CMulW (fun i j => .int (i * j)) x y H Q
  | .fdiv => rI CDivW fun i j => .int (i / j)
  | .mod => rI (fun _ j => 0 < j) fun i j => .int (i % j)
  | .pow => rI CPow fun i j => .int (i ^ j.toNat)
def opOf : BOp → Operator
  | .add => .Add
  | .sub => .Sub
  | .mul => .Mult
  | .fdiv => .FloorDiv
  | .mod => .Mod
  | .pow => .Pow
theorem opR_bin {X : Cx} : ∀ op : BOp, OpR X (binaryOp (opOf op)) (rBin X.K op)
  | .add => op_add.or (op_add_str.or (op_catA.or op_cat))
  | .sub => op_sub
  | .mul => op_mul.or op_mulW
  | .fdiv => op_fdivW
  | .mod => op_mod
  | .pow => op_pow

section
variable {K : PySem.W.Frag} {w : WX} {g0 g : Gh} {σ0 σ : L2.St} {H0 H : Hp}
theorem At.intR {i : Int} {Q : VK} (G : Good K g σ H) (q : At K w (Pure.pure (D.int i, false) : M Rs) g σ H fun r g1 H1 => ∀ v, RelR K H0 g1 σ H1 r v → Q v H1) : Q (.int i) H := At.pure_ G q (.int i) rfl
theorem At.blR {i : Bool} {Q : VK} (G : Good K g σ H) (q : At K w (Pure.pure (D.bl i, false) : M Rs) g σ H fun r g1 H1 => ∀ v, RelR K H0 g1 σ H1 r v → Q v H1) : Q (.bl i) H := At.pure_ G q (.bl i) rfl
theorem At.strR {i : Str} {Q : VK} (G : Good K g σ H) (q : At K w (Pure.pure (D.str i, false) : M Rs) g σ H fun r g1 H1 => ∀ v, RelR K H0 g1 σ H1 r v → Q v H1) : Q (.str i) H := At.pure_ G q (.str i) rfl
theorem At.repR {d : D} {v : V} {Q : VK} (G : Good K g σ H) (r : Rep K g.As (hid g.M H) d v) (q : At K w (Pure.pure (d, false) : M Rs) g σ H fun r g1 H1 => ∀ v, RelR K H0 g1 σ H1 r v → Q v H1) : Q v H := At.pure_ G q v r
theorem bin_sem {op : BOp} {d e : D} {x y : V} {Q : VK} (E0 : Ext g0 σ0 H0 g σ H) (G : Good K g σ H) (rx : RepB K g.As (hid g.M H) H d x) (ry : RepB K g.As (hid g.M H) H e y)
    (h : At K w (liftO (binD op d e)) g σ H fun r g1 H1 => ∀ v, RelR K H0 g1 σ H1 r v → Q v H1) : rBin K op x y H Q := by
  unfold binD at h
  split at h
  · obtain rfl : x = .int _ := rx
    obtain rfl : y = .int _ := ry
    exact .inl ⟨_, _, rfl, rfl, At.intR G h⟩
  · obtain rfl : x = .str _ := rx
    obtain rfl : y = .str _ := ry
    split at h
    · rename_i hl
      exact .inr (.inl ⟨_, _, rfl, rfl, line_le hl, At.strR G h⟩)
    · exact h.elim
  · rename_i ds es
    obtain ⟨a, vs, rfl, h1, r1⟩ := rx
    obtain ⟨b, ws, rfl, h2, r2⟩ := ry
    have l1 := r1.length
    have l2 := r2.length
    split at h
    · rename_i hl
      have hq : At K w (Pure.pure (D.tup (ds ++ es), false) : M Rs) g σ H fun r g1 H1 => ∀ v, RelR K H0 g1 σ H1 r v → Q v H1 := h
      refine .inr (.inr (.inl ⟨a, b, vs, ws, rfl, rfl, SqT.of (hid_of h1).2, SqT.of (hid_of h2).2, line_le (by omega), fun e => ?_, fun _ e => ?_, fun _ _ p hp => At.tupR G (r1.append r2) hp hq⟩))
      · subst e
        obtain rfl : ds = [] := by
          cases ds with
          | nil => rfl
          | cons d ds => simp at l1
        exact At.repR (d := .tup es) G ⟨b, ws, rfl, h2, r2⟩ hq
      · subst e
        obtain rfl : es = [] := by
          cases es with
          | nil => rfl
          | cons d ds => simp at l2
        rw [List.append_nil] at hq
        exact At.repR (d := .tup ds) G ⟨a, vs, rfl, h1, r1⟩ hq
    · exact h.elim
  · rename_i ds es
    obtain ⟨a, vs, rfl, h1, r1⟩ := rx
    obtain ⟨b, ws, rfl, h2, r2⟩ := ry
    have l1 := r1.length
    have l2 := r2.length
    split at h
    · rename_i hl
      exact .inr (.inr (.inr ⟨a, b, vs, ws, rfl, rfl, h1, h2, line_le (by omega), fun p hp => At.lstR E0 G (r1.append r2) hp h⟩))
    · exact h.elim
  · obtain rfl : x = .int _ := rx
    obtain rfl : y = .int _ := ry
    exact ⟨_, _, rfl, rfl, At.intR G h⟩
  · obtain rfl : x = .int _ := rx
    obtain rfl : y = .int _ := ry
    split at h
    · rename_i hl
      rcases mulOk_ok hl with hl | hl
      · exact .inl ⟨_, _, rfl, rfl, hl, At.intR G h⟩
      · exact .inr ⟨_, _, rfl, rfl, hl, At.intR G h⟩
    · exact h.elim
  · obtain rfl : x = .int _ := rx
    obtain rfl : y = .int _ := ry
    split at h
    · rename_i hl
      exact ⟨_, _, rfl, rfl, hl, At.intR G h⟩
    · exact h.elim
  · obtain rfl : x = .int _ := rx
    obtain rfl : y = .int _ := ry
    split at h
    · rename_i hl
      exact ⟨_, _, rfl, rfl, hl, At.intR G h⟩
    · exact h.elim
  · obtain rfl : x = .int _ := rx
    obtain rfl : y = .int _ := ry
    split at h
    · rename_i hl
      exact ⟨_, _, rfl, rfl, hl, At.intR G h⟩
    · exact h.elim
  · exact h.elim
end
section
variable {X : Cx} {w : WX} {cl : CallT} {a b c : Expr} {pos : Pos} {xa xb xc : Ex}
theorem pz_bin {op : BOp} {o : Operator} (ho : o = opOf op := by rfl) (ha : PE X a (To X.K w (opdV xa (evalE cl xa)))) (hb : PE X b (To X.K w (opdV xb (evalE cl xb)))) : PE X (.BinOp a o b pos) (Tr X.K w (evalE cl (.bin op xa xb))) := by
  subst ho
  refine (pe_op (opR_bin op) ha hb).weak fun σ H Q ⟨g, G, q⟩ => ⟨g, G, (At.op2 (f := fun d e => liftO (binD op d e)) G q).imp fun o g1 H1 _ _ q1 v rv => ?_⟩
  obtain ⟨g1, G1, q2⟩ := q1 v rv
  refine ⟨g1, G1, q2.imp fun o' g2 H2 _ _ q3 u ru => ?_⟩
  obtain ⟨d, e, r1, r2, G2, E2, q4⟩ := q3 u ru
  exact bin_sem E2 G2 r1 r2 q4
end
end Z

/-! Z6: comparisons, tests. -/
namespace Z
open PySem PySem.Spec PyProof.Rows L2

section
variable {K : PySem.W.Frag} {As : List Addr} {M : List Addr} {H : Hp}
mutual
theorem Rep.dp : ∀ {d : D} {v : V}, Rep K As (hid M H) d v → plain d = true → Dp K H v (toP d)
  | .none, v, h, _ => by obtain rfl : v = .non := h; exact .non
  | .bl b, v, h, _ => by obtain rfl : v = .bl b := h; exact .bl b
  | .int b, v, h, _ => by obtain rfl : v = .int b := h; exact .int b
  | .str b, v, h, _ => by obtain rfl : v = .str b := h; exact .str b
  | .tup ds, v, h, p => by
    obtain ⟨a, vs, rfl, h1, h2⟩ := h
    exact .tup (SqT.of (hid_of h1).2) (Reps.dp h2 p)
  | .lst ds, v, h, p => by
    obtain ⟨a, vs, rfl, h1, h2⟩ := h
    exact .lst (SqL.of (hid_of h1).2) (Reps.dp h2 p)
  | .dic _ _, _, _, p => by cases p
  | .obj _, _, _, p => by cases p
  | .scr _, _, _, p => by cases p
theorem Reps.dp : ∀ {ds : List D} {vs : List V}, Reps K As (hid M H) ds vs → plains ds = true → DpAll K H vs (toPs ds)
  | [], vs, h, _ => by obtain rfl : vs = [] := h; exact .nil
  | d :: ds, vs, h, p => by
    obtain ⟨v, ws, rfl, h1, h2⟩ := h
    have p : (plain d && plains ds) = true := p
    rw [Bool.and_eq_true] at p
    exact .cons (Rep.dp h1 p.1) (Reps.dp h2 p.2)
end
theorem RepB.dp {d : D} {v : V} (h : RepB K As (hid M H) H d v) (p : plain d = true) : Dp K H v (toP d) := by
  cases d with
  | lst ds =>
    obtain ⟨a, vs, rfl, h1, h2⟩ := h
    exact .lst (SqL.of h1) (Reps.dp h2 p)
  | _ => exact Rep.dp (As := As) (M := M) h p
mutual
theorem plain_lay : ∀ {d : D}, plain d = true → (toP d).canLay0 = true
  | .none, _ => by simp [toP, PyData.canLay0]
  | .bl _, _ => by simp [toP, PyData.canLay0]
  | .int _, _ => by simp [toP, PyData.canLay0]
  | .str s, h => by
    have h : PyData.strOk s = true := h
    simp [toP, PyData.canLay0, h]
  | .tup ds, h => by simp only [toP, PyData.canLay0]; exact plains_lay h
  | .lst ds, h => by simp only [toP, PyData.canLay0]; exact plains_lay h
  | .dic _ _, h => by cases h
  | .obj _, h => by cases h
  | .scr _, h => by cases h
theorem plains_lay : ∀ {ds : List D}, plains ds = true → PyData.canLayAll0 (toPs ds) = true
  | [], _ => by simp [toPs, PyData.canLayAll0]
  | d :: ds, h => by
    have h : (plain d && plains ds) = true := h
    rw [Bool.and_eq_true] at h
    simp only [toPs, PyData.canLayAll0, plain_lay h.1, plains_lay h.2, Bool.and_self]
end
theorem fit_shaped {d : D} (h : fitD d = true) : SeqAt.shaped (toP d) = true := by
  unfold fitD at h
  rw [Bool.and_eq_true, decide_eq_true_eq] at h
  show ((toP d).canLay0 && decide ((toP d).depth ≤ 64)) = true
  rw [Bool.and_eq_true]
  exact ⟨plain_lay h.1, decide_eq_true (by omega)⟩
theorem fit_plain {d : D} (h : fitD d = true) : plain d = true := by
  unfold fitD at h
  rw [Bool.and_eq_true] at h
  exact h.1
theorem toPs_any (f : PyData → Bool) : ∀ ds : List D, (toPs ds).any f = ds.any fun z => f (toP z)
  | [] => rfl
  | d :: ds => by
    show (f (toP d) || (toPs ds).any f) = (f (toP d) || ds.any fun z => f (toP z))
    rw [toPs_any f ds]
end

/-! in of a tuple of data -/
section
variable {X : Cx}
def rInT (K : PySem.W.Frag) : R2 := fun x y H Q => ∃ d ds, Dp K H x d ∧ Dp K H y (.tuple ds) ∧ SeqAt.shaped d = true ∧ SeqAt.shaped (.tuple ds) = true ∧ Q (.bl (ds.any fun z => PyData.eqv z d)) H
def rNotInT (K : PySem.W.Frag) : R2 := fun x y H Q => ∃ d ds, Dp K H x d ∧ Dp K H y (.tuple ds) ∧ SeqAt.shaped d = true ∧ SeqAt.shaped (.tuple ds) = true ∧ Q (.bl (!ds.any fun z => PyData.eqv z d)) H
theorem op_inT (hu : X.A.units + 65 < cLine) : OpR X (compareOp .In) (rInT X.K) := by
  intro pins s σ H x y v u Q I rx ry h
  obtain ⟨d, ds, hd, he, sd, se, q⟩ := h
  obtain ⟨as, r1⟩ := Dp.reads I d x v hd rx
  obtain ⟨bs, r2⟩ := Dp.reads I (.tuple ds) y u he ry
  exact SeqAt.in_tuple_reads r2 r1 (SeqAt.canLay_of_shaped se) (SeqAt.canLay_of_shaped sd) (room_in_shaped sd hu) ⟨.bl _, H, I, rfl, q⟩
theorem op_notInT (hu : X.A.units + 65 < cLine) : OpR X (compareOp .NotIn) (rNotInT X.K) := by
  intro pins s σ H x y v u Q I rx ry h
  obtain ⟨d, ds, hd, he, sd, se, q⟩ := h
  obtain ⟨as, r1⟩ := Dp.reads I d x v hd rx
  obtain ⟨bs, r2⟩ := Dp.reads I (.tuple ds) y u he ry
  exact SeqAt.notIn_tuple_reads r2 r1 (SeqAt.canLay_of_shaped se) (SeqAt.canLay_of_shaped sd) (room_in_shaped sd hu) ⟨.bl _, H, I, rfl, q⟩
end

def rCmp (K : PySem.W.Frag) : COp → R2
  | .eq => rEqD K
  | .ne => rNeD K
  | .lt => rI0 fun i j => .bl (decide (i < j))
  | .le => rI0 fun i j => .bl (decide (i ≤ j))
  | .gt => rI0 fun i j => .bl (decide (j < i))
  | .ge => rI0 fun i j => .bl (decide (j ≤ i))
  | .isin => fun x y H Q => (∃ i j, x = .str i ∧ y = .str j ∧ Q (.bl (!(Builtin.Str.occurrences j i 0 j.length 1).isEmpty)) H) ∨ rInD K x y H Q ∨ rInT K x y H Q
  | .notin => fun x y H Q => (∃ i j, x = .str i ∧ y = .str j ∧ Q (.bl (!(!(Builtin.Str.occurrences j i 0 j.length 1).isEmpty))) H) ∨ rNotInD K x y H Q ∨ rNotInT K x y H Q
def cmpOf : COp → CmpOp
  | .eq => .Eq
  | .ne => .NotEq
  | .lt => .Lt
  | .le => .LtE
  | .gt => .Gt
  | .ge => .GtE
  | .isin => .In
  | .notin => .NotIn
theorem opR_cmp {X : Cx} (hu : X.A.units + 65 < cLine) : ∀ op : COp, OpR X (compareOp (cmpOf op)) (rCmp X.K op)
  | .eq => op_eqD (by omega)
  | .ne => op_neD (by omega)
  | .lt => op_lt
  | .le => op_le
  | .gt => op_gt
  | .ge => op_ge
  | .isin => op_in_str.or ((op_inD hu).or (op_inT hu))
  | .notin => op_notin_str.or ((op_notInD hu).or (op_notInT hu))

section
variable {K : PySem.W.Frag} {w : WX} {g0 g : Gh} {σ0 σ : L2.St} {H0 H : Hp}
theorem cmp_sem {op : COp} {d e : D} {x y : V} {c : Bool} {Q : VK} (rx : RepB K g.As (hid g.M H) H d x) (ry : RepB K g.As (hid g.M H) H e y)
    (h : cmpD op d e = some c) (q : Q (.bl c) H) : rCmp K op x y H Q := by
  unfold cmpD at h
  cases op with
  | eq =>
    simp only at h
    split at h
    · rename_i hf
      rw [Bool.and_eq_true] at hf
      obtain ⟨f1, f2⟩ := hf
      cases h
      exact ⟨_, _, rx.dp (fit_plain f1), ry.dp (fit_plain f2), fit_shaped f1, fit_shaped f2, q⟩
    · cases h
  | ne =>
    simp only at h
    split at h
    · rename_i hf
      rw [Bool.and_eq_true] at hf
      obtain ⟨f1, f2⟩ := hf
      cases h
      exact ⟨_, _, rx.dp (fit_plain f1), ry.dp (fit_plain f2), fit_shaped f1, fit_shaped f2, q⟩
    · cases h
  | lt =>
    simp only at h
    split at h
    · cases h
      obtain rfl : x = .int _ := rx
      obtain rfl : y = .int _ := ry
      exact ⟨_, _, rfl, rfl, q⟩
    · cases h
  | le =>
    simp only at h
    split at h
    · cases h
      obtain rfl : x = .int _ := rx
      obtain rfl : y = .int _ := ry
      exact ⟨_, _, rfl, rfl, q⟩
    · cases h
  | gt =>
    simp only at h
    split at h
    · cases h
      obtain rfl : x = .int _ := rx
      obtain rfl : y = .int _ := ry
      exact ⟨_, _, rfl, rfl, q⟩
    · cases h
  | ge =>
    simp only at h
    split at h
    · cases h
      obtain rfl : x = .int _ := rx
      obtain rfl : y = .int _ := ry
      exact ⟨_, _, rfl, rfl, q⟩
    · cases h
  | isin =>
    simp only at h
    split at h
    · cases h
      obtain rfl : x = .str _ := rx
      obtain rfl : y = .str _ := ry
      exact .inl ⟨_, _, rfl, rfl, q⟩
    · split at h
      · rename_i hf
        rw [Bool.and_eq_true] at hf
        obtain ⟨f1, f2⟩ := hf
        cases h
        refine .inr (.inl ⟨_, _, rx.dp (fit_plain f1), ry.dp (fit_plain f2), fit_shaped f1, fit_shaped f2, ?_⟩)
        rw [toPs_any]
        exact q
      · cases h
    · split at h
      · rename_i hf
        rw [Bool.and_eq_true] at hf
        obtain ⟨f1, f2⟩ := hf
        cases h
        refine .inr (.inr ⟨_, _, rx.dp (fit_plain f1), ry.dp (fit_plain f2), fit_shaped f1, fit_shaped f2, ?_⟩)
        rw [toPs_any]
        exact q
      · cases h
    · cases h
  | notin =>
    simp only at h
    split at h
    · cases h
      obtain rfl : x = .str _ := rx
      obtain rfl : y = .str _ := ry
      exact .inl ⟨_, _, rfl, rfl, q⟩
    · split at h
      · rename_i hf
        rw [Bool.and_eq_true] at hf
        obtain ⟨f1, f2⟩ := hf
        cases h
        refine .inr (.inl ⟨_, _, rx.dp (fit_plain f1), ry.dp (fit_plain f2), fit_shaped f1, fit_shaped f2, ?_⟩)
        rw [toPs_any]
        exact q
      · cases h
    · split at h
      · rename_i hf
        rw [Bool.and_eq_true] at hf
        obtain ⟨f1, f2⟩ := hf
        cases h
        refine .inr (.inr ⟨_, _, rx.dp (fit_plain f1), ry.dp (fit_plain f2), fit_shaped f1, fit_shaped f2, ?_⟩)
        rw [toPs_any]
        exact q
      · cases h
    · cases h
/-- a bool from an expression -/
theorem At.asB_ {m : M Rs} {k : Bool → Gh → Hp → Prop} (G : Good K g σ H) (h : At K w (asB m) g σ H k) :
    At K w m g σ H fun r g1 H1 => ∀ v, RelR K H g1 σ H1 r v → ∃ c, v = .bl c ∧ Good K g1 σ H1 ∧ Ext g σ H g1 σ H1 ∧ k c g1 H1 := by
  have h : At K w (do let r ← m; match r.1 with | .bl b => Pure.pure b | _ => bad) g σ H k := h
  refine (At.bind G h).imp fun r g1 H1 G1 E1 ⟨_, _, q⟩ v rv => ?_
  obtain ⟨d, fr⟩ := r
  cases d with
  | bl c =>
    unfold RelR at rv
    split at rv
    · obtain ⟨p, _, n⟩ := rv
      exact n.cel.elim
    · exact ⟨c, rv, G1, E1, At.pure_ G1 q⟩
  | _ => exact q.elim
theorem At.ofB_ {m : M Bool} {k : Rs → Gh → Hp → Prop} (G : Good K g σ H) (h : At K w (ofB m) g σ H k) : At K w m g σ H fun c g1 H1 => k (.bl c, false) g1 H1 :=
  (At.bind G (f := fun b => (Pure.pure (D.bl b, false) : M Rs)) h).imp fun c g1 H1 G1 E1 ⟨_, _, q⟩ => At.pure_ G1 q
end

section
variable {X : Cx} {w : WX} {cl : CallT} {a b c : Expr} {pos : Pos} {xa xb xc : Ex} {e : Expr} {m : M Rs}
/-- an expression that gives a bool, as a test -/
theorem pt_of (h : PE X e (Tr X.K w m)) (he : ∀ whole, isTrue e X.env whole = (do let v ← whole; standAt e.pos; holding [v] (truthy v)) := by intro _; rfl) : PT X e (Tt X.K w (asB m)) := by
  refine (pt_val h he).weak fun σ H Q ⟨g, G, q⟩ => ⟨g, G, (At.asB_ G q).imp fun r g1 H1 _ _ q1 v rv => ?_⟩
  obtain ⟨c, rfl, _, _, k⟩ := q1 v rv
  exact ⟨c, rfl, k⟩
theorem cmp_of {op : COp} {σ : L2.St} {H : Hp} {Q : VK} (h : Tr X.K w (evalE cl (.cmp op xa xb)) σ H Q) : tOp (rCmp X.K op) (To X.K w (opdV xa (evalE cl xa))) (To X.K w (opdV xb (evalE cl xb))) σ H Q := by
  obtain ⟨g, G, q⟩ := h
  refine ⟨g, G, (At.op2 (f := fun d e => (do let c ← liftO (cmpD op d e); Pure.pure (D.bl c, false) : M Rs)) G q).imp fun o g1 H1 _ _ q1 v rv => ?_⟩
  obtain ⟨g1, G1, q2⟩ := q1 v rv
  refine ⟨g1, G1, q2.imp fun o' g2 H2 _ _ q3 u ru => ?_⟩
  obtain ⟨d, e, r1, r2, G2, E2, q4⟩ := q3 u ru
  obtain ⟨c, e1, _, _, q5⟩ := At.liftO_ G2 (At.bind G2 q4)
  exact cmp_sem r1 r2 e1 (At.blR G2 q5)
theorem pz_cmp {op : COp} {o : CmpOp} (hu : X.A.units + 65 < cLine) (ho : o = cmpOf op := by rfl) (ha : PE X a (To X.K w (opdV xa (evalE cl xa)))) (hb : PE X b (To X.K w (opdV xb (evalE cl xb))))
    (hm : behindInMarks o b = false := by first | exact nomark _ | rfl) : PE X (.Compare a [o] [b] pos) (Tr X.K w (evalE cl (.cmp op xa xb))) := by
  subst ho
  exact (pe_cmpR (opR_cmp hu op) ha hb hm).weak fun σ H Q h => cmp_of h
theorem pt_cmpz {op : COp} {o : CmpOp} (hu : X.A.units + 65 < cLine) (ho : o = cmpOf op := by rfl) (ha : PE X a (To X.K w (opdV xa (evalE cl xa)))) (hb : PE X b (To X.K w (opdV xb (evalE cl xb))))
    (hm : behindInMarks o b = false := by first | exact nomark _ | rfl) : PT X (.Compare a [o] [b] pos) (Tt X.K w (asB (evalE cl (.cmp op xa xb)))) := by
  subst ho
  refine (pt_cmpR (opR_cmp hu op) ha hb hm).weak fun σ H Q ⟨g, G, q⟩ => ?_
  refine cmp_of (Q := fun x H' => ∃ k, x = .bl k ∧ Q k H') ⟨g, G, (At.asB_ G q).imp fun r g1 H1 _ _ q1 v rv => ?_⟩
  obtain ⟨c, rfl, _, _, k⟩ := q1 v rv
  exact ⟨c, rfl, k⟩
theorem cmp2_of {op op' : COp} {σ : L2.St} {H : Hp} {Q : VK} (h : Tr X.K w (evalE cl (.cmp2 op op' xa xb xc)) σ H Q) :
    tChain (rCmp X.K op) (rCmp X.K op') (Td X.K w (dat (evalE cl xa))) (Td X.K w (dat (evalE cl xb))) (Td X.K w (dat (evalE cl xc))) σ H Q := by
  obtain ⟨g, G, q⟩ := h
  have q : At X.K w (do
    let d ← dat (evalE cl xa)
    let e ← dat (evalE cl xb)
    let c1 ← liftO (cmpD op d e)
    if c1 = true then do
      let f ← dat (evalE cl xc)
      let c2 ← liftO (cmpD op' e f)
      Pure.pure (D.bl c2, false)
    else Pure.pure (D.bl false, false)) g σ H _ := q
  refine ⟨g, G, (At.bind G q).imp fun d g1 H1 G1 E1 ⟨_, _, q1⟩ v rv => ⟨g1, G1, (At.bind G1 q1).imp fun e g2 H2 G2 E2 ⟨_, _, q2⟩ u ru => ?_⟩⟩
  obtain ⟨c, e1, _, _, q3⟩ := At.liftO_ G2 (At.bind G2 q2)
  refine cmp_sem (RepB.of (E2.rep rv)) (RepB.of ru) e1 ⟨c, rfl, ?_⟩
  cases c with
  | false => exact iteF (At.blR G2 q3)
  | true =>
    have q3 : At X.K w (do
      let f ← dat (evalE cl xc)
      let c2 ← liftO (cmpD op' e f)
      Pure.pure (D.bl c2, false)) g2 σ H2 _ := q3
    refine iteT ⟨g2, G2, (At.bind G2 q3).imp fun f g3 H3 G3 E3 ⟨_, _, q4⟩ z rz => ?_⟩
    obtain ⟨c2, e2, _, _, q5⟩ := At.liftO_ G3 (At.bind G3 q4)
    exact cmp_sem (RepB.of (E3.rep ru)) (RepB.of rz) e2 (At.blR G3 q5)
theorem pz_cmp2 {op op' : COp} {o o' : CmpOp} (hu : X.A.units + 65 < cLine) (ho : o = cmpOf op := by rfl) (ho' : o' = cmpOf op' := by rfl) (ha : PE X a (Tr X.K w (evalE cl xa))) (hb : PE X b (Tr X.K w (evalE cl xb))) (hc : PE X c (Tr X.K w (evalE cl xc)))
    (hm : lastMarks [o, o'] [b, c] = false := by with_unfolding_all rfl) : PE X (.Compare a [o, o'] [b, c] pos) (Tr X.K w (evalE cl (.cmp2 op op' xa xb xc))) := by
  subst ho ho'
  exact (pe_chain (opR_cmp hu op) (opR_cmp hu op') (Tr.dat ha) (Tr.dat hb) (Tr.dat hc) hm).weak fun σ H Q h => cmp2_of h
theorem pt_cmp2 {op op' : COp} {o o' : CmpOp} (hu : X.A.units + 65 < cLine) (ho : o = cmpOf op := by rfl) (ho' : o' = cmpOf op' := by rfl) (ha : PE X a (Tr X.K w (evalE cl xa))) (hb : PE X b (Tr X.K w (evalE cl xb))) (hc : PE X c (Tr X.K w (evalE cl xc)))
    (hm : lastMarks [o, o'] [b, c] = false := by with_unfolding_all rfl) : PT X (.Compare a [o, o'] [b, c] pos) (Tt X.K w (asB (evalE cl (.cmp2 op op' xa xb xc)))) := by
  subst ho ho'
  refine (pt_chain (opR_cmp hu op) (opR_cmp hu op') (Tr.dat ha) (Tr.dat hb) (Tr.dat hc) hm).weak fun σ H Q ⟨g, G, q⟩ => ?_
  refine cmp2_of (Q := fun x H' => ∃ k, x = .bl k ∧ Q k H') ⟨g, G, (At.asB_ G q).imp fun r g1 H1 _ _ q1 v rv => ?_⟩
  obtain ⟨c, rfl, _, _, k⟩ := q1 v rv
  exact ⟨c, rfl, k⟩
end
end Z

/-! Z7: and, or, not, if-expressions, subscripts, slices, built-ins, isinstance, pop. -/
namespace Z
open PySem PySem.Spec PyProof.Rows L2

section
variable {K : PySem.W.Frag} {w : WX} {g0 g : Gh} {σ0 σ : L2.St} {H0 H : Hp}
theorem At.older {m : M Rs} {Q : VK} (G0 : Good K g0 σ0 H0) (E0 : Ext g0 σ0 H0 g σ H) (q : At K w m g σ H fun r g1 H1 => ∀ v, RelR K H0 g1 σ H1 r v → Q v H1) : At K w m g σ H fun r g1 H1 => ∀ v, RelR K H g1 σ H1 r v → Q v H1 :=
  q.imp fun r g1 H1 _ _ q1 v rv => q1 v (rv.older E0)
/-- an owned slot's container is changed -/
theorem hid_in {M : List Addr} {p : Addr} {o : HO} (h : p ∈ M) : hid M (upd H p o) = hid M H := by
  funext b
  unfold hid
  split
  · rfl
  · rename_i n; exact upd_ne (fun z => n (z ▸ h))
theorem Good.mut {i : Nat} {d d' : D} {p : Addr} {o : HO} (G : Good K g σ H) (hi : g.ρ[i]? = some (.ow d)) (hs : σ[i]? = some (some (.ref p))) (c : Cel K g.As (hid g.M H) (upd H p o) d' p) :
    Good K { g with ρ := g.ρ.set i (.ow d') } σ (upd H p o) ∧ Ext g σ H { g with ρ := g.ρ.set i (.ow d') } σ (upd H p o) := by
  obtain ⟨a, e3, m, c0⟩ := G.slot i _ hi
  rw [hs] at e3; cases e3
  have hil : i < g.ρ.length := (List.getElem?_eq_some_iff.mp hi).1
  have he : hid g.M (upd H p o) = hid g.M H := hid_in m
  have sub : ∀ q, Own (g.ρ.set i (.ow d')) σ q → Own g.ρ σ q := fun q ⟨j, e, h1, h2⟩ => by
    by_cases hj : i = j
    · subst hj; exact ⟨i, d, hi, h2⟩
    · rw [List.getElem?_set_ne hj] at h1; exact ⟨j, e, h1, h2⟩
  have nA : p ∉ g.As := G.oas p ⟨i, d, hi, hs⟩
  have slotOf : ∀ (j : Nat) (e : D), (g.ρ.set i (.ow d'))[j]? = some (.ow e) → ∃ e', g.ρ[j]? = some (.ow e') := fun j e h1 => by
    by_cases hj : i = j
    · subst hj; exact ⟨d, hi⟩
    · rw [List.getElem?_set_ne hj] at h1; exact ⟨e, h1⟩
  refine ⟨⟨by simpa using G.len, fun j s e => ?_, fun j k d1 d2 q h1 h2 h3 h4 => ?_, fun q h => G.oas q (sub q h), fun j so e => ?_, G.asl, G.asn, G.asm, fun q hq => ?_⟩, ⟨⟨[], by simp⟩, fun b u n q => ⟨n, ?_⟩, fun q hq _ hn => ⟨hq, ?_⟩, fun b n => ?_, fun q h => .inl (sub q h)⟩⟩
  · by_cases hj : i = j
    · subst hj
      rw [List.getElem?_set_self hil] at e; cases e
      exact ⟨p, hs, m, by rw [show (hid ({ g with ρ := g.ρ.set i (.ow d') } : Gh).M (upd H p o)) = hid g.M H from he]; exact c⟩
    · rw [List.getElem?_set_ne hj] at e
      have q := G.slot j s e
      cases s with
      | un => trivial
      | pu d => obtain ⟨v, e, r⟩ := q; exact ⟨v, e, by rw [show (hid ({ g with ρ := g.ρ.set i (.ow d') } : Gh).M (upd H p o)) = hid g.M H from he]; exact r⟩
      | ow d1 =>
        obtain ⟨a, e4, m', c'⟩ := q
        have ne : a ≠ p := fun z => hj (G.inj i j _ _ p hi e hs (z ▸ e4))
        exact ⟨a, e4, m', by rw [show (hid ({ g with ρ := g.ρ.set i (.ow d') } : Gh).M (upd H p o)) = hid g.M H from he]; exact c'.mono asId (fun _ _ h => h) (upd_ne ne)⟩
  · obtain ⟨e1, h1⟩ := slotOf j d1 h1
    obtain ⟨e2, h2⟩ := slotOf k d2 h2
    exact G.inj j k _ _ q h1 h2 h3 h4
  · obtain ⟨a, e1, q⟩ := G.sto j so e
    refine ⟨a, e1, ?_⟩
    rw [show (hid ({ g with ρ := g.ρ.set i (.ow d') } : Gh).M (upd H p o)) = hid g.M H from he]
    exact q.mono asId (fun _ _ h => h) (upd_ne fun z => nA (z ▸ List.mem_of_getElem? e1))
  · unfold upd; split; exact (fun z => nomatch z); exact G.trk q hq
  · rw [upd_ne (fun z : b = p => n (by rw [z]; exact m))]; exact q
  · exact upd_ne fun z => hn (z ▸ ⟨i, d, hi, hs⟩)
  · unfold upd; split; exact (fun z => nomatch z); exact n
/-- a shared list is changed -/
theorem Good.mutS {i : Nat} {so so' : SO} {p : Addr} {o : HO} (G : Good K g σ H) (hi : g.st[i]? = some so) (ha : g.As[i]? = some p) (c : SOk K g.As (hid g.M H) (upd H p o) so' p) :
    Good K { g with st := g.st.set i so' } σ (upd H p o) ∧ Ext g σ H { g with st := g.st.set i so' } σ (upd H p o) := by
  have m : p ∈ g.M := G.asm p (List.mem_of_getElem? ha)
  have hil : i < g.st.length := (List.getElem?_eq_some_iff.mp hi).1
  have he : hid g.M (upd H p o) = hid g.M H := hid_in m
  have hA : p ∈ g.As := List.mem_of_getElem? ha
  refine ⟨⟨G.len, fun j s e => ?_, G.inj, G.oas, fun j so e => ?_, by simpa using G.asl, G.asn, G.asm, fun q hq => ?_⟩, ⟨⟨[], by simp⟩, fun b u n q => ⟨n, ?_⟩, fun q hq hn _ => ⟨hq, ?_⟩, fun b n => ?_, fun q h => .inl h⟩⟩
  · have q := G.slot j s e
    cases s with
    | un => trivial
    | pu d => obtain ⟨v, e, r⟩ := q; exact ⟨v, e, by rw [show (hid ({ g with st := g.st.set i so' } : Gh).M (upd H p o)) = hid g.M H from he]; exact r⟩
    | ow d1 =>
      obtain ⟨a, e4, m', c'⟩ := q
      have ne : a ≠ p := fun z => G.oas a ⟨j, d1, e, e4⟩ (z ▸ hA)
      exact ⟨a, e4, m', by rw [show (hid ({ g with st := g.st.set i so' } : Gh).M (upd H p o)) = hid g.M H from he]; exact c'.mono asId (fun _ _ h => h) (upd_ne ne)⟩
  · by_cases hj : i = j
    · subst hj
      have e : (g.st.set i so')[i]? = some so := e
      rw [List.getElem?_set_self hil] at e; cases e
      exact ⟨p, ha, by rw [show (hid ({ g with st := g.st.set i so' } : Gh).M (upd H p o)) = hid g.M H from he]; exact c⟩
    · have e : (g.st.set i so')[j]? = some so := e
      rw [List.getElem?_set_ne hj] at e
      obtain ⟨a, e1, q⟩ := G.sto j so e
      refine ⟨a, e1, ?_⟩
      rw [show (hid ({ g with st := g.st.set i so' } : Gh).M (upd H p o)) = hid g.M H from he]
      refine q.mono asId (fun _ _ h => h) (upd_ne fun z => hj ?_)
      subst z
      obtain ⟨l1, q1⟩ := List.getElem?_eq_some_iff.mp e1
      obtain ⟨l2, q2⟩ := List.getElem?_eq_some_iff.mp ha
      exact (List.getElem_inj G.asn).mp (q2.trans q1.symm)
  · unfold upd; split; exact (fun z => nomatch z); exact G.trk q hq
  · rw [upd_ne (fun z : b = p => n (by rw [z]; exact m))]; exact q
  · exact upd_ne fun z => hn (z ▸ hA)
  · unfold upd; split; exact (fun z => nomatch z); exact n
end

section
variable {X : Cx} {w : WX} {cl : CallT} {a b c : Expr} {rest : List Expr} {pos : Pos} {xa xb xc : Ex}
/-! ### and, or, not -/
theorem and_at {K : PySem.W.Frag} {g : Gh} {σ : L2.St} {H : Hp} {k : Bool → Gh → Hp → Prop} (G : Good K g σ H) (h : At K w (asB (evalE cl (.and2 xa xb))) g σ H k) :
    At K w (asB (evalE cl xa)) g σ H fun c g1 H1 => Good K g1 σ H1 ∧ if c = true then At K w (asB (evalE cl xb)) g1 σ H1 k else k false g1 H1 := by
  have h2 : At K w (asB (evalE cl xa) >>= fun c => if c = true then asB (evalE cl xb) else Pure.pure false) g σ H k := by
    have e : asB (evalE cl (.and2 xa xb)) = (asB (evalE cl xa) >>= fun c => if c = true then asB (evalE cl xb) else Pure.pure false) := by
      funext s
      show asB (asB (evalE cl xa) >>= fun c => if c = true then ofB (asB (evalE cl xb)) else Pure.pure (D.bl false, false)) s = _
      show ((asB (evalE cl xa) >>= fun c => if c = true then ofB (asB (evalE cl xb)) else Pure.pure (D.bl false, false)) >>= fun r => match r.1 with | .bl b => Pure.pure b | _ => bad) s = _
      rw [bind_run, bind_run, bind_run]
      cases asB (evalE cl xa) s with
      | bad => rfl
      | exc c fs s' => rfl
      | ok c s' =>
        cases c with
        | false => rfl
        | true =>
          dsimp only
          simp only [if_true, Bool.false_eq_true, if_false]
          unfold ofB
          rw [bind_run]
          cases asB (evalE cl xb) s' <;> rfl
    rw [← e]; exact h
  refine (At.bind G h2).imp fun c g1 H1 G1 E1 ⟨_, _, q⟩ => ⟨G1, ?_⟩
  cases c with
  | true => exact iteT q
  | false => exact iteF (At.pure_ G1 q)
theorem or_at {K : PySem.W.Frag} {g : Gh} {σ : L2.St} {H : Hp} {k : Bool → Gh → Hp → Prop} (G : Good K g σ H) (h : At K w (asB (evalE cl (.or2 xa xb))) g σ H k) :
    At K w (asB (evalE cl xa)) g σ H fun c g1 H1 => Good K g1 σ H1 ∧ if c = true then k true g1 H1 else At K w (asB (evalE cl xb)) g1 σ H1 k := by
  have h2 : At K w (asB (evalE cl xa) >>= fun c => if c = true then Pure.pure true else asB (evalE cl xb)) g σ H k := by
    have e : asB (evalE cl (.or2 xa xb)) = (asB (evalE cl xa) >>= fun c => if c = true then Pure.pure true else asB (evalE cl xb)) := by
      funext s
      show ((asB (evalE cl xa) >>= fun c => if c = true then Pure.pure (D.bl true, false) else ofB (asB (evalE cl xb))) >>= fun r => match r.1 with | .bl b => Pure.pure b | _ => bad) s = _
      rw [bind_run, bind_run, bind_run]
      cases asB (evalE cl xa) s with
      | bad => rfl
      | exc c fs s' => rfl
      | ok c s' =>
        cases c with
        | true => rfl
        | false =>
          dsimp only
          simp only [if_true, Bool.false_eq_true, if_false]
          unfold ofB
          rw [bind_run]
          cases asB (evalE cl xb) s' <;> rfl
    rw [← e]; exact h
  refine (At.bind G h2).imp fun c g1 H1 G1 E1 ⟨_, _, q⟩ => ⟨G1, ?_⟩
  cases c with
  | false => exact iteF q
  | true => exact iteT (At.pure_ G1 q)
theorem not_at {K : PySem.W.Frag} {g : Gh} {σ : L2.St} {H : Hp} {k : Bool → Gh → Hp → Prop} (G : Good K g σ H) (h : At K w (asB (evalE cl (.not1 xa))) g σ H k) :
    At K w (asB (evalE cl xa)) g σ H fun c g1 H1 => k (!c) g1 H1 := by
  have h2 : At K w (asB (evalE cl xa) >>= fun c => Pure.pure (!c)) g σ H k := by
    have e : asB (evalE cl (.not1 xa)) = (asB (evalE cl xa) >>= fun c => Pure.pure (!c)) := by
      funext s
      show ((asB (evalE cl xa) >>= fun c => Pure.pure (D.bl (!c), false)) >>= fun r => match r.1 with | .bl b => Pure.pure b | _ => bad) s = _
      rw [bind_run, bind_run, bind_run]
      cases asB (evalE cl xa) s <;> rfl
    rw [← e]; exact h
  exact (At.bind G h2).imp fun c g1 H1 G1 E1 ⟨_, _, q⟩ => At.pure_ G1 q
theorem pw_one_and (ha : PT X a (Tt X.K w (asB (evalE cl xa)))) : PW X (.BoolOp .And [a] pos) (Tt X.K w (asB (evalE cl xa))) := pw_and1 ha
theorem pw_one_or (ha : PT X a (Tt X.K w (asB (evalE cl xa)))) : PW X (.BoolOp .Or [a] pos) (Tt X.K w (asB (evalE cl xa))) := pw_or1 ha
theorem _root_.L2.PW.weak {e : Expr} {t t' : TT} (h : PW X e t) (i : ∀ σ H Q, t' σ H Q → t σ H Q) : PW X e t' := ⟨fun wh pins s σ H Q I q => h.run wh pins s σ H Q I (i σ H Q q)⟩
theorem pw_andz (ha : PT X a (Tt X.K w (asB (evalE cl xa)))) (hb : PW X (.BoolOp .And (b :: rest) pos) (Tt X.K w (asB (evalE cl xb)))) : PW X (.BoolOp .And (a :: b :: rest) pos) (Tt X.K w (asB (evalE cl (.and2 xa xb)))) := by
  refine (pw_and ha hb).weak fun σ H Q ⟨g, G, q⟩ => ⟨g, G, (and_at G q).imp fun c g1 H1 _ _ ⟨G1, q1⟩ => ?_⟩
  cases c with
  | true => exact iteT ⟨g1, G1, q1⟩
  | false => exact iteF q1
theorem pw_orz (ha : PT X a (Tt X.K w (asB (evalE cl xa)))) (hb : PW X (.BoolOp .Or (b :: rest) pos) (Tt X.K w (asB (evalE cl xb)))) : PW X (.BoolOp .Or (a :: b :: rest) pos) (Tt X.K w (asB (evalE cl (.or2 xa xb)))) := by
  refine (pw_or ha hb).weak fun σ H Q ⟨g, G, q⟩ => ⟨g, G, (or_at G q).imp fun c g1 H1 _ _ ⟨G1, q1⟩ => ?_⟩
  cases c with
  | false => exact iteF ⟨g1, G1, q1⟩
  | true => exact iteT q1
theorem pt_notz (ha : PT X a (Tt X.K w (asB (evalE cl xa)))) : PT X (.UnaryOp .Not a pos) (Tt X.K w (asB (evalE cl (.not1 xa)))) :=
  (pt_not ha).weak fun σ H Q ⟨g, G, q⟩ => ⟨g, G, not_at G q⟩
/-! .. as values -/
theorem pz_one {op} {m : M Rs} (h : PE X a (Tr X.K w m)) : PE X (.BoolOp op [a] pos) (Tr X.K w m) := pe_one h
theorem pz_and (ha : PE X a (Tr X.K w (evalE cl xa))) (hb : PE X (.BoolOp .And (b :: rest) pos) (Tr X.K w (evalE cl xb))) : PE X (.BoolOp .And (a :: b :: rest) pos) (Tr X.K w (evalE cl (.and2 xa xb))) := by
  refine (pe_and ha hb).weak fun σ H Q ⟨g, G, q⟩ => ⟨g, G, ?_⟩
  have q : At X.K w (asB (evalE cl xa) >>= fun c => if c = true then ofB (asB (evalE cl xb)) else Pure.pure (D.bl false, false)) g σ H _ := q
  refine (At.asB_ G (At.bind G q)).imp fun r g1 H1 _ _ q1 v rv => ?_
  obtain ⟨c, rfl, G1, E1, _, _, q2⟩ := q1 v rv
  refine ⟨c, rfl, ?_⟩
  cases c with
  | false => exact iteF (At.blR G1 q2)
  | true =>
    refine iteT ⟨g1, G1, (At.asB_ G1 (At.ofB_ G1 q2)).imp fun r2 g2 H2 _ _ q3 u ru => ?_⟩
    obtain ⟨c2, rfl, G2, E2, q4⟩ := q3 u ru
    exact q4 (.bl c2) rfl
theorem pz_or (ha : PE X a (Tr X.K w (evalE cl xa))) (hb : PE X (.BoolOp .Or (b :: rest) pos) (Tr X.K w (evalE cl xb))) : PE X (.BoolOp .Or (a :: b :: rest) pos) (Tr X.K w (evalE cl (.or2 xa xb))) := by
  refine (pe_or ha hb).weak fun σ H Q ⟨g, G, q⟩ => ⟨g, G, ?_⟩
  have q : At X.K w (asB (evalE cl xa) >>= fun c => if c = true then Pure.pure (D.bl true, false) else ofB (asB (evalE cl xb))) g σ H _ := q
  refine (At.asB_ G (At.bind G q)).imp fun r g1 H1 _ _ q1 v rv => ?_
  obtain ⟨c, rfl, G1, E1, _, _, q2⟩ := q1 v rv
  refine ⟨c, rfl, ?_⟩
  cases c with
  | true => exact iteT (At.blR G1 q2)
  | false =>
    refine iteF ⟨g1, G1, (At.asB_ G1 (At.ofB_ G1 q2)).imp fun r2 g2 H2 _ _ q3 u ru => ?_⟩
    obtain ⟨c2, rfl, G2, E2, q4⟩ := q3 u ru
    exact q4 (.bl c2) rfl
theorem pz_not (ha : PE X a (Tr X.K w (evalE cl xa))) : PE X (.UnaryOp .Not a pos) (Tr X.K w (evalE cl (.not1 xa))) := by
  refine (pe_not ha).weak fun σ H Q ⟨g, G, q⟩ => ⟨g, G, ?_⟩
  have q : At X.K w (asB (evalE cl xa) >>= fun c => Pure.pure (D.bl (!c), false)) g σ H _ := q
  refine (At.asB_ G (At.bind G q)).imp fun r g1 H1 _ _ q1 v rv => ?_
  obtain ⟨c, rfl, G1, E1, _, _, q2⟩ := q1 v rv
  exact ⟨c, rfl, At.blR G1 q2⟩
theorem pz_ife (hc : PT X c (Tt X.K w (asB (evalE cl xc)))) (ha : PE X a (Tr X.K w (evalE cl xa))) (hb : PE X b (Tr X.K w (evalE cl xb))) : PE X (.IfExp c a b pos) (Tr X.K w (evalE cl (.ife xc xa xb))) := by
  refine (pe_ifExp hc ha hb).weak fun σ H Q ⟨g, G, q⟩ => ⟨g, G, ?_⟩
  have q : At X.K w (asB (evalE cl xc) >>= fun t => if t = true then evalE cl xa else evalE cl xb) g σ H _ := q
  refine (At.bind G q).imp fun t g1 H1 G1 E1 ⟨_, _, q1⟩ => ?_
  cases t with
  | true => exact iteT ⟨g1, G1, At.older G E1 q1⟩
  | false => exact iteF ⟨g1, G1, At.older G E1 q1⟩
/-! ### -a; is None -/
theorem pz_neg (ha : PE X a (Tr X.K w (evalE cl xa))) : PE X (.UnaryOp .USub a pos) (Tr X.K w (evalE cl (.neg xa))) := by
  refine (pe_un un_neg (Tr.dat ha)).weak fun σ H Q ⟨g, G, q⟩ => ⟨g, G, ?_⟩
  have q : At X.K w (do
    let d ← dat (evalE cl xa)
    match d with
    | .int i => Pure.pure (D.int (-i), false)
    | _ => bad) g σ H _ := q
  refine (At.bind G q).imp fun d g1 H1 G1 E1 ⟨_, _, q1⟩ v rv => ?_
  cases d with
  | int i => exact ⟨i, rv, At.intR G1 q1⟩
  | _ => exact q1.elim
theorem isN_at {no : Bool} {σ : L2.St} {H : Hp} {Q : VK} (h : Tr X.K w (evalE cl (.isN no xa)) σ H Q) : To X.K w (opdV xa (evalE cl xa)) σ H fun v H1 => Q (.bl (if no then !decide (v = .non) else decide (v = .non))) H1 := by
  obtain ⟨g, G, q⟩ := h
  refine ⟨g, G, (At.op1 (f := fun d => (match d with | .none => Pure.pure (D.bl (!no), false) | _ => Pure.pure (D.bl no, false) : M Rs)) G q).imp fun o g1 H1 _ _ q1 v rv => ?_⟩
  obtain ⟨d, r, G1, E1, q2⟩ := q1 v rv
  have key : ∀ c : Bool, (v = .non ↔ c = true) → At X.K w (Pure.pure (D.bl (if no then !c else c), false)) g1 σ H1 (fun r g2 H2 => ∀ u, RelR X.K H g2 σ H2 r u → Q u H2) → Q (.bl (if no then !decide (v = .non) else decide (v = .non))) H1 := fun c hc q3 => by
    have e : decide (v = .non) = c := by
      cases c with
      | true => exact decide_eq_true (hc.mpr rfl)
      | false => exact decide_eq_false (fun z => by simpa using hc.mp z)
    rw [e]
    exact At.blR G1 q3
  cases d with
  | none => exact key true ⟨fun _ => rfl, fun _ => r⟩ (by cases no <;> exact q2)
  | bl b => exact key false ⟨fun z => (by rw [z] at r; cases r), fun z => nomatch z⟩ (by cases no <;> exact q2)
  | int b => exact key false ⟨fun z => (by rw [z] at r; cases r), fun z => nomatch z⟩ (by cases no <;> exact q2)
  | str b => exact key false ⟨fun z => (by rw [z] at r; cases r), fun z => nomatch z⟩ (by cases no <;> exact q2)
  | tup ds => exact key false ⟨fun z => (by rw [z] at r; obtain ⟨_, _, e, _⟩ := r; cases e), fun z => nomatch z⟩ (by cases no <;> exact q2)
  | lst ds => exact key false ⟨fun z => (by rw [z] at r; obtain ⟨_, _, e, _⟩ := r; cases e), fun z => nomatch z⟩ (by cases no <;> exact q2)
  | dic ks ws => obtain ⟨_, _, _, _, h1, _⟩ := r; exact h1.elim
  | obj i => exact key false ⟨fun z => (by rw [z] at r; obtain ⟨_, e, _⟩ := r; cases e), fun z => nomatch z⟩ (by cases no <;> exact q2)
  | scr ns => exact key false ⟨fun z => (by rw [z] at r; obtain ⟨_, e, _⟩ := r; cases e), fun z => nomatch z⟩ (by cases no <;> exact q2)
theorem pz_isN {j pos'} (ha : PE X a (To X.K w (opdV xa (evalE cl xa)))) : PE X (.Compare a [.Is] [.Constant .none j pos'] pos) (Tr X.K w (evalE cl (.isN false xa))) := (pe_cmp (pc_isN ha) rfl).weak fun σ H Q h => isN_at h
theorem pz_notN {j pos'} (ha : PE X a (To X.K w (opdV xa (evalE cl xa)))) : PE X (.Compare a [.IsNot] [.Constant .none j pos'] pos) (Tr X.K w (evalE cl (.isN true xa))) := (pe_cmp (pc_notN ha) rfl).weak fun σ H Q h => isN_at h
theorem isNt_at {no : Bool} {σ : L2.St} {H : Hp} {Q : Bool → Hp → Prop} (h : Tt X.K w (asB (evalE cl (.isN no xa))) σ H Q) :
    To X.K w (opdV xa (evalE cl xa)) σ H fun v H1 => ∃ c, (V.bl (if no then !decide (v = .non) else decide (v = .non))) = .bl c ∧ Q c H1 := by
  obtain ⟨g, G, q⟩ := h
  refine isN_at (Q := fun x H1 => ∃ c, x = .bl c ∧ Q c H1) ⟨g, G, (At.asB_ G q).imp fun r g1 H1 _ _ q1 v rv => ?_⟩
  obtain ⟨c, rfl, _, _, k⟩ := q1 v rv
  exact ⟨c, rfl, k⟩
theorem pt_isN {j pos'} (ha : PE X a (To X.K w (opdV xa (evalE cl xa)))) : PT X (.Compare a [.Is] [.Constant .none j pos'] pos) (Tt X.K w (asB (evalE cl (.isN false xa)))) := (pt_cmp (pc_isN ha) rfl).weak fun σ H Q h => isNt_at h
theorem pt_notN {j pos'} (ha : PE X a (To X.K w (opdV xa (evalE cl xa)))) : PT X (.Compare a [.IsNot] [.Constant .none j pos'] pos) (Tt X.K w (asB (evalE cl (.isN true xa)))) := (pt_cmp (pc_notN ha) rfl).weak fun σ H Q h => isNt_at h
end
end Z

/-! Z8: subscripts, slices, built-ins, isinstance, shared lists, pop. -/
namespace Z
open PySem PySem.Spec PyProof.Rows L2

section
variable {K : PySem.W.Frag} {w : WX} {α : Type} {g0 g : Gh} {σ0 σ : L2.St} {H0 H : Hp}
theorem At.stO_ {f : List SO → Option α} {k : α → Gh → Hp → Prop} (h : At K w (stO f) g σ H k) :
    ∃ a, f g.st = some a ∧ At K w (Pure.pure a : M α) g σ H k := by
  unfold At stO at h
  cases e : f g.st with
  | none => simp only [Gh.S, e] at h
  | some a => refine ⟨a, rfl, ?_⟩; simp only [Gh.S, e] at h; exact h
theorem ixN_map {n : Nat} {i : Int} {j : Nat} (h : ixN n i = some j) : j < n := (ixN_seq h).2.1
theorem atI_rep {As : List Addr} {Hh : Hp} {ds : List D} {vs : List V} {i : Int} {d : D} (r : Reps K As Hh ds vs) (h : atI ds i = some d) : ∃ v, atI vs i = some v ∧ Rep K As Hh d v := by
  unfold atI at h ⊢
  rw [r.length]
  cases e : ixN ds.length i with
  | none => rw [e] at h; cases h
  | some j =>
    rw [e] at h
    exact r.get h
/-- a sequence's items -/
theorem seq_sem {d : D} {v : V} {ds : List D} (G : Good K g σ H) (r : RepB K g.As (hid g.M H) H d v) (h : seqD g.st d = some ds) :
    ∃ a vs, v = .ref a ∧ (H a = some (.lst vs) ∨ H a = some (.tup vs)) ∧ Reps K g.As (hid g.M H) ds vs := by
  unfold seqD at h
  split at h
  · cases h; obtain ⟨a, vs, e, h1, h2⟩ := r; exact ⟨a, vs, e, .inr (hid_of h1).2, h2⟩
  · cases h; obtain ⟨a, vs, e, h1, h2⟩ := r; exact ⟨a, vs, e, .inl h1, h2⟩
  · obtain ⟨a, e, h1⟩ := r
    split at h
    · rename_i e2
      cases h
      obtain ⟨a', e3, vs, h2, h3⟩ := G.sto _ _ e2
      rw [h1] at e3; cases e3
      exact ⟨a, vs, e, .inl h2, h3⟩
    · cases h
  · cases h
theorem idx_sem {d e : D} {x y : V} {f : D} {Q : VK} (G : Good K g σ H) (rx : RepB K g.As (hid g.M H) H d x) (ry : RepB K g.As (hid g.M H) H e y) (h : idxD g.st d e = some f)
    (q : At K w (Pure.pure (f, false) : M Rs) g σ H fun r g1 H1 => ∀ v, RelR K H0 g1 σ H1 r v → Q v H1) : rIx K x y H Q := by
  unfold idxD at h
  split at h
  · obtain rfl : y = .int _ := ry
    split at h
    · obtain rfl : x = .str _ := rx
      split at h
      · rename_i s hl
        cases e1 : atI s.cps.toList _ with
        | none => rw [e1] at h; cases h
        | some c =>
          rw [e1] at h; cases h
          exact .inr (.inr ⟨_, _, c, rfl, rfl, line_le hl, e1, At.strR G q⟩)
      · cases h
    · cases e1 : seqD g.st d with
      | none => rw [e1] at h; cases h
      | some ds =>
        rw [e1] at h
        have h : atI ds _ = some f := h
        obtain ⟨a, vs, rfl, hh, hr⟩ := seq_sem G rx e1
        obtain ⟨v, e2, rv⟩ := atI_rep hr h
        rcases hh with hh | hh
        · exact .inl ⟨a, vs, _, v, rfl, rfl, SqL.of hh, e2, At.repR G rv q⟩
        · exact .inr (.inl ⟨a, vs, _, v, rfl, rfl, SqT.of hh, e2, At.repR G rv q⟩)
  · cases h
theorem cut_rep {As : List Addr} {Hh : Hp} {ds : List D} {vs : List V} {lo hi : Option Int} (r : Reps K As Hh ds vs) : Reps K As Hh (cutD ds lo hi) (cutV vs lo hi) := by
  unfold cutD cutV
  rw [r.length]
  exact (r.drop _).take _
theorem sIx_whole {α : Type} {xs : List α} {lo hi : Option Int} (h : HT.sIx xs.length 0 lo = 0 ∧ HT.sIx xs.length xs.length hi = xs.length) : (xs.drop (HT.sIx xs.length 0 lo)).take (HT.sIx xs.length xs.length hi - HT.sIx xs.length 0 lo) = xs := by
  rw [h.1, h.2]
  simp
def rSli (K : PySem.W.Frag) : V → Option Int → Option Int → Hp → VK → Prop := fun x lo hi H Q => rSlA K x lo hi H Q ∨ rSlL K x lo hi H Q ∨ rSlS x lo hi H Q
theorem slR_any {X : Cx} : SlR X (rSli X.K) := sl_tupA.or (sl_list.or sl_str)
theorem sli_sem {d : D} {x : V} {lo hi : Option Int} {Q : VK} (E0 : Ext g0 σ0 H0 g σ H) (G : Good K g σ H) (rx : RepB K g.As (hid g.M H) H d x)
    (h : At K w (liftO (sliD d lo hi)) g σ H fun r g1 H1 => ∀ v, RelR K H0 g1 σ H1 r v → Q v H1) : rSli K x lo hi H Q := by
  unfold sliD at h
  split at h
  · rename_i ds
    obtain ⟨a, vs, rfl, h1, r1⟩ := rx
    have hq : At K w (Pure.pure (D.tup (cutD ds lo hi), false) : M Rs) g σ H fun r g1 H1 => ∀ v, RelR K H0 g1 σ H1 r v → Q v H1 := h
    refine .inl ⟨a, vs, rfl, SqT.of (hid_of h1).2, fun e => ?_, fun _ p hp => At.tupR G (cut_rep r1) hp hq⟩
    refine At.repR (d := .tup (cutD ds lo hi)) G ⟨a, vs, rfl, h1, ?_⟩ hq
    have e2 : cutD ds lo hi = ds := by
      unfold cutD
      rw [r1.length] at e
      exact sIx_whole e
    rw [e2]
    exact r1
  · rename_i ds
    obtain ⟨a, vs, rfl, h1, r1⟩ := rx
    exact .inr (.inl ⟨a, vs, rfl, SqL.of h1, fun p hp => At.lstR E0 G (cut_rep r1) hp h⟩)
  · obtain rfl : x = .str _ := rx
    split at h
    · rename_i hl
      exact .inr (.inr ⟨_, rfl, line_le hl, At.strR G h⟩)
    · exact h.elim
  · exact h.elim
theorem bools_rep {As : List Addr} {Hh : Hp} : ∀ {ds : List D} {vs : List V} {bs : List Bool}, Reps K As Hh ds vs → boolsD ds = some bs → vs = bs.map V.bl
  | [], vs, bs, r, h => by obtain rfl : vs = [] := r; cases h; rfl
  | d :: ds, vs, bs, r, h => by
    obtain ⟨v, ws, rfl, h1, h2⟩ := r
    cases d with
    | bl b =>
      have h : (boolsD ds).map (b :: ·) = some bs := h
      cases e : boolsD ds with
      | none => rw [e] at h; cases h
      | some cs =>
        rw [e] at h; cases h
        obtain rfl : v = .bl b := h1
        rw [bools_rep h2 e]; rfl
    | _ => cases h
theorem ints_rep {As : List Addr} {Hh : Hp} : ∀ {ds : List D} {vs : List V} {bs : List Int}, Reps K As Hh ds vs → intsD ds = some bs → vs = bs.map V.int
  | [], vs, bs, r, h => by obtain rfl : vs = [] := r; cases h; rfl
  | d :: ds, vs, bs, r, h => by
    obtain ⟨v, ws, rfl, h1, h2⟩ := r
    cases d with
    | int b =>
      have h : (intsD ds).map (b :: ·) = some bs := h
      cases e : intsD ds with
      | none => rw [e] at h; cases h
      | some cs =>
        rw [e] at h; cases h
        obtain rfl : v = .int b := h1
        rw [ints_rep h2 e]; rfl
    | _ => cases h
end

section
variable {X : Cx} {w : WX} {cl : CallT} {a b c i : Expr} {rest : List Expr} {pos p2 : Pos} {xa xb xc xi : Ex} {lo hi : Option Expr} {xl xh : Option Ex}
theorem pz_idx (ha : PE X a (To X.K w (opdV xa (evalE cl xa)))) (hi : PE X i (To X.K w (opdV xi (evalE cl xi)))) (hs : PlainIx i := by exact fun _ _ => rfl) : PE X (.Subscript a i pos) (Tr X.K w (evalE cl (.idx xa xi))) := by
  refine (pe_ix ix_seq ha hi hs).weak fun σ H Q ⟨g, G, q⟩ => ⟨g, G, (At.op2 (f := fun d e => (do let f ← stO fun st => idxD st d e; Pure.pure (f, false) : M Rs)) G q).imp fun o g1 H1 _ _ q1 v rv => ?_⟩
  obtain ⟨g1, G1, q2⟩ := q1 v rv
  refine ⟨g1, G1, q2.imp fun o' g2 H2 _ _ q3 u ru => ?_⟩
  obtain ⟨d, e, r1, r2, G2, E2, q4⟩ := q3 u ru
  obtain ⟨f, e1, q5⟩ := At.stO_ (At.bind G2 q4)
  obtain ⟨_, _, q6⟩ := At.pure_ G2 q5
  exact idx_sem G2 r1 r2 e1 q6
/-- a part of a slice -/
def Tpart (K : PySem.W.Frag) (w : WX) (m : M (Option Int)) : TO := fun σ H Q => ∃ g, Good K g σ H ∧ At K w m g σ H fun o _ H1 => Q o H1
theorem _root_.L2.PO.weak {o : Option Expr} {t t' : TO} (h : PO X o t) (i : ∀ σ H Q, t' σ H Q → t σ H Q) : PO X o t' := ⟨fun pins s σ H Q I q => h.run pins s σ H Q I (i σ H Q q)⟩
theorem po_noz : PO X none (Tpart X.K w (evalPart cl none)) := po_none.weak fun σ H Q ⟨g, G, q⟩ => At.pure_ G q
theorem po_soz {e : Expr} {x : Ex} (h : PE X e (Tr X.K w (evalE cl x))) : PO X (some e) (Tpart X.K w (evalPart cl (some x))) := by
  refine (po_some (Tr.dat h)).weak fun σ H Q ⟨g, G, q⟩ => ⟨g, G, ?_⟩
  have q : At X.K w (do
    let d ← dat (evalE cl x)
    match d with
    | .int i => Pure.pure (some i)
    | _ => bad) g σ H _ := q
  refine (At.bind G q).imp fun d g1 H1 G1 E1 ⟨_, _, q1⟩ v rv => ?_
  cases d with
  | int i => exact ⟨i, rv, At.pure_ G1 q1⟩
  | _ => exact q1.elim
theorem pz_sli (ha : PE X a (To X.K w (opdV xa (evalE cl xa)))) (hl : PO X lo (Tpart X.K w (evalPart cl xl))) (hh : PO X hi (Tpart X.K w (evalPart cl xh))) : PE X (.Subscript a (.Slice lo hi none p2) pos) (Tr X.K w (evalE cl (.sli xa xl xh))) := by
  refine (pe_slice slR_any ha hl hh).weak fun σ H Q ⟨g, G, q⟩ => ⟨g, G, ?_⟩
  have q : At X.K w (do
    let x ← opdV xa (evalE cl xa)
    let l ← evalPart cl xl
    let h ← evalPart cl xh
    let d ← res x
    liftO (sliD d l h)) g σ H _ := q
  refine (At.bind G q).imp fun o g1 H1 G1 E1 ⟨_, _, q1⟩ v rv => ⟨g1, G1, (At.bind G1 q1).imp fun l g2 H2 G2 E2 ⟨_, _, q2⟩ => ⟨g2, G2, (At.bind G2 q2).imp fun h g3 H3 G3 E3 ⟨_, _, q3⟩ => ?_⟩⟩
  obtain ⟨d, r, _, _, q4⟩ := At.res_ G3 ((rv.ext E2).ext E3) (At.bind G3 q3)
  exact sli_sem ((E1.trans G E2).trans G E3) G3 r q4
theorem pz_rev {k : Nat} {p1 p3 : Pos} (ha : PE X a (To X.K w (opdV xa (evalE cl xa)))) : PE X (.Subscript a (.Slice none none (some (.UnaryOp .USub (.Constant (.int 1) k p1) p2)) p3) pos) (Tr X.K w (evalE cl (.rev xa))) := by
  refine (pe_revL ha).weak fun σ H Q ⟨g, G, q⟩ => ⟨g, G, (At.op1 (f := fun d => (match d with | .lst ds => Pure.pure (D.lst ds.reverse, true) | _ => bad : M Rs)) G q).imp fun o g1 H1 _ _ q1 v rv => ?_⟩
  obtain ⟨d, r, G1, E1, q2⟩ := q1 v rv
  cases d with
  | lst ds =>
    obtain ⟨a, vs, rfl, h1, h2⟩ := r
    exact ⟨a, vs, rfl, SqL.of h1, fun p hp => At.lstR E1 G1 h2.reverse hp q2⟩
  | _ => exact q2.elim

/-! ### built-ins -/
theorem blt_at {K : PySem.W.Frag} {bt : Blt} {es : List Ex} {σ : L2.St} {H : Hp} {Q : VK} (h : Tr K w (evalE cl (.blt bt es)) σ H Q) :
    Tos K w (evalOs cl es) σ H fun vs H1 => ∃ g0 H0 g ds r, Ext g0 σ H0 g σ H1 ∧ Good K g σ H1 ∧ RepBs K g.As (hid g.M H1) H1 ds vs ∧ bltD g.st bt ds = some r ∧ At K w (Pure.pure r : M Rs) g σ H1 fun r g1 H1 => ∀ v, RelR K H0 g1 σ H1 r v → Q v H1 := by
  obtain ⟨g, G, q⟩ := h
  have q : At K w (do
    let os ← evalOs cl es
    let ds ← ress os
    stO fun st => bltD st bt ds) g σ H _ := q
  refine ⟨g, G, (At.bind G q).imp fun os g1 H1 G1 E1 ⟨_, _, q1⟩ vs rvs => ?_⟩
  obtain ⟨ds, r, _, _, q2⟩ := At.ress_ G1 rvs (At.bind G1 q1)
  obtain ⟨x, e1, q3⟩ := At.stO_ q2
  exact ⟨g, H, g1, ds, x, E1, G1, r, e1, q3⟩
theorem bs1 {K : PySem.W.Frag} {As : List Addr} {Hh H : Hp} {d : D} {vs : List V} (r : RepBs K As Hh H [d] vs) : ∃ v, vs = [v] ∧ RepB K As Hh H d v := by
  cases r with
  | cons a b => cases b with
    | nil => exact ⟨_, rfl, a⟩
theorem bs2 {K : PySem.W.Frag} {As : List Addr} {Hh H : Hp} {d e : D} {vs : List V} (r : RepBs K As Hh H [d, e] vs) : ∃ v u, vs = [v, u] ∧ RepB K As Hh H d v ∧ RepB K As Hh H e u := by
  cases r with
  | cons a b => cases b with
    | cons c e => cases e with
      | nil => exact ⟨_, _, rfl, a, c⟩

theorem on1_ {f : D → Option Rs} {ds : List D} {r : Rs} (h : on1 f ds = some r) : ∃ d, ds = [d] ∧ f d = some r := by
  unfold on1 at h
  split at h
  · exact ⟨_, rfl, h⟩
  · cases h
theorem on2_ {f : D → D → Option Rs} {ds : List D} {r : Rs} (h : on2 f ds = some r) : ∃ d e, ds = [d, e] ∧ f d e = some r := by
  unfold on2 at h
  split at h
  · exact ⟨_, _, rfl, h⟩
  · cases h
variable {p : Pos} {x : Str} {es : List Expr} {xs : List Ex} {e : Expr} {ta : TA}
/-- a built-in by its rule: what its data gives, the rule's reading asks -/
theorem blt_of {bt : Blt} {rr : List V → Hp → VK → Prop} {e : Expr} (h0 : PE X e (tCB rr (Tos X.K w (evalOs cl xs))))
    (sem : ∀ (g0 g : Gh) (σ : L2.St) (H0 H : Hp) (ds : List D) (vs : List V) (r : Rs) (Q : VK), Ext g0 σ H0 g σ H → Good X.K g σ H → RepBs X.K g.As (hid g.M H) H ds vs → bltD g.st bt ds = some r →
      (At X.K w (Pure.pure r : M Rs) g σ H fun r g1 H1 => ∀ v, RelR X.K H0 g1 σ H1 r v → Q v H1) → rr vs H Q) : PE X e (Tr X.K w (evalE cl (.blt bt xs))) := by
  refine h0.weak fun σ H Q h => ?_
  obtain ⟨g, G, q⟩ := blt_at h
  refine ⟨g, G, q.imp fun os g1 H1 _ _ q1 vs rvs => ?_⟩
  obtain ⟨g0, H0, g, ds, r, E0, G, rb, e, q2⟩ := q1 vs rvs
  exact sem _ _ _ _ _ _ _ _ _ E0 G rb e q2
theorem pz_len (hg : Gl X "len") (hm : X.mg "len" = none) (ha : PA X [e] (Tos X.K w (evalOs cl xs)))
    (he : starEach [e] X.env = (false, eval e X.env) :: starEach [] X.env := by rfl) (hpl : (backTo pos (starEach [] X.env)).any (·.1) = false := by rfl) : PE X (.Call (.Name "len" p) [e] [] pos) (Tr X.K w (evalE cl (.blt .len xs))) := by
  refine blt_of (pe_callB (call_len_seq.or call_len_str) hg hm PySem.boot_len ha (by decide) (by decide) he hpl) fun g0 g σ H0 H ds vs r Q E0 G rb h q => ?_
  obtain ⟨d, rfl, h⟩ := on1_ h
  obtain ⟨v, rfl, rv⟩ := bs1 rb
  have fin : ∀ ds, seqD g.st d = some ds → r = (.int ds.length, false) → (∃ p ys, [v] = [V.ref p] ∧ (SqL X.K H p ys ∨ SqT X.K H p ys) ∧ Q (.int ys.length) H) := fun ds e1 e2 => by
    subst e2
    obtain ⟨a, ws, rfl, hh, hr⟩ := seq_sem G rv e1
    have l := hr.length
    refine ⟨a, ws, rfl, hh.imp SqL.of SqT.of, ?_⟩
    rw [l]
    exact At.intR G q
  have fin2 : (seqD g.st d).map (fun ds => ((.int ds.length, false) : Rs)) = some r → (∃ p ys, [v] = [V.ref p] ∧ (SqL X.K H p ys ∨ SqT X.K H p ys) ∧ Q (.int ys.length) H) := fun h => by
    cases e1 : seqD g.st d with
    | none => rw [e1] at h; cases h
    | some ds => rw [e1] at h; exact fin ds e1 (Option.some.inj h).symm
  cases d with
  | str s =>
    have h : (if s.length ≤ line then some ((.int s.length, false) : Rs) else none) = some r := h
    split at h
    · rename_i hl
      cases h
      obtain rfl : v = .str s := rv
      exact .inr ⟨s, rfl, line_le hl, At.intR G q⟩
    · cases h
  | _ => exact .inl (fin2 h)
theorem pz_tuple (hg : Gl X "tuple") (hm : X.mg "tuple" = none) (ha : PA X [e] (Tos X.K w (evalOs cl xs)))
    (he : starEach [e] X.env = (false, eval e X.env) :: starEach [] X.env := by rfl) (hpl : (backTo pos (starEach [] X.env)).any (·.1) = false := by rfl) : PE X (.Call (.Name "tuple" p) [e] [] pos) (Tr X.K w (evalE cl (.blt .tuple xs))) := by
  refine blt_of (pe_callTy call_tuple_of hg hm (by decide +kernel) ha (by decide) (by decide) he hpl) fun g0 g σ H0 H ds vs r Q E0 G rb h q => ?_
  obtain ⟨d, rfl, h⟩ := on1_ h
  obtain ⟨v, rfl, rv⟩ := bs1 rb
  cases d with
  | tup ds =>
    obtain rfl : (D.tup ds, false) = r := Option.some.inj h
    obtain ⟨a, ws, rfl, h1, h2⟩ := rv
    exact ⟨a, ws, rfl, .inr ⟨SqT.of (hid_of h1).2, At.repR (d := .tup ds) G ⟨a, ws, rfl, h1, h2⟩ q⟩⟩
  | lst ds =>
    obtain rfl : (D.tup ds, false) = r := Option.some.inj h
    obtain ⟨a, ws, rfl, h1, h2⟩ := rv
    exact ⟨a, ws, rfl, .inl ⟨SqL.of h1, fun l hl => At.tupR G h2 hl q⟩⟩
  | _ => cases h
theorem pz_list (hg : Gl X "list") (hm : X.mg "list" = none) (ha : PA X [e] (Tos X.K w (evalOs cl xs)))
    (he : starEach [e] X.env = (false, eval e X.env) :: starEach [] X.env := by rfl) (hpl : (backTo pos (starEach [] X.env)).any (·.1) = false := by rfl) : PE X (.Call (.Name "list" p) [e] [] pos) (Tr X.K w (evalE cl (.blt .list xs))) := by
  refine blt_of (pe_callTy call_list_of hg hm (by decide +kernel) ha (by decide) (by decide) he hpl) fun g0 g σ H0 H ds vs r Q E0 G rb h q => ?_
  obtain ⟨d, rfl, h⟩ := on1_ h
  obtain ⟨v, rfl, rv⟩ := bs1 rb
  cases d with
  | tup ds =>
    obtain rfl : (D.lst ds, true) = r := Option.some.inj h
    obtain ⟨a, ws, rfl, h1, h2⟩ := rv
    exact ⟨a, ws, rfl, .inr (SqT.of (hid_of h1).2), fun l hl => At.lstR E0 G h2 hl q⟩
  | lst ds =>
    obtain rfl : (D.lst ds, true) = r := Option.some.inj h
    obtain ⟨a, ws, rfl, h1, h2⟩ := rv
    exact ⟨a, ws, rfl, .inl (SqL.of h1), fun l hl => At.lstR E0 G h2 hl q⟩
  | scr ns =>
    obtain rfl : (D.lst (ns.map .int), true) = r := Option.some.inj h
    obtain ⟨a, rfl, h1⟩ := rv
    refine ⟨a, _, rfl, .inl ?_, fun l hl => At.lstR E0 G (Reps.of_ints ns) hl q⟩
    rcases h1 with (h1 | ⟨o, h1⟩) | h1
    · exact .inl (.inl (hid_of h1).2)
    · exact .inl (.inr ⟨o, (hid_of h1).2⟩)
    · exact .inr h1
  | _ => cases h
theorem pz_abs (hg : Gl X "abs") (hm : X.mg "abs" = none) (ha : PA X [e] (Tos X.K w (evalOs cl xs)))
    (he : starEach [e] X.env = (false, eval e X.env) :: starEach [] X.env := by rfl) (hpl : (backTo pos (starEach [] X.env)).any (·.1) = false := by rfl) : PE X (.Call (.Name "abs" p) [e] [] pos) (Tr X.K w (evalE cl (.blt .abs xs))) := by
  refine blt_of (pe_callB call_abs hg hm (by decide +kernel) ha (by decide) (by decide) he hpl) fun g0 g σ H0 H ds vs r Q E0 G rb h q => ?_
  obtain ⟨d, rfl, h⟩ := on1_ h
  obtain ⟨v, rfl, rv⟩ := bs1 rb
  cases d with
  | int i =>
    obtain rfl : (D.int _, false) = r := Option.some.inj h
    obtain rfl : v = .int i := rv
    exact ⟨i, rfl, At.intR G q⟩
  | _ => cases h
theorem pz_max2 {e2 : Expr} (hc : X.calm = true) (hg : Gl X "max") (hm : X.mg "max" = none) (ha : PA X [e, e2] (Tos X.K w (evalOs cl xs)))
    (he : starEach [e, e2] X.env = (false, eval e X.env) :: starEach [e2] X.env := by rfl) (hpl : (backTo pos (starEach [e2] X.env)).any (·.1) = false := by rfl) : PE X (.Call (.Name "max" p) [e, e2] [] pos) (Tr X.K w (evalE cl (.blt .max2 xs))) := by
  refine blt_of (pe_callB (call_max2 hc) hg hm (by decide +kernel) ha (by decide) (by decide) he hpl) fun g0 g σ H0 H ds vs r Q E0 G rb h q => ?_
  obtain ⟨d, e, rfl, h⟩ := on2_ h
  obtain ⟨v, u, rfl, rv, ru⟩ := bs2 rb
  cases d with
  | int i =>
    cases e with
    | int j =>
      obtain rfl : (D.int _, false) = r := Option.some.inj h
      obtain rfl : v = .int i := rv
      obtain rfl : u = .int j := ru
      exact ⟨i, j, rfl, At.intR G q⟩
    | _ => cases h
  | _ => cases h
theorem pz_sum (hc : X.calm = true) (hg : Gl X "sum") (hm : X.mg "sum" = none) (ha : PA X [e] (Tos X.K w (evalOs cl xs)))
    (he : starEach [e] X.env = (false, eval e X.env) :: starEach [] X.env := by rfl) (hpl : (backTo pos (starEach [] X.env)).any (·.1) = false := by rfl) : PE X (.Call (.Name "sum" p) [e] [] pos) (Tr X.K w (evalE cl (.blt .sum xs))) := by
  refine blt_of (pe_callB (cr_sum hc) hg hm (by decide +kernel) ha (by decide) (by decide) he hpl) fun g0 g σ H0 H ds vs r Q E0 G rb h q => ?_
  obtain ⟨d, rfl, h⟩ := on1_ h
  obtain ⟨v, rfl, rv⟩ := bs1 rb
  cases d with
  | lst ds =>
    have h : (intsD ds).map (fun ns => ((.int ns.sum, false) : Rs)) = some r := h
    cases e1 : intsD ds with
    | none => rw [e1] at h; cases h
    | some ns =>
      rw [e1] at h; cases h
      obtain ⟨a, ws, rfl, h1, h2⟩ := rv
      have e2 := ints_rep h2 e1
      subst e2
      exact ⟨a, ns, rfl, SqL.of h1, At.intR G q⟩
  | _ => cases h
theorem pz_all (hc : X.calm = true) (hg : Gl X "all") (hm : X.mg "all" = none) (ha : PA X [e] (Tos X.K w (evalOs cl xs)))
    (he : starEach [e] X.env = (false, eval e X.env) :: starEach [] X.env := by rfl) (hpl : (backTo pos (starEach [] X.env)).any (·.1) = false := by rfl) : PE X (.Call (.Name "all" p) [e] [] pos) (Tr X.K w (evalE cl (.blt .all xs))) := by
  refine blt_of (pe_callB (cr_all hc) hg hm (by decide +kernel) ha (by decide) (by decide) he hpl) fun g0 g σ H0 H ds vs r Q E0 G rb h q => ?_
  obtain ⟨d, rfl, h⟩ := on1_ h
  obtain ⟨v, rfl, rv⟩ := bs1 rb
  cases d with
  | lst ds =>
    have h : (boolsD ds).map (fun bs => ((.bl (bs.all id), false) : Rs)) = some r := h
    cases e1 : boolsD ds with
    | none => rw [e1] at h; cases h
    | some ns =>
      rw [e1] at h; cases h
      obtain ⟨a, ws, rfl, h1, h2⟩ := rv
      have e2 := bools_rep h2 e1
      subst e2
      exact ⟨a, ns, rfl, SqL.of h1, At.blR G q⟩
  | _ => cases h
theorem pz_any (hc : X.calm = true) (hg : Gl X "any") (hm : X.mg "any" = none) (ha : PA X [e] (Tos X.K w (evalOs cl xs)))
    (he : starEach [e] X.env = (false, eval e X.env) :: starEach [] X.env := by rfl) (hpl : (backTo pos (starEach [] X.env)).any (·.1) = false := by rfl) : PE X (.Call (.Name "any" p) [e] [] pos) (Tr X.K w (evalE cl (.blt .any xs))) := by
  refine blt_of (pe_callB (cr_any hc) hg hm (by decide +kernel) ha (by decide) (by decide) he hpl) fun g0 g σ H0 H ds vs r Q E0 G rb h q => ?_
  obtain ⟨d, rfl, h⟩ := on1_ h
  obtain ⟨v, rfl, rv⟩ := bs1 rb
  cases d with
  | lst ds =>
    have h : (boolsD ds).map (fun bs => ((.bl (bs.any id), false) : Rs)) = some r := h
    cases e1 : boolsD ds with
    | none => rw [e1] at h; cases h
    | some ns =>
      rw [e1] at h; cases h
      obtain ⟨a, ws, rfl, h1, h2⟩ := rv
      have e2 := bools_rep h2 e1
      subst e2
      exact ⟨a, ns, rfl, SqL.of h1, At.blR G q⟩
  | _ => cases h

/-! ### isinstance -/
def tyN : Ty → String
  | .int => "int"
  | .bool => "bool"
  | .str => "str"
  | .tuple => "tuple"
  | .list => "list"
theorem ty_sem {K : PySem.W.Frag} {As : List Addr} {Hm : List Addr} {H : Hp} {t : Ty} {d : D} {v : V} {b : Bool} (r : RepB K As (hid Hm H) H d v) (h : tyD t d = some b) :
    ∃ n, TyX K H v (.type n) ∧ kitB n (tyN t) = some b := by
  cases d with
  | none => obtain rfl : v = .non := r; refine ⟨"NoneType", .base .non, ?_⟩; cases t <;> cases h <;> decide +kernel
  | bl c => obtain rfl : v = .bl c := r; refine ⟨"bool", .base (.bl c), ?_⟩; cases t <;> cases h <;> decide +kernel
  | int c => obtain rfl : v = .int c := r; refine ⟨"int", .base (.int c), ?_⟩; cases t <;> cases h <;> decide +kernel
  | str c => obtain rfl : v = .str c := r; refine ⟨"str", .base (.str c), ?_⟩; cases t <;> cases h <;> decide +kernel
  | tup ds => obtain ⟨a, vs, rfl, h1, h2⟩ := r; refine ⟨"tuple", .base (.tup (hid_of h1).2), ?_⟩; cases t <;> cases h <;> decide +kernel
  | lst ds => obtain ⟨a, vs, rfl, h1, h2⟩ := r; refine ⟨"list", .base (.lst h1), ?_⟩; cases t <;> cases h <;> decide +kernel
  | _ => cases t <;> cases h
end
end Z

/-! Z9: isinstance, shared lists, pop. -/
namespace Z
open PySem PySem.Spec PyProof.Rows L2
theorem isiD_cons {t : Ty} {ts : List Ty} {d : D} {b : Bool} (h : isiD (t :: ts) d = some b) : ∃ a c, tyD t d = some a ∧ isiD ts d = some c ∧ b = (a || c) := by
  have h : (tyD t d).bind (fun a => (isiD ts d).map fun b => a || b) = some b := h
  cases e1 : tyD t d with
  | none => rw [e1] at h; cases h
  | some a =>
    rw [e1] at h
    cases e2 : isiD ts d with
    | none => rw [e2] at h; cases h
    | some c => rw [e2] at h; exact ⟨a, c, rfl, rfl, (Option.some.inj h).symm⟩
section
variable {K : PySem.W.Frag} {As : List Addr} {Hm : List Addr} {H : Hp}
theorem ty_name {d : D} {v : V} (r : RepB K As (hid Hm H) H d v) {t : Ty} {b : Bool} (h : tyD t d = some b) :
    ∃ n, TyX K H v (.type n) ∧ ∀ (t : Ty) (b : Bool), tyD t d = some b → kitB n (tyN t) = some b := by
  cases d with
  | none => obtain rfl : v = .non := r; refine ⟨"NoneType", .base .non, fun t b h => ?_⟩; cases t <;> cases h <;> decide +kernel
  | bl c => obtain rfl : v = .bl c := r; refine ⟨"bool", .base (.bl c), fun t b h => ?_⟩; cases t <;> cases h <;> decide +kernel
  | int c => obtain rfl : v = .int c := r; refine ⟨"int", .base (.int c), fun t b h => ?_⟩; cases t <;> cases h <;> decide +kernel
  | str c => obtain rfl : v = .str c := r; refine ⟨"str", .base (.str c), fun t b h => ?_⟩; cases t <;> cases h <;> decide +kernel
  | tup ds => obtain ⟨a, vs, rfl, h1, h2⟩ := r; refine ⟨"tuple", .base (.tup (hid_of h1).2), fun t b h => ?_⟩; cases t <;> cases h <;> decide +kernel
  | lst ds => obtain ⟨a, vs, rfl, h1, h2⟩ := r; refine ⟨"list", .base (.lst h1), fun t b h => ?_⟩; cases t <;> cases h <;> decide +kernel
  | _ => cases t <;> cases h
theorem kit_any {d : D} {n : String} (hn : ∀ (t : Ty) (b : Bool), tyD t d = some b → kitB n (tyN t) = some b) : ∀ {ts : List Ty} {b : Bool}, isiD ts d = some b → PySem.W.kitAny K (.type n) (ts.map fun t => Value.type (tyN t)) = some b
  | [], b, h => by cases h; exact kitAny_nil
  | t :: ts, b, h => by
    obtain ⟨a, c, h1, h2, rfl⟩ := isiD_cons h
    refine kitAny_cons (kit_ty (hn t a h1)) (fun e => ?_) fun e => ?_
    · subst e; exact kit_any hn h2
    · subst e; rfl
end
section
variable {X : Cx} {w : WX} {cl : CallT} {a c : Expr} {pos p : Pos} {xa xk : Ex} {es : List Expr} {e : Expr}
/-- the classes of a tuple of built-in types -/
structure PTy (X : Cx) (c : Expr) (t : Ty) : Prop where
  pe : PE X c (tC (.ty (tyN t)))
theorem pty {x : Str} {pos : Pos} {t : Ty} (hg : Gl X x) (hm : X.mg x = none) (hv : bootBuiltins x = some (.type (tyN t)) := by decide +kernel) (hn : x ≠ "__name__" := by decide) (hd : (x == ("__debug__" : Str)) = false := by decide) : PTy X (.Name x pos) t :=
  ⟨pe_bltn hg hm hv rfl hn hd⟩
inductive PTys (X : Cx) : List Expr → List Ty → Prop
  | nil : PTys X [] []
  | cons {e : Expr} {es : List Expr} {t : Ty} {ts : List Ty} : PTy X e t → PTys X es ts → starEach (e :: es) X.env = (false, eval e X.env) :: starEach es X.env → PTys X (e :: es) (t :: ts)
def tTys (ts : List Ty) : TA := fun _ H Q => Q (ts.map fun t => V.ty (tyN t)) H
theorem PTys.pa {ts : List Ty} (h : PTys X es ts) : PA X es (tTys ts) := by
  induction h with
  | nil => exact pa_nil.weak fun _ _ _ q => q
  | cons h1 h2 h3 ih => exact (pa_cons h1.pe ih h3).weak fun _ _ _ q => q
theorem isi_at {K : PySem.W.Frag} {ts : List Ty} {σ : L2.St} {H : Hp} {Q : VK} (h : Tr K w (evalE cl (.isi ts xa)) σ H Q) :
    To K w (opdV xa (evalE cl xa)) σ H fun v H1 => (∃ n b, TyX K H1 v (.type n) ∧ PySem.W.kitAny K (.type n) (ts.map fun t => Value.type (tyN t)) = some b ∧ (∀ p o, H1 p = none → Q (.bl b) (upd H1 p o)) ∧ Q (.bl b) H1) ∨ ts = [] := by
  obtain ⟨g, G, q⟩ := h
  refine ⟨g, G, (At.op1 (f := fun d => (do let b ← liftO (isiD ts d); Pure.pure (D.bl b, false) : M Rs)) G q).imp fun o g1 H1 _ _ q1 v rv => ?_⟩
  obtain ⟨d, r, G1, E1, q2⟩ := q1 v rv
  obtain ⟨b, e1, _, _, q3⟩ := At.liftO_ G1 (At.bind G1 q2)
  cases ts with
  | nil => exact .inr rfl
  | cons t ts =>
    obtain ⟨a, c, h1, h2, rfl⟩ := isiD_cons e1
    obtain ⟨n, hn, hk⟩ := ty_name r h1
    refine .inl ⟨n, _, hn, kit_any hk e1, fun p o hp => ?_, At.blR G1 q3⟩
    exact q3 g1.As g1.M (upd H1 p o) (G1.alloc hp) (Ext.alloc G1 hp) (.bl _) rfl
theorem tyx_new {K : PySem.W.Frag} {H : Hp} {v : V} {n : String} {p : Addr} {o : HO} (h : TyX K H v (.type n)) (hp : H p = none) : TyX K (upd H p o) v (.type n) := by
  have up : ∀ {a u}, H a = some u → upd H p o a = some u := fun {a u} e => by rw [upd_ne (ne_of_none e hp)]; exact e
  cases h with
  | base b =>
    cases b with
    | non => exact .base .non
    | bl x => exact .base (.bl x)
    | int x => exact .base (.int x)
    | str x => exact .base (.str x)
    | flt x => exact .base (.flt x)
    | lst e => exact .base (.lst (up e))
    | frz e => exact .base (.frz (up e))
    | tup e => exact .base (.tup (up e))
    | dK e => exact .base (.dK (up e))
    | dT e => exact .base (.dT (up e))
  | byt b => exact .byt b
  | set e => exact .set (up e)
  | kList e c => exact .kList e c
  | kTuple e c => exact .kTuple e c
  | kDict e c => exact .kDict e c
  | fTuple e => exact .fTuple (up e)
  | fDict e => exact .fDict (up e)
theorem clsV_all : ∀ ts : List Ty, Paired ClsV (ts.map fun t => V.ty (tyN t)) (ts.map fun t => Value.type (tyN t))
  | [] => .nil
  | t :: ts => .cons (.ty _) (clsV_all ts)
theorem kit_one {K : PySem.W.Frag} {n m : String} {b : Bool} (h : PySem.W.kitAny K (.type n) [.type m] = some b) : PySem.W.kitOne K (.type n) (.type m) = some b := by
  unfold PySem.W.kitAny at h
  cases e : PySem.W.kitOne K (.type n) (.type m) with
  | none => rw [e] at h; cases h
  | some c =>
    rw [e] at h
    cases c with
    | true => cases h; rfl
    | false => exact h
theorem pz_isi {t : Ty} (hg : Gl X "isinstance") (hm : X.mg "isinstance" = none) (ha : PE X a (To X.K w (opdV xa (evalE cl xa)))) (ht : PTy X c t)
    (hs1 : starEach [a, c] X.env = (false, eval a X.env) :: starEach [c] X.env := by rfl) (hs2 : starEach [c] X.env = (false, eval c X.env) :: starEach [] X.env := by rfl)
    (hpl : (backTo pos (starEach [c] X.env)).any (·.1) = false := by rfl) : PE X (.Call (.Name "isinstance" p) [a, c] [] pos) (Tr X.K w (evalE cl (.isi [t] xa))) := by
  refine (pe_callB call_isi hg hm (by decide +kernel) (pa_cons ha (pa_cons ht.pe pa_nil hs2) hs1) (by decide) (by decide) hs1 hpl).weak fun σ H Q h => ?_
  obtain ⟨g, G, q⟩ := isi_at h
  refine ⟨g, G, q.imp fun o g1 H1 _ _ q1 v rv => ?_⟩
  rcases q1 v rv with ⟨n, b, h1, h2, _, h4⟩ | e
  · exact ⟨v, _, _, _, b, rfl, .ty _, h1, kit_one h2, h4⟩
  · cases e
theorem pz_isiT {ts : List Ty} {x1} {tpos : Pos} (hg : Gl X "isinstance") (hm : X.mg "isinstance" = none) (ha : PE X a (To X.K w (opdV xa (evalE cl xa)))) (ht : PTys X es ts) (hl : ts.length ≤ line := by decide) (hne : ts ≠ [] := by simp)
    (hs1 : starEach [a, .Tuple es x1 tpos] X.env = (false, eval a X.env) :: starEach [.Tuple es x1 tpos] X.env := by rfl) (hs2 : starEach [.Tuple es x1 tpos] X.env = (false, eval (.Tuple es x1 tpos) X.env) :: starEach [] X.env := by rfl)
    (hpl : (backTo pos (starEach [.Tuple es x1 tpos] X.env)).any (·.1) = false := by rfl) : PE X (.Call (.Name "isinstance" p) [a, .Tuple es x1 tpos] [] pos) (Tr X.K w (evalE cl (.isi ts xa))) := by
  refine (pe_callB call_isiT hg hm (by decide +kernel) (pa_cons ha (pa_cons (pe_tup ht.pa) pa_nil hs2) hs1) (by decide) (by decide) hs1 hpl).weak fun σ H Q h => ?_
  obtain ⟨g, G, q⟩ := isi_at h
  refine ⟨g, G, q.imp fun o g1 H1 _ _ q1 v rv => ?_⟩
  rcases q1 v rv with ⟨n, b, h1, h2, h3, _⟩ | e
  · refine ⟨by rw [List.length_map]; exact line_le hl, fun p hp => ?_⟩
    exact ⟨v, p, _, _, _, b, rfl, upd_same, clsV_all ts, tyx_new h1 hp, h2, h3 p _ hp⟩
  · exact absurd e hne
/-! ### a list that is shared from now on -/
theorem Good.share {K : PySem.W.Frag} {g : Gh} {σ : L2.St} {H H0 : Hp} {ds : List D} {p : Addr} (G : Good K g σ H) (n : New K H0 g σ H (.lst ds) p) : Good K { g with st := g.st ++ [.lst ds], As := g.As ++ [p] } σ H := by
  have hA : ∀ (i : Nat) (a : Addr), g.As[i]? = some a → (g.As ++ [p])[i]? = some a := fun i a h => by
    rw [List.getElem?_append_left (List.getElem?_eq_some_iff.mp h).1]; exact h
  refine ⟨G.len, fun i s h => ?_, G.inj, fun q h z => ?_, fun i so h => ?_, by simp [G.asl], ?_, fun a h => ?_, G.trk⟩
  · have q := G.slot i s h
    cases s with
    | un => trivial
    | pu d => obtain ⟨v, e, r⟩ := q; exact ⟨v, e, r.mono hA fun _ _ h => h⟩
    | ow d => obtain ⟨a, e, m, c⟩ := q; exact ⟨a, e, m, c.mono hA (fun _ _ h => h) rfl⟩
  · rcases List.mem_append.mp z with z | z
    · exact G.oas q h z
    · have e : q = p := by simpa using z
      exact n.now (e ▸ h)
  · have h : (g.st ++ [SO.lst ds])[i]? = some so := h
    by_cases hi : i < g.st.length
    · rw [List.getElem?_append_left hi] at h
      obtain ⟨a, e, q⟩ := G.sto i so h
      exact ⟨a, hA _ _ e, q.mono hA (fun _ _ h => h) rfl⟩
    · rw [List.getElem?_append_right (by omega)] at h
      have hz : i - g.st.length = 0 := by
        cases e : i - g.st.length with
        | zero => rfl
        | succ k => rw [e] at h; simp at h
      rw [hz] at h
      obtain rfl : SO.lst ds = so := by simpa using h
      refine ⟨p, ?_, n.cel.mono hA (fun _ _ h => h) rfl⟩
      rw [List.getElem?_append_right (by rw [← G.asl]; omega), ← G.asl, hz]; rfl
  · rw [List.nodup_append]
    refine ⟨G.asn, by simp, fun a ha b hb e => ?_⟩
    have e2 : b = p := by simpa using hb
    exact n.nas (e2 ▸ e ▸ ha)
  · rcases List.mem_append.mp h with h | h
    · exact G.asm a h
    · have e : a = p := by simpa using h
      exact e ▸ n.mem
theorem pz_shr (h : PE X a (Tr X.K w (evalE cl xa))) : PE X a (Tr X.K w (evalE cl (.shr xa))) := by
  refine h.weak fun σ H Q ⟨g, G, q⟩ => ⟨g, G, ?_⟩
  have q : At X.K w (evalE cl xa >>= shrD) g σ H _ := q
  unfold At at q ⊢
  rw [bind_run] at q
  cases e : evalE cl xa g.S with
  | bad => rw [e] at q; exact q
  | exc c fs s' => rw [e] at q; exact q
  | ok r s1 =>
    rw [e] at q
    intro As1 M1 H1 G1 E1 v rv
    obtain ⟨d, fr⟩ := r
    cases fr with
    | false => cases d <;> exact q.elim
    | true =>
      cases d with
      | lst ds =>
        obtain ⟨p, rfl, n⟩ := rv
        have hq : ∀ As' M' H', Good X.K ⟨s1.ρ, s1.st ++ [.lst ds], As', M'⟩ σ H' → Ext g σ H ⟨s1.ρ, s1.st ++ [.lst ds], As', M'⟩ σ H' → ∀ v, RelR X.K H ⟨s1.ρ, s1.st ++ [.lst ds], As', M'⟩ σ H' (.obj s1.st.length, false) v → Q v H' := q
        refine hq (As1 ++ [p]) M1 H1 (G1.share n) ⟨?_, E1.vis, E1.kep, E1.trk, E1.own⟩ (.ref p) ?_
        · obtain ⟨more, e1, f1⟩ := E1.pre
          refine ⟨more ++ [p], by rw [show As1 = g.As ++ more from e1, List.append_assoc], fun a ha => ?_⟩
          rcases List.mem_append.mp ha with ha | ha
          · exact f1 a ha
          · have e2 : a = p := by simpa using ha
            exact e2 ▸ n.was
        · refine ⟨p, rfl, ?_⟩
          have l : s1.st.length = As1.length := G1.asl
          show (As1 ++ [p])[s1.st.length]? = some p
          rw [l, List.getElem?_append_right (Nat.le_refl _), Nat.sub_self]
          rfl
      | _ => exact q.elim
/-! ### pop -/
theorem At.ownL_ {K : PySem.W.Frag} {g : Gh} {σ : L2.St} {H : Hp} {i : Nat} {k : Unit → Gh → Hp → Prop} (G : Good K g σ H) (h : At K w (ownL i) g σ H k) :
    ∃ ds p vs, g.ρ[i]? = some (.ow (.lst ds)) ∧ σ[i]? = some (some (.ref p)) ∧ H p = some (.lst vs) ∧ Reps K g.As (hid g.M H) ds vs ∧ k () g H := by
  unfold At ownL at h
  cases e : g.ρ[i]? with
  | none => simp only [Gh.S, e] at h
  | some s =>
    cases s with
    | ow d =>
      cases d with
      | lst ds =>
        simp only [Gh.S, e] at h
        obtain ⟨p, e1, m, vs, h1, h2⟩ := G.slot i _ e
        exact ⟨ds, p, vs, rfl, e1, h1, h2, h g.As g.M H G Ext.refl⟩
      | _ => simp only [Gh.S, e] at h
    | _ => simp only [Gh.S, e] at h
theorem popAt_sem {K : PySem.W.Frag} {g0 g : Gh} {σ σ0 : L2.St} {H0 H : Hp} {i : Nat} {d : D} {v : V} {p : Addr} {Q : VK} (E0 : Ext g0 σ0 H0 g σ H) (G : Good K g σ H) (hs : σ[i]? = some (some (.ref p))) (rv : Rep K g.As (hid g.M H) d v)
    (h : At K w (popAt i d) g σ H fun r g1 H1 => ∀ v, RelR K H0 g1 σ H1 r v → Q v H1) : rPopAt (.ref p) [v] H Q := by
  unfold At popAt at h
  cases e : g.ρ[i]? with
  | none => simp only [Gh.S, e] at h
  | some s =>
    cases s with
    | ow c =>
      cases c with
      | lst ds =>
        simp only [Gh.S, e] at h
        obtain ⟨p', e1, m, vs, h1, h2⟩ := G.slot i _ e
        rw [hs] at e1; cases e1
        cases e2 : ixP ds.length d with
        | none => simp only [e2] at h
        | some j =>
          simp only [e2] at h
          cases e3 : ds[j]? with
          | none => simp only [e3] at h
          | some y =>
            simp only [e3] at h
            unfold ixP at e2
            split at e2
            · split at e2
              · rename_i k hk
                obtain rfl : v = .int k := rv
                obtain ⟨u, e4, ru⟩ := h2.get e3
                obtain ⟨q1, q2, q3, q4⟩ := ixN_seq e2
                refine ⟨p, vs, k, j, u, rfl, rfl, h1, hk.1, hk.2, by rw [h2.length]; exact q1, e4, ?_⟩
                obtain ⟨G2, E2⟩ := G.mut (d' := .lst (ds.eraseIdx j)) (o := .lst (vs.eraseIdx j)) e hs ⟨vs.eraseIdx j, upd_same, h2.eraseIdx j⟩
                exact h _ _ _ G2 E2 u (E2.rep ru)
              · cases e2
            · cases e2
      | _ => simp only [Gh.S, e] at h
    | _ => simp only [Gh.S, e] at h
theorem pz_popk {i : Nat} {x : Str} {np ap : Pos} (ho : PE X (.Name x np) (tVar i)) (ha : PE X e (Tr X.K w (evalE cl xk)))
    (hbase : attributeBase (.Name x np) "pop" X.env (eval (.Name x np) X.env) = eval (.Name x np) X.env := by rfl)
    (hfew : ((backTo pos (starEach [e] X.env)).all (fun x => !x.1) && (backToKw pos (keywordEach [] X.env)).all (fun x => x.1.isSome)
      && decide (([e] : List Expr).length + ([] : List Keyword).length + (if ([] : List Keyword).isEmpty then 0 else 1) < 30)) = true := by rfl)
    (hline : (ap.endLine == pos.line) = true := by rfl) (hs : starEach [e] X.env = (false, eval e X.env) :: starEach [] X.env := by rfl) (hplain : (backTo pos (starEach [] X.env)).any (·.1) = false := by rfl) :
    PE X (.Call (.Attribute (.Name x np) "pop" ap) [e] [] pos) (Tr X.K w (evalE cl (.popk i xk))) := by
  refine (pe_bm PySem.F.plainAttrs_list PySem.F.slot_list_pop PySem.F.type_list_pop mt_popAt ho (pa_cons (Tr.dat ha) pa_nil hs) hbase hfew hline hs hplain).weak fun σ H Q ⟨g, G, q⟩ => ?_
  have q : At X.K w (ownL i >>= fun _ => dat (evalE cl xk) >>= fun d => popAt i d) g σ H _ := q
  obtain ⟨ds, p, vs, e1, e2, e3, r, _, _, q1⟩ := At.ownL_ G (At.bind G q)
  refine ⟨.ref p, e2, .inl ⟨rfl, _, SqL.of e3⟩, g, G, (At.bind G q1).imp fun d g1 H1 G1 E1 ⟨_, _, q2⟩ v rv => ?_⟩
  exact popAt_sem E1 G1 e2 rv q2
theorem pz_popl {i : Nat} {x : Str} {np ap : Pos} (ho : PE X (.Name x np) (tVar i))
    (hbase : attributeBase (.Name x np) "pop" X.env (eval (.Name x np) X.env) = eval (.Name x np) X.env := by rfl) (hline : (ap.endLine == pos.line) = true := by rfl) :
    PE X (.Call (.Attribute (.Name x np) "pop" ap) [] [] pos) (Tr X.K w (evalE cl (.popl i))) := by
  refine (pe_bm0 PySem.F.plainAttrs_list PySem.F.slot_list_pop PySem.F.type_list_pop mt_pop ho hbase hline).weak fun σ H Q ⟨g, G, q⟩ => ?_
  have q : At X.K w (ownL i >>= fun _ => popLast i) g σ H _ := q
  obtain ⟨ds, p, vs, e1, e2, e3, r, _, _, h⟩ := At.ownL_ G (At.bind G q)
  refine ⟨.ref p, e2, .inl ⟨rfl, _, SqL.of e3⟩, ?_⟩
  unfold At popLast at h
  simp only [Gh.S, e1] at h
  cases e4 : ds[ds.length - 1]? with
  | none => simp only [e4] at h
  | some y =>
    simp only [e4] at h
    obtain ⟨u, e5, ru⟩ := r.get e4
    refine ⟨p, vs, u, rfl, rfl, e3, by rw [r.length]; exact e5, ?_⟩
    have rd : Reps X.K g.As (hid g.M H) ds.dropLast vs.dropLast := by
      rw [List.dropLast_eq_take, List.dropLast_eq_take, r.length]; exact r.take _
    obtain ⟨G2, E2⟩ := G.mut (d' := .lst ds.dropLast) (o := .lst vs.dropLast) e1 e2 ⟨vs.dropLast, upd_same, rd⟩
    exact h _ _ _ G2 E2 u (E2.rep ru)
end
end Z

/-! Z10: calls of the text's defs. -/
namespace Z
open PySem PySem.Spec PyProof.Rows L2

/-- an exception as it lies: its class, its fields -/
def XRel (K : PySem.W.Frag) (cls : Nat → Value) (g : Gh) (H : Hp) (c : Nat) (fs : List (Str × D)) (C : Value) (dx : Option Addr) : Prop :=
  C = cls c ∧ (fs = [] ∨ ∃ d vs, dx = some d ∧ H d = some (.xd ((fs.map (·.1)).zip vs)) ∧ Reps K g.As (hid g.M H) (fs.map (·.2)) vs)
/-- what the interpreter promises of a def -/
def spz (K : PySem.W.Frag) (cls : Nat → Value) (cl : CallT) (f np : Nat) : Sp := fun vs H Q E => vs.length = np ∧ ∃ (g : Gh) (ds : List D), g.ρ = ds.map .pu ∧ Good K g (vs.map some) H ∧ (match cl f ds g.st with
  | .ok r st' => ∀ v As' M' H', Good K ⟨[], st', As', M'⟩ [] H' → Ext g (vs.map some) H ⟨[], st', As', M'⟩ [] H' → RelR K H ⟨[], st', As', M'⟩ [] H' r v → Q v H'
  | .exc c fs st' => ∀ C dx As' M' H', Good K ⟨[], st', As', M'⟩ [] H' → Ext g (vs.map some) H ⟨[], st', As', M'⟩ [] H' → XRel K cls ⟨[], st', As', M'⟩ H' c fs C dx → E C dx H'
  | .bad => False)

/-- the containers that are handed to a call -/
def bor (ρ : List Slot) (σ : L2.St) : List Opd → List Addr
  | [] => []
  | .val _ :: os => bor ρ σ os
  | .slot i :: os => (match ρ[i]?, σ[i]? with
    | some (.ow _), some (some (.ref p)) => p :: bor ρ σ os
    | _, _ => bor ρ σ os)
theorem bor_own {ρ : List Slot} {σ : L2.St} : ∀ {os : List Opd} {p : Addr}, p ∈ bor ρ σ os → ∃ i d, Opd.slot i ∈ os ∧ ρ[i]? = some (.ow d) ∧ σ[i]? = some (some (.ref p))
  | [], p, h => by cases h
  | .val _ :: os, p, h => by
    obtain ⟨i, d, a, b, c⟩ := bor_own (show p ∈ bor ρ σ os from h)
    exact ⟨i, d, List.mem_cons_of_mem _ a, b, c⟩
  | .slot i :: os, p, h => by
    unfold bor at h
    split at h
    · rename_i d q e1 e2
      rcases List.mem_cons.mp h with e | h
      · subst e; exact ⟨i, d, List.mem_cons_self, e1, e2⟩
      · obtain ⟨i, d, a, b, c⟩ := bor_own h
        exact ⟨i, d, List.mem_cons_of_mem _ a, b, c⟩
    · obtain ⟨i, d, a, b, c⟩ := bor_own h
      exact ⟨i, d, List.mem_cons_of_mem _ a, b, c⟩
theorem bor_mem {ρ : List Slot} {σ : L2.St} {i : Nat} {d : D} {p : Addr} (e1 : ρ[i]? = some (.ow d)) (e2 : σ[i]? = some (some (.ref p))) : ∀ {os : List Opd}, Opd.slot i ∈ os → p ∈ bor ρ σ os
  | [], h => by cases h
  | .val _ :: os, h => bor_mem e1 e2 (os := os) (by rcases List.mem_cons.mp h with e | h; cases e; exact h)
  | .slot j :: os, h => by
    rcases List.mem_cons.mp h with e | h
    · cases e
      unfold bor
      rw [e1, e2]
      exact List.mem_cons_self
    · have ih := bor_mem e1 e2 h
      unfold bor
      split
      · exact List.mem_cons_of_mem _ ih
      · exact ih
/-- which slots stand as pure ones behind letting go -/
theorem letgo_at : ∀ (os : List Opd) (ρ : List Slot) (j : Nat) (s : Slot), (letgo ρ os)[j]? = some s → (ρ[j]? = some s ∧ (∀ d, s = .ow d → Opd.slot j ∉ os)) ∨ ∃ d, s = .pu d ∧ ρ[j]? = some (.ow d) ∧ Opd.slot j ∈ os
  | [], ρ, j, s, h => .inl ⟨h, fun _ _ z => nomatch z⟩
  | .val _ :: os, ρ, j, s, h => by
    rcases letgo_at os ρ j s h with ⟨a, b⟩ | ⟨d, a, b, c⟩
    · exact .inl ⟨a, fun d e z => b d e (by rcases List.mem_cons.mp z with e | z; cases e; exact z)⟩
    · exact .inr ⟨d, a, b, List.mem_cons_of_mem _ c⟩
  | .slot i :: os, ρ, j, s, h => by
    unfold letgo at h
    split at h
    · rename_i d e1
      have hil : i < ρ.length := (List.getElem?_eq_some_iff.mp e1).1
      rcases letgo_at os _ j s h with ⟨a, b⟩ | ⟨d', a, b, c⟩
      · by_cases hj : i = j
        · subst hj
          rw [List.getElem?_set_self hil] at a
          exact .inr ⟨d, (Option.some.inj a).symm, e1, List.mem_cons_self⟩
        · rw [List.getElem?_set_ne hj] at a
          exact .inl ⟨a, fun d e z => b d e (by rcases List.mem_cons.mp z with e | z; cases e; exact absurd rfl hj; exact z)⟩
      · by_cases hj : i = j
        · subst hj
          rw [List.getElem?_set_self hil] at b; cases b
        · rw [List.getElem?_set_ne hj] at b
          exact .inr ⟨d', a, b, List.mem_cons_of_mem _ c⟩
    · rename_i e1
      rcases letgo_at os _ j s h with ⟨a, b⟩ | ⟨d', a, b, c⟩
      · refine .inl ⟨a, fun d e z => ?_⟩
        rcases List.mem_cons.mp z with e2 | z
        · cases e2
          subst e
          exact e1 d a
        · exact b d e z
      · exact .inr ⟨d', a, b, List.mem_cons_of_mem _ c⟩
theorem letgo_len : ∀ (os : List Opd) (ρ : List Slot), (letgo ρ os).length = ρ.length
  | [], ρ => rfl
  | .val _ :: os, ρ => letgo_len os ρ
  | .slot i :: os, ρ => by
    unfold letgo
    split
    · rw [letgo_len]; simp
    · exact letgo_len os ρ

section
variable {K : PySem.W.Frag} {w : WX} {g : Gh} {σ : L2.St} {H : Hp}
mutual
/-- what holds no container stays readable when containers are hidden -/
theorem still_rep {As M B : List Addr} {H : Hp} (hB : ∀ p ∈ B, ∃ vs, H p = some (.lst vs)) : ∀ {d : D} {v : V}, still d = true → Rep K As (hid M H) d v → Rep K As (hid (M ++ B) H) d v
  | .none, _, _, h => h
  | .bl _, _, _, h => h
  | .int _, _, _, h => h
  | .str _, _, _, h => h
  | .tup ds, v, s, h => by
    obtain ⟨a, vs, e, h1, h2⟩ := h
    obtain ⟨n, q⟩ := hid_of h1
    refine ⟨a, vs, e, hid_mk (fun z => ?_) q, stills_rep hB s h2⟩
    rcases List.mem_append.mp z with z | z
    · exact n z
    · obtain ⟨ws, e2⟩ := hB a z
      rw [q] at e2; cases e2
  | .lst ds, v, s, h => by cases s
  | .dic _ _, v, s, h => by cases s
  | .obj i, v, s, h => h
  | .scr _, v, s, h => by cases s
theorem stills_rep {As M B : List Addr} {H : Hp} (hB : ∀ p ∈ B, ∃ vs, H p = some (.lst vs)) : ∀ {ds : List D} {vs : List V}, stills ds = true → Reps K As (hid M H) ds vs → Reps K As (hid (M ++ B) H) ds vs
  | [], _, _, h => h
  | d :: ds, vs, s, h => by
    obtain ⟨v, ws, e, h1, h2⟩ := h
    have s : (still d && stills ds) = true := s
    rw [Bool.and_eq_true] at s
    exact ⟨v, ws, e, still_rep hB s.1 h1, stills_rep hB s.2 h2⟩
end
theorem hid_sub {M M' : List Addr} {H : Hp} (h : ∀ p ∈ M', p ∈ M) : Same (hid M H) (hid M' H) := fun b o q => by
  obtain ⟨n, q⟩ := hid_of q
  exact hid_mk (fun z => n (h b z)) q
/-- an operand's data as an argument: its own container no more hidden -/
theorem opd_arg {o : Opd} {v : V} {d : D} {M' : List Addr} {s' : S} (G : Good K g σ H) (r : RelO K g σ H o v) (e : res o g.S = .ok d s') (hM : ∀ p ∈ M', p ∈ g.M) (hb : ∀ i, o = .slot i → ∀ d p, g.ρ[i]? = some (.ow d) → σ[i]? = some (some (.ref p)) → p ∉ M') :
    Rep K g.As (hid M' H) d v ∧ s' = g.S := by
  cases o with
  | val d' =>
    cases e
    exact ⟨Rep.mono asId (hid_sub hM) r, rfl⟩
  | slot i =>
    have e : rdSlot i g.S = .ok d s' := e
    unfold rdSlot at e
    cases e1 : g.ρ[i]? with
    | none => simp only [Gh.S, e1] at e; cases e
    | some s =>
      cases s with
      | un => simp only [Gh.S, e1] at e; cases e
      | pu d' =>
        simp only [Gh.S, e1] at e
        cases e
        obtain ⟨u, e2, r1⟩ := G.slot i _ e1
        have r : σ[i]? = some (some v) := r
        rw [r] at e2; cases e2
        exact ⟨Rep.mono asId (hid_sub hM) r1, rfl⟩
      | ow d' =>
        simp only [Gh.S, e1] at e
        cases e
        obtain ⟨p, e2, m, c⟩ := G.slot i _ e1
        have r : σ[i]? = some (some v) := r
        rw [r] at e2; cases e2
        refine ⟨(c.mono asId (hid_sub hM) rfl).rep ?_, rfl⟩
        unfold hid
        rw [if_neg (hb i rfl d p e1 r)]
theorem opds_arg (G : Good K g σ H) {M' : List Addr} (hM : ∀ p ∈ M', p ∈ g.M) : ∀ {os : List Opd} {vs : List V} {ds : List D} {s' : S}, RelOs K g σ H os vs → ress os g.S = .ok ds s' →
    (∀ i, Opd.slot i ∈ os → ∀ d p, g.ρ[i]? = some (.ow d) → σ[i]? = some (some (.ref p)) → p ∉ M') → Reps K g.As (hid M' H) ds vs ∧ s' = g.S
  | _, _, ds, s', .nil, e, _ => by cases e; exact ⟨rfl, rfl⟩
  | _, _, ds, s', .cons (o := o) (os := os) r rs, e, hb => by
    have e : (res o >>= fun d => ress os >>= fun ds => Pure.pure (d :: ds)) g.S = .ok ds s' := e
    rw [bind_run] at e
    cases e1 : res o g.S with
    | bad => rw [e1] at e; cases e
    | exc c fs s => rw [e1] at e; cases e
    | ok d s1 =>
      rw [e1] at e
      obtain ⟨r1, rfl⟩ := opd_arg G r e1 hM fun i ei => hb i (ei ▸ List.mem_cons_self)
      have e : (ress os >>= fun ds => Pure.pure (d :: ds)) g.S = .ok ds s' := e
      rw [bind_run] at e
      cases e2 : ress os g.S with
      | bad => rw [e2] at e; cases e
      | exc c fs s => rw [e2] at e; cases e
      | ok ds' s2 =>
        rw [e2] at e
        obtain ⟨r2, rfl⟩ := opds_arg G hM rs e2 fun i hi => hb i (List.mem_cons_of_mem _ hi)
        cases e
        exact ⟨.cons r1 r2, rfl⟩

/-- the call itself -/
theorem call_sem {cls : Nat → Value} {cl : CallT} {f np : Nat} {os : List Opd} {vs : List V} {Q : VK} {E : XK} {k : Rs → Gh → Hp → Prop} (G : Good K g σ H) (rs : RelOs K g σ H os vs)
    (h : At K w (do let ds ← ress os; let s ← getS; afterCall os (cl f ds s.st)) g σ H k) (hl : vs.length = np)
    (hk : ∀ r g' H' v, Ext g σ H g' σ H' → Good K g' σ H' → RelR K H g' σ H' r v → k r g' H' → Q v H') (hw : ∀ c fs g' H' C dx, w c fs g' H' → XRel K cls g' H' c fs C dx → E C dx H') : spz K cls cl f np vs H Q E := by
  unfold At at h
  rw [bind_run] at h
  cases e0 : ress os g.S with
  | bad => rw [e0] at h; exact h.elim
  | exc c fs s =>
    exfalso
    have : ∀ (os : List Opd) (s : S), ∀ c fs s', ress os s ≠ .exc c fs s' := by
      intro os
      induction os with
      | nil => intro s c fs s' e; cases e
      | cons o os ih =>
        intro s c fs s' e
        have e : (res o >>= fun d => ress os >>= fun ds => Pure.pure (d :: ds)) s = .exc c fs s' := e
        rw [bind_run] at e
        cases e1 : res o s with
        | bad => rw [e1] at e; cases e
        | exc c' fs' s1 =>
          cases o with
          | val d => cases e1
          | slot i =>
            have e1 : rdSlot i s = .exc c' fs' s1 := e1
            unfold rdSlot at e1
            split at e1 <;> cases e1
        | ok d s1 =>
          rw [e1] at e
          have e : (ress os >>= fun ds => Pure.pure (d :: ds)) s1 = .exc c fs s' := e
          rw [bind_run] at e
          cases e2 : ress os s1 with
          | bad => rw [e2] at e; cases e
          | exc c fs s => exact ih _ _ _ _ e2
          | ok ds s2 => rw [e2] at e; cases e
    exact this _ _ _ _ _ e0
  | ok ds s0 =>
    rw [e0] at h
    have bsub : ∀ p ∈ bor g.ρ σ os, p ∈ g.M ∧ (∃ ws, H p = some (.lst ws)) ∧ Own g.ρ σ p := fun p hp => by
      obtain ⟨i, d, a, b, c⟩ := bor_own hp
      obtain ⟨p', e2, m, cc⟩ := G.slot i _ b
      rw [c] at e2; cases e2
      refine ⟨m, ?_, ⟨i, d, b, c⟩⟩
      cases d with
      | lst ds => obtain ⟨ws, q, _⟩ := cc; exact ⟨ws, q⟩
      | dic ks ws => obtain ⟨us, vs, h1, _⟩ := cc; exact h1.elim
      | _ => exact cc.elim
    let Mc := g.M.filter fun p => decide (p ∉ bor g.ρ σ os)
    have hMc : ∀ p, p ∈ Mc ↔ p ∈ g.M ∧ p ∉ bor g.ρ σ os := fun p => by simp [Mc, List.mem_filter]
    obtain ⟨ra, rfl⟩ := opds_arg G (M' := Mc) (fun p hp => ((hMc p).mp hp).1) rs e0 fun i hi d p h1 h2 z => ((hMc p).mp z).2 (bor_mem h1 h2 hi)
    let gc : Gh := ⟨ds.map .pu, g.st, g.As, Mc⟩
    have vlen := ra.length
    have noOwn : ∀ p, ¬ Own (ds.map Slot.pu) (vs.map some) p := fun p ⟨i, d, h1, _⟩ => by
      rw [List.getElem?_map] at h1
      cases e : ds[i]? with
      | none => rw [e] at h1; cases h1
      | some x => rw [e] at h1; cases h1
    have sub : Same (hid g.M H) (hid Mc H) := hid_sub fun p hp => ((hMc p).mp hp).1
    have Gc : Good K gc (vs.map some) H := by
      refine ⟨by simp [gc, vlen], fun i s e => ?_, fun i j d d' p h1 h2 h3 h4 => absurd ⟨i, d, h1, h3⟩ (noOwn p), fun p hp => absurd hp (noOwn p), fun i so e => ?_, G.asl, G.asn, fun a ha => ?_, fun p hp => G.trk p ((hMc p).mp hp).1⟩
      · have e : (ds.map Slot.pu)[i]? = some s := e
        rw [List.getElem?_map] at e
        cases e1 : ds[i]? with
        | none => rw [e1] at e; cases e
        | some d =>
          rw [e1] at e; cases e
          obtain ⟨v, e2, r⟩ := ra.get e1
          exact ⟨v, by rw [List.getElem?_map, e2]; rfl, r⟩
      · obtain ⟨a, e1, q⟩ := G.sto i so e
        exact ⟨a, e1, q.mono asId sub rfl⟩
      · exact (hMc a).mpr ⟨G.asm a ha, fun z => G.oas a (bsub a z).2.2 ha⟩
    refine ⟨hl, gc, ds, rfl, Gc, ?_⟩
    dsimp only at h
    rw [show (getS >>= fun s => afterCall os (cl f ds s.st)) g.S = afterCall os (cl f ds g.st) g.S from rfl] at h
    -- what holds behind the call, the operands let go
    have key : ∀ st' As' M' H', Good K ⟨[], st', As', M'⟩ [] H' → Ext gc (vs.map some) H ⟨[], st', As', M'⟩ [] H' →
        Good K ⟨letgo g.ρ os, st', As', M'⟩ σ H' ∧ Ext g σ H ⟨letgo g.ρ os, st', As', M'⟩ σ H' := fun st' As' M' H' G' E' => by
      have vis : ∀ b o, b ∉ g.M → H b = some o → b ∉ M' ∧ H' b = some o := fun b o n q => E'.vis b o (fun z => n ((hMc b).mp z).1) q
      have same : Same (hid g.M H) (hid M' H') := fun b o q => by
        obtain ⟨n, q⟩ := hid_of q
        obtain ⟨n', q'⟩ := vis b o n q
        exact hid_mk n' q'
      have subO : ∀ p, Own (letgo g.ρ os) σ p → Own g.ρ σ p ∧ p ∉ bor g.ρ σ os := fun p ⟨i, d, h1, h2⟩ => by
        rcases letgo_at os g.ρ i _ h1 with ⟨a, b⟩ | ⟨d', a, _⟩
        · refine ⟨⟨i, d, a, h2⟩, fun z => ?_⟩
          obtain ⟨j, d2, hj, e1, e2⟩ := bor_own z
          have := G.inj i j d d2 p a e1 h2 e2
          exact b d rfl (this ▸ hj)
        · cases a
      have keepO : ∀ p ∈ g.M, p ∉ g.As → p ∉ bor g.ρ σ os → p ∈ M' ∧ H' p = H p := fun p hp hA hb => E'.kep p ((hMc p).mpr ⟨hp, hb⟩) hA (noOwn p)
      have fresh : ∀ p, H p ≠ none → p ∉ g.As → p ∉ As' := fun p n hA z => by
        obtain ⟨more, e, f⟩ := E'.pre
        have e : As' = g.As ++ more := e
        rw [e] at z
        rcases List.mem_append.mp z with z | z
        · exact hA z
        · exact n (f p z)
      refine ⟨⟨by rw [letgo_len]; exact G.len, fun i s e => ?_, fun i j d d' p h1 h2 h3 h4 => ?_, fun p hp => ?_, G'.sto, G'.asl, G'.asn, G'.asm, G'.trk⟩, ⟨E'.pre, vis, fun p hp hA hO => ?_, E'.trk, fun p hp => .inl (subO p hp).1⟩⟩
      · rcases letgo_at os g.ρ i s e with ⟨a, b⟩ | ⟨d, e1, a, b⟩
        · have q := G.slot i s a
          cases s with
          | un => trivial
          | pu d => obtain ⟨v, e, r⟩ := q; exact ⟨v, e, r.mono E'.asget same⟩
          | ow d =>
            obtain ⟨p, e2, m, c⟩ := q
            have ow : Own g.ρ σ p := ⟨i, d, a, e2⟩
            obtain ⟨m', hh⟩ := keepO p m (G.oas p ow) (subO p ⟨i, d, e, e2⟩).2
            exact ⟨p, e2, m', c.mono E'.asget same hh⟩
        · subst e1
          obtain ⟨p, e2, m, c⟩ := G.slot i _ a
          have hb := bor_mem a e2 b
          have hp : ∃ o, H p = some o := by
            obtain ⟨_, ⟨ws, q⟩, _⟩ := bsub p hb
            exact ⟨_, q⟩
          obtain ⟨o, q⟩ := hp
          obtain ⟨n', q'⟩ := E'.vis p o (fun z => ((hMc p).mp z).2 hb) q
          refine ⟨.ref p, e2, (c.mono E'.asget same (q'.trans q.symm)).rep ?_⟩
          unfold hid
          rw [if_neg n']
      · rcases letgo_at os g.ρ i _ h1 with ⟨a, _⟩ | ⟨d', a, _⟩
        · rcases letgo_at os g.ρ j _ h2 with ⟨b, _⟩ | ⟨d', b, _⟩
          · exact G.inj i j d d' p a b h3 h4
          · cases b
        · cases a
      · obtain ⟨ow, _⟩ := subO p hp
        exact fresh p (Own.some_ G ow).2 (G.oas p ow)
      · exact keepO p hp hA fun z => hO (bsub p z).2.2
    cases ec : cl f ds g.st with
    | bad => rw [ec] at h; exact h
    | exc c fs st' =>
      rw [ec] at h
      intro C dx As' M' H' G' E' xr
      obtain ⟨G2, E2⟩ := key st' As' M' H' G' E'
      exact hw c fs _ H' C dx (h As' M' H' G2 E2) xr
    | ok r st' =>
      rw [ec] at h
      intro v As' M' H' G' E' rv
      obtain ⟨G2, E2⟩ := key st' As' M' H' G' E'
      have relG : ∀ ρ', (∀ p, Own ρ' σ p → H p ≠ none) → RelR K H ⟨ρ', st', As', M'⟩ σ H' r v := fun ρ' ho => by
        unfold RelR at rv ⊢
        split
        · rename_i hf
          rw [if_pos hf] at rv
          obtain ⟨p, e, n⟩ := rv
          exact ⟨p, e, n.was, n.mem, n.nas, fun z => ho p z n.was, n.cel⟩
        · rename_i hf
          rw [if_neg hf] at rv
          exact rv
      unfold afterCall at h
      dsimp only at h
      by_cases hst : (still r.1 && st'.all stillSO) = true
      · rw [if_pos hst] at h
        have hst' := hst
        rw [Bool.and_eq_true] at hst'
        let B := bor g.ρ σ os
        have hB : ∀ p ∈ B, ∃ ws, H' p = some (.lst ws) := fun p hp => by
          obtain ⟨m, ⟨ws, q⟩, _⟩ := bsub p hp
          exact ⟨ws, (E'.vis p _ (fun z => ((hMc p).mp z).2 hp) q).2⟩
        have hBv : ∀ p ∈ B, p ∉ M' ∧ H' p = H p := fun p hp => by
          obtain ⟨m, ⟨ws, q⟩, _⟩ := bsub p hp
          obtain ⟨a, b⟩ := E'.vis p _ (fun z => ((hMc p).mp z).2 hp) q
          exact ⟨a, b.trans q.symm⟩
        have vis : ∀ b o, b ∉ g.M → H b = some o → b ∉ M' ++ B ∧ H' b = some o := fun b o n q => by
          obtain ⟨a, c⟩ := E2.vis b o n q
          exact ⟨fun z => (List.mem_append.mp z).elim a fun z => n (bsub b z).1, c⟩
        have same : Same (hid g.M H) (hid (M' ++ B) H') := fun b o q => by
          obtain ⟨n, q⟩ := hid_of q
          obtain ⟨n', q'⟩ := vis b o n q
          exact hid_mk n' q'
        have asget : ∀ (i : Nat) (a : Addr), g.As[i]? = some a → As'[i]? = some a := E'.asget
        have kp : ∀ p ∈ g.M, p ∉ g.As → p ∈ M' ++ B ∧ H' p = H p := fun p hp hA => by
          by_cases hb : p ∈ B
          · exact ⟨List.mem_append_right _ hb, (hBv p hb).2⟩
          · obtain ⟨a, b⟩ := E'.kep p ((hMc p).mpr ⟨hp, hb⟩) hA (noOwn p)
            exact ⟨List.mem_append_left _ a, b⟩
        have nas' : ∀ p, Own g.ρ σ p → p ∉ As' := fun p ow z => by
          obtain ⟨more, e, f⟩ := E'.pre
          have e : As' = g.As ++ more := e
          rw [e] at z
          rcases List.mem_append.mp z with z | z
          · exact G.oas p ow z
          · exact (Own.some_ G ow).2 (f p z)
        have G3 : Good K ⟨g.ρ, st', As', M' ++ B⟩ σ H' := by
          refine ⟨G.len, fun i s e => ?_, G.inj, nas', fun i so e => ?_, G'.asl, G'.asn, fun a ha => List.mem_append_left _ (G'.asm a ha), fun p hp => ?_⟩
          · have q := G.slot i s e
            cases s with
            | un => trivial
            | pu d => obtain ⟨v, e, r⟩ := q; exact ⟨v, e, r.mono asget same⟩
            | ow d =>
              obtain ⟨p, e2, m, c⟩ := q
              obtain ⟨m', hh⟩ := kp p m (G.oas p ⟨i, d, e, e2⟩)
              exact ⟨p, e2, m', c.mono asget same hh⟩
          · obtain ⟨a, e1, q⟩ := G'.sto i so e
            refine ⟨a, e1, ?_⟩
            have hs := List.all_eq_true.mp hst'.2 so (List.mem_of_getElem? e)
            cases so with
            | lst ds => obtain ⟨ws, q1, q2⟩ := q; exact ⟨ws, q1, stills_rep hB hs q2⟩
            | ins c fs => exact q.elim
          · rcases List.mem_append.mp hp with hp | hp
            · exact G'.trk p hp
            · obtain ⟨ws, q⟩ := hB p hp
              show H' p ≠ none
              rw [q]; exact fun z => nomatch z
        have E3 : Ext g σ H ⟨g.ρ, st', As', M' ++ B⟩ σ H' := ⟨E'.pre, vis, fun p hp hA _ => kp p hp hA, E'.trk, fun p hp => .inl hp⟩
        have h3 := h As' (M' ++ B) H' G3 E3
        refine hk r _ H' v E3 G3 ?_ h3
        unfold RelR at rv ⊢
        split
        · rename_i hf
          rw [if_pos hf] at rv
          obtain ⟨p, e, n⟩ := rv
          obtain ⟨d, fr⟩ := r
          cases d with
          | lst ds => exact absurd hst'.1 (by simp [still])
          | dic ks ws => exact absurd hst'.1 (by simp [still])
          | _ => exact n.cel.elim
        · rename_i hf
          rw [if_neg hf] at rv
          exact still_rep hB hst'.1 rv
      · rw [if_neg hst] at h
        exact hk r _ H' v E2 G2 (relG _ fun p z => (Own.some_ G (by
          obtain ⟨i, d, h1, h2⟩ := z
          rcases letgo_at os g.ρ i _ h1 with ⟨a, _⟩ | ⟨d', a, _⟩
          · exact ⟨i, d, a, h2⟩
          · cases a)).2) (h As' M' H' G2 E2)
end
end Z

/-! Z11: a call as an expression. -/
namespace Z
open PySem PySem.Spec PyProof.Rows L2

theorem M.assoc {α β γ : Type} (m : M α) (f : α → M β) (h : β → M γ) : (m >>= f >>= h) = (m >>= fun a => f a >>= h) := by
  funext s
  rw [bind_run, bind_run, bind_run]
  cases m s with
  | ok a s' => dsimp only; rw [bind_run]
  | exc c fs s' => rfl
  | bad => rfl
theorem M.pure_bind {α β : Type} (a : α) (f : α → M β) : ((Pure.pure a : M α) >>= f) = f a := rfl
theorem M.bind_pure {α : Type} (m : M α) : (m >>= fun a => Pure.pure a) = m := by
  funext s
  rw [bind_run]
  cases m s <;> rfl
theorem M.congr {α β : Type} {m : M α} {f f' : α → M β} (h : ∀ a, f a = f' a) : (m >>= f) = (m >>= f') := by rw [show f = f' from funext h]
theorem evalOs_append (cl : CallT) (ys : List Ex) : ∀ xs : List Ex, evalOs cl (xs ++ ys) = (evalOs cl xs >>= fun a => evalOs cl ys >>= fun b => Pure.pure (a ++ b))
  | [] => by
    show evalOs cl ys = _
    exact (M.bind_pure _).symm
  | x :: xs => by
    show (opdV x (evalE cl x) >>= fun d => evalOs cl (xs ++ ys) >>= fun ds => Pure.pure (d :: ds)) = ((opdV x (evalE cl x) >>= fun d => evalOs cl xs >>= fun ds => Pure.pure (d :: ds)) >>= fun a => evalOs cl ys >>= fun b => Pure.pure (a ++ b))
    rw [M.assoc]
    refine M.congr fun d => ?_
    rw [evalOs_append cl ys xs, M.assoc, M.assoc]
    refine M.congr fun a => ?_
    rw [M.assoc, M.pure_bind]
    refine M.congr fun b => rfl
theorem RelOs.append {K : PySem.W.Frag} {g : Gh} {σ : L2.St} {H : Hp} {os os' : List Opd} {vs vs' : List V} (a : RelOs K g σ H os vs) (b : RelOs K g σ H os' vs') : RelOs K g σ H (os ++ os') (vs ++ vs') := by
  induction a with
  | nil => exact b
  | cons h _ ih => exact .cons h ih
theorem RelOs.length {K : PySem.W.Frag} {g : Gh} {σ : L2.St} {H : Hp} {os : List Opd} {vs : List V} (a : RelOs K g σ H os vs) : vs.length = os.length := by
  induction a with
  | nil => rfl
  | cons h _ ih => simp [ih]
theorem evalOs_len {K : PySem.W.Frag} {w : WX} {g : Gh} {σ : L2.St} {H : Hp} {cl : CallT} : ∀ {xs : List Ex} {g : Gh} {H : Hp} {k : List Opd → Gh → Hp → Prop}, Good K g σ H → At K w (evalOs cl xs) g σ H k → At K w (evalOs cl xs) g σ H fun os g1 H1 => os.length = xs.length ∧ k os g1 H1
  | [], g, H, k, G, h => fun As' M' H' G' E' => ⟨rfl, h As' M' H' G' E'⟩
  | x :: xs, g, H, k, G, h => by
    unfold At at h ⊢
    cases e : evalOs cl (x :: xs) g.S with
    | bad => rw [e] at h; exact h
    | exc c fs s => rw [e] at h; exact h
    | ok os s1 =>
      rw [e] at h
      have hl : ∀ (xs : List Ex) (s : S) (os : List Opd) (s1 : S), evalOs cl xs s = .ok os s1 → os.length = xs.length := by
        intro xs
        induction xs with
        | nil => intro s os s1 e; cases e; rfl
        | cons x xs ih =>
          intro s os s1 e
          have e : (opdV x (evalE cl x) >>= fun d => evalOs cl xs >>= fun ds => Pure.pure (d :: ds)) s = .ok os s1 := e
          rw [bind_run] at e
          cases e1 : opdV x (evalE cl x) s with
          | bad => rw [e1] at e; cases e
          | exc c fs s => rw [e1] at e; cases e
          | ok d s2 =>
            rw [e1] at e
            have e : (evalOs cl xs >>= fun ds => Pure.pure (d :: ds)) s2 = .ok os s1 := e
            rw [bind_run] at e
            cases e2 : evalOs cl xs s2 with
            | bad => rw [e2] at e; cases e
            | exc c fs s => rw [e2] at e; cases e
            | ok ds s3 =>
              rw [e2] at e
              cases e
              simp [ih _ _ _ e2]
      exact fun As' M' H' G' E' => ⟨hl _ _ _ _ e, h As' M' H' G' E'⟩

section
variable {X : Cx} {w : WX} {cl : CallT} {CX : CXT} {k f np n : Nat} {fa : Addr} {fd : FuncData} {ps ks : List Str} {E : XK} {cls : Nat → Value} {x : Str} {p pos kpos : Pos} {e : Expr} {es : List Expr} {kws : List Keyword} {xs ys zs : List Ex} {nm : Option Str} {y : Ex}
theorem pkz_nil : PK X [] (Tos X.K w (evalOs cl [])) := ⟨fun pos pins s σ H Q I h => pk_nil.run pos pins s σ H Q I (by obtain ⟨g, G, q⟩ := h; exact At.pure_ G q [] .nil)⟩
theorem pkz_cons (ha : PE X e (To X.K w (opdV y (evalE cl y)))) (hr : PK X kws (Tos X.K w (evalOs cl ys))) : PK X (⟨nm, e, kpos⟩ :: kws) (Tos X.K w (evalOs cl (y :: ys))) := by
  refine ⟨fun pos pins s σ H Q I h => (pk_cons ha hr).run pos pins s σ H Q I ?_⟩
  obtain ⟨g, G, q⟩ := h
  refine ⟨g, G, ?_⟩
  have q : At X.K w (do let d ← opdV y (evalE cl y); let ds ← evalOs cl ys; Pure.pure (d :: ds)) g σ H _ := q
  refine (At.bind G q).imp fun d g1 H1 G1 E1 ⟨_, _, q1⟩ v rv => ⟨g1, G1, ?_⟩
  refine (At.bind G1 q1).imp fun ds g2 H2 G2 E2 ⟨_, _, q2⟩ vs rvs => ?_
  exact At.pure_ G2 q2 (v :: vs) (.cons (rv.ext E2) rvs)

/-- how f's arguments bind: n by place, those named ks by name, all parameters given -/
def BindK (K : PySem.W.Frag) (fd : FuncData) (ps : List Str) (n : Nat) (ks : List Str) : Prop :=
  ∀ (s : Shared) (us ws : List Value), K.In s.heap → us.length = n → ws.length = ks.length → BindsTo s fd ⟨us, ks.zip ws⟩ (ps.zip (us ++ ws))
theorem BindK.kbn {K : PySem.W.Frag} (h : BindK K fd ps n ks) : KBn K fd ps n ks (fun us ws => us ++ ws) (fun vs zs => vs ++ zs) := ⟨h, fun a b => a.append b⟩
theorem BindK.binds {K : PySem.W.Frag} (h : BindK K fd ps ps.length []) : Binds K fd ps [] := fun s us hK hl => by
  have hl : us.length = ps.length := by simpa using hl
  have := h s us [] hK hl rfl
  simpa using this

/-- f stands at the name x and keeps what the interpreter says of it -/
structure CallOkP (P : Program) (w : World) (K : PySem.W.Frag) (mg : Str → Option Value) (base : Heap) (CX : CXT) (cls : Nat → Value) (cl : CallT) (k f : Nat) (x : Str) (np : Nat) (n : Nat) (ks : List Str) : Prop where
  ex : ∃ (fa : Addr) (fd : FuncData) (ps : List Str), FnOk P w K mg base CX k fa fd ps (spz K cls cl f np) ∧ ps.length = np ∧ mg x = some (.ref fa) ∧ PySem.W.keepIn K (.ref fa) = true ∧ BindK K fd ps n ks
abbrev CallOk (X : Cx) (CX : CXT) (cls : Nat → Value) (cl : CallT) (k f : Nat) (x : Str) (np : Nat) (n : Nat) (ks : List Str) : Prop := CallOkP X.prog X.w X.K X.mg X.base CX cls cl k f x np n ks
/-- a def without positional defaults, all parameters given -/
theorem bindK_of {K : PySem.W.Frag} {x qual : Str} {params : Arguments} {body : List Stmt} {scope : Scope} {kv : List (Str × V)} {f : Addr} {fd : FuncData} (F : FunD K x qual params body scope [] kv f fd) (n : Nat) (ks : List Str)
    (h : ∀ (kV doc pm : Value) (an : Option Addr) (cdv ct : Value) (us ws : List Value), us.length = n → ws.length = ks.length → bindArgs (PySem.W.fnOf x qual params body scope .none kV doc pm an cdv ct) ⟨us, ks.zip ws⟩ = pure (ps.zip (us ++ ws))) : BindK K fd ps n ks := by
  obtain ⟨oc, od, dV, kV, doc, pm, an, cdv, ct, osl, rfl, lk, hcd, hD, hK⟩ := F.ex
  rcases hD with ⟨_, rfl⟩ | ⟨e, _⟩
  · exact fun s us ws _ hu hw => .of_eq (h kV doc pm an cdv ct us ws hu hw)
  · exact absurd rfl e
theorem pass0E {X : Cx} {E : XK} : Passes CX0 X E := fun _ _ _ _ _ _ _ h => h.elim
theorem hu_room {A : Around} {k : Nat} (hr : Room k A) : A.units + 65 < cLine := by
  have := hr.un
  omega

theorem call_of {σ : L2.St} {H : Hp} {Q : VK} (hw : ∀ c fs g' H' C dx, w c fs g' H' → XRel X.K cls g' H' c fs C dx → E C dx H') (h : Tr X.K w (evalE cl (.call f xs)) σ H Q) :
    Tos X.K w (evalOs cl xs) σ H fun vs H1 => vs.length = xs.length ∧ spz X.K cls cl f xs.length vs H1 Q E := by
  obtain ⟨g, G, q⟩ := h
  have q : At X.K w (evalOs cl xs >>= fun os => (do let ds ← ress os; let s ← getS; afterCall os (cl f ds s.st))) g σ H _ := q
  refine ⟨g, G, (evalOs_len (w := w) (g := g) (H := H) (σ := σ) G (At.bind G q)).imp fun os g1 H1 G1 E1 ⟨hl, _, _, q1⟩ vs rs => ?_⟩
  have hv := rs.length
  exact ⟨by omega, call_sem G1 rs q1 (by omega) (fun r g' H' v E' G' rv hk => hk v (rv.older E1)) hw⟩
/-- f(e, ..), all parameters by place -/
theorem pz_call (C : CallOk X CX cls cl k f x np np []) (hn : xs.length = np) (hr : Room k X.A) (hg : Gl X x) (hx : Passes CX X E) (hw : ∀ c fs g' H' C dx, w c fs g' H' → XRel X.K cls g' H' c fs C dx → E C dx H')
    (ha : PA X (e :: es) (Tos X.K w (evalOs cl xs))) (hdb : (x == ("__debug__" : Str)) = false := by decide) (he : starEach (e :: es) X.env = (false, eval e X.env) :: starEach es X.env := by rfl) (hpl : (backTo pos (starEach es X.env)).any (·.1) = false := by rfl) :
    PE X (.Call (.Name x p) (e :: es) [] pos) (Tr X.K w (evalE cl (.call f xs))) := by
  obtain ⟨fa, fd, ps, F, hps, hm, hk, hb⟩ := C.ex
  subst hn
  refine (pe_call F hr hg hm hk (BindK.binds (by rw [hps]; exact hb)) .nil hx ha hdb he hpl).weak fun σ H Q h => ?_
  obtain ⟨g, G, q⟩ := call_of (E := E) hw h
  refine ⟨g, G, q.imp fun os g1 H1 _ _ q1 vs rs => ?_⟩
  show spz X.K cls cl f xs.length (vs ++ []) H1 Q E
  rw [List.append_nil]
  exact (q1 vs rs).2
/-- f(e, .., k = v, ..) -/
theorem pz_callK (C : CallOk X CX cls cl k f x np n ks) (hn : (xs ++ ys).length = np) (hx1 : xs.length = n) (hy1 : ys.length = ks.length) (hr : Room k X.A) (hg : Gl X x) (hx : Passes CX X E) (hw : ∀ c fs g' H' C dx, w c fs g' H' → XRel X.K cls g' H' c fs C dx → E C dx H')
    (ha : PA X (e :: es) (Tos X.K w (evalOs cl xs))) (hkw : PK X kws (Tos X.K w (evalOs cl ys))) (hall : (backToKw pos (keywordEach kws X.env)).all (·.1.isSome) = true := by rfl) (hks : (backToKw pos (keywordEach kws X.env)).filterMap (·.1) = ks := by rfl)
    (hdb : (x == ("__debug__" : Str)) = false := by decide) (he : starEach (e :: es) X.env = (false, eval e X.env) :: starEach es X.env := by rfl)
    (hpl : ((backTo pos (starEach (e :: es) X.env)).any (·.1) || (backToKw pos (keywordEach kws X.env)).any (·.1.isNone)) = false := by rfl) :
    PE X (.Call (.Name x p) (e :: es) kws pos) (Tr X.K w (evalE cl (.call f (xs ++ ys)))) := by
  obtain ⟨fa, fd, ps, F, hps, hm, hk, hb⟩ := C.ex
  subst hn
  refine (pe_callN F hr hg hm hk hb.kbn hx ha hkw hall hks hdb he hpl).weak fun σ H Q h => ?_
  obtain ⟨g, G, q⟩ := call_of (E := E) hw h
  rw [evalOs_append] at q
  refine ⟨g, G, (evalOs_len (w := w) (g := g) (H := H) (σ := σ) G (At.bind G q)).imp fun os g1 H1 G1 E1 ⟨l1, _, _, q1⟩ vs rs => ⟨g1, G1, (evalOs_len (w := w) (g := g1) (H := H1) (σ := σ) G1 (At.bind G1 q1)).imp fun os' g2 H2 G2 E2 ⟨l2, _, _, q2⟩ us rs' => ?_⟩⟩
  have h1 := rs.length
  have h2 := rs'.length
  exact ⟨by omega, by omega, (At.pure_ G2 q2 (vs ++ us) ((rs.ext E2).append rs')).2⟩
end
end Z

/-! Z12: what is walked; targets; comprehensions. -/
namespace Z
open PySem PySem.Spec PyProof.Rows L2

/-! ### what is walked -/
def Walks (K : PySem.W.Frag) (J : It) (xs : List D) (g : Gh) (H : Hp) : Prop := ∀ (g' : Gh) (σ' : L2.St) (H' : Hp), Good K g' σ' H' → (∀ (i : Nat) (a : Addr), g.As[i]? = some a → g'.As[i]? = some a) → Same (hid g.M H) (hid g'.M H') →
  (∀ i, i < xs.length → J.go i H') ∧ (∀ i, xs.length ≤ i → J.stop i H') ∧ ∀ i x H2, i < xs.length → J.yld i H' x H2 → ∃ d, xs[i]? = some d ∧ (H2 = H' ∨ ∃ T o, H' T = none ∧ H2 = upd H' T o) ∧ Rep K g'.As (hid g'.M H2) d x
def Ti (K : PySem.W.Frag) (w : WX) (m : M (List D)) : TI := fun σ H R => ∃ g, Good K g σ H ∧ At K w m g σ H fun xs g1 H1 => ∀ J, Walks K J xs g1 H1 → R J H1
theorem _root_.L2.PI.weak {X : Cx} {tg e : Expr} {t t' : TI} (h : PI X tg e t) (i : ∀ σ H R, t' σ H R → t σ H R) : PI X tg e t' := ⟨fun pins s σ H R I q => h.run pins s σ H R I (i σ H R q)⟩
section
variable {K : PySem.W.Frag}
theorem walks_list {a : Addr} {vs : List V} {ds : List D} {g : Gh} {H : Hp} (h1 : hid g.M H a = some (.lst vs)) (h2 : Reps K g.As (hid g.M H) ds vs) : Walks K (Itl K a) ds g H := fun g' σ' H' G' hA hS => by
  have e := hid_of (hS _ _ h1)
  have r := h2.mono hA hS
  refine ⟨fun i hi => ?_, fun i hi => ⟨vs, SqL.of e.2, by rw [r.length]; exact hi⟩, fun i x H2 _ ⟨e2, hy⟩ => ?_⟩
  · obtain ⟨v, q, _⟩ := r.get (List.getElem?_eq_getElem hi)
    exact ⟨vs, v, SqL.of e.2, q⟩
  · subst e2
    obtain ⟨d, q1, q2⟩ := r.get' (hy vs (SqL.of e.2))
    exact ⟨d, q1, .inl rfl, q2⟩
theorem walks_tup {a : Addr} {vs : List V} {ds : List D} {g : Gh} {H : Hp} (h1 : hid g.M H a = some (.tup vs)) (h2 : Reps K g.As (hid g.M H) ds vs) : Walks K (Itt K a) ds g H := fun g' σ' H' G' hA hS => by
  have e := hid_of (hS _ _ h1)
  have r := h2.mono hA hS
  refine ⟨fun i hi => ?_, fun i hi => ⟨vs, SqT.of e.2, by rw [r.length]; exact hi⟩, fun i x H2 _ ⟨e2, hy⟩ => ?_⟩
  · obtain ⟨v, q, _⟩ := r.get (List.getElem?_eq_getElem hi)
    exact ⟨vs, v, SqT.of e.2, q⟩
  · subst e2
    obtain ⟨d, q1, q2⟩ := r.get' (hy vs (SqT.of e.2))
    exact ⟨d, q1, .inl rfl, q2⟩
theorem walks_str {s : Str} {g : Gh} {H : Hp} : Walks K (Its s) (s.cps.toList.map fun c => D.str ⟨#[c]⟩) g H := fun g' σ' H' G' hA hS => by
  refine ⟨fun i hi => (by show i < s.cps.size; simpa using hi), fun i hi => (by show s.cps.size ≤ i; simpa using hi), fun i x H2 _ ⟨e2, c, hc, ex⟩ => ?_⟩
  subst e2 ex
  refine ⟨.str ⟨#[c]⟩, ?_, .inl rfl, rfl⟩
  rw [List.getElem?_map, Array.getElem?_toList, hc]
  rfl
theorem walks_rng {lo : Int} {n : Nat} {g : Gh} {H : Hp} : Walks K (Itr lo n) ((List.range n).map fun (k : Nat) => D.int (lo + (k : Int))) g H := fun g' σ' H' G' hA hS => by
  refine ⟨fun i hi => (by show i < n; simpa using hi), fun i hi => (by show n ≤ i; simpa using hi), fun i x H2 hi y => ?_⟩
  obtain ⟨e2, ex⟩ := y
  subst e2
  refine ⟨.int (lo + (i : Int)), ?_, .inl rfl, ex⟩
  have hi : i < n := by simpa using hi
  rw [List.getElem?_map, List.getElem?_range hi]
  rfl
end
section
variable {X : Cx} {w : WX} {cl : CallT} {tg l : Expr} {x : Ex} {xs : List Ex}
/-- a list, a tuple, a text, whichever comes -/
theorem pi_any {tl : TE} (hl : PE X l tl) : PI X tg l fun σ H R => tl σ H fun x H1 => (∃ a vs, x = .ref a ∧ SqL X.K H1 a vs ∧ R (Itl X.K a) H1) ∨ (∃ a vs, x = .ref a ∧ SqT X.K H1 a vs ∧ R (Itt X.K a) H1) ∨ ∃ z, x = .str z ∧ R (Its z) H1 := by
  refine ⟨fun pins s σ H R I h => thn (hl.run pins s σ H _ I h) fun v s1 ⟨x, H1, I1, r1, q1⟩ => ?_⟩
  rcases q1 with ⟨a, vs, rfl, hq, q⟩ | ⟨a, vs, rfl, hq, q⟩ | ⟨z, rfl, q⟩
  · cases r1
    obtain ⟨its, rv, p, hz⟩ := I1.list hq
    exact wpAny_pyIter_list p.isList (pi_one (tk := s1.toks) I1 _ (turn_list a _) ⟨_, Heap.get?_push_size _ rfl, rfl, rfl⟩ q)
  · cases r1
    obtain ⟨its, rv, p, hz⟩ := I1.tuple hq
    exact wpAny_pyIter_tuple (show s1.heap.IsTuple a its.toArray from p) (pi_one (tk := s1.toks) I1 _ (turn_tuple a _) ⟨_, Heap.get?_push_size _ rfl, rfl, rfl⟩ q)
  · obtain ⟨t, rfl⟩ := r1
    cases ha : z.cps.all (· < 128)
    · exact wpAny_pyIter_wide ha (pi_one (tk := s1.toks) I1 _ (turn_str _ z t "str_iterator" (.inr rfl)) ⟨_, Heap.get?_push_size _ rfl, rfl, rfl⟩ q)
    · exact wpAny_pyIter_ascii ha (pi_one (tk := s1.toks) I1 _ (turn_str _ z t "str_ascii_iterator" (.inl rfl)) ⟨_, Heap.get?_push_size _ rfl, rfl, rfl⟩ q)
/-- the source of a walk: its data, told as items -/
def srcM (cl : CallT) (ik : IK) (src : List Ex) : M (List D) := do
  let ds ← evalDs cl src
  liftO (itemsD ik ds)
theorem it1_ {f : D → Option (List D)} {ds xs : List D} (h : it1 f ds = some xs) : ∃ d, ds = [d] ∧ f d = some xs := by
  unfold it1 at h
  split at h
  · exact ⟨_, rfl, h⟩
  · cases h
theorem it2_ {f : D → D → Option (List D)} {ds xs : List D} (h : it2 f ds = some xs) : ∃ d e, ds = [d, e] ∧ f d e = some xs := by
  unfold it2 at h
  split at h
  · exact ⟨_, _, rfl, h⟩
  · cases h
theorem srcM_one (ik : IK) : srcM cl ik [x] = (dat (evalE cl x) >>= fun d => liftO (itemsD ik [d])) := by
  show ((dat (evalE cl x) >>= fun d => (Pure.pure [] : M (List D)) >>= fun ds => Pure.pure (d :: ds)) >>= fun ds => liftO (itemsD ik ds)) = _
  rw [M.assoc]
  rfl
theorem piz_seq (h : PE X l (Tr X.K w (evalE cl x))) : PI X tg l (Ti X.K w (srcM cl .seq [x])) := by
  refine (pi_any (Tr.dat h)).weak fun σ H R ⟨g, G, q⟩ => ⟨g, G, ?_⟩
  rw [srcM_one] at q
  refine (At.bind G q).imp fun d g1 H1 G1 E1 ⟨_, _, q1⟩ v rv => ?_
  obtain ⟨ds, e, q2⟩ := At.liftO_ G1 q1
  have e : seqI d = some ds := e
  cases d with
  | tup es =>
    obtain rfl : es = ds := Option.some.inj e
    obtain ⟨a, vs, rfl, h1, h2⟩ := rv
    exact .inr (.inl ⟨a, vs, rfl, SqT.of (hid_of h1).2, q2 _ (walks_tup h1 h2)⟩)
  | lst es =>
    obtain rfl : es = ds := Option.some.inj e
    obtain ⟨a, vs, rfl, h1, h2⟩ := rv
    exact .inl ⟨a, vs, rfl, SqL.of (hid_of h1).2, q2 _ (walks_list h1 h2)⟩
  | str s =>
    obtain rfl : s.cps.toList.map (fun c => D.str ⟨#[c]⟩) = ds := Option.some.inj e
    obtain rfl : v = .str s := rv
    exact .inr (.inr ⟨s, rfl, q2 _ walks_str⟩)
  | _ => cases e
variable {a b : Expr} {p pos : Pos}
theorem piz_rng1 (hg : Gl X "range") (hm : X.mg "range" = none) (ha : PA X [a] (Tds X.K w (evalDs cl xs))) (hs : starEach [a] X.env = [(false, eval a X.env)] := by rfl) : PI X tg (.Call (.Name "range" p) [a] [] pos) (Ti X.K w (srcM cl .rng1 xs)) := by
  refine (pi_range1 hg hm ha hs).weak fun σ H R ⟨g, G, q⟩ => ⟨g, G, (At.bind G (f := fun ds => liftO (itemsD .rng1 ds)) q).imp fun ds g1 H1 G1 E1 ⟨_, _, q1⟩ vs rs => ?_⟩
  obtain ⟨xs, e, q2⟩ := At.liftO_ G1 q1
  obtain ⟨d, e0, e1⟩ := it1_ e
  subst e0
  cases d with
  | int n =>
    unfold rng1I at e1
    dsimp only at e1
    split at e1
    · rename_i hb
      cases e1
      obtain ⟨v, ws, rfl, rfl, h2⟩ := rs
      obtain rfl : ws = [] := h2
      refine ⟨n, rfl, hb.1, hb.2, q2 _ ?_⟩
      have e2 : (fun k : Nat => D.int (k : Int)) = fun (k : Nat) => D.int (0 + (k : Int)) := by funext k; rw [Int.zero_add]
      rw [e2]
      exact walks_rng
    · cases e1
  | _ => cases e1
theorem piz_rng2 (hg : Gl X "range") (hm : X.mg "range" = none) (ha : PA X [a, b] (Tds X.K w (evalDs cl xs))) (hs : starEach [a, b] X.env = [(false, eval a X.env), (false, eval b X.env)] := by rfl) (hs2 : starEach [b] X.env = [(false, eval b X.env)] := by rfl) :
    PI X tg (.Call (.Name "range" p) [a, b] [] pos) (Ti X.K w (srcM cl .rng2 xs)) := by
  refine (pi_range2 hg hm ha hs hs2).weak fun σ H R ⟨g, G, q⟩ => ⟨g, G, (At.bind G (f := fun ds => liftO (itemsD .rng2 ds)) q).imp fun ds g1 H1 G1 E1 ⟨_, _, q1⟩ vs rs => ?_⟩
  obtain ⟨xs, e, q2⟩ := At.liftO_ G1 q1
  obtain ⟨d, d', e0, e1⟩ := it2_ e
  subst e0
  unfold rng2I at e1
  split at e1
  · split at e1
    · rename_i hb
      cases e1
      obtain ⟨v, ws, rfl, rfl, h2⟩ := rs
      obtain ⟨u, ws, rfl, rfl, h2⟩ := h2
      obtain rfl : ws = [] := h2
      exact ⟨_, _, rfl, hb, q2 _ walks_rng⟩
    · cases e1
  · cases e1
end
end Z

/-! Z13: slots stored, targets, comprehensions. -/
namespace Z
open PySem PySem.Spec PyProof.Rows L2

section
variable {K : PySem.W.Frag} {w : WX} {g : Gh} {σ : L2.St} {H : Hp}
theorem own_set {ρ : List Slot} {i : Nat} {s : Slot} {x : Option V} {p : Addr} (h : Own (ρ.set i s) (σ.set i x) p) : Own ρ σ p ∨ (∃ d, s = .ow d) ∧ x = some (.ref p) := by
  obtain ⟨j, d, h1, h2⟩ := h
  by_cases hj : i = j
  · subst hj
    have l1 : i < (ρ.set i s).length := (List.getElem?_eq_some_iff.mp h1).1
    have l2 : i < (σ.set i x).length := (List.getElem?_eq_some_iff.mp h2).1
    rw [List.getElem?_set_self (by simpa using l1)] at h1
    rw [List.getElem?_set_self (by simpa using l2)] at h2
    exact .inr ⟨⟨d, Option.some.inj h1⟩, Option.some.inj h2⟩
  · rw [List.getElem?_set_ne hj] at h1 h2
    exact .inl ⟨j, d, h1, h2⟩
/-- a slot is stored -/
theorem Good.setS {i : Nat} {s : Slot} {x : Option V} (G : Good K g σ H) (hi : i < g.ρ.length) (hs : SlotOk K g H s (some x)) (ho : ∀ d p, s = .ow d → x = some (.ref p) → ¬ Own g.ρ σ p ∧ p ∉ g.As) :
    Good K { g with ρ := g.ρ.set i s } (σ.set i x) H := by
  have hil : i < σ.length := by rw [← G.len]; exact hi
  refine ⟨by simpa using G.len, fun j t e => ?_, fun j k d d' p h1 h2 h3 h4 => ?_, fun p h => ?_, G.sto, G.asl, G.asn, G.asm, G.trk⟩
  · by_cases hj : i = j
    · subst hj
      have e : (g.ρ.set i s)[i]? = some t := e
      rw [List.getElem?_set_self hi] at e; cases e
      rw [List.getElem?_set_self hil]
      exact hs
    · have e : (g.ρ.set i s)[j]? = some t := e
      rw [List.getElem?_set_ne hj] at e
      rw [List.getElem?_set_ne hj]
      exact G.slot j t e
  · have h1 : (g.ρ.set i s)[j]? = some (.ow d) := h1
    have h2 : (g.ρ.set i s)[k]? = some (.ow d') := h2
    by_cases hj : i = j
    · subst hj
      by_cases hk : i = k
      · exact hk
      · rw [List.getElem?_set_self hi] at h1
        rw [List.getElem?_set_self hil] at h3
        rw [List.getElem?_set_ne hk] at h2 h4
        exact absurd ⟨k, d', h2, h4⟩ (ho d p (Option.some.inj h1) (Option.some.inj h3)).1
    · by_cases hk : i = k
      · subst hk
        rw [List.getElem?_set_self hi] at h2
        rw [List.getElem?_set_self hil] at h4
        rw [List.getElem?_set_ne hj] at h1 h3
        exact absurd ⟨j, d, h1, h3⟩ (ho d' p (Option.some.inj h2) (Option.some.inj h4)).1
      · rw [List.getElem?_set_ne hj] at h1 h3
        rw [List.getElem?_set_ne hk] at h2 h4
        exact G.inj j k d d' p h1 h2 h3 h4
  · rcases own_set h with h | ⟨⟨d, e1⟩, e2⟩
    · exact G.oas p h
    · exact (ho d p e1 e2).2
theorem Ext.setS {i : Nat} {s : Slot} {x : Option V} (ho : ∀ d p, s = .ow d → x = some (.ref p) → H p = none) : Ext g σ H { g with ρ := g.ρ.set i s } (σ.set i x) H :=
  ⟨⟨[], by simp⟩, fun _ _ n h => ⟨n, h⟩, fun _ h _ _ => ⟨h, rfl⟩, fun _ h => h, fun p h => by
    rcases own_set h with h | ⟨⟨d, e1⟩, e2⟩
    · exact .inl h
    · exact .inr (ho d p e1 e2)⟩
/-- .. with data -/
theorem Good.setPu {i : Nat} {d : D} {v : V} (G : Good K g σ H) (hi : i < g.ρ.length) (r : Rep K g.As (hid g.M H) d v) : Good K { g with ρ := g.ρ.set i (.pu d) } (σ.set i (some v)) H ∧ Ext g σ H { g with ρ := g.ρ.set i (.pu d) } (σ.set i (some v)) H :=
  ⟨G.setS hi ⟨v, rfl, r⟩ (fun _ _ e => nomatch e), Ext.setS (fun _ _ e => nomatch e)⟩
theorem Good.setUn {i : Nat} (G : Good K g σ H) (hi : i < g.ρ.length) : Good K { g with ρ := g.ρ.set i .un } (σ.set i none) H ∧ Ext g σ H { g with ρ := g.ρ.set i .un } (σ.set i none) H :=
  ⟨G.setS hi trivial (fun _ _ e => nomatch e), Ext.setS (fun _ _ e => nomatch e)⟩
/-- an unset slot's value is forgotten in σ alone -/
theorem Good.wipe1 {i : Nat} (G : Good K g σ H) : Good K { g with ρ := g.ρ.set i .un } (σ.set i none) H ∧ Ext g σ H { g with ρ := g.ρ.set i .un } (σ.set i none) H := by
  by_cases hi : i < g.ρ.length
  · exact G.setUn hi
  · have e1 : g.ρ.set i .un = g.ρ := List.set_eq_of_length_le (by omega)
    have e2 : σ.set i none = σ := List.set_eq_of_length_le (by rw [← G.len]; omega)
    rw [e1, e2]
    exact ⟨G, Ext.refl⟩
def wipeρ (own : List Nat) (ρ : List Slot) : List Slot := own.foldr (fun i ρ => ρ.set i .un) ρ
theorem Good.wipe : ∀ {own : List Nat} {g : Gh}, Good K g σ H → Good K { g with ρ := wipeρ own g.ρ } (L2.wipe σ own) H ∧ Ext g σ H { g with ρ := wipeρ own g.ρ } (L2.wipe σ own) H
  | [], g, G => ⟨G, Ext.refl⟩
  | i :: own, g, G => by
    obtain ⟨G1, E1⟩ := Good.wipe (own := own) G
    obtain ⟨G2, E2⟩ := G1.wipe1 (i := i)
    exact ⟨G2, E1.trans G E2⟩

/-! ### what follows a computation that stores -/
def Ats (K : PySem.W.Frag) (w : WX) {α : Type} (m : M α) (g : Gh) (σ : L2.St) (H : Hp) (k : α → Gh → L2.St → Hp → Prop) : Prop := match m g.S with
  | .ok a s' => ∀ σ' As' M' H', Good K ⟨s'.ρ, s'.st, As', M'⟩ σ' H' → Ext g σ H ⟨s'.ρ, s'.st, As', M'⟩ σ' H' → k a ⟨s'.ρ, s'.st, As', M'⟩ σ' H'
  | .exc c fs s' => ∀ σ' As' M' H', Good K ⟨s'.ρ, s'.st, As', M'⟩ σ' H' → Ext g σ H ⟨s'.ρ, s'.st, As', M'⟩ σ' H' → w c fs ⟨s'.ρ, s'.st, As', M'⟩ H'
  | .bad => False
theorem Ats.bind {α β : Type} {m : M α} {f : α → M β} {k : β → Gh → L2.St → Hp → Prop} (G : Good K g σ H) (h : Ats K w (m >>= f) g σ H k) :
    Ats K w m g σ H fun a g1 σ1 H1 => Good K g1 σ1 H1 ∧ Ext g σ H g1 σ1 H1 ∧ Ats K w (f a) g1 σ1 H1 k := by
  unfold Ats at h ⊢
  rw [bind_run] at h
  cases e : m g.S with
  | bad => rw [e] at h; exact h
  | exc c fs s' => rw [e] at h; exact h
  | ok a s1 =>
    rw [e] at h
    intro σ1 As1 M1 H1 G1 E1
    refine ⟨G1, E1, ?_⟩
    dsimp only at h
    cases e2 : (f a) s1 with
    | bad => rw [e2] at h; exact h.elim
    | exc c fs s' => rw [e2] at h; exact fun σ' As' M' H' G' E' => h σ' As' M' H' G' (E1.trans G E')
    | ok b s' => rw [e2] at h; exact fun σ' As' M' H' G' E' => h σ' As' M' H' G' (E1.trans G E')
theorem Ats.at_ {α : Type} {m : M α} {k : α → Gh → L2.St → Hp → Prop} (h : Ats K w m g σ H k) : At K w m g σ H fun a g1 H1 => k a g1 σ H1 := by
  unfold Ats at h
  unfold At
  cases e : m g.S with
  | bad => rw [e] at h; exact h
  | exc c fs s' => rw [e] at h; exact fun As' M' H' G' E' => h σ As' M' H' G' E'
  | ok a s1 => rw [e] at h; exact fun As' M' H' G' E' => h σ As' M' H' G' E'
theorem Ats.imp {α : Type} {m : M α} {k k' : α → Gh → L2.St → Hp → Prop} (h : Ats K w m g σ H k) (i : ∀ a g1 σ1 H1, Good K g1 σ1 H1 → Ext g σ H g1 σ1 H1 → k a g1 σ1 H1 → k' a g1 σ1 H1) : Ats K w m g σ H k' := by
  unfold Ats at h ⊢
  cases e : m g.S with
  | bad => rw [e] at h; exact h
  | exc c fs s' => rw [e] at h; exact h
  | ok a s1 => rw [e] at h; exact fun σ' As' M' H' G' E' => i _ _ _ _ G' E' (h σ' As' M' H' G' E')
theorem Ats.pure_ {α : Type} {a : α} {k : α → Gh → L2.St → Hp → Prop} (G : Good K g σ H) (h : Ats K w (Pure.pure a : M α) g σ H k) : k a g σ H := h σ g.As g.M H G Ext.refl

/-! ### targets -/
theorem wipe_set {σ : L2.St} {i : Nat} {x : Option V} : ∀ {own : List Nat}, i ∈ own → L2.wipe (σ.set i x) own = L2.wipe σ own
  | j :: own, h => by
    show (L2.wipe (σ.set i x) own).set j none = (L2.wipe σ own).set j none
    by_cases hj : i ∈ own
    · rw [wipe_set hj]
    · obtain rfl : i = j := by
        rcases List.mem_cons.mp h with e | e
        · exact e
        · exact absurd e hj
      have key : ∀ own : List Nat, i ∉ own → L2.wipe (σ.set i x) own = (L2.wipe σ own).set i x := by
        intro own
        induction own with
        | nil => intro _; rfl
        | cons k own ih =>
          intro hn
          have hk : i ≠ k := fun e => hn (e ▸ List.mem_cons_self)
          show (L2.wipe (σ.set i x) own).set k none = ((L2.wipe σ own).set k none).set i x
          rw [ih (fun z => hn (List.mem_cons_of_mem _ z)), List.set_comm _ _ hk]
      rw [key own hj, List.set_set]
mutual
def Tgt (K : PySem.W.Frag) : Tg → TG
  | .nm i => gName i
  | .tup ts => gTup K ts.length (Tgts K ts)
def Tgts (K : PySem.W.Frag) : List Tg → TGs
  | [] => gNil
  | t :: ts => gCons (Tgt K t) (Tgts K ts)
end
mutual
def slotsT : Tg → List Nat
  | .nm i => [i]
  | .tup ts => slotsTs ts
def slotsTs : List Tg → List Nat
  | [] => []
  | t :: ts => slotsT t ++ slotsTs ts
end
theorem setρ_sem {i : Nat} {d : D} {v : V} {k : Unit → Gh → L2.St → Hp → Prop} (G : Good K g σ H) (r : Rep K g.As (hid g.M H) d v) (h : Ats K w (setρ i (.pu d)) g σ H k) :
    ∃ g', g'.As = g.As ∧ g'.M = g.M ∧ Good K g' (σ.set i (some v)) H ∧ Ext g σ H g' (σ.set i (some v)) H ∧ k () g' (σ.set i (some v)) H := by
  unfold Ats setρ at h
  dsimp only [Gh.S] at h
  split at h
  · rename_i a s' e1
    split at e1
    · rename_i hi
      obtain ⟨rfl, rfl⟩ := Out.ok.inj e1
      obtain ⟨G2, E2⟩ := G.setPu hi r
      exact ⟨{ g with ρ := g.ρ.set i (.pu d) }, rfl, rfl, G2, E2, h _ _ _ _ G2 E2⟩
    · cases e1
  · rename_i e1
    split at e1 <;> cases e1
  · exact h.elim
mutual
theorem tgt_mono {K : PySem.W.Frag} : ∀ {t : Tg} {v : V} {σ : L2.St} {H : Hp} {Q Q' : L2.St → Hp → Prop}, Tgt K t v σ H Q → (∀ σ H, Q σ H → Q' σ H) → Tgt K t v σ H Q'
  | .nm i, v, σ, H, Q, Q', h, i' => by unfold Tgt gName at h ⊢; exact i' _ _ h
  | .tup ts, v, σ, H, Q, Q', h, i' => by
    unfold Tgt at h ⊢
    obtain ⟨a, xs, e, h1, h2, h3⟩ := h
    exact ⟨a, xs, e, h1, h2, tgts_mono h3 i'⟩
theorem tgts_mono {K : PySem.W.Frag} : ∀ {ts : List Tg} {vs : List V} {σ : L2.St} {H : Hp} {Q Q' : L2.St → Hp → Prop}, Tgts K ts vs σ H Q → (∀ σ H, Q σ H → Q' σ H) → Tgts K ts vs σ H Q'
  | [], vs, σ, H, Q, Q', h, i' => by unfold Tgts gNil at h ⊢; exact ⟨h.1, i' _ _ h.2⟩
  | t :: ts, vs, σ, H, Q, Q', h, i' => by
    unfold Tgts gCons at h ⊢
    obtain ⟨v, r, e, h1⟩ := h
    exact ⟨v, r, e, tgt_mono h1 fun σ1 H1 q => tgts_mono q i'⟩
end
mutual
theorem bindT_sem : ∀ {t : Tg} {d : D} {v : V} {g : Gh} {σ : L2.St} {H : Hp} {k : Unit → Gh → L2.St → Hp → Prop}, Good K g σ H → Rep K g.As (hid g.M H) d v → Ats K w (bindT t d) g σ H k →
    Tgt K t v σ H fun σ' H' => H' = H ∧ (∀ own : List Nat, (∀ i ∈ slotsT t, i ∈ own) → L2.wipe σ' own = L2.wipe σ own) ∧ ∃ g', g'.As = g.As ∧ g'.M = g.M ∧ Good K g' σ' H ∧ Ext g σ H g' σ' H ∧ k () g' σ' H
  | .nm i, d, v, g, σ, H, k, G, r, h => by
    unfold Tgt gName
    unfold bindT at h
    refine ⟨rfl, fun own ho => ?_, setρ_sem G r h⟩
    exact wipe_set (ho i (by unfold slotsT; exact List.mem_singleton.mpr rfl))
  | .tup ts, d, v, g, σ, H, k, G, r, h => by
    unfold Tgt
    unfold bindT at h
    cases d with
    | tup ds =>
      dsimp only at h
      split at h
      · rename_i hl
        obtain ⟨a, vs, rfl, h1, h2⟩ := r
        refine ⟨a, vs, rfl, SqT.of (hid_of h1).2, by rw [h2.length]; exact hl.symm, ?_⟩
        exact bindTs_sem hl G h2 h
      · exact h.elim
    | _ => exact h.elim
theorem bindTs_sem : ∀ {ts : List Tg} {ds : List D} {vs : List V} {g : Gh} {σ : L2.St} {H : Hp} {k : Unit → Gh → L2.St → Hp → Prop}, ts.length = ds.length → Good K g σ H → Reps K g.As (hid g.M H) ds vs → Ats K w (bindT.bindTs ts ds) g σ H k →
    Tgts K ts vs σ H fun σ' H' => H' = H ∧ (∀ own : List Nat, (∀ i ∈ slotsTs ts, i ∈ own) → L2.wipe σ' own = L2.wipe σ own) ∧ ∃ g', g'.As = g.As ∧ g'.M = g.M ∧ Good K g' σ' H ∧ Ext g σ H g' σ' H ∧ k () g' σ' H
  | [], [], vs, g, σ, H, k, _, G, r, h => by
    unfold Tgts gNil
    exact ⟨r, rfl, fun _ _ => rfl, g, rfl, rfl, G, Ext.refl, Ats.pure_ G (by unfold bindT.bindTs at h; exact h)⟩
  | [], d :: ds, vs, g, σ, H, k, hl, G, r, h => nomatch hl
  | t :: ts, [], vs, g, σ, H, k, hl, G, r, h => nomatch hl
  | t :: ts, d :: ds, vs, g, σ, H, k, hl, G, r, h => by
    unfold Tgts gCons
    unfold bindT.bindTs at h
    obtain ⟨v, ws, rfl, r1, r2⟩ := r
    refine ⟨v, ws, rfl, ?_⟩
    have q := bindT_sem (t := t) G r1 (Ats.bind G h)
    refine tgt_mono q fun σ1 H1 ⟨e, hw1, g1, a1, m1, G1, E1, _, _, h1⟩ => ?_
    subst e
    have q2 := bindTs_sem (ts := ts) (Nat.succ.inj hl) G1 (by rw [a1, m1]; exact r2) h1
    refine tgts_mono q2 fun σ2 H2 ⟨e, hw2, g2, a2, m2, G2, E2, k2⟩ => ?_
    subst e
    exact ⟨rfl, fun own ho => (hw2 own fun i hi => ho i (by unfold slotsTs; exact List.mem_append_right _ hi)).trans (hw1 own fun i hi => ho i (by unfold slotsTs; exact List.mem_append_left _ hi)), g2, a2.trans a1, m2.trans m1, G2, E1.trans G E2, k2⟩
end
end
end Z

/-! Z14: comprehensions. -/
namespace Z
open PySem PySem.Spec PyProof.Rows L2

section
variable {α : Type}
theorem wipeρ_out {j : Nat} : ∀ {own : List Nat} {ρ : List Slot}, j ∉ own → (wipeρ own ρ)[j]? = ρ[j]?
  | [], ρ, _ => rfl
  | i :: own, ρ, h => by
    show ((wipeρ own ρ).set i .un)[j]? = ρ[j]?
    rw [List.getElem?_set_ne (fun e : i = j => h (by rw [e]; exact List.mem_cons_self))]
    exact wipeρ_out fun z => h (List.mem_cons_of_mem _ z)
theorem wipeρ_in {j : Nat} {s : Slot} : ∀ {own : List Nat} {ρ : List Slot}, j ∈ own → (wipeρ own ρ)[j]? = some s → s = .un
  | i :: own, ρ, h, e => by
    have e : ((wipeρ own ρ).set i .un)[j]? = some s := e
    by_cases hi : i = j
    · subst hi
      have l : i < ((wipeρ own ρ).set i .un).length := (List.getElem?_eq_some_iff.mp e).1
      rw [List.getElem?_set_self (by simpa using l)] at e
      exact (Option.some.inj e).symm
    · rw [List.getElem?_set_ne hi] at e
      exact wipeρ_in (by rcases List.mem_cons.mp h with z | z; exact absurd z.symm hi; exact z) e
theorem wipe_out {σ : L2.St} {j : Nat} : ∀ {own : List Nat}, j ∉ own → (L2.wipe σ own)[j]? = σ[j]?
  | [], _ => rfl
  | i :: own, h => by
    show ((L2.wipe σ own).set i none)[j]? = σ[j]?
    rw [List.getElem?_set_ne (fun e : i = j => h (by rw [e]; exact List.mem_cons_self))]
    exact wipe_out fun z => h (List.mem_cons_of_mem _ z)
theorem wipeρ_len : ∀ {own : List Nat} {ρ : List Slot}, (wipeρ own ρ).length = ρ.length
  | [], ρ => rfl
  | i :: own, ρ => by
    show ((wipeρ own ρ).set i .un).length = ρ.length
    rw [List.length_set, wipeρ_len]
theorem wipe_idem {σ : L2.St} : ∀ {own : List Nat}, L2.wipe (L2.wipe σ own) own = L2.wipe σ own := by
  intro own
  have key : ∀ (l : List Nat), (∀ i ∈ l, i ∈ own) → L2.wipe (L2.wipe σ own) l = L2.wipe σ own := by
    intro l
    induction l with
    | nil => intro _; rfl
    | cons i l ih =>
      intro h
      show (L2.wipe (L2.wipe σ own) l).set i none = L2.wipe σ own
      rw [ih fun j hj => h j (List.mem_cons_of_mem _ hj)]
      have hi : i ∈ own := h i List.mem_cons_self
      apply List.ext_getElem?
      intro j
      by_cases hj : i = j
      · subst hj
        by_cases hl : i < (L2.wipe σ own).length
        · rw [List.getElem?_set_self hl]
          cases e : (L2.wipe σ own)[i]? with
          | none => rw [List.getElem?_eq_none_iff] at e; omega
          | some x =>
            cases x with
            | none => rfl
            | some v => exact absurd hi (L2.wipe_some e).2
        · rw [List.set_eq_of_length_le (by omega)]
      · rw [List.getElem?_set_ne hj]
  exact key own fun i h => h
theorem unwipe_len : ∀ {own : List Nat} {ρ0 ρ : List Slot}, (unwipe own ρ0 ρ).length = ρ.length
  | [], _, _ => rfl
  | i :: own, ρ0, ρ => by
    show (match ρ0[i]? with | some x => (unwipe own ρ0 ρ).set i x | none => unwipe own ρ0 ρ).length = ρ.length
    split
    · rw [List.length_set, unwipe_len]
    · exact unwipe_len
theorem unwipe_out {j : Nat} : ∀ {own : List Nat} {ρ0 ρ : List Slot}, j ∉ own → (unwipe own ρ0 ρ)[j]? = ρ[j]?
  | [], _, _, _ => rfl
  | i :: own, ρ0, ρ, h => by
    have ih := unwipe_out (ρ0 := ρ0) (ρ := ρ) (own := own) fun z => h (List.mem_cons_of_mem _ z)
    show (match ρ0[i]? with | some x => (unwipe own ρ0 ρ).set i x | none => unwipe own ρ0 ρ)[j]? = ρ[j]?
    split
    · rw [List.getElem?_set_ne (fun e : i = j => h (by rw [e]; exact List.mem_cons_self))]; exact ih
    · exact ih
theorem unwipe_in {j : Nat} : ∀ {own : List Nat} {ρ0 ρ : List Slot}, ρ.length = ρ0.length → j ∈ own → (unwipe own ρ0 ρ)[j]? = ρ0[j]?
  | i :: own, ρ0, ρ, hl, h => by
    show (match ρ0[i]? with | some x => (unwipe own ρ0 ρ).set i x | none => unwipe own ρ0 ρ)[j]? = ρ0[j]?
    by_cases hi : i = j
    · subst hi
      split
      · rename_i x e
        have l : i < ρ0.length := (List.getElem?_eq_some_iff.mp e).1
        rw [List.getElem?_set_self (by rw [unwipe_len, hl]; exact l), e]
      · rename_i e
        rw [e]
        have l := List.getElem?_eq_none_iff.mp e
        exact List.getElem?_eq_none_iff.mpr (by rw [unwipe_len]; omega)
    · have hj : j ∈ own := by
        rcases List.mem_cons.mp h with z | z
        · exact absurd z.symm hi
        · exact z
      have ih := unwipe_in (ρ0 := ρ0) (ρ := ρ) hl hj
      split
      · rw [List.getElem?_set_ne hi]; exact ih
      · exact ih
end
section
variable {K : PySem.W.Frag} {w : WX} {g g1 : Gh} {σ : L2.St} {H H1 : Hp} {own : List Nat}
/-- behind a block the comprehension's own names stand as before -/
theorem Good.unwipe {ρ : List Slot} {st : List SO} {As M : List Addr} (G1 : Good K g1 σ H1) (Gw : Good K ⟨wipeρ own ρ, st, As, M⟩ (L2.wipe σ own) H)
    (E : Ext { g1 with ρ := wipeρ own g1.ρ } (L2.wipe σ own) H1 ⟨wipeρ own ρ, st, As, M⟩ (L2.wipe σ own) H) :
    Good K ⟨Z.unwipe own g1.ρ ρ, st, As, M⟩ σ H ∧ Ext g1 σ H1 ⟨Z.unwipe own g1.ρ ρ, st, As, M⟩ σ H := by
  have hl : ρ.length = g1.ρ.length := by
    have := Gw.len
    rw [show (Gh.mk (wipeρ own ρ) st As M).ρ = wipeρ own ρ from rfl, wipeρ_len, L2.wipe_length] at this
    rw [this, G1.len]
  have same : Same (hid g1.M H1) (hid M H) := E.same
  have ow1 : ∀ p, Own (wipeρ own g1.ρ) (L2.wipe σ own) p → Own g1.ρ σ p := fun p ⟨i, d, h1, h2⟩ => by
    by_cases hi : i ∈ own
    · have := wipeρ_in hi h1; cases this
    · rw [wipeρ_out hi] at h1
      rw [wipe_out hi] at h2
      exact ⟨i, d, h1, h2⟩
  have ow1' : ∀ (i : Nat) (d : D) (p : Addr), i ∈ own → g1.ρ[i]? = some (.ow d) → σ[i]? = some (some (.ref p)) → ¬ Own (wipeρ own g1.ρ) (L2.wipe σ own) p := fun i d p hi h1 h2 ⟨j, d', h3, h4⟩ => by
    by_cases hj : j ∈ own
    · have := wipeρ_in hj h3; cases this
    · rw [wipeρ_out hj] at h3
      rw [wipe_out hj] at h4
      exact hj (G1.inj i j d d' p h1 h3 h2 h4 ▸ hi)
  have nA : ∀ p, H1 p ≠ none → p ∉ g1.As → p ∉ As := fun p n hA z => by
    obtain ⟨more, e, f⟩ := E.pre
    have e : As = g1.As ++ more := e
    rw [e] at z
    rcases List.mem_append.mp z with z | z
    · exact hA z
    · exact n (f p z)
  have ow2 : ∀ p, Own (Z.unwipe own g1.ρ ρ) σ p → Own g1.ρ σ p ∨ (Own (wipeρ own ρ) (L2.wipe σ own) p) := fun p ⟨i, d, h1, h2⟩ => by
    by_cases hi : i ∈ own
    · rw [unwipe_in hl hi] at h1; exact .inl ⟨i, d, h1, h2⟩
    · rw [unwipe_out hi] at h1
      exact .inr ⟨i, d, by rw [wipeρ_out hi]; exact h1, by rw [wipe_out hi]; exact h2⟩
  refine ⟨⟨by rw [← G1.len]; exact unwipe_len.trans hl, fun i s e => ?_, fun i j d d' p h1 h2 h3 h4 => ?_, fun p hp => ?_, Gw.sto, Gw.asl, Gw.asn, Gw.asm, Gw.trk⟩, ⟨E.pre, E.vis, fun p hp hA hO => E.kep p hp hA fun z => hO (ow1 p z), E.trk, fun p hp => ?_⟩⟩
  · have e : (Z.unwipe own g1.ρ ρ)[i]? = some s := e
    by_cases hi : i ∈ own
    · rw [unwipe_in hl hi] at e
      have q := G1.slot i s e
      cases s with
      | un => trivial
      | pu d => obtain ⟨v, e1, r⟩ := q; exact ⟨v, e1, r.mono E.asget same⟩
      | ow d =>
        obtain ⟨p, e1, m, c⟩ := q
        obtain ⟨m', hh⟩ := E.kep p m (G1.oas p ⟨i, d, e, e1⟩) (ow1' i d p hi e e1)
        exact ⟨p, e1, m', c.mono E.asget same hh⟩
    · rw [unwipe_out hi] at e
      have q := Gw.slot i s (by rw [show (Gh.mk (wipeρ own ρ) st As M).ρ = wipeρ own ρ from rfl, wipeρ_out hi]; exact e)
      rw [wipe_out hi] at q
      exact q
  · have h1 : (Z.unwipe own g1.ρ ρ)[i]? = some (.ow d) := h1
    have h2 : (Z.unwipe own g1.ρ ρ)[j]? = some (.ow d') := h2
    have mixed : ∀ (i j : Nat) (d d' : D), i ∈ own → j ∉ own → g1.ρ[i]? = some (.ow d) → σ[i]? = some (some (.ref p)) → ρ[j]? = some (.ow d') → σ[j]? = some (some (.ref p)) → False := fun i j d d' hi hj a b c e => by
      have o2 : Own (wipeρ own ρ) (L2.wipe σ own) p := ⟨j, d', by rw [wipeρ_out hj]; exact c, by rw [wipe_out hj]; exact e⟩
      rcases E.own p o2 with o | n
      · exact ow1' i d p hi a b o
      · exact (Own.some_ G1 ⟨i, d, a, b⟩).2 n
    by_cases hi : i ∈ own
    · rw [unwipe_in hl hi] at h1
      by_cases hj : j ∈ own
      · rw [unwipe_in hl hj] at h2
        exact G1.inj i j d d' p h1 h2 h3 h4
      · rw [unwipe_out hj] at h2
        exact (mixed i j d d' hi hj h1 h3 h2 h4).elim
    · rw [unwipe_out hi] at h1
      by_cases hj : j ∈ own
      · rw [unwipe_in hl hj] at h2
        exact (mixed j i d' d hj hi h2 h4 h1 h3).elim
      · rw [unwipe_out hj] at h2
        exact Gw.inj i j d d' p (by show (wipeρ own ρ)[i]? = _; rw [wipeρ_out hi]; exact h1) (by show (wipeρ own ρ)[j]? = _; rw [wipeρ_out hj]; exact h2) (by rw [wipe_out hi]; exact h3) (by rw [wipe_out hj]; exact h4)
  · rcases ow2 p hp with o | o
    · exact nA p (Own.some_ G1 o).2 (G1.oas p o)
    · exact Gw.oas p o
  · rcases ow2 p hp with o | o
    · exact .inl o
    · rcases E.own p o with o | n
      · exact .inl (ow1 p o)
      · exact .inr n
/-- a hidden object that is nobody's is changed -/
theorem Good.upx {p : Addr} {o : HO} (G : Good K g σ H) (m : p ∈ g.M) (nA : p ∉ g.As) (nO : ¬ Own g.ρ σ p) : Good K g σ (upd H p o) := by
  have he : hid g.M (upd H p o) = hid g.M H := hid_in m
  refine ⟨G.len, fun i s e => ?_, G.inj, G.oas, fun i so e => ?_, G.asl, G.asn, G.asm, fun q hq => ?_⟩
  · have q := G.slot i s e
    cases s with
    | un => trivial
    | pu d => obtain ⟨v, e, r⟩ := q; exact ⟨v, e, by rw [he]; exact r⟩
    | ow d1 =>
      obtain ⟨a, e4, m', c'⟩ := q
      exact ⟨a, e4, m', by rw [he]; exact c'.mono asId (fun _ _ h => h) (upd_ne fun z => nO (z ▸ ⟨i, d1, e, e4⟩))⟩
  · obtain ⟨a, e1, q⟩ := G.sto i so e
    refine ⟨a, e1, ?_⟩
    rw [he]
    exact q.mono asId (fun _ _ h => h) (upd_ne fun z => nA (z ▸ List.mem_of_getElem? e1))
  · unfold upd; split; exact (fun z => nomatch z); exact G.trk q hq
theorem Ext.upx {g0 : Gh} {σ0 : L2.St} {H0 : Hp} {p : Addr} {o : HO} (G0 : Good K g0 σ0 H0) (E : Ext g0 σ0 H0 g σ H) (h : H0 p = none) : Ext g0 σ0 H0 g σ (upd H p o) :=
  ⟨E.pre, fun b u n q => let ⟨a, c⟩ := E.vis b u n q; ⟨a, by rw [upd_ne (ne_of_none q h)]; exact c⟩, fun q hq h1 h2 => let ⟨a, c⟩ := E.kep q hq h1 h2; ⟨a, by rw [upd_ne (fun z : q = p => G0.trk q hq (by rw [z]; exact h))]; exact c⟩,
    fun b n => by unfold upd; split; exact (fun z => nomatch z); exact E.trk b n, E.own⟩
theorem Ats.of_run {α : Type} {m : M α} {a : α} {s' : S} (e : m g.S = .ok a s') : Ats K w m g σ H fun b g2 _ _ => b = a ∧ g2.S = s' := by
  unfold Ats
  rw [e]
  exact fun _ _ _ _ _ _ => ⟨rfl, rfl⟩
theorem At.of_run {α : Type} {m : M α} {a : α} {s' : S} (e : m g.S = .ok a s') : At K w m g σ H fun b g2 _ => b = a ∧ g2.S = s' := by
  unfold At
  rw [e]
  exact fun _ _ _ _ _ => ⟨rfl, rfl⟩
end
abbrev wN : WX := fun _ _ _ _ => False
def Tcs (K : PySem.W.Frag) (cl : CallT) (cs : List Ex) : TT := Tt K wN (evalCs cl cs)
section
variable {X : Cx} {w : WX} {cl : CallT}
theorem _root_.L2.PTs.weak {ifs : List Expr} {t t' : TT} (h : PTs X ifs t) (i : ∀ σ H Q, t' σ H Q → t σ H Q) : PTs X ifs t' := ⟨fun pins s σ H Q I q => h.run pins s σ H Q I (i σ H Q q)⟩
theorem ptz_nil : PTs X [] (Tcs X.K cl []) := pts_nil.weak fun σ H Q ⟨g, G, q⟩ => At.pure_ G q
theorem ptz_one {c : Expr} {x : Ex} (h : PT X c (Tt X.K wN (asB (evalE cl x)))) : PTs X [c] (Tcs X.K cl [x]) := (pts_one h).weak fun σ H Q ⟨g, G, q⟩ => ⟨g, G, by
  have q : At X.K wN (asB (evalE cl x) >>= fun c => if c = true then Pure.pure true else Pure.pure false) g σ H _ := q
  refine (At.bind G q).imp fun c g1 H1 G1 E1 ⟨_, _, q1⟩ => ?_
  cases c with
  | true => exact At.pure_ G1 q1
  | false => exact At.pure_ G1 q1⟩
end
section
variable {K : PySem.W.Frag} {w : WX} {cl : CallT}
theorem calm_ok {α : Type} {m : M α} {s : S} {a : α} {s' : S} (h : m s = .ok a s') : calm m s = .ok a s' := by unfold calm; rw [h]
/-- THE COMPREHENSION -/
theorem lc_sem {elt : Ex} {tg : Tg} {ik : IK} {src conds : List Ex} {own : List Nat} {σ : L2.St} {H : Hp} {Q : VK} (hown : ∀ i ∈ slotsT tg, i ∈ own) (h : Tr K w (evalE cl (.lc elt tg ik src conds own)) σ H Q) :
    tLc (Ti K w (srcM cl ik src)) (Tgt K tg) (Tcs K cl conds) (Td K wN (dat (evalE cl elt))) own σ H Q := by
  obtain ⟨g, G, q⟩ := h
  have e : evalE cl (.lc elt tg ik src conds own) = (srcM cl ik src >>= fun xs => blk own (calm (lcLoop own tg (evalCs cl conds) (dat (evalE cl elt)) xs []))) := by
    unfold srcM
    rw [M.assoc]
    rfl
  rw [e] at q
  clear e
  refine ⟨g, G, (At.bind G q).imp fun xs g1 H1 G1 E1 ⟨_, _, q1⟩ J wk => ?_⟩
  intro Dp hD
  unfold At blk calm at q1
  dsimp only [Gh.S] at q1
  generalize hcond : evalCs cl conds = cond at q1
  generalize helt : dat (evalE cl elt) = eltM at q1
  cases erun : lcLoop own tg cond eltM xs [] ⟨g1.ρ, g1.st⟩ with
  | bad => simp only [erun] at q1
  | exc c fs s => simp only [erun] at q1
  | ok ds sE =>
    simp only [erun] at q1
    obtain ⟨Gw, Ew⟩ := G1.wipe (own := own)
    let W : Nat → Nat → Hp → Prop := fun i m H' => m = xs.length - i ∧ i ≤ xs.length ∧ ∃ (s : S) (As M : List Addr) (acc : List D) (av : List V), lcLoop own tg cond eltM (xs.drop i) acc s = .ok ds sE ∧
      Good K ⟨wipeρ own s.ρ, s.st, As, M⟩ (L2.wipe σ own) H' ∧ Ext { g1 with ρ := wipeρ own g1.ρ } (L2.wipe σ own) H1 ⟨wipeρ own s.ρ, s.st, As, M⟩ (L2.wipe σ own) H' ∧
      Dp ∈ M ∧ Dp ∉ As ∧ ¬ Own (wipeρ own s.ρ) (L2.wipe σ own) Dp ∧ H' Dp = some (.lst av) ∧ Reps K As (hid M H') acc av
    refine ⟨W, ⟨_, rfl, Nat.zero_le _, ⟨g1.ρ, g1.st⟩, g1.As, Dp :: g1.M, [], [], erun, Gw.allocM hD, Ext.allocM Gw hD, List.mem_cons_self, fun z => G1.trk _ (G1.asm _ z) hD, fun z => (Own.some_ Gw z).2 hD, upd_same, rfl⟩, ?_⟩
    rintro i m H' ⟨hm, hi, s, As, M, acc, av, run, Gs, Es, dM, dA, dO, dH, dR⟩
    obtain ⟨wgo, wstop, wyld⟩ := wk _ _ H' Gs Es.asget Es.same
    by_cases hlt : i < xs.length
    · -- a turn
      refine .inr ⟨wgo i hlt, fun H'' => W (i + 1) (xs.length - (i + 1)) H'', fun H'' h => ⟨_, by omega, h⟩, fun x H2 hy => ?_⟩
      obtain ⟨d, hd, hH2, rd⟩ := wyld i x H2 hlt hy
      have hdrop : xs.drop i = d :: xs.drop (i + 1) := by
        rw [List.drop_eq_getElem_cons hlt]
        have : xs[i] = d := by
          rw [List.getElem?_eq_getElem hlt] at hd
          exact Option.some.inj hd
        rw [this]
      -- behind the yield
      have at2 : Good K ⟨wipeρ own s.ρ, s.st, As, M⟩ (L2.wipe σ own) H2 ∧ Ext ⟨wipeρ own s.ρ, s.st, As, M⟩ (L2.wipe σ own) H' ⟨wipeρ own s.ρ, s.st, As, M⟩ (L2.wipe σ own) H2 := by
        rcases hH2 with e | ⟨T, o, hT, e⟩
        · subst e; exact ⟨Gs, Ext.refl⟩
        · subst e; exact ⟨Gs.alloc hT, Ext.alloc Gs hT⟩
      obtain ⟨G2, E2⟩ := at2
      have dH2 := (E2.kep Dp dM dA dO).2
      -- the run
      rw [hdrop] at run
      have run : (wipeS own >>= fun _ => bindT tg d >>= fun _ => cond >>= fun c => if c = true then (eltM >>= fun y => tick acc y >>= fun acc' => lcLoop own tg cond eltM (xs.drop (i + 1)) acc') else lcLoop own tg cond eltM (xs.drop (i + 1)) acc) s = .ok ds sE := run
      rw [bind_run] at run
      have ew : wipeS own s = .ok () ⟨wipeρ own s.ρ, s.st⟩ := rfl
      rw [ew] at run
      dsimp only at run
      rw [bind_run] at run
      cases eb : bindT tg d ⟨wipeρ own s.ρ, s.st⟩ with
      | bad => simp only [eb] at run; cases run
      | exc c fs s => simp only [eb] at run; cases run
      | ok u s2 =>
        simp only [eb] at run
        rw [bind_run] at run
        cases ec : cond s2 with
        | bad => simp only [ec] at run; cases run
        | exc c fs s => simp only [ec] at run; cases run
        | ok c s3 =>
          simp only [ec] at run
          refine tgt_mono (bindT_sem (w := wN) G2 rd (Ats.of_run (g := ⟨wipeρ own s.ρ, s.st, As, M⟩) eb)) fun σ2 H3 ⟨eH, hw, g3, a3, m3, G3, E3, _, hs3⟩ => ?_
          subst eH
          have hwσ : L2.wipe σ2 own = L2.wipe σ own := (hw own hown).trans wipe_idem
          refine ⟨hwσ, g3, G3, ?_⟩
          have dO3 : ¬ Own g3.ρ σ2 Dp := fun z => by
            rcases E3.own Dp z with o | n
            · exact dO o
            · rw [dH2, dH] at n; cases n
          rw [hcond]
          refine (At.of_run (a := c) (s' := s3) (by rw [hs3]; exact ec)).imp fun b g4 H4 G4 E4 ⟨eb4, hs4⟩ => ?_
          subst eb4
          obtain ⟨dM4, dH4⟩ := E4.kep Dp (by rw [m3]; exact dM) (by rw [a3]; exact dA) dO3
          have dO4 : ¬ Own g4.ρ σ2 Dp := fun z => by
            rcases E4.own Dp z with o | n
            · exact dO3 o
            · rw [dH2, dH] at n; cases n
          have asOut : ∀ {ga gb : Gh} {σa σb : L2.St} {Ha Hb : Hp}, Ext ga σa Ha gb σb Hb → Dp ∉ ga.As → Ha Dp ≠ none → Dp ∉ gb.As := fun {ga gb σa σb Ha Hb} E h n z => by
            obtain ⟨more, e, f⟩ := E.pre
            rw [e] at z
            rcases List.mem_append.mp z with z | z
            · exact h z
            · exact n (f _ z)
          have nn : H3 Dp ≠ none := by rw [dH2, dH]; exact fun z => nomatch z
          have dA4 : Dp ∉ g4.As := asOut E4 (by rw [a3]; exact dA) nn
          -- from the start to here
          have Etot : Ext { g1 with ρ := wipeρ own g1.ρ } (L2.wipe σ own) H1 g4 σ2 H4 := ((Es.trans Gw E2).trans Gw E3).trans Gw E4
          -- what the next turn finds
          have next : ∀ (g5 : Gh) (H5 : Hp) (acc' : List D) (av' : List V) (o : HO), Good K g5 σ2 H5 → Ext { g1 with ρ := wipeρ own g1.ρ } (L2.wipe σ own) H1 g5 σ2 H5 → Dp ∈ g5.M → Dp ∉ g5.As → ¬ Own g5.ρ σ2 Dp →
              o = .lst av' → Reps K g5.As (hid g5.M H5) acc' av' → lcLoop own tg cond eltM (xs.drop (i + 1)) acc' g5.S = .ok ds sE → W (i + 1) (xs.length - (i + 1)) (upd H5 Dp o) := fun g5 H5 acc' av' o G5 E5 m5 a5 o5 eo r5 run5 => by
            subst eo
            obtain ⟨G6, E6⟩ := G5.wipe (own := own)
            rw [hwσ] at G6 E6
            have o6 : ¬ Own (wipeρ own g5.ρ) (L2.wipe σ own) Dp := fun z => by
              rcases E6.own Dp z with o | n
              · exact o5 o
              · exact G5.trk Dp m5 n
            have he : hid g5.M (upd H5 Dp (.lst av')) = hid g5.M H5 := hid_in m5
            exact ⟨rfl, hlt, g5.S, g5.As, g5.M, acc', av', run5, G6.upx m5 a5 o6, (E5.trans Gw E6).upx Gw hD, m5, a5, o6, upd_same, by rw [he]; exact r5⟩
          cases b with
          | false =>
            refine iteF ?_
            have hu : upd H4 Dp (.lst av) = H4 := by
              funext z
              unfold upd
              split
              · rename_i e; rw [e, dH4, dH2, dH]
              · rfl
            have := next g4 H4 acc av (.lst av) G4 Etot dM4 dA4 dO4 rfl (E4.reps (by rw [a3, m3]; exact E2.reps dR)) (by rw [hs4]; exact run)
            rw [hu] at this
            exact this
          | true =>
            refine iteT ⟨g4, G4, ?_⟩
            have run : (eltM >>= fun y => tick acc y >>= fun acc' => lcLoop own tg cond eltM (xs.drop (i + 1)) acc') s3 = .ok ds sE := run
            rw [bind_run] at run
            cases ee : eltM s3 with
            | bad => simp only [ee] at run; cases run
            | exc c fs s => simp only [ee] at run; cases run
            | ok y s4 =>
              simp only [ee] at run
              refine (At.of_run (a := y) (s' := s4) (by rw [hs4]; exact ee)).imp fun y' g5 H5 G5 E5 ⟨ey, hs5⟩ v rv => ?_
              subst ey
              obtain ⟨dM5, dH5⟩ := E5.kep Dp dM4 dA4 dO4
              have nn4 : H4 Dp ≠ none := by rw [dH4, dH2, dH]; exact fun z => nomatch z
              have dO5 : ¬ Own g5.ρ σ2 Dp := fun z => by
                rcases E5.own Dp z with o | n
                · exact dO4 o
                · exact nn4 n
              have run : (tick acc y' >>= fun acc' => lcLoop own tg cond eltM (xs.drop (i + 1)) acc') s4 = .ok ds sE := run
              rw [bind_run] at run
              unfold tick at run
              by_cases hz : acc.length < line
              · rw [if_pos hz] at run
                have r5 : Reps K g5.As (hid g5.M H5) acc av := E5.reps (E4.reps (by rw [a3, m3]; exact E2.reps dR))
                refine ⟨av, by rw [dH5, dH4, dH2, dH], line_lt (by rw [r5.length]; exact hz), ?_⟩
                exact next g5 H5 (acc ++ [y']) (av ++ [v]) _ G5 (Etot.trans Gw E5) dM5 (asOut E5 dA4 nn4) dO5 rfl (r5.append (.cons rv .nil)) (by rw [hs5]; exact run)
              · rw [if_neg hz] at run; cases run
    · -- the end
      have e : i = xs.length := by omega
      subst e
      refine .inl ⟨wstop _ (Nat.le_refl _), ?_⟩
      rw [List.drop_length] at run
      obtain ⟨rfl, rfl⟩ := Out.ok.inj (show Out.ok acc s = .ok ds sE from run)
      obtain ⟨G9, E9⟩ := Good.unwipe G1 Gs Es
      refine q1 As M H' G9 E9 (.ref Dp) ⟨Dp, rfl, E1.fresh hD, dM, dA, fun z => ?_, av, dH, dR⟩
      rcases E9.own Dp z with o | n
      · exact (Own.some_ G1 o).2 hD
      · obtain ⟨j, dd, h1, h2⟩ := z
        by_cases hj : j ∈ own
        · have hl : s.ρ.length = g1.ρ.length := by
            have := Gs.len
            rw [show (Gh.mk (wipeρ own s.ρ) s.st As M).ρ = wipeρ own s.ρ from rfl, wipeρ_len, L2.wipe_length] at this
            rw [this, G1.len]
          have h1 : (Z.unwipe own g1.ρ s.ρ)[j]? = some (.ow dd) := h1
          rw [unwipe_in hl hj] at h1
          exact (Own.some_ G1 ⟨j, dd, h1, h2⟩).2 hD
        · have h1 : (Z.unwipe own g1.ρ s.ρ)[j]? = some (.ow dd) := h1
          rw [unwipe_out hj] at h1
          exact dO ⟨j, dd, by rw [wipeρ_out hj]; exact h1, by rw [wipe_out hj]; exact h2⟩
end
end Z

/-! Z15: comprehensions as expressions; statements. -/
namespace Z
open PySem PySem.Spec PyProof.Rows L2

section
variable {X : Cx} {w : WX} {cl : CallT} {elt tgE iter : Expr} {ifs : List Expr} {scope : Scope} {own : List (Str × Nat)} {pos spos : Pos} {xe : Ex} {tg : Tg} {ik : IK} {src conds : List Ex}
theorem pz_lc (hc : X.calm = true) (hN : X.N.Nodup) (hi : PI X tgE iter (Ti X.K w (srcM cl ik src))) (ok : BlkOk X.N X.env.scope scope own)
    (hg : ∀ (s : Shared) (H : Hp) (C : Addr) (cl : List (Str × Addr)) (fp : List Addr), PG (X.blk s H scope (compEnvC scope cl C X.env) fp) tgE (Tgt X.K tg))
    (ht : ∀ (s : Shared) (H : Hp) (C : Addr) (cc : List (Str × Addr)) (fp : List Addr), PTs (X.blk s H scope (compEnvC scope cc C X.env) fp) ifs (Tcs X.K cl conds))
    (he : ∀ (s : Shared) (H : Hp) (C : Addr) (cc : List (Str × Addr)) (fp : List Addr), PE (X.blk s H scope (compEnvC scope cc C X.env) fp) elt (Tr X.K wN (evalE cl xe)))
    (hown : ∀ i ∈ slotsT tg, i ∈ own.map (·.2) := by decide) (hs : ∀ x, foldedSetIterable iter X.env x = pure x := by intro _; rfl) :
    PE X (.ListComp elt [⟨tgE, iter, ifs, 0⟩] scope pos) (Tr X.K w (evalE cl (.lc xe tg ik src conds (own.map (·.2))))) :=
  (pe_lc hc hN hi ok hg ht (fun s H C cc fp => Tr.dat (X := X.blk s H scope (compEnvC scope cc C X.env) fp) (he s H C cc fp)) hs).weak fun σ H Q h => lc_sem hown h
end

/-- what is returned: data, or a container of the frame's own -/
def RetR (K : PySem.W.Frag) (H0 : Hp) (g : Gh) (σ : L2.St) (H : Hp) (r : Rs) (v : V) : Prop :=
  if r.2 = true then ∃ p, v = .ref p ∧ (Own g.ρ σ p ∨ H0 p = none) ∧ p ∈ g.M ∧ p ∉ g.As ∧ Cel K g.As (hid g.M H) H r.1 p else Rep K g.As (hid g.M H) r.1 v
theorem RelR.ret {K : PySem.W.Frag} {H0 : Hp} {g : Gh} {σ : L2.St} {H : Hp} {r : Rs} {v : V} (h : RelR K H0 g σ H r v) : RetR K H0 g σ H r v := by
  unfold RelR at h
  unfold RetR
  split
  · rename_i e
    rw [if_pos e] at h
    obtain ⟨p, e1, n⟩ := h
    exact ⟨p, e1, .inr n.was, n.mem, n.nas, n.cel⟩
  · rename_i e
    rw [if_neg e] at h
    exact h
theorem RetR.older {K : PySem.W.Frag} {H0 H1 : Hp} {g0 g1 g : Gh} {σ σ0 σ1 : L2.St} {H : Hp} {r : Rs} {v : V} (e : Ext g0 σ0 H0 g1 σ1 H1) (h : RetR K H1 g σ H r v) : RetR K H0 g σ H r v := by
  unfold RetR at h ⊢
  split
  · rename_i q
    rw [if_pos q] at h
    obtain ⟨p, e1, o, rest⟩ := h
    exact ⟨p, e1, o.imp id e.fresh, rest⟩
  · rename_i q
    rw [if_neg q] at h
    exact h
def fin (K : PySem.W.Frag) (H0 : Hp) (D : Ends) (f : Flow) (g : Gh) (σ : L2.St) (H : Hp) : Prop := match f with
  | .nx => D.nx σ H
  | .brk => D.bk σ H
  | .cont => D.ct σ H
  | .ret r => ∀ v, RetR K H0 g σ H r v → D.rt v H
/-- a statement as the interpreter has it -/
def Ts (K : PySem.W.Frag) (w : WX) (m : M Flow) : TS := fun D σ H => ∃ g, Good K g σ H ∧ Ats K w m g σ H (fin K H D)

section
variable {K : PySem.W.Frag} {w : WX} {g : Gh} {σ : L2.St} {H : Hp} {cl : CallT} {wf : Nat}
/-- two in a row -/
theorem ts_seq {s : Sm} {ss : List Sm} {D : Ends} (h : Ts K w (execs cl wf (s :: ss)) D σ H) : tSeq (Ts K w (exec cl wf s)) (Ts K w (execs cl wf ss)) D σ H := by
  obtain ⟨g, G, q⟩ := h
  refine ⟨g, G, ?_⟩
  have q : Ats K w (exec cl wf s >>= fun f => match f with
    | .nx => execs cl wf ss
    | .brk => Pure.pure .brk
    | .cont => Pure.pure .cont
    | .ret r => Pure.pure (.ret r)) g σ H _ := q
  refine (Ats.bind G q).imp fun f g1 σ1 H1 G1 E1 ⟨_, _, q1⟩ => ?_
  cases f with
  | nx => exact ⟨g1, G1, q1.imp fun f2 g2 σ2 H2 _ _ k => by
      cases f2 with
      | nx => exact k
      | brk => exact k
      | cont => exact k
      | ret r => exact fun v rv => k v (rv.older E1)⟩
  | brk =>
    show D.bk σ1 H1
    exact Ats.pure_ (w := w) (a := Flow.brk) G1 q1
  | cont =>
    show D.ct σ1 H1
    exact Ats.pure_ (w := w) (a := Flow.cont) G1 q1
  | ret r =>
    show ∀ v, RetR K H g1 σ1 H1 r v → D.rt v H1
    exact Ats.pure_ (w := w) (a := Flow.ret r) G1 q1
theorem ts_nil {D : Ends} (h : Ts K w (execs cl wf []) D σ H) : tNext D σ H := by
  obtain ⟨g, G, q⟩ := h
  exact Ats.pure_ G q
end
section
variable {X : Cx} {w : WX} {cl : CallT} {wf : Nat} {st : Stmt} {rest : List Stmt} {pos spos pos' : Pos} {s : Sm} {ss sa sb : List Sm} {e c : Expr} {x xc : Ex}
theorem psz_cons (h1 : PS X st (Ts X.K w (exec cl wf s))) (h2 : PSs X rest (Ts X.K w (execs cl wf ss))) : PSs X (st :: rest) (Ts X.K w (execs cl wf (s :: ss))) := (pss_cons h1 h2).weak fun D σ H h => ts_seq h
theorem psz_nil : PSs X [] (Ts X.K w (execs cl wf [])) := pss_nil.weak fun D σ H h => ts_nil h
/-! ### a name is stored -/
theorem asg_at {K : PySem.W.Frag} {g : Gh} {σ : L2.St} {H : Hp} {i : Nat} {k : Flow → Gh → L2.St → Hp → Prop} (G : Good K g σ H) (h : Ats K w (exec cl wf (.asg i x)) g σ H k) :
    At K w (evalE cl x) g σ H fun r g1 H1 => ∀ v, RelR K H g1 σ H1 r v → ∃ g2, Good K g2 (σ.set i (some v)) H1 ∧ k .nx g2 (σ.set i (some v)) H1 := by
  have h : Ats K w (evalE cl x >>= fun r => setR i r >>= fun _ => Pure.pure Flow.nx) g σ H k := h
  unfold Ats at h
  unfold At
  rw [bind_run] at h
  cases e : evalE cl x g.S with
  | bad => rw [e] at h; exact h
  | exc c fs s' => rw [e] at h; exact fun As' M' H' G' E' => h σ As' M' H' G' E'
  | ok r s1 =>
    rw [e] at h
    intro As1 M1 H1 G1 E1 v rv
    dsimp only at h
    rw [bind_run] at h
    unfold setR setρ at h
    by_cases hi : i < s1.ρ.length
    · rw [if_pos hi] at h
      dsimp only at h
      have h : ∀ σ' As' M' H', Good K ⟨s1.ρ.set i (if r.2 = true then .ow r.1 else .pu r.1), s1.st, As', M'⟩ σ' H' → Ext g σ H ⟨s1.ρ.set i (if r.2 = true then .ow r.1 else .pu r.1), s1.st, As', M'⟩ σ' H' → k .nx ⟨s1.ρ.set i (if r.2 = true then .ow r.1 else .pu r.1), s1.st, As', M'⟩ σ' H' := h
      unfold RelR at rv
      by_cases hf : r.2 = true
      · rw [if_pos hf] at rv h
        obtain ⟨p, rfl, n⟩ := rv
        have G2 : Good K ⟨s1.ρ.set i (.ow r.1), s1.st, As1, M1⟩ (σ.set i (some (.ref p))) H1 := G1.setS hi ⟨p, rfl, n.mem, n.cel⟩ fun d q e1 e2 => by cases e2; exact ⟨n.now, n.nas⟩
        refine ⟨_, G2, h _ _ _ _ G2 ⟨E1.pre, E1.vis, E1.kep, E1.trk, fun q hq => ?_⟩⟩
        rcases own_set hq with o | ⟨_, e2⟩
        · exact E1.own q o
        · cases e2; exact .inr n.was
      · rw [if_neg hf] at rv h
        obtain ⟨G2, E2⟩ := G1.setPu hi rv
        exact ⟨_, G2, h _ _ _ _ G2 (E1.trans G E2)⟩
    · rw [if_neg hi] at h
      exact h.elim
theorem asg_sem {σ : L2.St} {H : Hp} {D : Ends} {i : Nat} (h : Ts X.K w (exec cl wf (.asg i x)) D σ H) : Tr X.K w (evalE cl x) σ H fun v H1 => gName i v σ H1 D.nx := by
  obtain ⟨g, G, q⟩ := h
  exact ⟨g, G, (asg_at G q).imp fun r g1 H1 _ _ q1 v rv => let ⟨_, _, k⟩ := q1 v rv; k⟩
theorem psz_asg {i : Nat} {y : Str} (hN : X.N.Nodup) (hi : X.N[i]? = some y) (hx : Loc X.env.scope y) (he : PE X e (Tr X.K w (evalE cl x))) (hs : swapsWith e (some (.Name y pos')) pos.line X.env = pure false := by rfl)
    (hf : X.fn y = true ∨ X.env.scope.names.lookup y = some .local := by first | exact .inl rfl | exact .inr rfl | assumption) : PS X (.Assign [.Name y pos'] e pos) (Ts X.K w (exec cl wf (.asg i x))) :=
  (ps_set hN hi hx he hs hf).weak fun D σ H h => asg_sem h
theorem psz_asgLc {i : Nat} {y : Str} {py : Pos} {elt tgE iter : Expr} {ifs : List Expr} {scope : Scope} {own : List (Str × Nat)} {xe : Ex} {tg : Tg} {ik : IK} {src conds : List Ex} (hc : X.calm = true) (hN : X.N.Nodup) (hy : X.N[i]? = some y) (hyl : X.env.scope.names.lookup y = some .local)
    (hsw : swapsWith (.ListComp elt [⟨tgE, iter, ifs, 0⟩] scope pos) (some (.Name y py)) spos.line X.env = pure true) (hi : PI X tgE iter (Ti X.K w (srcM cl ik src))) (ok : BlkOk X.N X.env.scope scope own)
    (hg : ∀ (s : Shared) (H : Hp) (C : Addr) (cl : List (Str × Addr)) (fp : List Addr), PG (X.blk s H scope (compEnvC scope cl C X.env) fp) tgE (Tgt X.K tg))
    (ht : ∀ (s : Shared) (H : Hp) (C : Addr) (cc : List (Str × Addr)) (fp : List Addr), PTs (X.blk s H scope (compEnvC scope cc C X.env) fp) ifs (Tcs X.K cl conds))
    (he : ∀ (s : Shared) (H : Hp) (C : Addr) (cc : List (Str × Addr)) (fp : List Addr), PE (X.blk s H scope (compEnvC scope cc C X.env) fp) elt (Tr X.K wN (evalE cl xe)))
    (hown : ∀ i ∈ slotsT tg, i ∈ own.map (·.2) := by decide) (hs : ∀ x, foldedSetIterable iter X.env x = pure x := by intro _; rfl) :
    PS X (.Assign [.Name y py] (.ListComp elt [⟨tgE, iter, ifs, 0⟩] scope pos) spos) (Ts X.K w (exec cl wf (.asg i (.lc xe tg ik src conds (own.map (·.2)))))) :=
  (ps_setLc hc hN hy hyl hsw hi ok hg ht (fun s H C cc fp => Tr.dat (X := X.blk s H scope (compEnvC scope cc C X.env) fp) (he s H C cc fp)) hs).weak fun D σ H h => lc_sem hown (asg_sem h)
/-! ### several names -/
theorem psz_asgT {tgE : Expr} {ts : List Tg} (he : PE X e (Tr X.K w (evalE cl x))) (hg : PG X tgE (Tgt X.K (.tup ts))) (hs : swapsWithSole [tgE] e pos.line X.env = pure false := by rfl) (hw : swappedStores [tgE] e X.env = pure none := by rfl) (h1 : (assignEach [tgE] X.env).map (·.2) = [assign tgE X.env] := by rfl) :
    PS X (.Assign [tgE] e pos) (Ts X.K w (exec cl wf (.asgT ts x))) := by
  refine (ps_asg (Tr.dat he) hg hs hw h1).weak fun D σ H ⟨g, G, q⟩ => ⟨g, G, ?_⟩
  have q : Ats X.K w (dat (evalE cl x) >>= fun d => bindT (.tup ts) d >>= fun _ => Pure.pure Flow.nx) g σ H _ := q
  refine (Ats.at_ (Ats.bind G q)).imp fun d g1 H1 G1 E1 ⟨_, _, q1⟩ v rv => ?_
  refine tgt_mono (bindT_sem G1 rv (Ats.bind G1 q1)) fun σ2 H2 ⟨e, _, g2, _, _, G2, E2, _, _, q2⟩ => ?_
  subst e
  exact Ats.pure_ G2 q2
/-! ### x += e -/
theorem psz_aug {i : Nat} {y : Str} {bo : BOp} {op : Operator} {f : Int → Int → Int} (hN : X.N.Nodup) (hi : X.N[i]? = some y) (hx : Loc X.env.scope y) (he : PE X e (Tr X.K w (evalE cl x))) (ho : PIp X op (ipI f)) (hb : ∀ a b z, augD bo a b = some z → ∃ i j, a = .int i ∧ b = .int j ∧ z = .int (f i j))
    (hf : X.fn y = true ∨ X.env.scope.names.lookup y = some .local := by first | exact .inl rfl | exact .inr rfl | assumption) : PS X (.AugAssign (.Name y pos') op e pos) (Ts X.K w (exec cl wf (.aug bo i x))) := by
  refine (ps_aug hN hi hx (Tr.dat he) ho hf).weak fun D σ H ⟨g, G, q⟩ => ?_
  have q : Ats X.K w (rdSlot i >>= fun d => dat (evalE cl x) >>= fun f => liftO (augD bo d f) >>= fun z => setρ i (.pu z) >>= fun _ => Pure.pure Flow.nx) g σ H _ := q
  have q0 := Ats.at_ (Ats.bind G q)
  unfold At rdSlot at q0
  cases e1 : g.ρ[i]? with
  | none => simp only [Gh.S, e1] at q0
  | some s =>
    have key : ∀ d v, σ[i]? = some (some v) → (∀ n, d = Z.D.int n → v = .int n) → Ats X.K w (dat (evalE cl x) >>= fun f => liftO (augD bo d f) >>= fun z => setρ i (.pu z) >>= fun _ => Pure.pure Flow.nx) g σ H (fin X.K H D) → ∃ x', σ[i]? = some (some x') ∧ Td X.K w (dat (evalE cl x)) σ H fun y H1 => ipI f x' y H1 fun z H2 => D.nx (σ.set i (some z)) H2 := fun d v hv hd q1 => by
      refine ⟨v, hv, g, G, (Ats.at_ (Ats.bind G q1)).imp fun f' g1 H1 G1 E1 ⟨_, _, q2⟩ u ru => ?_⟩
      obtain ⟨z, ez, _, _, q3⟩ := At.liftO_ G1 (Ats.at_ (Ats.bind G1 q2))
      obtain ⟨a, b, rfl, rfl, rfl⟩ := hb _ _ _ ez
      obtain rfl := hd a rfl
      obtain rfl : u = .int b := ru
      refine ⟨a, b, rfl, rfl, ?_⟩
      obtain ⟨g2, _, _, G2, E2, _, _, q4⟩ := setρ_sem (d := .int (f a b)) (v := .int (f a b)) G1 rfl (Ats.bind G1 q3)
      exact Ats.pure_ G2 q4
    cases s with
    | un => simp only [Gh.S, e1] at q0
    | pu d =>
      simp only [Gh.S, e1] at q0
      obtain ⟨v, e2, r⟩ := G.slot i _ e1
      exact key d v e2 (fun n en => by subst en; exact r) (q0 g.As g.M H G Ext.refl).2.2
    | ow d =>
      simp only [Gh.S, e1] at q0
      obtain ⟨p, e2, m, c⟩ := G.slot i _ e1
      exact key d (.ref p) e2 (fun n en => by subst en; exact c.elim) (q0 g.As g.M H G Ext.refl).2.2
theorem psz_augA {i : Nat} {y : Str} (hN : X.N.Nodup) (hi : X.N[i]? = some y) (hx : Loc X.env.scope y) (he : PE X e (Tr X.K w (evalE cl x))) (hf : X.fn y = true ∨ X.env.scope.names.lookup y = some .local := by first | exact .inl rfl | exact .inr rfl | assumption) :
    PS X (.AugAssign (.Name y pos') .Add e pos) (Ts X.K w (exec cl wf (.aug .add i x))) := psz_aug hN hi hx he ip_add (fun a b z h => by
      unfold augD at h
      split at h
      · exact ⟨_, _, rfl, rfl, (Option.some.inj h).symm⟩
      · rename_i hne; cases hne
      · cases h) hf
theorem psz_augS {i : Nat} {y : Str} (hN : X.N.Nodup) (hi : X.N[i]? = some y) (hx : Loc X.env.scope y) (he : PE X e (Tr X.K w (evalE cl x))) (hf : X.fn y = true ∨ X.env.scope.names.lookup y = some .local := by first | exact .inl rfl | exact .inr rfl | assumption) :
    PS X (.AugAssign (.Name y pos') .Sub e pos) (Ts X.K w (exec cl wf (.aug .sub i x))) := psz_aug hN hi hx he ip_sub (fun a b z h => by
      unfold augD at h
      split at h
      · rename_i hne; cases hne
      · exact ⟨_, _, rfl, rfl, (Option.some.inj h).symm⟩
      · cases h) hf
/-! ### expressions alone, return -/
theorem psz_expr (he : PE X e (Tr X.K w (evalE cl x))) (hs : swapsWith e none pos.line X.env = pure false := by rfl) : PS X (.Expr e pos) (Ts X.K w (exec cl wf (.expr x))) := by
  refine (ps_expr (Tr.dat he) hs).weak fun D σ H ⟨g, G, q⟩ => ⟨g, G, ?_⟩
  have q : Ats X.K w (dat (evalE cl x) >>= fun _ => Pure.pure Flow.nx) g σ H _ := q
  exact (Ats.at_ (Ats.bind G q)).imp fun d g1 H1 G1 E1 ⟨_, _, q1⟩ v rv => Ats.pure_ G1 q1
/-- what a return's expression reads as -/
def Trr (K : PySem.W.Frag) (w : WX) (m : M Rs) : TE := fun σ H Q => ∃ g, Good K g σ H ∧ At K w m g σ H fun r g1 H1 => ∀ v, RetR K H g1 σ H1 r v → Q v H1
theorem prz_of (hx : ∀ m, retV x m = m := by intro _; rfl) (he : PE X e (Tr X.K w (evalE cl x))) : PE X e (Trr X.K w (retV x (evalE cl x))) := by
  rw [hx]
  exact he.weak fun σ H Q ⟨g, G, q⟩ => ⟨g, G, q.imp fun r g1 H1 _ _ q1 v rv => q1 v rv.ret⟩
theorem prz_var {y : Str} {m : M Rs} (i : Nat) (hN : X.N[i]? = some y := by rfl) (hv : Vis X.env.scope y := by first | exact Or.inl rfl | exact Or.inr (Or.inl rfl) | exact Or.inr (Or.inr rfl)) (hd : (y == ("__debug__" : Str)) = false := by decide)
    (hcd : (y == ("__classdict__" : Str)) = false := by decide) : PE X (.Name y pos) (Trr X.K w (retV (.var i) m)) := by
  refine (pe_var hN hv hd hcd).weak fun σ H Q ⟨g, G, q⟩ => ?_
  unfold At retV rdRet at q
  cases e : g.ρ[i]? with
  | none => simp only [Gh.S, e] at q
  | some s =>
    cases s with
    | un => simp only [Gh.S, e] at q
    | pu d =>
      simp only [Gh.S, e] at q
      obtain ⟨v, e1, r1⟩ := G.slot i _ e
      exact ⟨v, e1, q g.As g.M H G Ext.refl v r1⟩
    | ow d =>
      simp only [Gh.S, e] at q
      obtain ⟨p, e1, m, c⟩ := G.slot i _ e
      exact ⟨.ref p, e1, q g.As g.M H G Ext.refl (.ref p) ⟨p, rfl, .inl ⟨i, d, e, e1⟩, m, G.oas p ⟨i, d, e, e1⟩, c⟩⟩
theorem psz_ret (he : PE X e (Trr X.K w (retV x (evalE cl x)))) : PS X (.Return (some e) pos) (Ts X.K w (exec cl wf (.ret x))) := by
  refine (ps_ret he).weak fun D σ H ⟨g, G, q⟩ => ⟨g, G, ?_⟩
  have q : Ats X.K w (retV x (evalE cl x) >>= fun r => Pure.pure (Flow.ret r)) g σ H _ := q
  exact (Ats.at_ (Ats.bind G q)).imp fun r g1 H1 G1 E1 ⟨_, _, q1⟩ v rv => Ats.pure_ G1 q1 v rv
theorem psz_retN : PS X (.Return none pos) (Ts X.K w (exec cl wf .retN)) := ps_retN.weak fun D σ H ⟨g, G, q⟩ => Ats.pure_ G (a := Flow.ret (.none, false)) q .non rfl
theorem psz_pass : PS X (.Pass pos) (Ts X.K w (exec cl wf .pass)) := ps_pass.weak fun D σ H ⟨g, G, q⟩ => Ats.pure_ G (a := Flow.nx) q
theorem psz_brk : PS X (.Break pos) (Ts X.K w (exec cl wf .brk)) := ps_break.weak fun D σ H ⟨g, G, q⟩ => Ats.pure_ G (a := Flow.brk) q
theorem psz_cont : PS X (.Continue pos) (Ts X.K w (exec cl wf .cont)) := ps_continue.weak fun D σ H ⟨g, G, q⟩ => Ats.pure_ G (a := Flow.cont) q
theorem psz_if {a b : List Stmt} (hc : PT X c (Tt X.K w (asB (evalE cl xc)))) (ha : PSs X a (Ts X.K w (execs cl wf sa))) (hb : PSs X b (Ts X.K w (execs cl wf sb))) : PS X (.If c a b pos) (Ts X.K w (exec cl wf (.ife xc sa sb))) := by
  refine (ps_if hc ha hb).weak fun D σ H ⟨g, G, q⟩ => ⟨g, G, ?_⟩
  have q : Ats X.K w (asB (evalE cl xc) >>= fun t => if t = true then execs cl wf sa else execs cl wf sb) g σ H _ := q
  have old : ∀ {g1 : Gh} {H1 : Hp} {m : M Flow}, Good X.K g1 σ H1 → Ext g σ H g1 σ H1 → Ats X.K w m g1 σ H1 (fin X.K H D) → Ts X.K w m D σ H1 := fun {g1 H1 m} G1 E1 q1 => ⟨g1, G1, q1.imp fun f g2 σ2 H2 _ _ k => by
    cases f with
    | nx => exact k
    | brk => exact k
    | cont => exact k
    | ret r => exact fun v rv => k v (rv.older E1)⟩
  refine (Ats.at_ (Ats.bind G q)).imp fun t g1 H1 G1 E1 ⟨_, _, q1⟩ => ?_
  cases t with
  | true => exact iteT (old G1 E1 q1)
  | false => exact iteF (old G1 E1 q1)
end
end Z

/-! Z16: lists changed by statements; loops. -/
namespace Z
open PySem PySem.Spec PyProof.Rows L2
section
variable {X : Cx} {w : WX} {cl : CallT} {wf : Nat} {pos apos cpos np : Pos} {e o k c : Expr} {x xo xk xc : Ex} {sb : List Sm} {body : List Stmt} {i : Nat} {y : Str}
/-- xs.append(e) and its like -/
theorem app_core {K : PySem.W.Frag} {g : Gh} {σ : L2.St} {H : Hp} {ds ds' : List D} {p : Addr} {vs' : List V} {kf : Unit → Gh → L2.St → Hp → Prop} (G : Good K g σ H) (hi : g.ρ[i]? = some (.ow (.lst ds))) (hs : σ[i]? = some (some (.ref p)))
    (hr : Reps K g.As (hid g.M H) ds' vs') (h : ∀ σ' As' M' H', Good K ⟨g.ρ.set i (.ow (.lst ds')), g.st, As', M'⟩ σ' H' → Ext g σ H ⟨g.ρ.set i (.ow (.lst ds')), g.st, As', M'⟩ σ' H' → kf () ⟨g.ρ.set i (.ow (.lst ds')), g.st, As', M'⟩ σ' H') :
    ∃ g2, Good K g2 σ (upd H p (.lst vs')) ∧ kf () g2 σ (upd H p (.lst vs')) := by
  obtain ⟨G2, E2⟩ := G.mut (d' := .lst ds') (o := .lst vs') hi hs ⟨vs', upd_same, hr⟩
  exact ⟨_, G2, h _ _ _ _ G2 E2⟩
theorem ow_at {K : PySem.W.Frag} {g : Gh} {σ : L2.St} {H : Hp} {d : D} {p : Addr} (G : Good K g σ H) (hi : g.ρ[i]? = some (.ow d)) (hs : σ[i]? = some (some (.ref p))) : Cel K g.As (hid g.M H) H d p := by
  obtain ⟨p', e, m, c⟩ := G.slot i _ hi
  rw [hs] at e; cases e
  exact c
theorem appTo_sem {K : PySem.W.Frag} {g : Gh} {σ : L2.St} {H : Hp} {d : D} {v : V} {p : Addr} {kf : Unit → Gh → L2.St → Hp → Prop} (G : Good K g σ H) (e2 : σ[i]? = some (some (.ref p))) (rv : Rep K g.As (hid g.M H) d v)
    (h : Ats K w (appTo i d) g σ H kf) : rAppend (.ref p) [v] H fun _ H' => ∃ g2, Good K g2 σ H' ∧ kf () g2 σ H' := by
  unfold Ats appTo at h
  cases e4 : g.ρ[i]? with
  | none => simp only [Gh.S, e4] at h
  | some s =>
    cases s with
    | ow z =>
      cases z with
      | lst ds1 =>
        simp only [Gh.S, e4] at h
        by_cases hz : ds1.length < line
        · rw [if_pos hz] at h
          obtain ⟨vs1, h1, h2⟩ := ow_at G e4 e2
          exact ⟨p, vs1, v, rfl, rfl, h1, line_lt (by rw [h2.length]; exact hz), app_core G e4 e2 (h2.append (.cons rv .nil)) h⟩
        · rw [if_neg hz] at h; exact h.elim
      | _ => simp only [Gh.S, e4] at h
    | _ => simp only [Gh.S, e4] at h
theorem extTo_sem {K : PySem.W.Frag} {g : Gh} {σ : L2.St} {H : Hp} {d : D} {v : V} {p : Addr} {kf : Unit → Gh → L2.St → Hp → Prop} (G : Good K g σ H) (e2 : σ[i]? = some (some (.ref p))) (rv : Rep K g.As (hid g.M H) d v)
    (h : Ats K w (extTo i d) g σ H kf) : rExtend (.ref p) [v] H fun _ H' => ∃ g2, Good K g2 σ H' ∧ kf () g2 σ H' := by
  unfold Ats extTo at h
  cases e4 : g.ρ[i]? with
  | none => simp only [Gh.S, e4] at h
  | some s =>
    cases s with
    | ow z =>
      cases z with
      | lst ds1 =>
        cases d with
        | lst es =>
          simp only [Gh.S, e4] at h
          by_cases hz : ds1.length + es.length ≤ line
          · rw [if_pos hz] at h
            obtain ⟨vs1, h1, h2⟩ := ow_at G e4 e2
            obtain ⟨b, ws, rfl, h3, h4⟩ := rv
            exact ⟨p, b, vs1, ws, rfl, rfl, h1, (hid_of h3).2, line_le (by rw [h2.length, h4.length]; exact hz), app_core G e4 e2 (h2.append h4) h⟩
          · rw [if_neg hz] at h; exact h.elim
        | _ => simp only [Gh.S, e4] at h
      | _ => simp only [Gh.S, e4] at h
    | _ => simp only [Gh.S, e4] at h
theorem insTo_sem {K : PySem.W.Frag} {g : Gh} {σ : L2.St} {H : Hp} {d z : D} {u v : V} {p : Addr} {kf : Unit → Gh → L2.St → Hp → Prop} (G : Good K g σ H) (e2 : σ[i]? = some (some (.ref p))) (ru : Rep K g.As (hid g.M H) z u) (rv : Rep K g.As (hid g.M H) d v)
    (h : Ats K w (insTo i z d) g σ H kf) : ∃ (l : Addr) (xs : List V) (j : Int) (y : V), V.ref p = .ref l ∧ [u, v] = [.int j, y] ∧ H l = some (.lst xs) ∧ xs.length < sizeLine ∧ 0 ≤ j ∧ j < 2 ^ 63 ∧ ∃ g2, Good K g2 σ (upd H l (.lst (xs.take j.toNat ++ [y] ++ xs.drop j.toNat))) ∧ kf () g2 σ (upd H l (.lst (xs.take j.toNat ++ [y] ++ xs.drop j.toNat))) := by
  unfold Ats insTo at h
  cases e4 : g.ρ[i]? with
  | none => simp only [Gh.S, e4] at h
  | some s =>
    cases s with
    | ow t =>
      cases t with
      | lst ds1 =>
        cases z with
        | int j =>
          simp only [Gh.S, e4] at h
          by_cases hz : ds1.length < line ∧ 0 ≤ j ∧ j < 2 ^ 63
          · rw [if_pos hz] at h
            obtain ⟨vs1, h1, h2⟩ := ow_at G e4 e2
            obtain rfl : u = .int j := ru
            exact ⟨p, vs1, j, v, rfl, rfl, h1, line_lt (by rw [h2.length]; exact hz.1), hz.2.1, hz.2.2, app_core G e4 e2 (((h2.take _).append (.cons rv .nil)).append (h2.drop _)) h⟩
          · rw [if_neg hz] at h; exact h.elim
        | _ => simp only [Gh.S, e4] at h
      | _ => simp only [Gh.S, e4] at h
    | _ => simp only [Gh.S, e4] at h
theorem psz_app (ho : PE X (.Name y np) (tVar i)) (he : PE X e (Tr X.K w (evalE cl x)))
    (hbase : attributeBase (.Name y np) "append" X.env (eval (.Name y np) X.env) = eval (.Name y np) X.env := by rfl)
    (hfew : ((backTo cpos (starEach [e] X.env)).all (fun x => !x.1) && (backToKw cpos (keywordEach [] X.env)).all (fun x => x.1.isSome)
      && decide (([e] : List Expr).length + ([] : List Keyword).length + (if ([] : List Keyword).isEmpty then 0 else 1) < 30)) = true := by rfl)
    (hline : (apos.endLine == cpos.line) = true := by rfl) (hs : starEach [e] X.env = (false, eval e X.env) :: starEach [] X.env := by rfl) (hplain : (backTo cpos (starEach [] X.env)).any (·.1) = false := by rfl)
    (hsw : swapsWith (.Call (.Attribute (.Name y np) "append" apos) [e] [] cpos) none pos.line X.env = pure false := by rfl) :
    PS X (.Expr (.Call (.Attribute (.Name y np) "append" apos) [e] [] cpos) pos) (Ts X.K w (exec cl wf (.app i x))) := by
  refine (ps_expr (pe_bm PySem.F.plainAttrs_list PySem.F.slot_list_append PySem.F.type_list_append mt_append ho (pa_cons (Tr.dat he) pa_nil hs) hbase hfew hline hs hplain) hsw).weak fun D σ H ⟨g, G, q⟩ => ?_
  have q : Ats X.K w (ownL i >>= fun _ => dat (evalE cl x) >>= fun d => appTo i d >>= fun _ => Pure.pure Flow.nx) g σ H _ := q
  obtain ⟨ds, p, vs, e1, e2, e3, r, _, _, q1⟩ := At.ownL_ G (Ats.at_ (Ats.bind G q))
  refine ⟨.ref p, e2, .inl ⟨rfl, _, SqL.of e3⟩, g, G, (Ats.at_ (Ats.bind G q1)).imp fun d g1 H1 G1 E1 ⟨_, _, q2⟩ v rv => ?_⟩
  obtain ⟨l, xs, y, a, b, c, d', g2, G2, _, _, k2⟩ := appTo_sem G1 e2 rv (Ats.bind G1 q2)
  exact ⟨l, xs, y, a, b, c, d', Ats.pure_ G2 k2⟩
theorem psz_ext (ho : PE X (.Name y np) (tVar i)) (he : PE X e (Tr X.K w (evalE cl x)))
    (hbase : attributeBase (.Name y np) "extend" X.env (eval (.Name y np) X.env) = eval (.Name y np) X.env := by rfl)
    (hfew : ((backTo cpos (starEach [e] X.env)).all (fun x => !x.1) && (backToKw cpos (keywordEach [] X.env)).all (fun x => x.1.isSome)
      && decide (([e] : List Expr).length + ([] : List Keyword).length + (if ([] : List Keyword).isEmpty then 0 else 1) < 30)) = true := by rfl)
    (hline : (apos.endLine == cpos.line) = true := by rfl) (hs : starEach [e] X.env = (false, eval e X.env) :: starEach [] X.env := by rfl) (hplain : (backTo cpos (starEach [] X.env)).any (·.1) = false := by rfl)
    (hsw : swapsWith (.Call (.Attribute (.Name y np) "extend" apos) [e] [] cpos) none pos.line X.env = pure false := by rfl) :
    PS X (.Expr (.Call (.Attribute (.Name y np) "extend" apos) [e] [] cpos) pos) (Ts X.K w (exec cl wf (.ext i x))) := by
  refine (ps_expr (pe_bm PySem.F.plainAttrs_list PySem.F.slot_list_extend PySem.F.type_list_extend mt_extend ho (pa_cons (Tr.dat he) pa_nil hs) hbase hfew hline hs hplain) hsw).weak fun D σ H ⟨g, G, q⟩ => ?_
  have q : Ats X.K w (ownL i >>= fun _ => dat (evalE cl x) >>= fun d => extTo i d >>= fun _ => Pure.pure Flow.nx) g σ H _ := q
  obtain ⟨ds, p, vs, e1, e2, e3, r, _, _, q1⟩ := At.ownL_ G (Ats.at_ (Ats.bind G q))
  refine ⟨.ref p, e2, .inl ⟨rfl, _, SqL.of e3⟩, g, G, (Ats.at_ (Ats.bind G q1)).imp fun d g1 H1 G1 E1 ⟨_, _, q2⟩ v rv => ?_⟩
  obtain ⟨l, b, xs, zs, a, b', c, c', d', g2, G2, _, _, k2⟩ := extTo_sem G1 e2 rv (Ats.bind G1 q2)
  exact ⟨l, b, xs, zs, a, b', c, c', d', Ats.pure_ G2 k2⟩
theorem psz_ins (ho : PE X (.Name y np) (tVar i)) (hk : PE X k (Tr X.K w (evalE cl xk))) (he : PE X e (Tr X.K w (evalE cl x)))
    (hbase : attributeBase (.Name y np) "insert" X.env (eval (.Name y np) X.env) = eval (.Name y np) X.env := by rfl)
    (hfew : ((backTo cpos (starEach [k, e] X.env)).all (fun x => !x.1) && (backToKw cpos (keywordEach [] X.env)).all (fun x => x.1.isSome)
      && decide (([k, e] : List Expr).length + ([] : List Keyword).length + (if ([] : List Keyword).isEmpty then 0 else 1) < 30)) = true := by rfl)
    (hline : (apos.endLine == cpos.line) = true := by rfl) (hs : starEach [k, e] X.env = (false, eval k X.env) :: starEach [e] X.env := by rfl) (hs2 : starEach [e] X.env = (false, eval e X.env) :: starEach [] X.env := by rfl)
    (hplain : (backTo cpos (starEach [e] X.env)).any (·.1) = false := by rfl)
    (hsw : swapsWith (.Call (.Attribute (.Name y np) "insert" apos) [k, e] [] cpos) none pos.line X.env = pure false := by rfl) :
    PS X (.Expr (.Call (.Attribute (.Name y np) "insert" apos) [k, e] [] cpos) pos) (Ts X.K w (exec cl wf (.ins i xk x))) := by
  refine (ps_expr (pe_bm PySem.F.plainAttrs_list PySem.F.slot_list_insert PySem.F.type_list_insert mt_insert ho (pa_cons (Tr.dat hk) (pa_cons (Tr.dat he) pa_nil hs2) hs) hbase hfew hline hs hplain) hsw).weak fun D σ H ⟨g, G, q⟩ => ?_
  have q : Ats X.K w (ownL i >>= fun _ => dat (evalE cl xk) >>= fun z => dat (evalE cl x) >>= fun d => insTo i z d >>= fun _ => Pure.pure Flow.nx) g σ H _ := q
  obtain ⟨ds, p, vs, e1, e2, e3, r, _, _, q1⟩ := At.ownL_ G (Ats.at_ (Ats.bind G q))
  refine ⟨.ref p, e2, .inl ⟨rfl, _, SqL.of e3⟩, g, G, (Ats.at_ (Ats.bind G q1)).imp fun z g0 H0 G0 E0 ⟨_, _, q2⟩ u ru => ⟨g0, G0, (Ats.at_ (Ats.bind G0 q2)).imp fun d g1 H1 G1 E1 ⟨_, _, q2⟩ v rv => ?_⟩⟩
  obtain ⟨l, xs, j, y, a, b, c, c', d', e', g2, G2, _, _, k2⟩ := insTo_sem G1 e2 (E1.rep ru) rv (Ats.bind G1 q2)
  exact ⟨l, xs, j, y, a, b, c, c', d', e', Ats.pure_ G2 k2⟩
/-- o[k] = e -/
theorem setAt_sem {K : PySem.W.Frag} {g : Gh} {σ : L2.St} {H : Hp} {op : Opd} {z d : D} {vo vk v : V} {kf : Unit → Gh → L2.St → Hp → Prop} (G : Good K g σ H) (ro : RelO K g σ H op vo) (rk : Rep K g.As (hid g.M H) z vk) (rv : Rep K g.As (hid g.M H) d v)
    (h : Ats K w (setAt op z d) g σ H kf) : rSetL vo vk v H fun H' => ∃ g2, Good K g2 σ H' ∧ kf () g2 σ H' := by
  unfold Ats setAt at h
  cases op with
  | val _ => exact h.elim
  | slot i =>
    have ro : σ[i]? = some (some vo) := ro
    dsimp only [Gh.S] at h
    cases e4 : g.ρ[i]? with
    | none => simp only [e4] at h
    | some s =>
      cases s with
      | un => simp only [e4] at h
      | pu t =>
        cases t with
        | obj n =>
          simp only [e4] at h
          cases e5 : g.st[n]? with
          | none => simp only [e5] at h
          | some so =>
            cases so with
            | ins _ _ => simp only [e5] at h
            | lst ds =>
              simp only [e5] at h
              cases z with
              | int j =>
                simp only at h
                cases e6 : ixN ds.length j with
                | none => simp only [e6] at h
                | some m =>
                  simp only [e6] at h
                  obtain ⟨u, e7, a, eu, ea⟩ := G.slot i _ e4
                  rw [ro] at e7; cases e7
                  subst eu
                  obtain ⟨a', e8, vs, h1, h2⟩ := G.sto n _ e5
                  rw [ea] at e8; cases e8
                  obtain rfl : vk = .int j := rk
                  refine ⟨a, vs, j, m, rfl, rfl, h1, by rw [h2.length]; exact e6, ?_⟩
                  obtain ⟨G2, E2⟩ := G.mutS (so' := .lst (ds.set m d)) (o := .lst (vs.set m v)) e5 ea ⟨_, upd_same, h2.set rv m⟩
                  exact ⟨_, G2, h _ _ _ _ G2 E2⟩
              | _ => simp only at h
        | _ => simp only [e4] at h
      | ow t =>
        cases t with
        | lst ds =>
          simp only [e4] at h
          cases z with
          | int j =>
            simp only at h
            cases e6 : ixN ds.length j with
            | none => simp only [e6] at h
            | some m =>
              simp only [e6] at h
              obtain ⟨p, e7, mm, vs, h1, h2⟩ := G.slot i _ e4
              rw [ro] at e7; cases e7
              obtain rfl : vk = .int j := rk
              refine ⟨p, vs, j, m, rfl, rfl, h1, by rw [h2.length]; exact e6, ?_⟩
              exact app_core G e4 ro (h2.set rv m) h
          | _ => simp only at h
        | _ => simp only [e4] at h
theorem psz_setI {spos : Pos} (he : PE X e (Tr X.K w (evalE cl x))) (ho : PE X o (To X.K w (opdV xo (evalE cl xo)))) (hk : PE X k (Tr X.K w (evalE cl xk))) (hg : ∀ {to ti : TE}, PE X o to → PE X k ti → PG X (.Subscript o k spos) (gSub to ti rSetL) := by exact fun a b => pg_sub a b set_list)
    (hs : swapsWithSole [.Subscript o k spos] e pos.line X.env = pure false := by rfl) (hw : swappedStores [.Subscript o k spos] e X.env = pure none := by rfl) (h1 : (assignEach [.Subscript o k spos] X.env).map (·.2) = [assign (.Subscript o k spos) X.env] := by rfl) :
    PS X (.Assign [.Subscript o k spos] e pos) (Ts X.K w (exec cl wf (.setI xo xk x))) := by
  refine (ps_asg (Tr.dat he) (hg ho (Tr.dat hk)) hs hw h1).weak fun D σ H ⟨g, G, q⟩ => ⟨g, G, ?_⟩
  have q : Ats X.K w (dat (evalE cl x) >>= fun d => opdV xo (evalE cl xo) >>= fun o => dat (evalE cl xk) >>= fun z => setAt o z d >>= fun _ => Pure.pure Flow.nx) g σ H _ := q
  refine (Ats.at_ (Ats.bind G q)).imp fun d g1 H1 G1 E1 ⟨_, _, q1⟩ v rv => ⟨g1, G1, (Ats.at_ (Ats.bind G1 q1)).imp fun o' g2 H2 G2 E2 ⟨_, _, q2⟩ vo ro => ⟨g2, G2, (Ats.at_ (Ats.bind G2 q2)).imp fun z g3 H3 G3 E3 ⟨_, _, q3⟩ vk rk => ?_⟩⟩
  have q4 := setAt_sem G3 (ro.ext E3) rk (E3.rep (E2.rep rv)) (Ats.bind G3 q3)
  obtain ⟨p, xs, kk, j, a, b, c, d', g4, G4, _, _, q5⟩ := q4
  exact ⟨p, xs, kk, j, a, b, c, d', Ats.pure_ G4 q5⟩
end
end Z

/-! Z17: loops; defs. -/
namespace Z
open PySem PySem.Spec PyProof.Rows L2
section
variable {K : PySem.W.Frag} {w : WX} {cl : CallT} {wf : Nat}
theorem Ats.later {α : Type} {g : Gh} {σ : L2.St} {H H2 : Hp} {m : M α} {k : α → Gh → L2.St → Hp → Prop} (G : Good K g σ H) (e : Ext g σ H g σ H2) (h : Ats K w m g σ H k) : Ats K w m g σ H2 k := by
  unfold Ats at h ⊢
  cases q : m g.S with
  | bad => rw [q] at h; exact h
  | exc c fs s' => rw [q] at h; exact fun σ' As' M' H' G' E' => h σ' As' M' H' G' (e.trans G E')
  | ok a s1 => rw [q] at h; exact fun σ' As' M' H' G' E' => h σ' As' M' H' G' (e.trans G E')
/-- THE FOR -/
theorem for_sem {tg : Tg} {ik : IK} {src : List Ex} {body : List Sm} {D : Ends} {σ : L2.St} {H : Hp} (h : Ts K w (exec cl wf (.forE tg ik src body)) D σ H) :
    tFor (Ti K w (srcM cl ik src)) (Tgt K tg) (Ts K w (execs cl wf body)) D σ H := by
  obtain ⟨g, G, q⟩ := h
  have e : exec cl wf (.forE tg ik src body) = (srcM cl ik src >>= fun xs => forLoop tg (execs cl wf body) xs) := by
    unfold srcM
    rw [M.assoc]
    rfl
  rw [e] at q
  refine ⟨g, G, (Ats.at_ (Ats.bind G q)).imp fun xs g1 H1 G1 E1 ⟨_, _, q1⟩ J wk => ?_⟩
  let W : Nat → Nat → L2.St → Hp → Prop := fun i m σ' H' => m = xs.length - i ∧ i ≤ xs.length ∧ ∃ g', Good K g' σ' H' ∧ Ext g1 σ H1 g' σ' H' ∧ Ats K w (forLoop tg (execs cl wf body) (xs.drop i)) g' σ' H' (fin K H D)
  refine ⟨W, ⟨_, rfl, Nat.zero_le _, g1, G1, Ext.refl, q1⟩, ?_⟩
  rintro i m σ' H' ⟨hm, hi, g', G', E', q'⟩
  obtain ⟨wgo, wstop, wyld⟩ := wk _ _ H' G' E'.asget E'.same
  by_cases hlt : i < xs.length
  · refine .inr ⟨wgo i hlt, fun σ'' H'' => W (i + 1) (xs.length - (i + 1)) σ'' H'', fun σ'' H'' h => ⟨_, by omega, h⟩, fun x H2 hy => ?_⟩
    obtain ⟨d, hd, hH2, rd⟩ := wyld i x H2 hlt hy
    have hdrop : xs.drop i = d :: xs.drop (i + 1) := by
      rw [List.drop_eq_getElem_cons hlt]
      have : xs[i] = d := by
        rw [List.getElem?_eq_getElem hlt] at hd
        exact Option.some.inj hd
      rw [this]
    have at2 : Good K g' σ' H2 ∧ Ext g' σ' H' g' σ' H2 := by
      rcases hH2 with e | ⟨T, o, hT, e⟩
      · subst e; exact ⟨G', Ext.refl⟩
      · subst e; exact ⟨G'.alloc hT, Ext.alloc G' hT⟩
    obtain ⟨G2, E2⟩ := at2
    rw [hdrop] at q'
    have q' : Ats K w (bindT tg d >>= fun _ => execs cl wf body >>= fun f => (match f with
      | .nx => forLoop tg (execs cl wf body) (xs.drop (i + 1))
      | .cont => forLoop tg (execs cl wf body) (xs.drop (i + 1))
      | .brk => Pure.pure .nx
      | .ret r => Pure.pure (.ret r))) g' σ' H' (fin K H D) := q'
    refine tgt_mono (bindT_sem G2 rd (Ats.bind G2 (q'.later G' E2))) fun σ2 H3 ⟨eH, _, g3, _, _, G3, E3, _, _, q3⟩ => ?_
    subst eH
    refine ⟨g3, G3, (Ats.bind G3 q3).imp fun f g4 σ4 H4 G4 E4 ⟨_, _, q4⟩ => ?_⟩
    have Etot : Ext g1 σ H1 g4 σ4 H4 := ((E'.trans G1 E2).trans G1 E3).trans G1 E4
    cases f with
    | nx => exact ⟨rfl, hlt, g4, G4, Etot, q4⟩
    | cont => exact ⟨rfl, hlt, g4, G4, Etot, q4⟩
    | brk =>
      show D.nx σ4 H4
      exact Ats.pure_ (w := w) (a := Flow.nx) G4 q4
    | ret r =>
      have q5 : ∀ v, RetR K H g4 σ4 H4 r v → D.rt v H4 := Ats.pure_ (w := w) (a := Flow.ret r) G4 q4
      exact fun v rv => q5 v (rv.older (((E1.trans G E').trans G E2).trans G E3))
  · have e : i = xs.length := by omega
    subst e
    refine .inl ⟨wstop _ (Nat.le_refl _), ?_⟩
    rw [List.drop_length] at q'
    exact Ats.pure_ (w := w) (a := Flow.nx) G' q'
/-- THE WHILE -/
theorem while_sem {xc : Ex} {body : List Sm} {D : Ends} {σ : L2.St} {H : Hp} (h : Ts K w (exec cl wf (.whil xc body)) D σ H) : tWhile (Tt K w (asB (evalE cl xc))) (Ts K w (execs cl wf body)) D σ H := by
  obtain ⟨g, G, q⟩ := h
  have q : Ats K w (whileLoop (asB (evalE cl xc)) (execs cl wf body) wf) g σ H (fin K H D) := q
  let W : Nat → L2.St → Hp → Prop := fun n σ' H' => ∃ g', Good K g' σ' H' ∧ Ext g σ H g' σ' H' ∧ Ats K w (whileLoop (asB (evalE cl xc)) (execs cl wf body) n) g' σ' H' (fin K H D)
  refine ⟨W, ⟨wf, g, G, Ext.refl, q⟩, ?_⟩
  rintro n σ' H' ⟨g', G', E', q'⟩
  cases n with
  | zero => exact q'.elim
  | succ n =>
    have q' : Ats K w (asB (evalE cl xc) >>= fun b => if b = true then (execs cl wf body >>= fun f => (match f with
      | .nx => whileLoop (asB (evalE cl xc)) (execs cl wf body) n
      | .cont => whileLoop (asB (evalE cl xc)) (execs cl wf body) n
      | .brk => Pure.pure .nx
      | .ret r => Pure.pure (.ret r))) else Pure.pure .nx) g' σ' H' (fin K H D) := q'
    refine ⟨g', G', (Ats.at_ (Ats.bind G' q')).imp fun b g1 H1 G1 E1 ⟨_, _, q1⟩ => ?_⟩
    have Eg1 : Ext g σ H g1 σ' H1 := E'.trans G E1
    cases b with
    | false => exact iteF (Ats.pure_ (w := w) (a := Flow.nx) G1 q1)
    | true =>
      have q1 : Ats K w (execs cl wf body >>= fun f => (match f with
        | .nx => whileLoop (asB (evalE cl xc)) (execs cl wf body) n
        | .cont => whileLoop (asB (evalE cl xc)) (execs cl wf body) n
        | .brk => Pure.pure .nx
        | .ret r => Pure.pure (.ret r))) g1 σ' H1 (fin K H D) := q1
      refine iteT ⟨fun σ2 H2 => W n σ2 H2, fun σ2 H2 h => ⟨n, Nat.lt_succ_self n, h⟩, g1, G1, (Ats.bind G1 q1).imp fun f g4 σ4 H4 G4 E4 ⟨_, _, q4⟩ => ?_⟩
      have Etot : Ext g σ H g4 σ4 H4 := Eg1.trans G E4
      cases f with
      | nx => exact ⟨g4, G4, Etot, q4⟩
      | cont => exact ⟨g4, G4, Etot, q4⟩
      | brk =>
        show D.nx σ4 H4
        exact Ats.pure_ (w := w) (a := Flow.nx) G4 q4
      | ret r =>
        have q5 : ∀ v, RetR K H g4 σ4 H4 r v → D.rt v H4 := Ats.pure_ (w := w) (a := Flow.ret r) G4 q4
        exact fun v rv => q5 v (rv.older Eg1)
end
section
variable {X : Cx} {w : WX} {cl : CallT} {wf : Nat} {tgE iter c : Expr} {body : List Stmt} {pos : Pos} {tg : Tg} {ik : IK} {src : List Ex} {sb : List Sm} {xc : Ex}
theorem psz_for (hp : PassesOwn (model X.prog X.w) X.A X.env X.xe) (hc : X.calm = true) (hi : PI X tgE iter (Ti X.K w (srcM cl ik src))) (hg : PG X tgE (Tgt X.K tg)) (hb : PSs X body (Ts X.K w (execs cl wf sb)))
    (hs : ∀ x, foldedSetIterable iter X.env x = pure x := by intro _; rfl) : PS X (.For tgE iter body [] pos) (Ts X.K w (exec cl wf (.forE tg ik src sb))) := (ps_for hp hc hi hg hb hs).weak fun D σ H h => for_sem h
theorem psz_while (hp : PassesOwn (model X.prog X.w) X.A X.env X.xe) (hc : PT X c (Tt X.K w (asB (evalE cl xc)))) (hb : PSs X body (Ts X.K w (execs cl wf sb))) : PS X (.While c body [] pos) (Ts X.K w (exec cl wf (.whil xc sb))) :=
  (ps_while hp hc hb).weak fun D σ H h => while_sem h
/-! ### targets, as judgements -/
theorem pgz_nm {x : Str} (i : Nat) (hN : X.N.Nodup) (hi : X.N[i]? = some x := by rfl) (hx : Loc X.env.scope x := by first | exact .inl rfl | exact .inr rfl) (hf : X.fn x = true ∨ X.env.scope.names.lookup x = some .local := by first | exact .inl rfl | exact .inr rfl) : PG X (.Name x pos) (Tgt X.K (.nm i)) := by
  have := pg_name (pos := pos) hN hi hx hf
  unfold Tgt
  exact this
theorem pgzs_nil : PGs X [] (Tgts X.K []) := by unfold Tgts; exact pgs_nil
theorem pgzs_cons {e : Expr} {es : List Expr} {t : Tg} {ts : List Tg} (h1 : PG X e (Tgt X.K t)) (h2 : PGs X es (Tgts X.K ts)) (hs : (assignEach (e :: es) X.env).map (·.2) = assign e X.env :: (assignEach es X.env).map (·.2) := by rfl) : PGs X (e :: es) (Tgts X.K (t :: ts)) := by
  have := pgs_cons h1 h2 hs
  unfold Tgts
  exact this
theorem pgz_tup {es : List Expr} {k : Nat} {ts : List Tg} (hc : X.calm = true) (h : PGs X es (Tgts X.K ts)) (hn : (assignEach es X.env).length = ts.length := by rfl) (hst : (assignEach es X.env).findIdx? (·.1) = none := by rfl) : PG X (.Tuple es k pos) (Tgt X.K (.tup ts)) := by
  have := pg_tup (pos := pos) (k := k) hc h hn hst
  unfold Tgt
  exact this
end
/-! ### a def -/
def wE (K : PySem.W.Frag) (cls : Nat → Value) (E : XK) : WX := fun c fs g' H' => ∀ C dx, XRel K cls g' H' c fs C dx → E C dx H'
theorem wE_E {K : PySem.W.Frag} {cls : Nat → Value} {E : XK} : ∀ c fs g' H' C dx, wE K cls E c fs g' H' → XRel K cls g' H' c fs C dx → E C dx H' := fun _ _ _ _ C dx h x => h C dx x
theorem wN_E {K : PySem.W.Frag} {cls : Nat → Value} {E : XK} : ∀ c fs g' H' C dx, wN c fs g' H' → XRel K cls g' H' c fs C dx → E C dx H' := fun _ _ _ _ _ _ h _ => h.elim
theorem Good.noslots {K : PySem.W.Frag} {ρ : List Slot} {st : List SO} {As M : List Addr} {σ : L2.St} {H : Hp} (G : Good K ⟨ρ, st, As, M⟩ σ H) : Good K ⟨[], st, As, M⟩ [] H :=
  ⟨rfl, fun i s e => by simp at e, fun i j d d' p e => by simp at e, fun p ⟨i, d, e, _⟩ => by simp at e, G.sto, G.asl, G.asn, G.asm, G.trk⟩
theorem Ext.noslots {g : Gh} {ρ1 : List Slot} {st : List SO} {As M : List Addr} {σ σ1 σ0 : L2.St} {H H1 : Hp} {ρ0 : List Slot} (n0 : ∀ p, ¬ Own ρ0 σ0 p) (E : Ext { g with ρ := ρ0 } σ0 H ⟨ρ1, st, As, M⟩ σ1 H1) : Ext g σ H ⟨[], st, As, M⟩ [] H1 :=
  ⟨E.pre, E.vis, fun p hp hA _ => E.kep p hp hA (n0 p), E.trk, fun p ⟨i, d, e, _⟩ => by simp at e⟩
theorem fn_ok {P : Program} {w : World} {K : PySem.W.Frag} {mg : Str → Option Value} {base : Heap} {CX : CXT} {x qual : Str} {params : Arguments} {body : List Stmt} {scope : Scope} {dvs : List V} {kws : List (Str × V)} {f : Addr} {fd : FuncData} {N ps : List Str} {n fid wf : Nat}
    {cls : Nat → Value} {fns : List FnD} {fnd : FnD} (F : FunD K x qual params body scope dvs kws f fd) (S : FnScope N ps scope) (hf : fns[fid]? = some fnd) (hn : fnd.n = N.length) (hp : fnd.np = ps.length)
    (hD : ∀ (cdv : Value) (A : Around) (outer : List Env) (s : Shared) (H : Hp) (E : XK), Room n (A.deeper (envOfC qual scope s.heap.objs.size f cdv)) →
      PSs (cxOf CX P w K mg base N qual scope f cdv A outer s H E) body (Ts K (wE K cls E) (execs (callF fns wf n) wf fnd.body))) :
    FnOk P w K mg base CX (n + 1) f fd ps (spz K cls (callF fns wf (n + 1)) fid ps.length) := by
  refine F.ok S (fun vs H Q E h => h.1) (fun cdv A outer s H vs Q E hr h => ⟨_, hD cdv A outer s H E hr, ?_⟩)
  obtain ⟨hl, g, ds, hρ, G, hc⟩ := h
  have hdl : ds.length = ps.length := by
    have := G.len
    rw [hρ, List.length_map, List.length_map] at this
    omega
  have ec : callF fns wf (n + 1) fid ds g.st = runFn (callF fns wf n) wf fnd ds g.st := by
    show (match fns[fid]? with | some d => runFn (callF fns wf n) wf d ds g.st | none => .bad) = _
    rw [hf]
  rw [ec] at hc
  unfold runFn at hc
  rw [if_pos (by rw [hp]; exact hdl)] at hc
  let ρ0 : List Slot := ds.map .pu ++ List.replicate (fnd.n - fnd.np) Slot.un
  have hpl : ps.length ≤ N.length := by
    have := congrArg List.length S.pre
    rw [List.length_take] at this
    omega
  have no0 : ∀ p, ¬ Own ρ0 (L2.start N vs) p := fun p ⟨i, d, h1, _⟩ => by
    have hm := List.mem_of_getElem? h1
    rcases List.mem_append.mp hm with z | z
    · obtain ⟨y, _, e⟩ := List.mem_map.mp z; cases e
    · have := (List.mem_replicate.mp z).2; cases this
  have G0 : Good K { g with ρ := ρ0 } (L2.start N vs) H := by
    refine ⟨?_, fun i s e => ?_, fun i j d d' p h1 _ h3 _ => absurd ⟨i, d, h1, h3⟩ (no0 p), fun p h => absurd h (no0 p), G.sto, G.asl, G.asn, G.asm, G.trk⟩
    · show (ds.map Slot.pu ++ List.replicate (fnd.n - fnd.np) Slot.un).length = (vs.map some ++ List.replicate (N.length - vs.length) none).length
      simp [hn, hp, hdl, hl]
    · have e : (ds.map Slot.pu ++ List.replicate (fnd.n - fnd.np) Slot.un)[i]? = some s := e
      by_cases hi : i < ds.length
      · rw [List.getElem?_append_left (by simpa using hi)] at e
        have q := G.slot i s (by rw [hρ]; exact e)
        have e2 : (L2.start N vs)[i]? = (vs.map some)[i]? := by
          unfold L2.start
          rw [List.getElem?_append_left (by simp; omega)]
        rw [e2]
        exact q
      · rw [List.getElem?_append_right (by simpa using hi)] at e
        have := (List.mem_replicate.mp (List.mem_of_getElem? e)).2
        subst this
        trivial
  refine ⟨{ g with ρ := ρ0 }, G0, ?_⟩
  unfold Ats
  have hS : ({ g with ρ := ρ0 } : Gh).S = ⟨ds.map .pu ++ List.replicate (fnd.n - fnd.np) Slot.un, g.st⟩ := rfl
  rw [hS]
  cases er : execs (callF fns wf n) wf fnd.body ⟨ds.map .pu ++ List.replicate (fnd.n - fnd.np) Slot.un, g.st⟩ with
  | bad => rw [er] at hc; exact hc
  | exc c fs s' =>
    rw [er] at hc
    intro σ' As' M' H' G' E' C dx xr
    exact hc C dx As' M' H' G'.noslots (E'.noslots no0) xr
  | ok fl s' =>
    rw [er] at hc
    intro σ' As' M' H' G' E'
    cases fl with
    | brk => exact hc.elim
    | cont => exact hc.elim
    | nx => exact hc .non As' M' H' G'.noslots (E'.noslots no0) rfl
    | ret r =>
      intro v rv
      refine hc v As' M' H' G'.noslots (E'.noslots no0) ?_
      unfold RetR at rv
      unfold RelR
      split
      · rename_i hfr
        rw [if_pos hfr] at rv
        obtain ⟨p, e1, o, m, a, c⟩ := rv
        refine ⟨p, e1, ?_, m, a, fun ⟨i, d, e, _⟩ => by simp at e, c⟩
        rcases o with o | o
        · rcases E'.own p o with z | z
          · exact absurd z (no0 p)
          · exact z
        · exact o
      · rename_i hfr
        rw [if_neg hfr] at rv
        exact rv
end Z

/-! Z18: the state at which a law is asked. -/
namespace Z
open PySem PySem.Spec PyProof.Rows L2
theorem entry_good {K : PySem.W.Frag} {H : Hp} {a : Addr} {ns : List Int} (hS : SqL K H a (ns.map V.int)) : Good K ⟨[.pu (.scr ns)], [], [], []⟩ [some (.ref a)] H := by
  have e : hid [] H = H := by
    funext b
    unfold hid
    rw [if_neg (by simp)]
  refine ⟨rfl, fun i s e1 => ?_, fun i j d d' p h1 _ _ _ => ?_, fun p ⟨i, d, h1, _⟩ => ?_, fun i so e1 => ?_, rfl, List.nodup_nil, fun b hb => ?_, fun p hp => ?_⟩
  · cases i with
    | zero =>
      simp at e1
      subst e1
      refine ⟨.ref a, rfl, a, rfl, ?_⟩
      show SqL K (hid [] H) a (ns.map V.int)
      rw [e]
      exact hS
    | succ i => simp at e1
  · cases i with
    | zero => simp at h1
    | succ i => simp at h1
  · cases i with
    | zero => simp at h1
    | succ i => simp at h1
  · simp at e1
  · cases hb
  · cases hp
end Z

/-! Z19: the plain side: what a run of the interpreter ends in. -/
namespace Z
open PySem PySem.Spec PyProof.Rows L2

/-- a mark: a rewriting leaves q alone -/
structure Fx {β : Sort _} (q : β) : Type where
  mk ::
/-- m ends well, and so that Q -/
def Wp {α : Type} (m : M α) (s : S) (Q : α → S → Prop) (_ : Fx Q := ⟨⟩) : Prop := match m s with
  | .ok a s' => Q a s'
  | _ => False
def Rp (r : R) (Q : Rs → List SO → Prop) (_ : Fx Q := ⟨⟩) : Prop := match r with
  | .ok a st => Q a st
  | _ => False
def endQ (Q : Rs → List SO → Prop) : Flow → S → Prop
  | .nx, s => Q (.none, false) s.st
  | .ret r, s => Q r s.st
  | _, _ => False
def Op {α : Type} (o : Option α) (Q : α → Prop) (_ : Fx Q := ⟨⟩) : Prop := match o with
  | some a => Q a
  | none => False
def Ob (d : D) (Q : Bool → Prop) (_ : Fx Q := ⟨⟩) : Prop := match d with
  | .bl b => Q b
  | _ => False
def Oi (d : D) (Q : Int → Prop) (_ : Fx Q := ⟨⟩) : Prop := match d with
  | .int b => Q b
  | _ => False
def Sl (x : Option Slot) (P O : D → Prop) (_ : Fx (P, O) := ⟨⟩) : Prop := match x with
  | some (.pu d) => P d
  | some (.ow d) => O d
  | _ => False
theorem op_some {α : Type} (a : α) (Q : α → Prop) : Op (some a) Q = Q a := rfl
theorem op_none {α : Type} (Q : α → Prop) : Op none Q = False := rfl
theorem op_ite {α : Type} (c : Prop) {_ : Decidable c} (x : Option α) (Q : α → Prop) : Op (if c then x else none) Q = (c ∧ Op x Q) := by
  by_cases h : c <;> simp [h, Op]
theorem ob_bl (b : Bool) (Q : Bool → Prop) : Ob (.bl b) Q = Q b := rfl
theorem oi_int (b : Int) (Q : Int → Prop) : Oi (.int b) Q = Q b := rfl
theorem sl_pu (d : D) (P O : D → Prop) : Sl (some (.pu d)) P O = P d := rfl
theorem sl_ow (d : D) (P O : D → Prop) : Sl (some (.ow d)) P O = O d := rfl
section
variable {α β : Type} {s : S} {Q : α → S → Prop}
theorem Wp.mono {m : M α} {Q Q' : α → S → Prop} (h : Wp m s Q) (i : ∀ a s', Q a s' → Q' a s') : Wp m s Q' := by
  unfold Wp at h ⊢
  cases e : m s with
  | ok a s' => rw [e] at h; exact i _ _ h
  | exc c fs s' => rw [e] at h; exact h
  | bad => rw [e] at h; exact h
theorem Rp.mono {r : R} {Q Q' : Rs → List SO → Prop} (h : Rp r Q) (i : ∀ a s', Q a s' → Q' a s') : Rp r Q' := by
  unfold Rp at h ⊢
  cases r with
  | ok a s' => exact i _ _ h
  | exc c fs s' => exact h
  | bad => exact h
theorem Rp.get {r : R} {Q : Rs → List SO → Prop} (h : Rp r Q) : ∃ a st, r = .ok a st ∧ Q a st := by
  unfold Rp at h
  cases r with
  | ok a s' => exact ⟨a, s', rfl, h⟩
  | exc c fs s' => exact h.elim
  | bad => exact h.elim
theorem Wp.ext {m : M α} {Q Q' : α → S → Prop} (h : ∀ a s, Q a s = Q' a s) : Wp m s Q = Wp m s Q' := by
  have e : Q = Q' := funext fun a => funext fun s => h a s
  subst e
  rfl
theorem wp_bind (m : M β) (f : β → M α) : Wp (m >>= f) s Q = Wp m s fun a s' => Wp (f a) s' Q := by
  unfold Wp
  rw [bind_run]
  cases m s <;> rfl
theorem wp_pure (a : α) : Wp (Pure.pure a) s Q = Q a s := rfl
theorem wp_bad : Wp (bad : M α) s Q = False := rfl
theorem wp_liftO (o : Option α) : Wp (liftO o) s Q = Op o fun a => Q a s := by
  cases o <;> rfl
theorem wp_stO (f : List SO → Option α) : Wp (stO f) s Q = Op (f s.st) fun a => Q a s := by
  unfold Wp stO
  cases f s.st <;> rfl
theorem wp_ite (c : Bool) (m m' : M α) : Wp (if c = true then m else m') s Q = ((c = true → Wp m s Q) ∧ (c = false → Wp m' s Q)) := by
  cases c <;> simp
theorem wp_getS {Q : S → S → Prop} : Wp getS s Q = Q s s := rfl
theorem wp_asB (m : M Rs) {Q : Bool → S → Prop} : Wp (asB m) s Q = Wp m s fun r s' => Ob r.1 fun b => Q b s' := by
  unfold asB
  rw [wp_bind]
  refine Wp.ext fun r s' => ?_
  obtain ⟨d, c⟩ := r
  cases d <;> rfl
theorem wp_ofB (m : M Bool) {Q : Rs → S → Prop} : Wp (ofB m) s Q = Wp m s fun b s' => Q (.bl b, false) s' := by
  unfold ofB
  rw [wp_bind]
  rfl
theorem wp_dat (m : M Rs) {Q : D → S → Prop} : Wp (dat m) s Q = Wp m s fun r s' => Q r.1 s' := by
  unfold dat
  rw [wp_bind]
  rfl
theorem wp_opd (m : M Rs) {Q : Opd → S → Prop} : Wp (opd m) s Q = Wp m s fun r s' => Q (.val r.1) s' := by
  unfold opd
  rw [wp_bind, wp_dat]
  rfl
theorem wp_slotOpd (i : Nat) (ρ : List Slot) (st : List SO) {Q : Opd → S → Prop} : Wp (slotOpd i) ⟨ρ, st⟩ Q = Sl ρ[i]? (fun d => Q (.slot i) ⟨ρ, st⟩) (fun d => Q (.slot i) ⟨ρ, st⟩) := by
  unfold Wp slotOpd
  dsimp only
  cases ρ[i]? with
  | none => rfl
  | some x => cases x <;> rfl
theorem wp_rdSlot (i : Nat) (ρ : List Slot) (st : List SO) {Q : D → S → Prop} : Wp (rdSlot i) ⟨ρ, st⟩ Q = Sl ρ[i]? (fun d => Q d ⟨ρ, st⟩) (fun d => Q d ⟨ρ, st⟩) := by
  unfold Wp rdSlot
  dsimp only
  cases ρ[i]? with
  | none => rfl
  | some x => cases x <;> rfl
theorem wp_rdVar (i : Nat) (ρ : List Slot) (st : List SO) {Q : Rs → S → Prop} : Wp (rdVar i) ⟨ρ, st⟩ Q = Sl ρ[i]? (fun d => Q (d, false) ⟨ρ, st⟩) (fun d => Q (d, false) ⟨ρ.set i (.pu d), st⟩) := by
  unfold Wp rdVar
  dsimp only
  cases ρ[i]? with
  | none => rfl
  | some x => cases x <;> rfl
theorem wp_rdRet (i : Nat) (ρ : List Slot) (st : List SO) {Q : Rs → S → Prop} : Wp (rdRet i) ⟨ρ, st⟩ Q = Sl ρ[i]? (fun d => Q (d, false) ⟨ρ, st⟩) (fun d => Q (d, true) ⟨ρ, st⟩) := by
  unfold Wp rdRet
  dsimp only
  cases ρ[i]? with
  | none => rfl
  | some x => cases x <;> rfl
theorem wp_resV (d : D) {Q : D → S → Prop} : Wp (res (.val d)) s Q = Q d s := rfl
theorem wp_resS (i : Nat) {Q : D → S → Prop} : Wp (res (.slot i)) s Q = Wp (rdSlot i) s Q := rfl
theorem wp_ress0 {Q : List D → S → Prop} : Wp (ress []) s Q = Q [] s := rfl
theorem wp_ress (o : Opd) (os : List Opd) {Q : List D → S → Prop} : Wp (ress (o :: os)) s Q = Wp (res o) s fun d s' => Wp (ress os) s' fun ds s'' => Q (d :: ds) s'' := by
  show Wp (res o >>= fun d => ress os >>= fun ds => Pure.pure (d :: ds)) s Q = _
  rw [wp_bind]
  refine Wp.ext fun a s' => ?_
  rw [wp_bind]
  rfl
theorem wp_setρ (i : Nat) (x : Slot) (ρ : List Slot) (st : List SO) {Q : Unit → S → Prop} : Wp (setρ i x) ⟨ρ, st⟩ Q = (i < ρ.length ∧ Q () ⟨ρ.set i x, st⟩) := by
  unfold Wp setρ
  by_cases h : i < ρ.length
  · simp [h]
  · simp [h]
theorem wp_setR (i : Nat) (r : Rs) (ρ : List Slot) (st : List SO) {Q : Unit → S → Prop} : Wp (setR i r) ⟨ρ, st⟩ Q = (i < ρ.length ∧ Q () ⟨ρ.set i (if r.2 = true then .ow r.1 else .pu r.1), st⟩) := wp_setρ _ _ _ _
theorem wp_call (os : List Opd) (r : R) (ρ : List Slot) (st : List SO) {Q : Rs → S → Prop} : Wp (afterCall os r) ⟨ρ, st⟩ Q = Rp r fun a st' => Q a ⟨if (still a.1 && st'.all stillSO) = true then ρ else letgo ρ os, st'⟩ := by
  unfold Wp afterCall Rp
  cases r with
  | ok a st' =>
    dsimp only
    by_cases h : (still a.1 && st'.all stillSO) = true
    · rw [if_pos h, if_pos h]
    · rw [if_neg h, if_neg h]
  | exc c fs st' => rfl
  | bad => rfl
theorem wp_bindNm (i : Nat) (d : D) {Q : Unit → S → Prop} : Wp (bindT (.nm i) d) s Q = Wp (setρ i (.pu d)) s Q := by
  unfold bindT
  rfl
theorem wp_for0 {tg : Tg} {body : M Flow} {Q : Flow → S → Prop} : Wp (forLoop tg body []) s Q = Q .nx s := rfl
theorem wp_for {tg : Tg} {body : M Flow} {x : D} {xs : List D} {Q : Flow → S → Prop} : Wp (forLoop tg body (x :: xs)) s Q = Wp (bindT tg x) s fun _ s1 => Wp body s1 fun f s2 => (match f with
    | .nx => Wp (forLoop tg body xs) s2 Q
    | .cont => Wp (forLoop tg body xs) s2 Q
    | .brk => Q .nx s2
    | .ret r => Q (.ret r) s2) := by
  show Wp (bindT tg x >>= fun _ => body >>= fun f => (match f with
      | .nx => forLoop tg body xs
      | .cont => forLoop tg body xs
      | .brk => Pure.pure .nx
      | .ret r => Pure.pure (.ret r))) s Q = _
  rw [wp_bind]
  refine Wp.ext fun _ s1 => ?_
  rw [wp_bind]
  refine Wp.ext fun f s2 => ?_
  cases f <;> rfl
/-- a loop whose turns keep I and break nowhere -/
theorem wp_for_inv {tg : Tg} {body : M Flow} {Q : Flow → S → Prop} (I : S → Prop) : ∀ {xs : List D} {s : S}, I s → (∀ x ∈ xs, ∀ s, I s → Wp (bindT tg x) s fun _ s1 => Wp body s1 fun f s2 => (f = .nx ∨ f = .cont) ∧ I s2) → (∀ s, I s → Q .nx s) → Wp (forLoop tg body xs) s Q
  | [], s, h, _, hq => hq s h
  | x :: xs, s, h, hs, hq => by
    rw [wp_for]
    refine (hs x List.mem_cons_self s h).mono fun _ s1 h1 => h1.mono fun f s2 ⟨hf, h2⟩ => ?_
    rcases hf with rfl | rfl
    · exact wp_for_inv I h2 (fun y hy => hs y (List.mem_cons_of_mem _ hy)) hq
    · exact wp_for_inv I h2 (fun y hy => hs y (List.mem_cons_of_mem _ hy)) hq
theorem rp_run (cl : CallT) (wf : Nat) (f : FnD) (ds : List D) (st : List SO) (Q : Rs → List SO → Prop) (h : ds.length = f.np) : Rp (runFn cl wf f ds st) Q = Wp (execs cl wf f.body) ⟨ds.map .pu ++ List.replicate (f.n - f.np) .un, st⟩ (endQ Q) := by
  unfold runFn
  rw [if_pos h]
  unfold Wp Rp
  cases e : execs cl wf f.body ⟨ds.map .pu ++ List.replicate (f.n - f.np) .un, st⟩ with
  | bad => rfl
  | exc c fs s => rfl
  | ok fl s => cases fl <;> rfl
theorem wp_setAtO (i n : Nat) (ds : List D) (z : Int) (d : D) (ρ : List Slot) (st : List SO) {Q : Unit → S → Prop} (h1 : ρ[i]? = some (.pu (.obj n))) (h2 : st[n]? = some (.lst ds)) : Wp (setAt (.slot i) (.int z) d) ⟨ρ, st⟩ Q = Op (ixN ds.length z) fun j => Q () ⟨ρ, st.set n (.lst (ds.set j d))⟩ := by
  unfold Wp setAt
  dsimp only
  rw [h1]
  dsimp only
  rw [h2]
  dsimp only
  cases ixN ds.length z <;> rfl
theorem wp_setAtL (i : Nat) (ds : List D) (z : Int) (d : D) (ρ : List Slot) (st : List SO) {Q : Unit → S → Prop} (h1 : ρ[i]? = some (.ow (.lst ds))) : Wp (setAt (.slot i) (.int z) d) ⟨ρ, st⟩ Q = Op (ixN ds.length z) fun j => Q () ⟨ρ.set i (.ow (.lst (ds.set j d))), st⟩ := by
  unfold Wp setAt
  dsimp only
  rw [h1]
  dsimp only
  cases ixN ds.length z <;> rfl
/-- the list at a slot, owned or shared -/
def Al (x : Option Slot) (st : List SO) (O P : List D → Nat → Prop) (_ : Fx (O, P) := ⟨⟩) : Prop := match x with
  | some (.ow (.lst ds)) => O ds 0
  | some (.pu (.obj n)) => (match st[n]? with
    | some (.lst ds) => P ds n
    | _ => False)
  | _ => False
def So (x : Option SO) (P : List D → Prop) (_ : Fx P := ⟨⟩) : Prop := match x with
  | some (.lst ds) => P ds
  | _ => False
theorem so_lst (ds : List D) (P : List D → Prop) : So (some (.lst ds)) P = P ds := rfl
theorem al_ow (ds : List D) (st : List SO) (O P : List D → Nat → Prop) : Al (some (.ow (.lst ds))) st O P = O ds 0 := rfl
theorem al_obj (n : Nat) (st : List SO) (O P : List D → Nat → Prop) : Al (some (.pu (.obj n))) st O P = So st[n]? fun ds => P ds n := rfl
theorem wp_setAt (i : Nat) (z : D) (d : D) (ρ : List Slot) (st : List SO) {Q : Unit → S → Prop} : Wp (setAt (.slot i) z d) ⟨ρ, st⟩ Q = Al ρ[i]? st (fun ds _ => Oi z fun z => Op (ixN ds.length z) fun j => Q () ⟨ρ.set i (.ow (.lst (ds.set j d))), st⟩) (fun ds n => Oi z fun z => Op (ixN ds.length z) fun j => Q () ⟨ρ, st.set n (.lst (ds.set j d))⟩) := by
  cases e : ρ[i]? with
  | none => unfold Wp setAt; dsimp only; rw [e]; rfl
  | some x =>
    cases x with
    | un => unfold Wp setAt; dsimp only; rw [e]; rfl
    | ow y =>
      cases y with
      | lst ds =>
        cases z with
        | int z => rw [wp_setAtL i ds z d ρ st e]; rfl
        | _ => unfold Wp setAt; dsimp only; rw [e]; rfl
      | _ => unfold Wp setAt; dsimp only; rw [e]; rfl
    | pu y =>
      cases y with
      | obj n =>
        rw [al_obj]
        cases e2 : st[n]? with
        | none => unfold Wp setAt; dsimp only; rw [e]; dsimp only; rw [e2]; rfl
        | some so =>
          cases so with
          | lst ds =>
            cases z with
            | int z => rw [wp_setAtO i n ds z d ρ st e e2]; rfl
            | _ => unfold Wp setAt; dsimp only; rw [e]; dsimp only; rw [e2]; rfl
          | ins c fs => unfold Wp setAt; dsimp only; rw [e]; dsimp only; rw [e2]; rfl
      | _ => unfold Wp setAt; dsimp only; rw [e]; rfl
end
end Z

/-! Z20: the plain side: small laws for stepping. -/
namespace Z
open PySem PySem.Spec PyProof.Rows L2
theorem ixN_at {n : Nat} {i : Int} (h0 : 0 ≤ i) (h1 : i < n) : ixN n i = some i.toNat := by
  unfold ixN
  rw [if_pos h0, if_pos h1]
theorem atI_0 {α : Type} (a : α) (xs : List α) : atI (a :: xs) 0 = some a := by
  unfold atI
  rw [ixN_at (by omega) (by first | (simp; done) | (simp; omega))]
  rfl
theorem atI_1 {α : Type} (a b : α) (xs : List α) : atI (a :: b :: xs) 1 = some b := by
  unfold atI
  rw [ixN_at (by omega) (by first | (simp; done) | (simp; omega))]
  rfl
theorem atI_2 {α : Type} (a b c : α) (xs : List α) : atI (a :: b :: c :: xs) 2 = some c := by
  unfold atI
  rw [ixN_at (by omega) (by first | (simp; done) | (simp; omega))]
  rfl
theorem atI_3 {α : Type} (a b c d : α) (xs : List α) : atI (a :: b :: c :: d :: xs) 3 = some d := by
  unfold atI
  rw [ixN_at (by omega) (by first | (simp; done) | (simp; omega))]
  rfl
theorem atI_in {α : Type} (xs : List α) {i : Int} (h0 : 0 ≤ i) (h1 : i < xs.length) : ∃ a, atI xs i = some a ∧ a ∈ xs := by
  unfold atI
  rw [ixN_at h0 h1]
  have h : i.toNat < xs.length := by omega
  exact ⟨xs[i.toNat], by simp [h], List.getElem_mem h⟩
theorem ixN_3_1 : ixN 3 1 = some 1 := rfl
theorem ixN_3_2 : ixN 3 2 = some 2 := rfl
theorem ixN_3_0 : ixN 3 0 = some 0 := rfl
theorem ex_ite {α : Type} (c : Prop) [Decidable c] (x : α) (Q : α → Prop) : (∃ a, (if c then some x else none) = some a ∧ Q a) = (c ∧ Q x) := by
  by_cases h : c <;> simp [h]
theorem mulOk_l {i j : Int} (h : i.natAbs < 2 ^ 64) : mulOk i j = true := by
  unfold mulOk
  rw [decide_eq_true h]
  rfl
theorem eq_ii (i j : Int) : eqD (.int i) (.int j) = decide (i = j) := by
  show PyData.eqv (.int i) (.int j) = _
  unfold PyData.eqv
  rfl
theorem eq_bb (i j : Bool) : eqD (.bl i) (.bl j) = decide (i = j) := by
  show PyData.eqv (.bool i) (.bool j) = _
  cases i <;> cases j <;> rfl
theorem fit_i (i : Int) : fitD (.int i) = true := rfl
theorem fit_b (i : Bool) : fitD (.bl i) = true := by cases i <;> rfl
theorem fit_n : fitD .none = true := rfl
theorem fit_s (s : Str) : fitD (.str s) = PyData.strOk s := by
  show (PyData.strOk s && decide ((toP (.str s)).depth ≤ 60)) = _
  have : (toP (.str s)).depth ≤ 60 := by show PyData.depth (.str s) ≤ 60; unfold PyData.depth; omega
  rw [decide_eq_true this]
  simp
end Z

/-! Z21: the plain side: each construct's own law. -/
namespace Z
open PySem PySem.Spec PyProof.Rows L2
section
variable {cl : CallT} {wf : Nat} {s : S} {Q : Rs → S → Prop} {P : Flow → S → Prop}
theorem Op.ext {α : Type} {o : Option α} {Q Q' : α → Prop} (h : ∀ a, Q a = Q' a) : Op o Q = Op o Q' := by
  have e : Q = Q' := funext h
  subst e
  rfl
theorem Ob.ext {o : D} {Q Q' : Bool → Prop} (h : ∀ a, Q a = Q' a) : Ob o Q = Ob o Q' := by
  have e : Q = Q' := funext h
  subst e
  rfl
theorem two_imp {a b p p' q q' : Prop} (h : p = p') (h' : q = q') : ((a → p) ∧ (b → q)) = ((a → p') ∧ (b → q')) := by rw [h, h']
theorem wp_pif {α : Type} {s : S} {Q : α → S → Prop} (c : Prop) [Decidable c] (m m' : M α) : Wp (if c then m else m') s Q = ((c → Wp m s Q) ∧ (¬ c → Wp m' s Q)) := by
  by_cases h : c <;> simp [h]
theorem wp_blk (own : List Nat) (m : M (List D)) (ρ : List Slot) (st : List SO) : Wp (blk own (calm m)) ⟨ρ, st⟩ Q = Wp m ⟨ρ, st⟩ fun ds s' => Q (.lst ds, true) ⟨unwipe own ρ s'.ρ, s'.st⟩ := by
  unfold Wp blk calm
  dsimp only
  cases m ⟨ρ, st⟩ <;> rfl
theorem wp_wipe (own : List Nat) (ρ : List Slot) (st : List SO) {Q : Unit → S → Prop} : Wp (wipeS own) ⟨ρ, st⟩ Q = Q () ⟨own.foldr (fun i ρ => ρ.set i .un) ρ, st⟩ := rfl
theorem wp_tick (acc : List D) (y : D) {Q : List D → S → Prop} : Wp (tick acc y) s Q = (acc.length < line ∧ Q (acc ++ [y]) s) := by
  unfold tick
  by_cases h : acc.length < line
  · rw [if_pos h]; simp [h]; rfl
  · rw [if_neg h]; simp [h]; exact fun z => z
theorem wp_lc0 {own : List Nat} {tg : Tg} {cond : M Bool} {elt : M D} {acc : List D} {Q : List D → S → Prop} : Wp (lcLoop own tg cond elt [] acc) s Q = Q acc s := rfl
theorem wp_lc {own : List Nat} {tg : Tg} {cond : M Bool} {elt : M D} {x : D} {xs acc : List D} {Q : List D → S → Prop} : Wp (lcLoop own tg cond elt (x :: xs) acc) s Q = Wp (wipeS own) s fun _ s1 => Wp (bindT tg x) s1 fun _ s2 => Wp cond s2 fun c s3 => ((c = true → Wp elt s3 fun y s4 => (acc.length < line ∧ Wp (lcLoop own tg cond elt xs (acc ++ [y])) s4 Q)) ∧ (c = false → Wp (lcLoop own tg cond elt xs acc) s3 Q)) := by
  rw [lcLoop, wp_bind]
  refine Wp.ext fun _ _ => ?_
  rw [wp_bind]
  refine Wp.ext fun _ _ => ?_
  rw [wp_bind]
  refine Wp.ext fun _ _ => ?_
  rw [wp_ite]
  refine two_imp ?_ rfl
  rw [wp_bind]
  refine Wp.ext fun _ _ => ?_
  rw [wp_bind, wp_tick]
/-- a comprehension without a test whose turns keep I and whose items are so that J -/
theorem wp_lc_inv {own : List Nat} {tg : Tg} {elt : M D} (cond : M Bool) (hc : cond = Pure.pure true) (I : S → Prop) (J : D → Prop) (n : Nat) (hn : n ≤ line) {Q : List D → S → Prop} : ∀ {xs acc : List D} {s : S}, I s → (∀ y ∈ acc, J y) → acc.length + xs.length ≤ n → (∀ x ∈ xs, ∀ s, I s → Wp (wipeS own) s fun _ s1 => Wp (bindT tg x) s1 fun _ s2 => Wp elt s2 fun y s3 => J y ∧ I s3) → (∀ ds s, I s → (∀ y ∈ ds, J y) → ds.length = acc.length + xs.length → Q ds s) → Wp (lcLoop own tg cond elt xs acc) s Q
  | [], acc, s, h, ha, hl, _, hq => hq acc s h ha (by simp)
  | x :: xs, acc, s, h, ha, hl, hs, hq => by
    subst hc
    rw [wp_lc]
    refine (hs x List.mem_cons_self s h).mono fun _ s1 h1 => h1.mono fun _ s2 h2 => ?_
    rw [wp_pure]
    refine ⟨fun _ => h2.mono fun y s3 ⟨hy, h3⟩ => ?_, fun z => nomatch z⟩
    rw [List.length_cons] at hl
    refine ⟨by omega, wp_lc_inv _ rfl I J n hn h3 (fun z hz => ?_) (by rw [List.length_append, List.length_singleton]; omega) (fun y hy => hs y (List.mem_cons_of_mem _ hy)) fun ds s h1 h2 h3 => hq ds s h1 h2 (by rw [List.length_append, List.length_singleton] at h3; rw [List.length_cons]; omega)⟩
    rcases List.mem_append.mp hz with hz | hz
    · exact ha z hz
    · rw [List.mem_singleton.mp hz]; exact hy

theorem w_var {i : Nat} : Wp (Z.evalE cl (.var i)) s Q = Wp (rdVar i) s Q := by
  rw [Z.evalE]
  repeat' (first | rfl | refine Wp.ext fun _ _ => ?_ | refine Op.ext fun _ => ?_ | refine Ob.ext fun _ => ?_ | refine two_imp ?_ ?_ | rw [wp_bind] | rw [wp_asB] | rw [wp_ofB] | rw [wp_dat] | rw [wp_liftO] | rw [wp_stO] | rw [wp_ite] | rw [wp_pif] | rw [wp_pure])
theorem w_con {d : D} : Wp (Z.evalE cl (.con d)) s Q = Q (d, false) s := by
  rw [Z.evalE]
  repeat' (first | rfl | refine Wp.ext fun _ _ => ?_ | refine Op.ext fun _ => ?_ | refine Ob.ext fun _ => ?_ | refine two_imp ?_ ?_ | rw [wp_bind] | rw [wp_asB] | rw [wp_ofB] | rw [wp_dat] | rw [wp_liftO] | rw [wp_stO] | rw [wp_ite] | rw [wp_pif] | rw [wp_pure])
theorem w_tup {es : List Ex} : Wp (Z.evalE cl (.tup es)) s Q = Wp (Z.evalDs cl es) s fun ds s1 => ((ds.length ≤ line → Q (.tup ds, false) s1) ∧ (¬ ds.length ≤ line → Wp bad s1 Q)) := by
  rw [Z.evalE]
  repeat' (first | rfl | refine Wp.ext fun _ _ => ?_ | refine Op.ext fun _ => ?_ | refine Ob.ext fun _ => ?_ | refine two_imp ?_ ?_ | rw [wp_bind] | rw [wp_asB] | rw [wp_ofB] | rw [wp_dat] | rw [wp_liftO] | rw [wp_stO] | rw [wp_ite] | rw [wp_pif] | rw [wp_pure])
theorem w_lst {es : List Ex} : Wp (Z.evalE cl (.lst es)) s Q = Wp (Z.evalDs cl es) s fun ds s1 => ((ds.length ≤ line → Q (.lst ds, true) s1) ∧ (¬ ds.length ≤ line → Wp bad s1 Q)) := by
  rw [Z.evalE]
  repeat' (first | rfl | refine Wp.ext fun _ _ => ?_ | refine Op.ext fun _ => ?_ | refine Ob.ext fun _ => ?_ | refine two_imp ?_ ?_ | rw [wp_bind] | rw [wp_asB] | rw [wp_ofB] | rw [wp_dat] | rw [wp_liftO] | rw [wp_stO] | rw [wp_ite] | rw [wp_pif] | rw [wp_pure])
theorem w_shr {e : Ex} : Wp (Z.evalE cl (.shr e)) s Q = Wp (Z.evalE cl e) s fun r s1 => Wp (shrD r) s1 Q := by
  rw [Z.evalE]
  repeat' (first | rfl | refine Wp.ext fun _ _ => ?_ | refine Op.ext fun _ => ?_ | refine Ob.ext fun _ => ?_ | refine two_imp ?_ ?_ | rw [wp_bind] | rw [wp_asB] | rw [wp_ofB] | rw [wp_dat] | rw [wp_liftO] | rw [wp_stO] | rw [wp_ite] | rw [wp_pif] | rw [wp_pure])
theorem w_bin {op : BOp} {a b : Ex} : Wp (Z.evalE cl (.bin op a b)) s Q = Wp (opdV a (Z.evalE cl a)) s fun x s1 => Wp (opdV b (Z.evalE cl b)) s1 fun y s2 => Wp (res x) s2 fun d s3 => Wp (res y) s3 fun e s4 => Op (binD op d e) fun r => Q r s4 := by
  rw [Z.evalE]
  repeat' (first | rfl | refine Wp.ext fun _ _ => ?_ | refine Op.ext fun _ => ?_ | refine Ob.ext fun _ => ?_ | refine two_imp ?_ ?_ | rw [wp_bind] | rw [wp_asB] | rw [wp_ofB] | rw [wp_dat] | rw [wp_liftO] | rw [wp_stO] | rw [wp_ite] | rw [wp_pif] | rw [wp_pure])
theorem w_cmp {op : COp} {a b : Ex} : Wp (Z.evalE cl (.cmp op a b)) s Q = Wp (opdV a (Z.evalE cl a)) s fun x s1 => Wp (opdV b (Z.evalE cl b)) s1 fun y s2 => Wp (res x) s2 fun d s3 => Wp (res y) s3 fun e s4 => Op (cmpD op d e) fun r => Q (.bl r, false) s4 := by
  rw [Z.evalE]
  repeat' (first | rfl | refine Wp.ext fun _ _ => ?_ | refine Op.ext fun _ => ?_ | refine Ob.ext fun _ => ?_ | refine two_imp ?_ ?_ | rw [wp_bind] | rw [wp_asB] | rw [wp_ofB] | rw [wp_dat] | rw [wp_liftO] | rw [wp_stO] | rw [wp_ite] | rw [wp_pif] | rw [wp_pure])
theorem w_idx {a b : Ex} : Wp (Z.evalE cl (.idx a b)) s Q = Wp (opdV a (Z.evalE cl a)) s fun x s1 => Wp (opdV b (Z.evalE cl b)) s1 fun y s2 => Wp (res x) s2 fun d s3 => Wp (res y) s3 fun e s4 => Op (idxD s4.st d e) fun r => Q (r, false) s4 := by
  rw [Z.evalE]
  repeat' (first | rfl | refine Wp.ext fun _ _ => ?_ | refine Op.ext fun _ => ?_ | refine Ob.ext fun _ => ?_ | refine two_imp ?_ ?_ | rw [wp_bind] | rw [wp_asB] | rw [wp_ofB] | rw [wp_dat] | rw [wp_liftO] | rw [wp_stO] | rw [wp_ite] | rw [wp_pif] | rw [wp_pure])
theorem w_cmp2 {op op2 : COp} {a b c : Ex} : Wp (Z.evalE cl (.cmp2 op op2 a b c)) s Q = Wp (Z.evalE cl a) s fun d s1 => Wp (Z.evalE cl b) s1 fun e s2 => Op (cmpD op d.1 e.1) fun c1 => ((c1 = true → Wp (Z.evalE cl c) s2 fun f s3 => Op (cmpD op2 e.1 f.1) fun c2 => Q (.bl c2, false) s3) ∧ (c1 = false → Q (.bl false, false) s2)) := by
  rw [Z.evalE]
  repeat' (first | rfl | refine Wp.ext fun _ _ => ?_ | refine Op.ext fun _ => ?_ | refine Ob.ext fun _ => ?_ | refine two_imp ?_ ?_ | rw [wp_bind] | rw [wp_asB] | rw [wp_ofB] | rw [wp_dat] | rw [wp_liftO] | rw [wp_stO] | rw [wp_ite] | rw [wp_pif] | rw [wp_pure])
theorem w_and2 {a b : Ex} : Wp (Z.evalE cl (.and2 a b)) s Q = Wp (Z.evalE cl a) s fun r s1 => Ob r.1 fun c => ((c = true → Wp (Z.evalE cl b) s1 fun r s2 => Ob r.1 fun b => Q (.bl b, false) s2) ∧ (c = false → Q (.bl false, false) s1)) := by
  rw [Z.evalE]
  repeat' (first | rfl | refine Wp.ext fun _ _ => ?_ | refine Op.ext fun _ => ?_ | refine Ob.ext fun _ => ?_ | refine two_imp ?_ ?_ | rw [wp_bind] | rw [wp_asB] | rw [wp_ofB] | rw [wp_dat] | rw [wp_liftO] | rw [wp_stO] | rw [wp_ite] | rw [wp_pif] | rw [wp_pure])
theorem w_or2 {a b : Ex} : Wp (Z.evalE cl (.or2 a b)) s Q = Wp (Z.evalE cl a) s fun r s1 => Ob r.1 fun c => ((c = true → Q (.bl true, false) s1) ∧ (c = false → Wp (Z.evalE cl b) s1 fun r s2 => Ob r.1 fun b => Q (.bl b, false) s2)) := by
  rw [Z.evalE]
  repeat' (first | rfl | refine Wp.ext fun _ _ => ?_ | refine Op.ext fun _ => ?_ | refine Ob.ext fun _ => ?_ | refine two_imp ?_ ?_ | rw [wp_bind] | rw [wp_asB] | rw [wp_ofB] | rw [wp_dat] | rw [wp_liftO] | rw [wp_stO] | rw [wp_ite] | rw [wp_pif] | rw [wp_pure])
theorem w_not1 {a : Ex} : Wp (Z.evalE cl (.not1 a)) s Q = Wp (Z.evalE cl a) s fun r s1 => Ob r.1 fun c => Q (.bl (!c), false) s1 := by
  rw [Z.evalE]
  repeat' (first | rfl | refine Wp.ext fun _ _ => ?_ | refine Op.ext fun _ => ?_ | refine Ob.ext fun _ => ?_ | refine two_imp ?_ ?_ | rw [wp_bind] | rw [wp_asB] | rw [wp_ofB] | rw [wp_dat] | rw [wp_liftO] | rw [wp_stO] | rw [wp_ite] | rw [wp_pif] | rw [wp_pure])
theorem w_ife {c a b : Ex} : Wp (Z.evalE cl (.ife c a b)) s Q = Wp (Z.evalE cl c) s fun r s1 => Ob r.1 fun t => ((t = true → Wp (Z.evalE cl a) s1 Q) ∧ (t = false → Wp (Z.evalE cl b) s1 Q)) := by
  rw [Z.evalE]
  repeat' (first | rfl | refine Wp.ext fun _ _ => ?_ | refine Op.ext fun _ => ?_ | refine Ob.ext fun _ => ?_ | refine two_imp ?_ ?_ | rw [wp_bind] | rw [wp_asB] | rw [wp_ofB] | rw [wp_dat] | rw [wp_liftO] | rw [wp_stO] | rw [wp_ite] | rw [wp_pif] | rw [wp_pure])
theorem w_sli {a : Ex} {lo hi : Option Ex} : Wp (Z.evalE cl (.sli a lo hi)) s Q = Wp (opdV a (Z.evalE cl a)) s fun x s1 => Wp (Z.evalPart cl lo) s1 fun l s2 => Wp (Z.evalPart cl hi) s2 fun h s3 => Wp (res x) s3 fun d s4 => Op (sliD d l h) fun r => Q r s4 := by
  rw [Z.evalE]
  repeat' (first | rfl | refine Wp.ext fun _ _ => ?_ | refine Op.ext fun _ => ?_ | refine Ob.ext fun _ => ?_ | refine two_imp ?_ ?_ | rw [wp_bind] | rw [wp_asB] | rw [wp_ofB] | rw [wp_dat] | rw [wp_liftO] | rw [wp_stO] | rw [wp_ite] | rw [wp_pif] | rw [wp_pure])
theorem w_call {f : Nat} {es : List Ex} : Wp (Z.evalE cl (.call f es)) s Q = Wp (Z.evalOs cl es) s fun os s1 => Wp (ress os) s1 fun ds s2 => Wp (afterCall os (cl f ds s2.st)) s2 Q := by
  rw [Z.evalE]
  repeat' (first | rfl | refine Wp.ext fun _ _ => ?_ | refine Op.ext fun _ => ?_ | refine Ob.ext fun _ => ?_ | refine two_imp ?_ ?_ | rw [wp_bind] | rw [wp_asB] | rw [wp_ofB] | rw [wp_dat] | rw [wp_liftO] | rw [wp_stO] | rw [wp_ite] | rw [wp_pif] | rw [wp_pure])
theorem w_blt {b : Blt} {es : List Ex} : Wp (Z.evalE cl (.blt b es)) s Q = Wp (Z.evalOs cl es) s fun os s1 => Wp (ress os) s1 fun ds s2 => Op (bltD s2.st b ds) fun r => Q r s2 := by
  rw [Z.evalE]
  repeat' (first | rfl | refine Wp.ext fun _ _ => ?_ | refine Op.ext fun _ => ?_ | refine Ob.ext fun _ => ?_ | refine two_imp ?_ ?_ | rw [wp_bind] | rw [wp_asB] | rw [wp_ofB] | rw [wp_dat] | rw [wp_liftO] | rw [wp_stO] | rw [wp_ite] | rw [wp_pif] | rw [wp_pure])
theorem w_isi {ts : List Ty} {a : Ex} : Wp (Z.evalE cl (.isi ts a)) s Q = Wp (opdV a (Z.evalE cl a)) s fun x s1 => Wp (res x) s1 fun d s2 => Op (isiD ts d) fun b => Q (.bl b, false) s2 := by
  rw [Z.evalE]
  repeat' (first | rfl | refine Wp.ext fun _ _ => ?_ | refine Op.ext fun _ => ?_ | refine Ob.ext fun _ => ?_ | refine two_imp ?_ ?_ | rw [wp_bind] | rw [wp_asB] | rw [wp_ofB] | rw [wp_dat] | rw [wp_liftO] | rw [wp_stO] | rw [wp_ite] | rw [wp_pif] | rw [wp_pure])
theorem w_lc {elt : Ex} {tg : Tg} {ik : IK} {src conds : List Ex} {own : List Nat} : Wp (Z.evalE cl (.lc elt tg ik src conds own)) s Q = Wp (Z.evalDs cl src) s fun ds s1 => Op (itemsD ik ds) fun xs => Wp (blk own (calm (lcLoop own tg (Z.evalCs cl conds) (dat (Z.evalE cl elt)) xs []))) s1 Q := by
  rw [Z.evalE]
  repeat' (first | rfl | refine Wp.ext fun _ _ => ?_ | refine Op.ext fun _ => ?_ | refine Ob.ext fun _ => ?_ | refine two_imp ?_ ?_ | rw [wp_bind] | rw [wp_asB] | rw [wp_ofB] | rw [wp_dat] | rw [wp_liftO] | rw [wp_stO] | rw [wp_ite] | rw [wp_pif] | rw [wp_pure])
theorem w_popk {i : Nat} {k : Ex} : Wp (Z.evalE cl (.popk i k)) s Q = Wp (ownL i) s fun _ s1 => Wp (Z.evalE cl k) s1 fun d s2 => Wp (popAt i d.1) s2 Q := by
  rw [Z.evalE]
  repeat' (first | rfl | refine Wp.ext fun _ _ => ?_ | refine Op.ext fun _ => ?_ | refine Ob.ext fun _ => ?_ | refine two_imp ?_ ?_ | rw [wp_bind] | rw [wp_asB] | rw [wp_ofB] | rw [wp_dat] | rw [wp_liftO] | rw [wp_stO] | rw [wp_ite] | rw [wp_pif] | rw [wp_pure])
theorem w_popl {i : Nat} : Wp (Z.evalE cl (.popl i)) s Q = Wp (ownL i) s fun _ s1 => Wp (popLast i) s1 Q := by
  rw [Z.evalE]
  repeat' (first | rfl | refine Wp.ext fun _ _ => ?_ | refine Op.ext fun _ => ?_ | refine Ob.ext fun _ => ?_ | refine two_imp ?_ ?_ | rw [wp_bind] | rw [wp_asB] | rw [wp_ofB] | rw [wp_dat] | rw [wp_liftO] | rw [wp_stO] | rw [wp_ite] | rw [wp_pif] | rw [wp_pure])
def Nn (d : D) (P : Prop) (Q : Prop) (_ : Fx (P, Q) := ⟨⟩) : Prop := match d with
  | .none => P
  | _ => Q
theorem nn_none (P Q : Prop) : Nn .none P Q = P := rfl
theorem nn_int (i : Int) (P Q : Prop) : Nn (.int i) P Q = Q := rfl
theorem nn_bl (i : Bool) (P Q : Prop) : Nn (.bl i) P Q = Q := rfl
theorem nn_str (i : Str) (P Q : Prop) : Nn (.str i) P Q = Q := rfl
theorem nn_tup (i : List D) (P Q : Prop) : Nn (.tup i) P Q = Q := rfl
theorem nn_lst (i : List D) (P Q : Prop) : Nn (.lst i) P Q = Q := rfl
theorem w_isN {no : Bool} {a : Ex} : Wp (Z.evalE cl (.isN no a)) s Q = Wp (opdV a (Z.evalE cl a)) s fun x s1 => Wp (res x) s1 fun d s2 => Nn d (Q (.bl (!no), false) s2) (Q (.bl no, false) s2) := by
  rw [Z.evalE, wp_bind]
  refine Wp.ext fun x s1 => ?_
  rw [wp_bind]
  refine Wp.ext fun d s2 => ?_
  cases d <;> rfl
theorem w_neg {a : Ex} : Wp (Z.evalE cl (.neg a)) s Q = Wp (Z.evalE cl a) s fun r s1 => Oi r.1 fun i => Q (.int (-i), false) s1 := by
  rw [Z.evalE, wp_bind, wp_dat]
  refine Wp.ext fun x s1 => ?_
  obtain ⟨d, b⟩ := x
  cases d <;> rfl
def Ol (d : D) (Q : List D → Prop) (_ : Fx Q := ⟨⟩) : Prop := match d with
  | .lst ds => Q ds
  | _ => False
theorem ol_lst (ds : List D) (Q : List D → Prop) : Ol (.lst ds) Q = Q ds := rfl
theorem w_rev {a : Ex} : Wp (Z.evalE cl (.rev a)) s Q = Wp (opdV a (Z.evalE cl a)) s fun x s1 => Wp (res x) s1 fun d s2 => Ol d fun ds => Q (.lst ds.reverse, true) s2 := by
  rw [Z.evalE, wp_bind]
  refine Wp.ext fun x s1 => ?_
  rw [wp_bind]
  refine Wp.ext fun d s2 => ?_
  cases d <;> rfl
theorem w_part1 {e : Ex} {Q : Option Int → S → Prop} : Wp (Z.evalPart cl (some e)) s Q = Wp (Z.evalE cl e) s fun r s1 => Oi r.1 fun i => Q (some i) s1 := by
  rw [Z.evalPart, wp_bind, wp_dat]
  refine Wp.ext fun x s1 => ?_
  obtain ⟨d, b⟩ := x
  cases d <;> rfl
theorem w_part0 {Q : Option Int → S → Prop} : Wp (Z.evalPart cl none) s Q = Q none s := rfl
theorem w_ds0 {Q : List D → S → Prop} : Wp (Z.evalDs cl []) s Q = Q [] s := rfl
theorem w_ds {e : Ex} {es : List Ex} {Q : List D → S → Prop} : Wp (Z.evalDs cl (e :: es)) s Q = Wp (Z.evalE cl e) s fun r s1 => Wp (Z.evalDs cl es) s1 fun ds s2 => Q (r.1 :: ds) s2 := by
  rw [Z.evalDs]
  repeat' (first | rfl | refine Wp.ext fun _ _ => ?_ | refine Op.ext fun _ => ?_ | refine Ob.ext fun _ => ?_ | refine two_imp ?_ ?_ | rw [wp_bind] | rw [wp_asB] | rw [wp_ofB] | rw [wp_dat] | rw [wp_liftO] | rw [wp_stO] | rw [wp_ite] | rw [wp_pif] | rw [wp_pure])
theorem w_os0 {Q : List Opd → S → Prop} : Wp (Z.evalOs cl []) s Q = Q [] s := rfl
theorem w_os {e : Ex} {es : List Ex} {Q : List Opd → S → Prop} : Wp (Z.evalOs cl (e :: es)) s Q = Wp (opdV e (Z.evalE cl e)) s fun r s1 => Wp (Z.evalOs cl es) s1 fun ds s2 => Q (r :: ds) s2 := by
  rw [Z.evalOs]
  repeat' (first | rfl | refine Wp.ext fun _ _ => ?_ | refine Op.ext fun _ => ?_ | refine Ob.ext fun _ => ?_ | refine two_imp ?_ ?_ | rw [wp_bind] | rw [wp_asB] | rw [wp_ofB] | rw [wp_dat] | rw [wp_liftO] | rw [wp_stO] | rw [wp_ite] | rw [wp_pif] | rw [wp_pure])
theorem w_cs0 {Q : Bool → S → Prop} : Wp (Z.evalCs cl []) s Q = Q true s := rfl
theorem w_cs {e : Ex} {es : List Ex} {Q : Bool → S → Prop} : Wp (Z.evalCs cl (e :: es)) s Q = Wp (Z.evalE cl e) s fun r s1 => Ob r.1 fun c => ((c = true → Wp (Z.evalCs cl es) s1 Q) ∧ (c = false → Q false s1)) := by
  rw [Z.evalCs]
  repeat' (first | rfl | refine Wp.ext fun _ _ => ?_ | refine Op.ext fun _ => ?_ | refine Ob.ext fun _ => ?_ | refine two_imp ?_ ?_ | rw [wp_bind] | rw [wp_asB] | rw [wp_ofB] | rw [wp_dat] | rw [wp_liftO] | rw [wp_stO] | rw [wp_ite] | rw [wp_pif] | rw [wp_pure])
theorem wp_shr (ds : List D) (ρ : List Slot) (st : List SO) : Wp (shrD (.lst ds, true)) ⟨ρ, st⟩ Q = Q (.obj st.length, false) ⟨ρ, st ++ [.lst ds]⟩ := rfl
theorem wp_ownL (i : Nat) (ρ : List Slot) (st : List SO) {Q : Unit → S → Prop} : Wp (ownL i) ⟨ρ, st⟩ Q = Al ρ[i]? [] (fun _ _ => Q () ⟨ρ, st⟩) (fun _ _ => False) := by
  unfold Wp ownL
  dsimp only
  cases ρ[i]? with
  | none => rfl
  | some x =>
    cases x with
    | un => rfl
    | ow d => cases d <;> rfl
    | pu d => cases d <;> rfl
theorem wp_popAt (i : Nat) (k : D) (ρ : List Slot) (st : List SO) : Wp (popAt i k) ⟨ρ, st⟩ Q = Al ρ[i]? [] (fun ds _ => Op (ixP ds.length k) fun j => Op ds[j]? fun d => Q (d, false) ⟨ρ.set i (.ow (.lst (ds.eraseIdx j))), st⟩) (fun _ _ => False) := by
  unfold Wp popAt
  dsimp only
  cases ρ[i]? with
  | none => rfl
  | some x =>
    cases x with
    | un => rfl
    | ow d =>
      cases d with
      | lst ds =>
        dsimp only
        show _ = Op (ixP ds.length k) fun j => Op ds[j]? fun d => Q (d, false) ⟨ρ.set i (.ow (.lst (ds.eraseIdx j))), st⟩
        cases ixP ds.length k with
        | none => rfl
        | some j =>
          dsimp only
          show _ = Op ds[j]? fun d => Q (d, false) ⟨ρ.set i (.ow (.lst (ds.eraseIdx j))), st⟩
          cases ds[j]? <;> rfl
      | _ => rfl
    | pu d => cases d <;> rfl
theorem wp_popLast (i : Nat) (ρ : List Slot) (st : List SO) : Wp (popLast i) ⟨ρ, st⟩ Q = Al ρ[i]? [] (fun ds _ => Op ds[ds.length - 1]? fun d => Q (d, false) ⟨ρ.set i (.ow (.lst ds.dropLast)), st⟩) (fun _ _ => False) := by
  unfold Wp popLast
  dsimp only
  cases ρ[i]? with
  | none => rfl
  | some x =>
    cases x with
    | un => rfl
    | ow d =>
      cases d with
      | lst ds =>
        dsimp only
        show _ = Op ds[ds.length - 1]? fun d => Q (d, false) ⟨ρ.set i (.ow (.lst ds.dropLast)), st⟩
        cases ds[ds.length - 1]? <;> rfl
      | _ => rfl
    | pu d => cases d <;> rfl
theorem wp_app (i : Nat) (d : D) (ρ : List Slot) (st : List SO) {Q : Unit → S → Prop} : Wp (appTo i d) ⟨ρ, st⟩ Q = Al ρ[i]? [] (fun ds _ => ds.length < line ∧ Q () ⟨ρ.set i (.ow (.lst (ds ++ [d]))), st⟩) (fun _ _ => False) := by
  unfold Wp appTo
  dsimp only
  cases ρ[i]? with
  | none => rfl
  | some x =>
    cases x with
    | un => rfl
    | ow e =>
      cases e with
      | lst ds =>
        dsimp only
        by_cases h : ds.length < line
        · simp [h, Al]
        · simp [h, Al]
      | _ => rfl
    | pu d => cases d <;> rfl
theorem wp_ins (i : Nat) (z : Int) (d : D) (ρ : List Slot) (st : List SO) {Q : Unit → S → Prop} : Wp (insTo i (.int z) d) ⟨ρ, st⟩ Q = Al ρ[i]? [] (fun ds _ => (ds.length < line ∧ 0 ≤ z ∧ z < 2 ^ 63) ∧ Q () ⟨ρ.set i (.ow (.lst (ds.take z.toNat ++ [d] ++ ds.drop z.toNat))), st⟩) (fun _ _ => False) := by
  unfold Wp insTo
  dsimp only
  cases ρ[i]? with
  | none => rfl
  | some x =>
    cases x with
    | un => rfl
    | ow e =>
      cases e with
      | lst ds =>
        dsimp only
        by_cases h : ds.length < line ∧ 0 ≤ z ∧ z < 2 ^ 63
        · rw [if_pos h]; simp only [Al]; exact propext ⟨fun q => ⟨h, q⟩, fun q => q.2⟩
        · rw [if_neg h]; simp only [Al]; exact propext ⟨fun q => q.elim, fun q => h q.1⟩
      | _ => rfl
    | pu d => cases d <;> rfl
theorem wp_bindTup (ts : List Tg) (ds : List D) {Q : Unit → S → Prop} : Wp (bindT (.tup ts) (.tup ds)) s Q = (ts.length = ds.length ∧ Wp (bindT.bindTs ts ds) s Q) := by
  unfold bindT
  by_cases h : ts.length = ds.length
  · simp [h]
  · simp [h]; exact fun z => z
theorem wp_bindTs0 {Q : Unit → S → Prop} : Wp (bindT.bindTs [] []) s Q = Q () s := by
  unfold bindT.bindTs
  rfl
theorem wp_bindTs (t : Tg) (ts : List Tg) (d : D) (ds : List D) {Q : Unit → S → Prop} : Wp (bindT.bindTs (t :: ts) (d :: ds)) s Q = Wp (bindT t d) s fun _ s1 => Wp (bindT.bindTs ts ds) s1 Q := by
  rw [bindT.bindTs, wp_bind]

theorem w_asg {i : Nat} {e : Ex} : Wp (Z.exec cl wf (.asg i e)) s P = Wp (Z.evalE cl e) s fun r s1 => Wp (setR i r) s1 fun _ s2 => P .nx s2 := by
  rw [Z.exec]
  repeat' (first | rfl | refine Wp.ext fun _ _ => ?_ | refine Op.ext fun _ => ?_ | refine Ob.ext fun _ => ?_ | refine two_imp ?_ ?_ | rw [wp_bind] | rw [wp_asB] | rw [wp_ofB] | rw [wp_dat] | rw [wp_liftO] | rw [wp_stO] | rw [wp_ite] | rw [wp_pif] | rw [wp_pure])
theorem w_asgT {ts : List Tg} {e : Ex} : Wp (Z.exec cl wf (.asgT ts e)) s P = Wp (Z.evalE cl e) s fun r s1 => Wp (bindT (.tup ts) r.1) s1 fun _ s2 => P .nx s2 := by
  rw [Z.exec]
  repeat' (first | rfl | refine Wp.ext fun _ _ => ?_ | refine Op.ext fun _ => ?_ | refine Ob.ext fun _ => ?_ | refine two_imp ?_ ?_ | rw [wp_bind] | rw [wp_asB] | rw [wp_ofB] | rw [wp_dat] | rw [wp_liftO] | rw [wp_stO] | rw [wp_ite] | rw [wp_pif] | rw [wp_pure])
theorem w_aug {op : BOp} {i : Nat} {e : Ex} : Wp (Z.exec cl wf (.aug op i e)) s P = Wp (rdSlot i) s fun d s1 => Wp (Z.evalE cl e) s1 fun r s2 => Op (augD op d r.1) fun x => Wp (setρ i (.pu x)) s2 fun _ s3 => P .nx s3 := by
  rw [Z.exec]
  repeat' (first | rfl | refine Wp.ext fun _ _ => ?_ | refine Op.ext fun _ => ?_ | refine Ob.ext fun _ => ?_ | refine two_imp ?_ ?_ | rw [wp_bind] | rw [wp_asB] | rw [wp_ofB] | rw [wp_dat] | rw [wp_liftO] | rw [wp_stO] | rw [wp_ite] | rw [wp_pif] | rw [wp_pure])
theorem w_setI {o k e : Ex} : Wp (Z.exec cl wf (.setI o k e)) s P = Wp (Z.evalE cl e) s fun r s1 => Wp (opdV o (Z.evalE cl o)) s1 fun x s2 => Wp (Z.evalE cl k) s2 fun z s3 => Wp (setAt x z.1 r.1) s3 fun _ s4 => P .nx s4 := by
  rw [Z.exec]
  repeat' (first | rfl | refine Wp.ext fun _ _ => ?_ | refine Op.ext fun _ => ?_ | refine Ob.ext fun _ => ?_ | refine two_imp ?_ ?_ | rw [wp_bind] | rw [wp_asB] | rw [wp_ofB] | rw [wp_dat] | rw [wp_liftO] | rw [wp_stO] | rw [wp_ite] | rw [wp_pif] | rw [wp_pure])
theorem w_app {i : Nat} {e : Ex} : Wp (Z.exec cl wf (.app i e)) s P = Wp (ownL i) s fun _ s1 => Wp (Z.evalE cl e) s1 fun r s2 => Wp (appTo i r.1) s2 fun _ s3 => P .nx s3 := by
  rw [Z.exec]
  repeat' (first | rfl | refine Wp.ext fun _ _ => ?_ | refine Op.ext fun _ => ?_ | refine Ob.ext fun _ => ?_ | refine two_imp ?_ ?_ | rw [wp_bind] | rw [wp_asB] | rw [wp_ofB] | rw [wp_dat] | rw [wp_liftO] | rw [wp_stO] | rw [wp_ite] | rw [wp_pif] | rw [wp_pure])
theorem w_ins {i : Nat} {k e : Ex} : Wp (Z.exec cl wf (.ins i k e)) s P = Wp (ownL i) s fun _ s1 => Wp (Z.evalE cl k) s1 fun z s2 => Wp (Z.evalE cl e) s2 fun r s3 => Wp (insTo i z.1 r.1) s3 fun _ s4 => P .nx s4 := by
  rw [Z.exec]
  repeat' (first | rfl | refine Wp.ext fun _ _ => ?_ | refine Op.ext fun _ => ?_ | refine Ob.ext fun _ => ?_ | refine two_imp ?_ ?_ | rw [wp_bind] | rw [wp_asB] | rw [wp_ofB] | rw [wp_dat] | rw [wp_liftO] | rw [wp_stO] | rw [wp_ite] | rw [wp_pif] | rw [wp_pure])
theorem w_ext {i : Nat} {e : Ex} : Wp (Z.exec cl wf (.ext i e)) s P = Wp (ownL i) s fun _ s1 => Wp (Z.evalE cl e) s1 fun r s2 => Wp (extTo i r.1) s2 fun _ s3 => P .nx s3 := by
  rw [Z.exec]
  repeat' (first | rfl | refine Wp.ext fun _ _ => ?_ | refine Op.ext fun _ => ?_ | refine Ob.ext fun _ => ?_ | refine two_imp ?_ ?_ | rw [wp_bind] | rw [wp_asB] | rw [wp_ofB] | rw [wp_dat] | rw [wp_liftO] | rw [wp_stO] | rw [wp_ite] | rw [wp_pif] | rw [wp_pure])
theorem w_expr {e : Ex} : Wp (Z.exec cl wf (.expr e)) s P = Wp (Z.evalE cl e) s fun r s1 => P .nx s1 := by
  rw [Z.exec]
  repeat' (first | rfl | refine Wp.ext fun _ _ => ?_ | refine Op.ext fun _ => ?_ | refine Ob.ext fun _ => ?_ | refine two_imp ?_ ?_ | rw [wp_bind] | rw [wp_asB] | rw [wp_ofB] | rw [wp_dat] | rw [wp_liftO] | rw [wp_stO] | rw [wp_ite] | rw [wp_pif] | rw [wp_pure])
theorem w_ret {e : Ex} : Wp (Z.exec cl wf (.ret e)) s P = Wp (retV e (Z.evalE cl e)) s fun r s1 => P (.ret r) s1 := by
  rw [Z.exec]
  repeat' (first | rfl | refine Wp.ext fun _ _ => ?_ | refine Op.ext fun _ => ?_ | refine Ob.ext fun _ => ?_ | refine two_imp ?_ ?_ | rw [wp_bind] | rw [wp_asB] | rw [wp_ofB] | rw [wp_dat] | rw [wp_liftO] | rw [wp_stO] | rw [wp_ite] | rw [wp_pif] | rw [wp_pure])
theorem w_retN : Wp (Z.exec cl wf .retN) s P = P (.ret (.none, false)) s := by
  rw [Z.exec]
  repeat' (first | rfl | refine Wp.ext fun _ _ => ?_ | refine Op.ext fun _ => ?_ | refine Ob.ext fun _ => ?_ | refine two_imp ?_ ?_ | rw [wp_bind] | rw [wp_asB] | rw [wp_ofB] | rw [wp_dat] | rw [wp_liftO] | rw [wp_stO] | rw [wp_ite] | rw [wp_pif] | rw [wp_pure])
theorem w_if {c : Ex} {a b : List Sm} : Wp (Z.exec cl wf (.ife c a b)) s P = Wp (Z.evalE cl c) s fun r s1 => Ob r.1 fun t => ((t = true → Wp (Z.execs cl wf a) s1 P) ∧ (t = false → Wp (Z.execs cl wf b) s1 P)) := by
  rw [Z.exec]
  repeat' (first | rfl | refine Wp.ext fun _ _ => ?_ | refine Op.ext fun _ => ?_ | refine Ob.ext fun _ => ?_ | refine two_imp ?_ ?_ | rw [wp_bind] | rw [wp_asB] | rw [wp_ofB] | rw [wp_dat] | rw [wp_liftO] | rw [wp_stO] | rw [wp_ite] | rw [wp_pif] | rw [wp_pure])
theorem w_forE {tg : Tg} {ik : IK} {src : List Ex} {body : List Sm} : Wp (Z.exec cl wf (.forE tg ik src body)) s P = Wp (Z.evalDs cl src) s fun ds s1 => Op (itemsD ik ds) fun xs => Wp (forLoop tg (Z.execs cl wf body) xs) s1 P := by
  rw [Z.exec]
  repeat' (first | rfl | refine Wp.ext fun _ _ => ?_ | refine Op.ext fun _ => ?_ | refine Ob.ext fun _ => ?_ | refine two_imp ?_ ?_ | rw [wp_bind] | rw [wp_asB] | rw [wp_ofB] | rw [wp_dat] | rw [wp_liftO] | rw [wp_stO] | rw [wp_ite] | rw [wp_pif] | rw [wp_pure])
theorem w_whil {c : Ex} {body : List Sm} : Wp (Z.exec cl wf (.whil c body)) s P = Wp (whileLoop (asB (Z.evalE cl c)) (Z.execs cl wf body) wf) s P := by
  rw [Z.exec]
  repeat' (first | rfl | refine Wp.ext fun _ _ => ?_ | refine Op.ext fun _ => ?_ | refine Ob.ext fun _ => ?_ | refine two_imp ?_ ?_ | rw [wp_bind] | rw [wp_asB] | rw [wp_ofB] | rw [wp_dat] | rw [wp_liftO] | rw [wp_stO] | rw [wp_ite] | rw [wp_pif] | rw [wp_pure])
theorem w_brk : Wp (Z.exec cl wf .brk) s P = P .brk s := by
  rw [Z.exec]
  repeat' (first | rfl | refine Wp.ext fun _ _ => ?_ | refine Op.ext fun _ => ?_ | refine Ob.ext fun _ => ?_ | refine two_imp ?_ ?_ | rw [wp_bind] | rw [wp_asB] | rw [wp_ofB] | rw [wp_dat] | rw [wp_liftO] | rw [wp_stO] | rw [wp_ite] | rw [wp_pif] | rw [wp_pure])
theorem w_cont : Wp (Z.exec cl wf .cont) s P = P .cont s := by
  rw [Z.exec]
  repeat' (first | rfl | refine Wp.ext fun _ _ => ?_ | refine Op.ext fun _ => ?_ | refine Ob.ext fun _ => ?_ | refine two_imp ?_ ?_ | rw [wp_bind] | rw [wp_asB] | rw [wp_ofB] | rw [wp_dat] | rw [wp_liftO] | rw [wp_stO] | rw [wp_ite] | rw [wp_pif] | rw [wp_pure])
theorem w_pass : Wp (Z.exec cl wf .pass) s P = P .nx s := by
  rw [Z.exec]
  repeat' (first | rfl | refine Wp.ext fun _ _ => ?_ | refine Op.ext fun _ => ?_ | refine Ob.ext fun _ => ?_ | refine two_imp ?_ ?_ | rw [wp_bind] | rw [wp_asB] | rw [wp_ofB] | rw [wp_dat] | rw [wp_liftO] | rw [wp_stO] | rw [wp_ite] | rw [wp_pif] | rw [wp_pure])
theorem w_ss0 : Wp (Z.execs cl wf []) s P = P .nx s := rfl
/-- what follows a statement -/
def Fw (f : Flow) (s : S) (N : S → Prop) (P : Flow → S → Prop) (_ : Fx (N, P) := ⟨⟩) : Prop := match f with
  | .nx => N s
  | .brk => P .brk s
  | .cont => P .cont s
  | .ret r => P (.ret r) s
theorem fw_nx (N : S → Prop) (P : Flow → S → Prop) : Fw .nx s N P = N s := rfl
theorem fw_brk (N : S → Prop) (P : Flow → S → Prop) : Fw .brk s N P = P .brk s := rfl
theorem fw_cont (N : S → Prop) (P : Flow → S → Prop) : Fw .cont s N P = P .cont s := rfl
theorem fw_ret (r : Rs) (N : S → Prop) (P : Flow → S → Prop) : Fw (.ret r) s N P = P (.ret r) s := rfl
theorem w_ss {x : Sm} {xs : List Sm} : Wp (Z.execs cl wf (x :: xs)) s P = Wp (Z.exec cl wf x) s fun f s1 => Fw f s1 (fun s1 => Wp (Z.execs cl wf xs) s1 P) P := by
  rw [Z.execs, wp_bind]
  refine Wp.ext fun f s1 => ?_
  cases f <;> rfl
end
end Z

/-! Z22: the plain side: data that are plain and small; tests of kinds. -/
namespace Z
open PySem PySem.Spec PyProof.Rows L2
theorem isi_none_int : isiD [.int] .none = some false := rfl
theorem isi_none_bool : isiD [.bool] .none = some false := rfl
theorem isi_none_str : isiD [.str] .none = some false := rfl
theorem isi_none_tuple : isiD [.tuple] .none = some false := rfl
theorem isi_none_list : isiD [.list] .none = some false := rfl
theorem isi_none_list_tuple : isiD [.list, .tuple] .none = some false := rfl
theorem isi_none_tuple_list : isiD [.tuple, .list] .none = some false := rfl
theorem isi_bl_int {x : Bool} : isiD [.int] (.bl x) = some true := rfl
theorem isi_bl_bool {x : Bool} : isiD [.bool] (.bl x) = some true := rfl
theorem isi_bl_str {x : Bool} : isiD [.str] (.bl x) = some false := rfl
theorem isi_bl_tuple {x : Bool} : isiD [.tuple] (.bl x) = some false := rfl
theorem isi_bl_list {x : Bool} : isiD [.list] (.bl x) = some false := rfl
theorem isi_bl_list_tuple {x : Bool} : isiD [.list, .tuple] (.bl x) = some false := rfl
theorem isi_bl_tuple_list {x : Bool} : isiD [.tuple, .list] (.bl x) = some false := rfl
theorem isi_int_int {x : Int} : isiD [.int] (.int x) = some true := rfl
theorem isi_int_bool {x : Int} : isiD [.bool] (.int x) = some false := rfl
theorem isi_int_str {x : Int} : isiD [.str] (.int x) = some false := rfl
theorem isi_int_tuple {x : Int} : isiD [.tuple] (.int x) = some false := rfl
theorem isi_int_list {x : Int} : isiD [.list] (.int x) = some false := rfl
theorem isi_int_list_tuple {x : Int} : isiD [.list, .tuple] (.int x) = some false := rfl
theorem isi_int_tuple_list {x : Int} : isiD [.tuple, .list] (.int x) = some false := rfl
theorem isi_str_int {x : Str} : isiD [.int] (.str x) = some false := rfl
theorem isi_str_bool {x : Str} : isiD [.bool] (.str x) = some false := rfl
theorem isi_str_str {x : Str} : isiD [.str] (.str x) = some true := rfl
theorem isi_str_tuple {x : Str} : isiD [.tuple] (.str x) = some false := rfl
theorem isi_str_list {x : Str} : isiD [.list] (.str x) = some false := rfl
theorem isi_str_list_tuple {x : Str} : isiD [.list, .tuple] (.str x) = some false := rfl
theorem isi_str_tuple_list {x : Str} : isiD [.tuple, .list] (.str x) = some false := rfl
theorem isi_tup_int {x : List D} : isiD [.int] (.tup x) = some false := rfl
theorem isi_tup_bool {x : List D} : isiD [.bool] (.tup x) = some false := rfl
theorem isi_tup_str {x : List D} : isiD [.str] (.tup x) = some false := rfl
theorem isi_tup_tuple {x : List D} : isiD [.tuple] (.tup x) = some true := rfl
theorem isi_tup_list {x : List D} : isiD [.list] (.tup x) = some false := rfl
theorem isi_tup_list_tuple {x : List D} : isiD [.list, .tuple] (.tup x) = some true := rfl
theorem isi_tup_tuple_list {x : List D} : isiD [.tuple, .list] (.tup x) = some true := rfl
theorem isi_lst_int {x : List D} : isiD [.int] (.lst x) = some false := rfl
theorem isi_lst_bool {x : List D} : isiD [.bool] (.lst x) = some false := rfl
theorem isi_lst_str {x : List D} : isiD [.str] (.lst x) = some false := rfl
theorem isi_lst_tuple {x : List D} : isiD [.tuple] (.lst x) = some false := rfl
theorem isi_lst_list {x : List D} : isiD [.list] (.lst x) = some true := rfl
theorem isi_lst_list_tuple {x : List D} : isiD [.list, .tuple] (.lst x) = some true := rfl
theorem isi_lst_tuple_list {x : List D} : isiD [.tuple, .list] (.lst x) = some true := rfl
theorem cmp_eq_ii {i j : Int} : cmpD .eq (.int i) (.int j) = some (decide (i = j)) := by
  show (if (fitD (.int i) && fitD (.int j)) = true then some (eqD (.int i) (.int j)) else none) = _
  rw [fit_i, fit_i, eq_ii]
  rfl
theorem cmp_ne_ii {i j : Int} : cmpD .ne (.int i) (.int j) = some (!decide (i = j)) := by
  show (if (fitD (.int i) && fitD (.int j)) = true then some (!eqD (.int i) (.int j)) else none) = _
  rw [fit_i, fit_i, eq_ii]
  rfl
theorem cmp_eq_bb {i j : Bool} : cmpD .eq (.bl i) (.bl j) = some (decide (i = j)) := by cases i <;> cases j <;> rfl
theorem cmp_ne_bb {i j : Bool} : cmpD .ne (.bl i) (.bl j) = some (!decide (i = j)) := by cases i <;> cases j <;> rfl
theorem cmp_eq_ss {i j : Str} (h : PyData.strOk i = true) (h' : PyData.strOk j = true) : cmpD .eq (.str i) (.str j) = some (eqD (.str i) (.str j)) := by
  show (if (fitD (.str i) && fitD (.str j)) = true then some (eqD (.str i) (.str j)) else none) = _
  rw [fit_s, fit_s, h, h']
  rfl
theorem cmp_lt {i j : Int} : cmpD .lt (.int i) (.int j) = some (decide (i < j)) := rfl
theorem cmp_le {i j : Int} : cmpD .le (.int i) (.int j) = some (decide (i ≤ j)) := rfl
theorem cmp_gt {i j : Int} : cmpD .gt (.int i) (.int j) = some (decide (j < i)) := rfl
theorem cmp_ge {i j : Int} : cmpD .ge (.int i) (.int j) = some (decide (j ≤ i)) := rfl
theorem fit_t2 {a b : D} (h : plain a = true) (h' : plain b = true) (k : (toP a).depth ≤ 50) (k' : (toP b).depth ≤ 50) : fitD (.tup [a, b]) = true := by
  unfold fitD
  rw [Bool.and_eq_true, decide_eq_true_eq]
  refine ⟨?_, ?_⟩
  · show (plain a && (plain b && true)) = true
    rw [h, h']
    rfl
  · show PyData.depth (.tuple [toP a, toP b]) ≤ 60
    unfold PyData.depth PyData.depthAll PyData.depthAll PyData.depthAll
    omega
theorem cmp_ni_ii {i a b : Int} : cmpD .notin (.int i) (.tup [.int a, .int b]) = some (!(decide (a = i) || decide (b = i))) := by
  show (if (fitD (.int i) && fitD (.tup [.int a, .int b])) = true then some (!([D.int a, .int b].any fun z => eqD z (.int i))) else none) = _
  rw [fit_i, fit_t2 rfl rfl (by show PyData.depth (.int a) ≤ 50; unfold PyData.depth; omega) (by show PyData.depth (.int b) ≤ 50; unfold PyData.depth; omega)]
  simp [eq_ii]
theorem cmp_ni_ss {i a b : Str} (h : PyData.strOk i = true) (h1 : PyData.strOk a = true) (h2 : PyData.strOk b = true) : cmpD .notin (.str i) (.tup [.str a, .str b]) = some (!(eqD (.str a) (.str i) || eqD (.str b) (.str i))) := by
  show (if (fitD (.str i) && fitD (.tup [.str a, .str b])) = true then some (!([D.str a, .str b].any fun z => eqD z (.str i))) else none) = _
  rw [fit_s, h, fit_t2 (a := .str a) (b := .str b) h1 h2 (by show PyData.depth (.str a) ≤ 50; unfold PyData.depth; omega) (by show PyData.depth (.str b) ≤ 50; unfold PyData.depth; omega)]
  simp
/-- plain data, of depth at most k, lists and texts at most L long -/
def Fine (L : Nat) : Nat → D → Prop
  | 0, _ => False
  | _ + 1, .none => True
  | _ + 1, .bl _ => True
  | _ + 1, .int _ => True
  | _ + 1, .str s => PyData.strOk s = true ∧ s.length ≤ L
  | k + 1, .tup ds => ds.length ≤ L ∧ ∀ x ∈ ds, Fine L k x
  | k + 1, .lst ds => ds.length ≤ L ∧ ∀ x ∈ ds, Fine L k x
  | _, _ => False
theorem Fine.mono {L L' : Nat} (hL : L ≤ L') : ∀ {k k' : Nat} {d : D}, k ≤ k' → Fine L k d → Fine L' k' d
  | 0, _, d, _, h => by
    unfold Fine at h
    exact h.elim
  | k + 1, 0, d, hk, h => absurd hk (by omega)
  | k + 1, k' + 1, d, hk, h => by
    cases d with
    | none => unfold Fine; trivial
    | bl b => unfold Fine; trivial
    | int i => unfold Fine; trivial
    | str s =>
      unfold Fine at h ⊢
      exact ⟨h.1, Nat.le_trans h.2 hL⟩
    | tup ds =>
      unfold Fine at h ⊢
      exact ⟨Nat.le_trans h.1 hL, fun x hx => Fine.mono hL (by omega) (h.2 x hx)⟩
    | lst ds =>
      unfold Fine at h ⊢
      exact ⟨Nat.le_trans h.1 hL, fun x hx => Fine.mono hL (by omega) (h.2 x hx)⟩
    | dic _ _ => unfold Fine at h; exact h.elim
    | obj _ => unfold Fine at h; exact h.elim
    | scr _ => unfold Fine at h; exact h.elim
theorem Fine.int {L k : Nat} (i : Int) : Fine L (k + 1) (.int i) := by unfold Fine; trivial
theorem Fine.bl {L k : Nat} (i : Bool) : Fine L (k + 1) (.bl i) := by unfold Fine; trivial
theorem Fine.none {L k : Nat} : Fine L (k + 1) .none := by unfold Fine; trivial
theorem Fine.str {L k : Nat} {s : Str} (h : PyData.strOk s = true) (hl : s.length ≤ L) : Fine L (k + 1) (.str s) := by unfold Fine; exact ⟨h, hl⟩
theorem Fine.tup {L k : Nat} {ds : List D} (hl : ds.length ≤ L) (h : ∀ x ∈ ds, Fine L k x) : Fine L (k + 1) (.tup ds) := by unfold Fine; exact ⟨hl, h⟩
theorem Fine.lst {L k : Nat} {ds : List D} (hl : ds.length ≤ L) (h : ∀ x ∈ ds, Fine L k x) : Fine L (k + 1) (.lst ds) := by unfold Fine; exact ⟨hl, h⟩
theorem Fine.tup2 {L k : Nat} {a b : D} (hl : 2 ≤ L) (h : Fine L k a) (h' : Fine L k b) : Fine L (k + 1) (.tup [a, b]) := .tup hl fun x hx => by
  rcases List.mem_cons.mp hx with rfl | hx
  · exact h
  · rw [List.mem_singleton.mp hx]; exact h'
theorem Fine.tup3 {L k : Nat} {a b c : D} (hl : 3 ≤ L) (h : Fine L k a) (h' : Fine L k b) (h'' : Fine L k c) : Fine L (k + 1) (.tup [a, b, c]) := .tup hl fun x hx => by
  rcases List.mem_cons.mp hx with rfl | hx
  · exact h
  · rcases List.mem_cons.mp hx with rfl | hx
    · exact h'
    · rw [List.mem_singleton.mp hx]; exact h''
/-- a loop whose turns lead from I (j + 1) to I j -/
theorem wp_for_cnt {tg : Tg} {body : M Flow} {Q : Flow → S → Prop} (I : Nat → S → Prop) : ∀ {xs : List D} {s : S}, I xs.length s → (∀ x ∈ xs, ∀ j s, j < xs.length → I (j + 1) s → Wp (bindT tg x) s fun _ s1 => Wp body s1 fun f s2 => f = .nx ∧ I j s2) → (∀ s, I 0 s → Q .nx s) → Wp (forLoop tg body xs) s Q
  | [], s, h, _, hq => hq s h
  | x :: xs, s, h, hs, hq => by
    rw [wp_for]
    refine (hs x List.mem_cons_self _ s (by simp) h).mono fun _ s1 h1 => h1.mono fun f s2 ⟨hf, h2⟩ => ?_
    subst hf
    exact wp_for_cnt I h2 (fun y hy j s hj => hs y (List.mem_cons_of_mem _ hy) j s (by simp; omega)) hq
end Z

/-! what gen.py printed of the law: the text by places, the defs in the interpreter's language -/
namespace G
open PySem PySem.Spec PyProof.Rows L2 Z
def topS (i : Nat) : Stmt := PySem.Challenge.pw_bracketyard_k44_formulas_and_steps.main.body.getD i (.Pass ⟨0, 0, 0, 0⟩)
abbrev s_is_whole : Stmt := topS 1
abbrev s_is_point : Stmt := topS 7
abbrev s_step_together : Stmt := topS 8
abbrev s_put_together : Stmt := topS 9
abbrev s_measured : Stmt := topS 10
abbrev s_is_formula : Stmt := topS 11
abbrev s_step : Stmt := topS 12
abbrev s__law_draw : Stmt := topS 14
abbrev s__law_whole : Stmt := topS 15
abbrev s__law_within : Stmt := topS 16
abbrev s__law_like : Stmt := topS 17
abbrev s__law_size : Stmt := topS 18
abbrev s__law_any : Stmt := topS 19
abbrev s__law_spoilt : Stmt := topS 20
abbrev s__law_both_steps : Stmt := topS 21
abbrev s__law_tree : Stmt := topS 22
abbrev s__law_chain : Stmt := topS 23
abbrev s__law_formula : Stmt := topS 24
abbrev s__law_measure : Stmt := topS 25
abbrev s__law_measured : Stmt := topS 26
abbrev s__law_bent : Stmt := topS 27
abbrev s_law : Stmt := topS 28
def b_is_whole : List Sm := [.ret (.and2 (.isi [.int] (.var 0)) (.not1 (.isi [.bool] (.var 0))))]
def b_is_point : List Sm := [.ret (.and2 (.cmp .eq (.blt .len [(.var 0)]) (.con (.int 2))) (.and2 (.cmp .eq (.idx (.var 0) (.con (.int 0))) (.con (.str "point"))) (.and2 (.call 0 [(.idx (.var 0) (.con (.int 1)))]) (.cmp2 .le .lt (.con (.int 0)) (.idx (.var 0) (.con (.int 1))) (.con (.int 8))))))]
def b_step_together : List Sm := [.asg 4 (.bin .add (.var 1) (.var 2)),
    .ife (.cmp .eq (.var 0) (.con (.str "meet"))) [.asg 4 (.bin .sub (.bin .add (.var 1) (.var 2)) (.var 3))] [],
    .ret (.ife (.cmp2 .le .le (.con (.int 0)) (.var 4) (.var 3)) (.var 4) (.con .none))]
def b_put_together : List Sm := [.asg 4 (.bin .add (.con (.int 1)) (.blt .max2 [(.idx (.var 1) (.con (.int 0))), (.idx (.var 2) (.con (.int 0)))])),
    .asg 5 (.bin .add (.idx (.var 1) (.con (.int 1))) (.idx (.var 2) (.con (.int 1)))),
    .asg 6 (.call 2 [(.var 0), (.idx (.var 1) (.con (.int 2))), (.idx (.var 2) (.con (.int 2))), (.var 3)]),
    .ife (.or2 (.isN false (.var 6)) (.or2 (.cmp .gt (.var 4) (.con (.int 12))) (.cmp .gt (.var 5) (.bin .mul (.con (.int 4)) (.var 3))))) [.ret (.con .none)] [],
    .ret (.tup [(.var 4), (.var 5), (.var 6)])]
def b_measured : List Sm := [.ife (.or2 (.not1 (.isi [.tuple] (.var 0))) (.or2 (.cmp .notin (.blt .len [(.var 0)]) (.tup [(.con (.int 2)), (.con (.int 3))])) (.not1 (.isi [.str] (.idx (.var 0) (.con (.int 0))))))) [.ret (.con .none)] [],
    .ife (.call 1 [(.var 0)]) [.ret (.tup [(.con (.int 1)), (.con (.int 1)), (.con (.int 1))])] [],
    .ife (.or2 (.cmp .ne (.blt .len [(.var 0)]) (.con (.int 3))) (.cmp .notin (.idx (.var 0) (.con (.int 0))) (.tup [(.con (.str "join")), (.con (.str "meet"))]))) [.ret (.con .none)] [],
    .asg 2 (.call 4 [(.idx (.var 0) (.con (.int 1))), (.var 1)]),
    .asg 3 (.call 4 [(.idx (.var 0) (.con (.int 2))), (.var 1)]),
    .ife (.or2 (.isN false (.var 2)) (.isN false (.var 3))) [.ret (.con .none)] [],
    .ret (.call 3 [(.idx (.var 0) (.con (.int 0))), (.var 2), (.var 3), (.var 1)])]
def b_is_formula : List Sm := [.ret (.isN true (.call 4 [(.var 0), (.var 1)]))]
def b_step : List Sm := [.ret (.idx (.call 4 [(.var 0), (.var 1)]) (.con (.int 2)))]
def b__law_draw : List Sm := [.asg 2 (.con (.int 2305843009213693951)),
    .ife (.cmp .lt (.idx (.var 0) (.con (.int 2))) (.var 1)) [.asg 3 (.con (.int 0)),
    .ife (.cmp .gt (.blt .len [(.idx (.var 0) (.con (.int 0)))]) (.con (.int 0))) [.asg 3 (.idx (.idx (.var 0) (.con (.int 0))) (.bin .mod (.idx (.var 0) (.con (.int 1))) (.blt .len [(.idx (.var 0) (.con (.int 0)))])))] [],
    .ife (.or2 (.cmp .ge (.idx (.var 0) (.con (.int 1))) (.blt .len [(.idx (.var 0) (.con (.int 0)))])) (.cmp .lt (.var 3) (.bin .pow (.con (.int 10)) (.con (.int 18))))) [.asg 3 (.bin .mod (.bin .add (.var 3) (.bin .mul (.con (.int 1000003)) (.idx (.var 0) (.con (.int 1))))) (.var 2)),
    .asg 3 (.bin .mod (.bin .add (.bin .add (.bin .mul (.var 3) (.var 3)) (.bin .mul (.con (.int 1181783497276652981)) (.var 3))) (.con (.int 2049848353892358983))) (.var 2)),
    .asg 3 (.bin .mod (.bin .add (.bin .mul (.var 3) (.var 3)) (.con (.int 1442695040888963407))) (.var 2))] [],
    .setI (.var 0) (.con (.int 1)) (.bin .add (.idx (.var 0) (.con (.int 1))) (.con (.int 1))),
    .setI (.var 0) (.con (.int 2)) (.var 3)] [],
    .asg 4 (.bin .mod (.idx (.var 0) (.con (.int 2))) (.var 1)),
    .setI (.var 0) (.con (.int 2)) (.bin .fdiv (.idx (.var 0) (.con (.int 2))) (.var 1)),
    .ret (.var 4)]
def b__law_whole : List Sm := [.ret (.and2 (.isi [.int] (.var 0)) (.not1 (.isi [.bool] (.var 0))))]
def b__law_within : List Sm := [.ret (.and2 (.call 8 [(.var 0)]) (.cmp2 .le .le (.var 1) (.var 0) (.var 2)))]
def b__law_like : List Sm := [.ife (.isi [.list, .tuple] (.var 0)) [.ife (.or2 (.cmp .ne (.isi [.list] (.var 0)) (.isi [.list] (.var 1))) (.cmp .ne (.isi [.tuple] (.var 0)) (.isi [.tuple] (.var 1)))) [.ret (.con (.bl false))] [],
    .ife (.cmp .ne (.blt .len [(.var 0)]) (.blt .len [(.var 1)])) [.ret (.con (.bl false))] [],
    .ret (.cmp .eq (.lc (.var 2) (.nm 2) .rng1 [(.blt .len [(.var 0)])] [(.not1 (.call 10 [(.idx (.var 0) (.var 2)), (.idx (.var 1) (.var 2))]))] [2]) (.lst []))] [],
    .ife (.isi [.list, .tuple] (.var 1)) [.ret (.con (.bl false))] [],
    .ret (.and2 (.cmp .eq (.isi [.bool] (.var 0)) (.isi [.bool] (.var 1))) (.cmp .eq (.var 0) (.var 1)))]
def b__law_size : List Sm := [.ret (.bin .add (.con (.int 2)) (.call 7 [(.var 0), (.con (.int 2))]))]
def b__law_any : List Sm := [.asg 2 (.call 7 [(.var 0), (.con (.int 13))]),
    .ife (.and2 (.cmp .lt (.var 2) (.con (.int 4))) (.cmp .gt (.var 1) (.con (.int 0)))) [.asg 3 (.lc (.call 12 [(.var 0), (.bin .sub (.var 1) (.con (.int 1)))]) (.nm 4) .rng1 [(.call 7 [(.var 0), (.con (.int 4))])] [] [4]),
    .ret (.idx (.lst [(.var 3), (.blt .tuple [(.var 3)]), (.blt .tuple [(.var 3)]), (.blt .tuple [(.var 3)])]) (.var 2))] [],
    .ife (.cmp .lt (.var 2) (.con (.int 8))) [.ret (.idx (.lst [(.bin .sub (.call 7 [(.var 0), (.con (.int 9))]) (.con (.int 2))), (.call 7 [(.var 0), (.bin .pow (.con (.int 10)) (.con (.int 30)))]), (.con (.int 0)), (.con (.int 1))]) (.blt .max2 [(.con (.int 0)), (.bin .sub (.var 2) (.con (.int 4)))]))] [],
    .asg 3 (.lst [(.con (.str "")), (.con (.str " ")), (.con (.str "a")), (.con (.str "in")), (.con (.str "out")), (.con (.str "0")), (.con (.str "ab&cd")), (.con (.str "flat")), (.con (.str "point")), (.con (.str "join")), (.con (.str "meet")), (.con (.str "holds")), (.con (.str "put")), (.con (.str "e0")), (.con (.str "[abc]"))]),
    .ret (.idx (.lst [(.con (.bl true)), (.con (.bl false)), (.con .none), (.idx (.var 3) (.call 7 [(.var 0), (.con (.int 15))])), (.tup [])]) (.bin .sub (.var 2) (.con (.int 8))))]
def b__law_spoilt : List Sm := [.ife (.and2 (.isi [.tuple, .list] (.var 1)) (.and2 (.cmp .gt (.blt .len [(.var 1)]) (.con (.int 0))) (.cmp .gt (.call 7 [(.var 0), (.con (.int 6))]) (.con (.int 0))))) [.asg 2 (.call 7 [(.var 0), (.blt .len [(.var 1)])]),
    .asg 3 (.blt .list [(.var 1)]),
    .asg 4 (.call 7 [(.var 0), (.con (.int 10))]),
    .ife (.cmp .lt (.var 4) (.con (.int 6))) [.setI (.var 3) (.var 2) (.call 13 [(.var 0), (.idx (.var 3) (.var 2))])] [.ife (.cmp .eq (.var 4) (.con (.int 6))) [.expr (.popk 3 (.var 2))] [.ife (.cmp .eq (.var 4) (.con (.int 7))) [.ins 3 (.var 2) (.idx (.var 3) (.call 7 [(.var 0), (.blt .len [(.var 3)])]))] [.ife (.cmp .eq (.var 4) (.con (.int 8))) [.asg 3 (.rev (.var 3))] [.ins 3 (.var 2) (.call 12 [(.var 0), (.con (.int 1))])]]]],
    .ret (.ife (.isi [.tuple] (.var 1)) (.blt .tuple [(.var 3)]) (.var 3))] [],
    .ife (.and2 (.call 8 [(.var 1)]) (.cmp .gt (.call 7 [(.var 0), (.con (.int 5))]) (.con (.int 0)))) [.ret (.bin .add (.var 1) (.idx (.lst [(.con (.int 1)), (.neg (.con (.int 1))), (.con (.int 2)), (.neg (.var 1)), (.bin .mul (.neg (.con (.int 2))) (.var 1)), (.bin .pow (.con (.int 10)) (.con (.int 9)))]) (.call 7 [(.var 0), (.con (.int 6))])))] [],
    .ife (.and2 (.isi [.str] (.var 1)) (.cmp .gt (.call 7 [(.var 0), (.con (.int 3))]) (.con (.int 0)))) [.asg 5 (.lst [(.con (.str "in")), (.con (.str "out")), (.con (.str "holds")), (.con (.str "fails")), (.con (.str "flat")), (.con (.str "broken")), (.con (.str "mixed")), (.con (.str "join")), (.con (.str "meet")), (.con (.str "point")), (.bin .add (.var 1) (.con (.str "s"))), (.con (.str ""))]),
    .ret (.idx (.var 5) (.call 7 [(.var 0), (.con (.int 12))]))] [],
    .ife (.and2 (.isi [.tuple, .list] (.var 1)) (.cmp .eq (.call 7 [(.var 0), (.con (.int 2))]) (.con (.int 0)))) [.ret (.ife (.isi [.tuple] (.var 1)) (.blt .list [(.var 1)]) (.blt .tuple [(.var 1)]))] [],
    .ret (.call 12 [(.var 0), (.con (.int 2))])]
def b__law_both_steps : List Sm := [.ife (.or2 (.cmp .lt (.bin .add (.idx (.var 1) (.con (.int 1))) (.idx (.var 2) (.con (.int 1)))) (.var 3)) (.and2 (.cmp .eq (.bin .add (.idx (.var 1) (.con (.int 1))) (.idx (.var 2) (.con (.int 1)))) (.var 3)) (.cmp .eq (.call 7 [(.var 0), (.con (.int 2))]) (.con (.int 0))))) [.ret (.tup [(.tup [(.con (.str "join")), (.idx (.var 1) (.con (.int 0))), (.idx (.var 2) (.con (.int 0)))]), (.bin .add (.idx (.var 1) (.con (.int 1))) (.idx (.var 2) (.con (.int 1))))])] [],
    .ret (.tup [(.tup [(.con (.str "meet")), (.idx (.var 1) (.con (.int 0))), (.idx (.var 2) (.con (.int 0)))]), (.bin .sub (.bin .add (.idx (.var 1) (.con (.int 1))) (.idx (.var 2) (.con (.int 1)))) (.var 3))])]
def b__law_tree : List Sm := [.ife (.or2 (.cmp .eq (.var 2) (.con (.int 0))) (.cmp .eq (.call 7 [(.var 0), (.con (.int 5))]) (.con (.int 0)))) [.ret (.tup [(.tup [(.con (.str "point")), (.call 7 [(.var 0), (.idx (.lst [(.con (.int 8)), (.con (.int 4))]) (.bin .fdiv (.call 7 [(.var 0), (.con (.int 3))]) (.con (.int 2))))])]), (.con (.int 1))])] [],
    .asg 3 (.call 15 [(.var 0), (.var 1), (.bin .sub (.var 2) (.con (.int 1)))]),
    .ret (.call 14 [(.var 0), (.var 3), (.call 15 [(.var 0), (.var 1), (.bin .sub (.var 2) (.con (.int 1)))]), (.var 1)])]
def b__law_chain : List Sm := [.asg 3 (.call 15 [(.var 0), (.var 1), (.con (.int 0))]),
    .forE (.nm 4) .rng1 [(.bin .sub (.var 2) (.con (.int 1)))] [.asg 5 (.call 15 [(.var 0), (.var 1), (.con (.int 0))]),
    .ife (.cmp .eq (.call 7 [(.var 0), (.con (.int 2))]) (.con (.int 0))) [.asg 3 (.call 14 [(.var 0), (.var 3), (.var 5), (.var 1)])] [.asg 3 (.call 14 [(.var 0), (.var 5), (.var 3), (.var 1)])]],
    .ret (.var 3)]
def b__law_formula : List Sm := [.ife (.cmp .eq (.call 7 [(.var 0), (.con (.int 4))]) (.con (.int 0))) [.ret (.call 16 [(.var 0), (.var 1), (.bin .add (.con (.int 1)) (.call 7 [(.var 0), (.bin .mul (.con (.int 4)) (.var 1))]))])] [],
    .ret (.call 15 [(.var 0), (.var 1), (.call 7 [(.var 0), (.bin .add (.var 1) (.con (.int 1)))])])]
def b__law_measure : List Sm := [.ife (.or2 (.not1 (.isi [.tuple] (.var 0))) (.or2 (.cmp .notin (.blt .len [(.var 0)]) (.tup [(.con (.int 2)), (.con (.int 3))])) (.not1 (.isi [.str] (.idx (.var 0) (.con (.int 0))))))) [.ret (.con .none)] [],
    .ife (.cmp .eq (.blt .len [(.var 0)]) (.con (.int 2))) [.ret (.ife (.and2 (.cmp .eq (.idx (.var 0) (.con (.int 0))) (.con (.str "point"))) (.call 9 [(.idx (.var 0) (.con (.int 1))), (.con (.int 0)), (.con (.int 7))])) (.tup [(.con (.int 1)), (.con (.int 1)), (.con (.int 1))]) (.con .none))] [],
    .asg 2 (.call 18 [(.idx (.var 0) (.con (.int 1))), (.var 1)]),
    .asg 3 (.call 18 [(.idx (.var 0) (.con (.int 2))), (.var 1)]),
    .ife (.or2 (.isN false (.var 2)) (.or2 (.isN false (.var 3)) (.cmp .notin (.idx (.var 0) (.con (.int 0))) (.tup [(.con (.str "join")), (.con (.str "meet"))])))) [.ret (.con .none)] [],
    .ret (.call 19 [(.idx (.var 0) (.con (.int 0))), (.var 2), (.var 3), (.var 1)])]
def b__law_measured : List Sm := [.asg 4 (.bin .add (.idx (.var 1) (.con (.int 2))) (.idx (.var 2) (.con (.int 2)))),
    .ife (.cmp .eq (.var 0) (.con (.str "meet"))) [.asg 4 (.bin .sub (.var 4) (.var 3))] [],
    .asg 5 (.bin .add (.con (.int 1)) (.blt .max2 [(.idx (.var 1) (.con (.int 0))), (.idx (.var 2) (.con (.int 0)))])),
    .ife (.or2 (.cmp .lt (.var 4) (.con (.int 0))) (.or2 (.cmp .gt (.var 4) (.var 3)) (.or2 (.cmp .gt (.var 5) (.con (.int 12))) (.cmp .gt (.bin .add (.idx (.var 1) (.con (.int 1))) (.idx (.var 2) (.con (.int 1)))) (.bin .mul (.con (.int 4)) (.var 3)))))) [.ret (.con .none)] [],
    .ret (.tup [(.var 5), (.bin .add (.idx (.var 1) (.con (.int 1))) (.idx (.var 2) (.con (.int 1)))), (.var 4)])]
def b__law_bent : List Sm := [.ife (.cmp .eq (.idx (.var 1) (.con (.int 0))) (.con (.str "point"))) [.ret (.var 1)] [],
    .asg 2 (.ife (.cmp .gt (.call 7 [(.var 0), (.con (.int 3))]) (.con (.int 0))) (.idx (.var 1) (.con (.int 0))) (.idx (.lst [(.con (.str "join")), (.con (.str "meet"))]) (.call 7 [(.var 0), (.con (.int 2))]))),
    .ret (.tup [(.var 2), (.call 20 [(.var 0), (.idx (.var 1) (.con (.int 1)))]), (.call 20 [(.var 0), (.idx (.var 1) (.con (.int 2)))])])]
def b_law : List Sm := [.asg 1 (.shr (.lst [(.shr (.blt .list [(.var 0)])), (.con (.int 0)), (.con (.int 0))])),
    .asg 2 (.call 11 [(.var 1)]),
    .asg 3 (.idx (.call 17 [(.var 1), (.var 2)]) (.con (.int 0))),
    .asg 4 (.idx (.call 16 [(.var 1), (.var 2), (.bin .mul (.con (.int 4)) (.var 2))]) (.con (.int 0))),
    .asg 5 (.idx (.call 14 [(.var 1), (.tup [(.var 4), (.idx (.call 18 [(.var 4), (.var 2)]) (.con (.int 2)))]), (.tup [(.tup [(.con (.str "point")), (.con (.int 7))]), (.con (.int 1))]), (.var 2)]) (.con (.int 0))),
    .asg 6 (.lst [(.var 3), (.var 4), (.var 5), (.call 20 [(.var 1), (.var 3)]), (.call 20 [(.var 1), (.var 4)]), (.blt .list [(.var 3)])]),
    .asg 7 (.lc (.call 13 [(.var 1), (.var 8)]) (.nm 8) .seq [(.var 6)] [] [8]),
    .forE (.nm 8) .seq [(.bin .add (.bin .add (.var 6) (.var 7)) (.lst [(.call 13 [(.var 1), (.idx (.var 7) (.con (.int 0)))]), (.call 12 [(.var 1), (.con (.int 3))]), (.tup [(.con (.str "point")), (.con (.int 8))]), (.tup [(.con (.str "point")), (.con (.bl true))])]))] [.forE (.nm 9) .seq [(.lst [(.con (.int 2)), (.con (.int 3))])] [.asg 10 (.call 18 [(.var 8), (.var 9)]),
    .ife (.not1 (.call 10 [(.call 5 ([(.var 8)] ++ [(.var 9)])), (.isN true (.var 10))])) [.ret (.con (.bl false))] [],
    .ife (.and2 (.isN true (.var 10)) (.not1 (.call 10 [(.call 6 ([(.var 8)] ++ [(.var 9)])), (.idx (.var 10) (.con (.int 2)))]))) [.ret (.con (.bl false))] []]],
    .ret (.con (.bl true))]
def fns : List FnD := [⟨1, 1, b_is_whole⟩,
  ⟨1, 1, b_is_point⟩,
  ⟨5, 4, b_step_together⟩,
  ⟨7, 4, b_put_together⟩,
  ⟨4, 2, b_measured⟩,
  ⟨2, 2, b_is_formula⟩,
  ⟨2, 2, b_step⟩,
  ⟨5, 2, b__law_draw⟩,
  ⟨1, 1, b__law_whole⟩,
  ⟨3, 3, b__law_within⟩,
  ⟨3, 2, b__law_like⟩,
  ⟨1, 1, b__law_size⟩,
  ⟨5, 2, b__law_any⟩,
  ⟨6, 2, b__law_spoilt⟩,
  ⟨4, 4, b__law_both_steps⟩,
  ⟨4, 3, b__law_tree⟩,
  ⟨6, 3, b__law_chain⟩,
  ⟨2, 2, b__law_formula⟩,
  ⟨4, 2, b__law_measure⟩,
  ⟨6, 4, b__law_measured⟩,
  ⟨3, 2, b__law_bent⟩,
  ⟨11, 1, b_law⟩]
end G

namespace G
open PySem PySem.Spec PyProof.Rows L2 Z
abbrev wf : Nat := 1000000
theorem c_is_whole {n : Nat} {a0 : D} {st : List SO} {Q : Rs → List SO → Prop} (h : Wp (execs (callF fns wf n) wf b_is_whole) ⟨[.pu a0], st⟩ (endQ Q)) : Rp (callF fns wf (n + 1) 0 [a0] st) Q := by
  show Rp (runFn (callF fns wf n) wf ⟨1, 1, b_is_whole⟩ [a0] st) Q
  rw [rp_run _ _ _ _ _ _ rfl]
  exact h
theorem c_is_point {n : Nat} {a0 : D} {st : List SO} {Q : Rs → List SO → Prop} (h : Wp (execs (callF fns wf n) wf b_is_point) ⟨[.pu a0], st⟩ (endQ Q)) : Rp (callF fns wf (n + 1) 1 [a0] st) Q := by
  show Rp (runFn (callF fns wf n) wf ⟨1, 1, b_is_point⟩ [a0] st) Q
  rw [rp_run _ _ _ _ _ _ rfl]
  exact h
theorem c_step_together {n : Nat} {a0 a1 a2 a3 : D} {st : List SO} {Q : Rs → List SO → Prop} (h : Wp (execs (callF fns wf n) wf b_step_together) ⟨[.pu a0, .pu a1, .pu a2, .pu a3, .un], st⟩ (endQ Q)) : Rp (callF fns wf (n + 1) 2 [a0, a1, a2, a3] st) Q := by
  show Rp (runFn (callF fns wf n) wf ⟨5, 4, b_step_together⟩ [a0, a1, a2, a3] st) Q
  rw [rp_run _ _ _ _ _ _ rfl]
  exact h
theorem c_put_together {n : Nat} {a0 a1 a2 a3 : D} {st : List SO} {Q : Rs → List SO → Prop} (h : Wp (execs (callF fns wf n) wf b_put_together) ⟨[.pu a0, .pu a1, .pu a2, .pu a3, .un, .un, .un], st⟩ (endQ Q)) : Rp (callF fns wf (n + 1) 3 [a0, a1, a2, a3] st) Q := by
  show Rp (runFn (callF fns wf n) wf ⟨7, 4, b_put_together⟩ [a0, a1, a2, a3] st) Q
  rw [rp_run _ _ _ _ _ _ rfl]
  exact h
theorem c_measured {n : Nat} {a0 a1 : D} {st : List SO} {Q : Rs → List SO → Prop} (h : Wp (execs (callF fns wf n) wf b_measured) ⟨[.pu a0, .pu a1, .un, .un], st⟩ (endQ Q)) : Rp (callF fns wf (n + 1) 4 [a0, a1] st) Q := by
  show Rp (runFn (callF fns wf n) wf ⟨4, 2, b_measured⟩ [a0, a1] st) Q
  rw [rp_run _ _ _ _ _ _ rfl]
  exact h
theorem c_is_formula {n : Nat} {a0 a1 : D} {st : List SO} {Q : Rs → List SO → Prop} (h : Wp (execs (callF fns wf n) wf b_is_formula) ⟨[.pu a0, .pu a1], st⟩ (endQ Q)) : Rp (callF fns wf (n + 1) 5 [a0, a1] st) Q := by
  show Rp (runFn (callF fns wf n) wf ⟨2, 2, b_is_formula⟩ [a0, a1] st) Q
  rw [rp_run _ _ _ _ _ _ rfl]
  exact h
theorem c_step {n : Nat} {a0 a1 : D} {st : List SO} {Q : Rs → List SO → Prop} (h : Wp (execs (callF fns wf n) wf b_step) ⟨[.pu a0, .pu a1], st⟩ (endQ Q)) : Rp (callF fns wf (n + 1) 6 [a0, a1] st) Q := by
  show Rp (runFn (callF fns wf n) wf ⟨2, 2, b_step⟩ [a0, a1] st) Q
  rw [rp_run _ _ _ _ _ _ rfl]
  exact h
theorem c__law_draw {n : Nat} {a0 a1 : D} {st : List SO} {Q : Rs → List SO → Prop} (h : Wp (execs (callF fns wf n) wf b__law_draw) ⟨[.pu a0, .pu a1, .un, .un, .un], st⟩ (endQ Q)) : Rp (callF fns wf (n + 1) 7 [a0, a1] st) Q := by
  show Rp (runFn (callF fns wf n) wf ⟨5, 2, b__law_draw⟩ [a0, a1] st) Q
  rw [rp_run _ _ _ _ _ _ rfl]
  exact h
theorem c__law_whole {n : Nat} {a0 : D} {st : List SO} {Q : Rs → List SO → Prop} (h : Wp (execs (callF fns wf n) wf b__law_whole) ⟨[.pu a0], st⟩ (endQ Q)) : Rp (callF fns wf (n + 1) 8 [a0] st) Q := by
  show Rp (runFn (callF fns wf n) wf ⟨1, 1, b__law_whole⟩ [a0] st) Q
  rw [rp_run _ _ _ _ _ _ rfl]
  exact h
theorem c__law_within {n : Nat} {a0 a1 a2 : D} {st : List SO} {Q : Rs → List SO → Prop} (h : Wp (execs (callF fns wf n) wf b__law_within) ⟨[.pu a0, .pu a1, .pu a2], st⟩ (endQ Q)) : Rp (callF fns wf (n + 1) 9 [a0, a1, a2] st) Q := by
  show Rp (runFn (callF fns wf n) wf ⟨3, 3, b__law_within⟩ [a0, a1, a2] st) Q
  rw [rp_run _ _ _ _ _ _ rfl]
  exact h
theorem c__law_like {n : Nat} {a0 a1 : D} {st : List SO} {Q : Rs → List SO → Prop} (h : Wp (execs (callF fns wf n) wf b__law_like) ⟨[.pu a0, .pu a1, .un], st⟩ (endQ Q)) : Rp (callF fns wf (n + 1) 10 [a0, a1] st) Q := by
  show Rp (runFn (callF fns wf n) wf ⟨3, 2, b__law_like⟩ [a0, a1] st) Q
  rw [rp_run _ _ _ _ _ _ rfl]
  exact h
theorem c__law_size {n : Nat} {a0 : D} {st : List SO} {Q : Rs → List SO → Prop} (h : Wp (execs (callF fns wf n) wf b__law_size) ⟨[.pu a0], st⟩ (endQ Q)) : Rp (callF fns wf (n + 1) 11 [a0] st) Q := by
  show Rp (runFn (callF fns wf n) wf ⟨1, 1, b__law_size⟩ [a0] st) Q
  rw [rp_run _ _ _ _ _ _ rfl]
  exact h
theorem c__law_any {n : Nat} {a0 a1 : D} {st : List SO} {Q : Rs → List SO → Prop} (h : Wp (execs (callF fns wf n) wf b__law_any) ⟨[.pu a0, .pu a1, .un, .un, .un], st⟩ (endQ Q)) : Rp (callF fns wf (n + 1) 12 [a0, a1] st) Q := by
  show Rp (runFn (callF fns wf n) wf ⟨5, 2, b__law_any⟩ [a0, a1] st) Q
  rw [rp_run _ _ _ _ _ _ rfl]
  exact h
theorem c__law_spoilt {n : Nat} {a0 a1 : D} {st : List SO} {Q : Rs → List SO → Prop} (h : Wp (execs (callF fns wf n) wf b__law_spoilt) ⟨[.pu a0, .pu a1, .un, .un, .un, .un], st⟩ (endQ Q)) : Rp (callF fns wf (n + 1) 13 [a0, a1] st) Q := by
  show Rp (runFn (callF fns wf n) wf ⟨6, 2, b__law_spoilt⟩ [a0, a1] st) Q
  rw [rp_run _ _ _ _ _ _ rfl]
  exact h
theorem c__law_both_steps {n : Nat} {a0 a1 a2 a3 : D} {st : List SO} {Q : Rs → List SO → Prop} (h : Wp (execs (callF fns wf n) wf b__law_both_steps) ⟨[.pu a0, .pu a1, .pu a2, .pu a3], st⟩ (endQ Q)) : Rp (callF fns wf (n + 1) 14 [a0, a1, a2, a3] st) Q := by
  show Rp (runFn (callF fns wf n) wf ⟨4, 4, b__law_both_steps⟩ [a0, a1, a2, a3] st) Q
  rw [rp_run _ _ _ _ _ _ rfl]
  exact h
theorem c__law_tree {n : Nat} {a0 a1 a2 : D} {st : List SO} {Q : Rs → List SO → Prop} (h : Wp (execs (callF fns wf n) wf b__law_tree) ⟨[.pu a0, .pu a1, .pu a2, .un], st⟩ (endQ Q)) : Rp (callF fns wf (n + 1) 15 [a0, a1, a2] st) Q := by
  show Rp (runFn (callF fns wf n) wf ⟨4, 3, b__law_tree⟩ [a0, a1, a2] st) Q
  rw [rp_run _ _ _ _ _ _ rfl]
  exact h
theorem c__law_chain {n : Nat} {a0 a1 a2 : D} {st : List SO} {Q : Rs → List SO → Prop} (h : Wp (execs (callF fns wf n) wf b__law_chain) ⟨[.pu a0, .pu a1, .pu a2, .un, .un, .un], st⟩ (endQ Q)) : Rp (callF fns wf (n + 1) 16 [a0, a1, a2] st) Q := by
  show Rp (runFn (callF fns wf n) wf ⟨6, 3, b__law_chain⟩ [a0, a1, a2] st) Q
  rw [rp_run _ _ _ _ _ _ rfl]
  exact h
theorem c__law_formula {n : Nat} {a0 a1 : D} {st : List SO} {Q : Rs → List SO → Prop} (h : Wp (execs (callF fns wf n) wf b__law_formula) ⟨[.pu a0, .pu a1], st⟩ (endQ Q)) : Rp (callF fns wf (n + 1) 17 [a0, a1] st) Q := by
  show Rp (runFn (callF fns wf n) wf ⟨2, 2, b__law_formula⟩ [a0, a1] st) Q
  rw [rp_run _ _ _ _ _ _ rfl]
  exact h
theorem c__law_measure {n : Nat} {a0 a1 : D} {st : List SO} {Q : Rs → List SO → Prop} (h : Wp (execs (callF fns wf n) wf b__law_measure) ⟨[.pu a0, .pu a1, .un, .un], st⟩ (endQ Q)) : Rp (callF fns wf (n + 1) 18 [a0, a1] st) Q := by
  show Rp (runFn (callF fns wf n) wf ⟨4, 2, b__law_measure⟩ [a0, a1] st) Q
  rw [rp_run _ _ _ _ _ _ rfl]
  exact h
theorem c__law_measured {n : Nat} {a0 a1 a2 a3 : D} {st : List SO} {Q : Rs → List SO → Prop} (h : Wp (execs (callF fns wf n) wf b__law_measured) ⟨[.pu a0, .pu a1, .pu a2, .pu a3, .un, .un], st⟩ (endQ Q)) : Rp (callF fns wf (n + 1) 19 [a0, a1, a2, a3] st) Q := by
  show Rp (runFn (callF fns wf n) wf ⟨6, 4, b__law_measured⟩ [a0, a1, a2, a3] st) Q
  rw [rp_run _ _ _ _ _ _ rfl]
  exact h
theorem c__law_bent {n : Nat} {a0 a1 : D} {st : List SO} {Q : Rs → List SO → Prop} (h : Wp (execs (callF fns wf n) wf b__law_bent) ⟨[.pu a0, .pu a1, .un], st⟩ (endQ Q)) : Rp (callF fns wf (n + 1) 20 [a0, a1] st) Q := by
  show Rp (runFn (callF fns wf n) wf ⟨3, 2, b__law_bent⟩ [a0, a1] st) Q
  rw [rp_run _ _ _ _ _ _ rfl]
  exact h
theorem c_law {n : Nat} {a0 : D} {st : List SO} {Q : Rs → List SO → Prop} (h : Wp (execs (callF fns wf n) wf b_law) ⟨[.pu a0, .un, .un, .un, .un, .un, .un, .un, .un, .un, .un], st⟩ (endQ Q)) : Rp (callF fns wf (n + 1) 21 [a0] st) Q := by
  show Rp (runFn (callF fns wf n) wf ⟨11, 1, b_law⟩ [a0] st) Q
  rw [rp_run _ _ _ _ _ _ rfl]
  exact h
end G

namespace G
open PySem PySem.Spec PyProof.Rows L2 Z
theorem line_3 : True := trivial
/-- the script and the tape at their places -/
def Tape (st : List SO) : Prop := ∃ (ns : List Int) (p c : Int), st = [.lst (ns.map .int), .lst [.obj 0, .int p, .int c]] ∧ 0 ≤ p
theorem atI_ints {ns : List Int} {i : Int} (h0 : 0 ≤ i) (h1 : i < ns.length) : ∃ x, atI (ns.map D.int) i = some (.int x) := by
  obtain ⟨a, ha, hm⟩ := atI_in (ns.map D.int) h0 (by rw [List.length_map]; exact h1)
  obtain ⟨x, _, rfl⟩ := List.mem_map.mp hm
  exact ⟨x, ha⟩
theorem draw_spec {n : Nat} {st : List SO} {m : Int} {Q : Rs → List SO → Prop} (T : Tape st) (hm : 0 < m) (hl : m.natAbs.log2 < 9000) (h : ∀ (f : Int) st', 0 ≤ f → f < m → Tape st' → Q (.int f, false) st') : Rp (callF fns wf (n + 1) 7 [.obj 1, .int m] st) Q := by
  obtain ⟨ns, p, c, rfl, hp⟩ := T
  refine c__law_draw ?_
  unfold b__law_draw
  have fin : ∀ (p' c' : Int), 0 ≤ p' → Q (.int (c' % m), false) [.lst (ns.map .int), .lst [.obj 0, .int p', .int (c' / m)]] := fun p' c' h' => h _ _ (Int.emod_nonneg _ (by omega)) (Int.emod_lt_of_pos _ hm) ⟨ns, p', c' / m, rfl, h'⟩
  have ex : ∃ x, 0 < (ns.length : Int) → atI (ns.map D.int) (p % ns.length) = some (.int x) := by
    by_cases h0 : 0 < (ns.length : Int)
    · obtain ⟨x, e⟩ := atI_ints (ns := ns) (Int.emod_nonneg p (by omega)) (Int.emod_lt_of_pos p h0)
      exact ⟨x, fun _ => e⟩
    · exact ⟨0, fun z => absurd z h0⟩
  obtain ⟨x, ex⟩ := ex
  by_cases h0 : 0 < (ns.length : Int)
  · have ex := ex h0
    simp only [wp_bind, wp_pure, wp_bad, wp_getS, wp_asB, wp_slotOpd, wp_rdSlot, wp_rdVar, wp_rdRet, wp_resV, wp_resS, wp_ress0, wp_ress, wp_setR, wp_setρ, wp_call, wp_setAt, wp_opd, wp_dat, wp_shr, wp_ownL, wp_popAt, wp_popLast, wp_app, wp_ins, wp_bindTup, wp_bindTs0, wp_bindTs, wp_bindNm, wp_blk, w_var, w_con, w_tup, w_lst, w_shr, w_bin, w_cmp, w_idx, w_cmp2, w_and2, w_or2, w_not1, w_ife, w_sli, w_call, w_blt, w_isi, w_lc, w_popk, w_popl, w_isN, w_neg, Z.w_rev, w_part0, w_part1, w_ds0, w_ds, w_os0, w_os, w_cs0, w_cs, line, w_asg, w_asgT, w_aug, w_setI, w_app, w_ins, w_ext, w_expr, w_ret, w_retN, w_if, w_forE, w_whil, w_brk, w_cont, w_pass, w_ss0, w_ss, fw_nx, fw_brk, fw_cont, fw_ret, nn_none, nn_int, nn_bl, nn_str, nn_tup, nn_lst, ol_lst, op_some, op_none, op_ite, ob_bl, oi_int, sl_pu, sl_ow, al_ow, al_obj, so_lst, opdV, retV, endQ, letgo, ite_self, ixN_3_0, ixN_3_1, ixN_3_2, atI_0, atI_1, atI_2, atI_3, List.getElem?_cons_zero, List.getElem?_cons_succ, List.set_cons_zero, List.set_cons_succ, List.length_cons, List.length_nil, List.length_map, Option.bind_some, Option.map_some, Nat.zero_add, Nat.reduceAdd, Nat.reduceLT, Nat.reduceLeDiff, Nat.zero_le, if_false, if_true, Bool.false_eq_true, Bool.true_eq_false, Bool.not_true, Bool.not_false, reduceCtorEq, true_and, and_true, forall_const, false_and, and_false, false_implies, not_false_eq_true, not_true_eq_false, decide_eq_true_eq, decide_eq_false_iff_not, isi_none_int, isi_none_bool, isi_none_str, isi_none_tuple, isi_none_list, isi_none_list_tuple, isi_none_tuple_list, isi_bl_int, isi_bl_bool, isi_bl_str, isi_bl_tuple, isi_bl_list, isi_bl_list_tuple, isi_bl_tuple_list, isi_int_int, isi_int_bool, isi_int_str, isi_int_tuple, isi_int_list, isi_int_list_tuple, isi_int_tuple_list, isi_str_int, isi_str_bool, isi_str_str, isi_str_tuple, isi_str_list, isi_str_list_tuple, isi_str_tuple_list, isi_tup_int, isi_tup_bool, isi_tup_str, isi_tup_tuple, isi_tup_list, isi_tup_list_tuple, isi_tup_tuple_list, isi_lst_int, isi_lst_bool, isi_lst_str, isi_lst_tuple, isi_lst_list, isi_lst_list_tuple, isi_lst_tuple_list, cmp_eq_ii, cmp_ne_ii, cmp_eq_bb, cmp_ne_bb, cmp_lt, cmp_le, cmp_gt, cmp_ge, cmp_ni_ii, binD, cmpD, bltD, on1, on2, idxD, seqD, lenD, ex, h0]
    repeat' (first | exact fin _ _ (by omega) | exact mulOk_l (by omega) | omega | (intro _) | refine ⟨?_, ?_⟩)
  · simp only [wp_bind, wp_pure, wp_bad, wp_getS, wp_asB, wp_slotOpd, wp_rdSlot, wp_rdVar, wp_rdRet, wp_resV, wp_resS, wp_ress0, wp_ress, wp_setR, wp_setρ, wp_call, wp_setAt, wp_opd, wp_dat, wp_shr, wp_ownL, wp_popAt, wp_popLast, wp_app, wp_ins, wp_bindTup, wp_bindTs0, wp_bindTs, wp_bindNm, wp_blk, w_var, w_con, w_tup, w_lst, w_shr, w_bin, w_cmp, w_idx, w_cmp2, w_and2, w_or2, w_not1, w_ife, w_sli, w_call, w_blt, w_isi, w_lc, w_popk, w_popl, w_isN, w_neg, Z.w_rev, w_part0, w_part1, w_ds0, w_ds, w_os0, w_os, w_cs0, w_cs, line, w_asg, w_asgT, w_aug, w_setI, w_app, w_ins, w_ext, w_expr, w_ret, w_retN, w_if, w_forE, w_whil, w_brk, w_cont, w_pass, w_ss0, w_ss, fw_nx, fw_brk, fw_cont, fw_ret, nn_none, nn_int, nn_bl, nn_str, nn_tup, nn_lst, ol_lst, op_some, op_none, op_ite, ob_bl, oi_int, sl_pu, sl_ow, al_ow, al_obj, so_lst, opdV, retV, endQ, letgo, ite_self, ixN_3_0, ixN_3_1, ixN_3_2, atI_0, atI_1, atI_2, atI_3, List.getElem?_cons_zero, List.getElem?_cons_succ, List.set_cons_zero, List.set_cons_succ, List.length_cons, List.length_nil, List.length_map, Option.bind_some, Option.map_some, Nat.zero_add, Nat.reduceAdd, Nat.reduceLT, Nat.reduceLeDiff, Nat.zero_le, if_false, if_true, Bool.false_eq_true, Bool.true_eq_false, Bool.not_true, Bool.not_false, reduceCtorEq, true_and, and_true, forall_const, false_and, and_false, false_implies, not_false_eq_true, not_true_eq_false, decide_eq_true_eq, decide_eq_false_iff_not, isi_none_int, isi_none_bool, isi_none_str, isi_none_tuple, isi_none_list, isi_none_list_tuple, isi_none_tuple_list, isi_bl_int, isi_bl_bool, isi_bl_str, isi_bl_tuple, isi_bl_list, isi_bl_list_tuple, isi_bl_tuple_list, isi_int_int, isi_int_bool, isi_int_str, isi_int_tuple, isi_int_list, isi_int_list_tuple, isi_int_tuple_list, isi_str_int, isi_str_bool, isi_str_str, isi_str_tuple, isi_str_list, isi_str_list_tuple, isi_str_tuple_list, isi_tup_int, isi_tup_bool, isi_tup_str, isi_tup_tuple, isi_tup_list, isi_tup_list_tuple, isi_tup_tuple_list, isi_lst_int, isi_lst_bool, isi_lst_str, isi_lst_tuple, isi_lst_list, isi_lst_list_tuple, isi_lst_tuple_list, cmp_eq_ii, cmp_ne_ii, cmp_eq_bb, cmp_ne_bb, cmp_lt, cmp_le, cmp_gt, cmp_ge, cmp_ni_ii, binD, cmpD, bltD, on1, on2, idxD, seqD, lenD, h0]
    repeat' (first | exact fin _ _ (by omega) | exact mulOk_l (by omega) | omega | (intro _) | refine ⟨?_, ?_⟩)
end G

namespace G
open PySem PySem.Spec PyProof.Rows L2 Z
/-! what is measured, in plain words -/
def mx (i j : Int) : Int := if j > i then j else i
def put (w : Str) (big : Int) (a b : Int × Int × Int) : Option (Int × Int × Int) :=
  let s := if eqD (.str w) (.str "meet") = true then a.2.2 + b.2.2 - big else a.2.2 + b.2.2
  if 0 ≤ s ∧ s ≤ big ∧ 1 + mx a.1 b.1 ≤ 12 ∧ a.2.1 + b.2.1 ≤ 4 * big then some (1 + mx a.1 b.1, a.2.1 + b.2.1, s) else none
def two (w : Str) (big : Int) : Option (Int × Int × Int) → Option (Int × Int × Int) → Option (Int × Int × Int)
  | some a, some b => if (eqD (.str "join") (.str w) || eqD (.str "meet") (.str w)) = true then put w big a b else none
  | _, _ => none
def point (w : Str) : D → Option (Int × Int × Int)
  | .int p => if eqD (.str w) (.str "point") = true ∧ 0 ≤ p ∧ p < 8 then some (1, 1, 1) else none
  | _ => none
def meas (big : Int) : Nat → D → Option (Int × Int × Int)
  | k + 1, .tup [.str w, x] => point w x
  | k + 1, .tup [.str w, x, y] => two w big (meas big k x) (meas big k y)
  | _, _ => none
def code : Option (Int × Int × Int) → D
  | none => .none
  | some (a, b, c) => .tup [.int a, .int b, .int c]
theorem still_code (o : Option (Int × Int × Int)) : still (code o) = true := by
  match o with
  | none => rfl
  | some (a, b, c) => rfl
theorem whole_spec {n : Nat} {st : List SO} {d : D} {Q : Rs → List SO → Prop} (h : ∀ b : Bool, (b = true → ∃ i, d = .int i) → ((∃ i, d = .int i) → b = true) → Q (.bl b, false) st) (hd : (∃ L k, Fine L k d)) : Rp (callF fns wf (n + 1) 0 [d] st) Q := by
  refine c_is_whole ?_
  unfold b_is_whole
  obtain ⟨L, k, hd⟩ := hd
  cases k with
  | zero => unfold Fine at hd; exact hd.elim
  | succ k =>
    cases d with
    | dic _ _ => unfold Fine at hd; exact hd.elim
    | obj _ => unfold Fine at hd; exact hd.elim
    | scr _ => unfold Fine at hd; exact hd.elim
    | int i =>
      simp only [wp_bind, wp_pure, wp_bad, wp_getS, wp_asB, wp_slotOpd, wp_rdSlot, wp_rdVar, wp_rdRet, wp_resV, wp_resS, wp_ress0, wp_ress, wp_setR, wp_setρ, wp_call, wp_setAt, wp_opd, wp_dat, wp_shr, wp_ownL, wp_popAt, wp_popLast, wp_app, wp_ins, wp_bindTup, wp_bindTs0, wp_bindTs, wp_bindNm, wp_blk, w_var, w_con, w_tup, w_lst, w_shr, w_bin, w_cmp, w_idx, w_cmp2, w_and2, w_or2, w_not1, w_ife, w_sli, w_call, w_blt, w_isi, w_lc, w_popk, w_popl, w_isN, w_neg, Z.w_rev, w_part0, w_part1, w_ds0, w_ds, w_os0, w_os, w_cs0, w_cs, line, w_asg, w_asgT, w_aug, w_setI, w_app, w_ins, w_ext, w_expr, w_ret, w_retN, w_if, w_forE, w_whil, w_brk, w_cont, w_pass, w_ss0, w_ss, fw_nx, fw_brk, fw_cont, fw_ret, nn_none, nn_int, nn_bl, nn_str, nn_tup, nn_lst, ol_lst, op_some, op_none, op_ite, ob_bl, oi_int, sl_pu, sl_ow, al_ow, al_obj, so_lst, opdV, retV, endQ, letgo, ite_self, ixN_3_0, ixN_3_1, ixN_3_2, atI_0, atI_1, atI_2, atI_3, List.getElem?_cons_zero, List.getElem?_cons_succ, List.set_cons_zero, List.set_cons_succ, List.length_cons, List.length_nil, List.length_map, Option.bind_some, Option.map_some, Nat.zero_add, Nat.reduceAdd, Nat.reduceLT, Nat.reduceLeDiff, Nat.zero_le, if_false, if_true, Bool.false_eq_true, Bool.true_eq_false, Bool.not_true, Bool.not_false, reduceCtorEq, true_and, and_true, forall_const, false_and, and_false, false_implies, not_false_eq_true, not_true_eq_false, decide_eq_true_eq, decide_eq_false_iff_not, isi_none_int, isi_none_bool, isi_none_str, isi_none_tuple, isi_none_list, isi_none_list_tuple, isi_none_tuple_list, isi_bl_int, isi_bl_bool, isi_bl_str, isi_bl_tuple, isi_bl_list, isi_bl_list_tuple, isi_bl_tuple_list, isi_int_int, isi_int_bool, isi_int_str, isi_int_tuple, isi_int_list, isi_int_list_tuple, isi_int_tuple_list, isi_str_int, isi_str_bool, isi_str_str, isi_str_tuple, isi_str_list, isi_str_list_tuple, isi_str_tuple_list, isi_tup_int, isi_tup_bool, isi_tup_str, isi_tup_tuple, isi_tup_list, isi_tup_list_tuple, isi_tup_tuple_list, isi_lst_int, isi_lst_bool, isi_lst_str, isi_lst_tuple, isi_lst_list, isi_lst_list_tuple, isi_lst_tuple_list, cmp_eq_ii, cmp_ne_ii, cmp_eq_bb, cmp_ne_bb, cmp_lt, cmp_le, cmp_gt, cmp_ge, cmp_ni_ii]
      exact h true (fun _ => ⟨i, rfl⟩) fun _ => rfl
    | _ =>
      simp only [wp_bind, wp_pure, wp_bad, wp_getS, wp_asB, wp_slotOpd, wp_rdSlot, wp_rdVar, wp_rdRet, wp_resV, wp_resS, wp_ress0, wp_ress, wp_setR, wp_setρ, wp_call, wp_setAt, wp_opd, wp_dat, wp_shr, wp_ownL, wp_popAt, wp_popLast, wp_app, wp_ins, wp_bindTup, wp_bindTs0, wp_bindTs, wp_bindNm, wp_blk, w_var, w_con, w_tup, w_lst, w_shr, w_bin, w_cmp, w_idx, w_cmp2, w_and2, w_or2, w_not1, w_ife, w_sli, w_call, w_blt, w_isi, w_lc, w_popk, w_popl, w_isN, w_neg, Z.w_rev, w_part0, w_part1, w_ds0, w_ds, w_os0, w_os, w_cs0, w_cs, line, w_asg, w_asgT, w_aug, w_setI, w_app, w_ins, w_ext, w_expr, w_ret, w_retN, w_if, w_forE, w_whil, w_brk, w_cont, w_pass, w_ss0, w_ss, fw_nx, fw_brk, fw_cont, fw_ret, nn_none, nn_int, nn_bl, nn_str, nn_tup, nn_lst, ol_lst, op_some, op_none, op_ite, ob_bl, oi_int, sl_pu, sl_ow, al_ow, al_obj, so_lst, opdV, retV, endQ, letgo, ite_self, ixN_3_0, ixN_3_1, ixN_3_2, atI_0, atI_1, atI_2, atI_3, List.getElem?_cons_zero, List.getElem?_cons_succ, List.set_cons_zero, List.set_cons_succ, List.length_cons, List.length_nil, List.length_map, Option.bind_some, Option.map_some, Nat.zero_add, Nat.reduceAdd, Nat.reduceLT, Nat.reduceLeDiff, Nat.zero_le, if_false, if_true, Bool.false_eq_true, Bool.true_eq_false, Bool.not_true, Bool.not_false, reduceCtorEq, true_and, and_true, forall_const, false_and, and_false, false_implies, not_false_eq_true, not_true_eq_false, decide_eq_true_eq, decide_eq_false_iff_not, isi_none_int, isi_none_bool, isi_none_str, isi_none_tuple, isi_none_list, isi_none_list_tuple, isi_none_tuple_list, isi_bl_int, isi_bl_bool, isi_bl_str, isi_bl_tuple, isi_bl_list, isi_bl_list_tuple, isi_bl_tuple_list, isi_int_int, isi_int_bool, isi_int_str, isi_int_tuple, isi_int_list, isi_int_list_tuple, isi_int_tuple_list, isi_str_int, isi_str_bool, isi_str_str, isi_str_tuple, isi_str_list, isi_str_list_tuple, isi_str_tuple_list, isi_tup_int, isi_tup_bool, isi_tup_str, isi_tup_tuple, isi_tup_list, isi_tup_list_tuple, isi_tup_tuple_list, isi_lst_int, isi_lst_bool, isi_lst_str, isi_lst_tuple, isi_lst_list, isi_lst_list_tuple, isi_lst_tuple_list, cmp_eq_ii, cmp_ne_ii, cmp_eq_bb, cmp_ne_bb, cmp_lt, cmp_le, cmp_gt, cmp_ge, cmp_ni_ii]
      exact h false (fun z => by cases z) fun ⟨i, e⟩ => by cases e
theorem whole2_spec {n : Nat} {st : List SO} {d : D} {Q : Rs → List SO → Prop} (h : ∀ b : Bool, (b = true → ∃ i, d = .int i) → ((∃ i, d = .int i) → b = true) → Q (.bl b, false) st) (hd : (∃ L k, Fine L k d)) : Rp (callF fns wf (n + 1) 8 [d] st) Q := by
  refine c__law_whole ?_
  unfold b__law_whole
  obtain ⟨L, k, hd⟩ := hd
  cases k with
  | zero => unfold Fine at hd; exact hd.elim
  | succ k =>
    cases d with
    | dic _ _ => unfold Fine at hd; exact hd.elim
    | obj _ => unfold Fine at hd; exact hd.elim
    | scr _ => unfold Fine at hd; exact hd.elim
    | int i =>
      simp only [wp_bind, wp_pure, wp_bad, wp_getS, wp_asB, wp_slotOpd, wp_rdSlot, wp_rdVar, wp_rdRet, wp_resV, wp_resS, wp_ress0, wp_ress, wp_setR, wp_setρ, wp_call, wp_setAt, wp_opd, wp_dat, wp_shr, wp_ownL, wp_popAt, wp_popLast, wp_app, wp_ins, wp_bindTup, wp_bindTs0, wp_bindTs, wp_bindNm, wp_blk, w_var, w_con, w_tup, w_lst, w_shr, w_bin, w_cmp, w_idx, w_cmp2, w_and2, w_or2, w_not1, w_ife, w_sli, w_call, w_blt, w_isi, w_lc, w_popk, w_popl, w_isN, w_neg, Z.w_rev, w_part0, w_part1, w_ds0, w_ds, w_os0, w_os, w_cs0, w_cs, line, w_asg, w_asgT, w_aug, w_setI, w_app, w_ins, w_ext, w_expr, w_ret, w_retN, w_if, w_forE, w_whil, w_brk, w_cont, w_pass, w_ss0, w_ss, fw_nx, fw_brk, fw_cont, fw_ret, nn_none, nn_int, nn_bl, nn_str, nn_tup, nn_lst, ol_lst, op_some, op_none, op_ite, ob_bl, oi_int, sl_pu, sl_ow, al_ow, al_obj, so_lst, opdV, retV, endQ, letgo, ite_self, ixN_3_0, ixN_3_1, ixN_3_2, atI_0, atI_1, atI_2, atI_3, List.getElem?_cons_zero, List.getElem?_cons_succ, List.set_cons_zero, List.set_cons_succ, List.length_cons, List.length_nil, List.length_map, Option.bind_some, Option.map_some, Nat.zero_add, Nat.reduceAdd, Nat.reduceLT, Nat.reduceLeDiff, Nat.zero_le, if_false, if_true, Bool.false_eq_true, Bool.true_eq_false, Bool.not_true, Bool.not_false, reduceCtorEq, true_and, and_true, forall_const, false_and, and_false, false_implies, not_false_eq_true, not_true_eq_false, decide_eq_true_eq, decide_eq_false_iff_not, isi_none_int, isi_none_bool, isi_none_str, isi_none_tuple, isi_none_list, isi_none_list_tuple, isi_none_tuple_list, isi_bl_int, isi_bl_bool, isi_bl_str, isi_bl_tuple, isi_bl_list, isi_bl_list_tuple, isi_bl_tuple_list, isi_int_int, isi_int_bool, isi_int_str, isi_int_tuple, isi_int_list, isi_int_list_tuple, isi_int_tuple_list, isi_str_int, isi_str_bool, isi_str_str, isi_str_tuple, isi_str_list, isi_str_list_tuple, isi_str_tuple_list, isi_tup_int, isi_tup_bool, isi_tup_str, isi_tup_tuple, isi_tup_list, isi_tup_list_tuple, isi_tup_tuple_list, isi_lst_int, isi_lst_bool, isi_lst_str, isi_lst_tuple, isi_lst_list, isi_lst_list_tuple, isi_lst_tuple_list, cmp_eq_ii, cmp_ne_ii, cmp_eq_bb, cmp_ne_bb, cmp_lt, cmp_le, cmp_gt, cmp_ge, cmp_ni_ii]
      exact h true (fun _ => ⟨i, rfl⟩) fun _ => rfl
    | _ =>
      simp only [wp_bind, wp_pure, wp_bad, wp_getS, wp_asB, wp_slotOpd, wp_rdSlot, wp_rdVar, wp_rdRet, wp_resV, wp_resS, wp_ress0, wp_ress, wp_setR, wp_setρ, wp_call, wp_setAt, wp_opd, wp_dat, wp_shr, wp_ownL, wp_popAt, wp_popLast, wp_app, wp_ins, wp_bindTup, wp_bindTs0, wp_bindTs, wp_bindNm, wp_blk, w_var, w_con, w_tup, w_lst, w_shr, w_bin, w_cmp, w_idx, w_cmp2, w_and2, w_or2, w_not1, w_ife, w_sli, w_call, w_blt, w_isi, w_lc, w_popk, w_popl, w_isN, w_neg, Z.w_rev, w_part0, w_part1, w_ds0, w_ds, w_os0, w_os, w_cs0, w_cs, line, w_asg, w_asgT, w_aug, w_setI, w_app, w_ins, w_ext, w_expr, w_ret, w_retN, w_if, w_forE, w_whil, w_brk, w_cont, w_pass, w_ss0, w_ss, fw_nx, fw_brk, fw_cont, fw_ret, nn_none, nn_int, nn_bl, nn_str, nn_tup, nn_lst, ol_lst, op_some, op_none, op_ite, ob_bl, oi_int, sl_pu, sl_ow, al_ow, al_obj, so_lst, opdV, retV, endQ, letgo, ite_self, ixN_3_0, ixN_3_1, ixN_3_2, atI_0, atI_1, atI_2, atI_3, List.getElem?_cons_zero, List.getElem?_cons_succ, List.set_cons_zero, List.set_cons_succ, List.length_cons, List.length_nil, List.length_map, Option.bind_some, Option.map_some, Nat.zero_add, Nat.reduceAdd, Nat.reduceLT, Nat.reduceLeDiff, Nat.zero_le, if_false, if_true, Bool.false_eq_true, Bool.true_eq_false, Bool.not_true, Bool.not_false, reduceCtorEq, true_and, and_true, forall_const, false_and, and_false, false_implies, not_false_eq_true, not_true_eq_false, decide_eq_true_eq, decide_eq_false_iff_not, isi_none_int, isi_none_bool, isi_none_str, isi_none_tuple, isi_none_list, isi_none_list_tuple, isi_none_tuple_list, isi_bl_int, isi_bl_bool, isi_bl_str, isi_bl_tuple, isi_bl_list, isi_bl_list_tuple, isi_bl_tuple_list, isi_int_int, isi_int_bool, isi_int_str, isi_int_tuple, isi_int_list, isi_int_list_tuple, isi_int_tuple_list, isi_str_int, isi_str_bool, isi_str_str, isi_str_tuple, isi_str_list, isi_str_list_tuple, isi_str_tuple_list, isi_tup_int, isi_tup_bool, isi_tup_str, isi_tup_tuple, isi_tup_list, isi_tup_list_tuple, isi_tup_tuple_list, isi_lst_int, isi_lst_bool, isi_lst_str, isi_lst_tuple, isi_lst_list, isi_lst_list_tuple, isi_lst_tuple_list, cmp_eq_ii, cmp_ne_ii, cmp_eq_bb, cmp_ne_bb, cmp_lt, cmp_le, cmp_gt, cmp_ge, cmp_ni_ii]
      exact h false (fun z => by cases z) fun ⟨i, e⟩ => by cases e
theorem ok_lit : PyData.strOk "point" = true ∧ PyData.strOk "join" = true ∧ PyData.strOk "meet" = true := by decide +kernel
theorem point_int (w : Str) (p : Int) : point w (.int p) = if eqD (.str w) (.str "point") = true ∧ 0 ≤ p ∧ p < 8 then some (1, 1, 1) else none := rfl
/-- is_point of two things -/
theorem is_point_spec {n : Nat} {st : List SO} {w : Str} {x : D} {Q : Rs → List SO → Prop} (hw : PyData.strOk w = true) (hx : ∃ L k, Fine L k x) (h : Q (.bl (point w x).isSome, false) st) : Rp (callF fns wf (n + 2) 1 [.tup [.str w, x]] st) Q := by
  obtain ⟨h1, h2, h3⟩ := ok_lit
  refine c_is_point ?_
  unfold b_is_point
  simp only [wp_bind, wp_pure, wp_bad, wp_getS, wp_asB, wp_slotOpd, wp_rdSlot, wp_rdVar, wp_rdRet, wp_resV, wp_resS, wp_ress0, wp_ress, wp_setR, wp_setρ, wp_call, wp_setAt, wp_opd, wp_dat, wp_shr, wp_ownL, wp_popAt, wp_popLast, wp_app, wp_ins, wp_bindTup, wp_bindTs0, wp_bindTs, wp_bindNm, wp_blk, w_var, w_con, w_tup, w_lst, w_shr, w_bin, w_cmp, w_idx, w_cmp2, w_and2, w_or2, w_not1, w_ife, w_sli, w_call, w_blt, w_isi, w_lc, w_popk, w_popl, w_isN, w_neg, Z.w_rev, w_part0, w_part1, w_ds0, w_ds, w_os0, w_os, w_cs0, w_cs, line, w_asg, w_asgT, w_aug, w_setI, w_app, w_ins, w_ext, w_expr, w_ret, w_retN, w_if, w_forE, w_whil, w_brk, w_cont, w_pass, w_ss0, w_ss, fw_nx, fw_brk, fw_cont, fw_ret, nn_none, nn_int, nn_bl, nn_str, nn_tup, nn_lst, ol_lst, op_some, op_none, op_ite, ob_bl, oi_int, sl_pu, sl_ow, al_ow, al_obj, so_lst, opdV, retV, endQ, letgo, ite_self, ixN_3_0, ixN_3_1, ixN_3_2, atI_0, atI_1, atI_2, atI_3, List.getElem?_cons_zero, List.getElem?_cons_succ, List.set_cons_zero, List.set_cons_succ, List.length_cons, List.length_nil, List.length_map, Option.bind_some, Option.map_some, Nat.zero_add, Nat.reduceAdd, Nat.reduceLT, Nat.reduceLeDiff, Nat.zero_le, if_false, if_true, Bool.false_eq_true, Bool.true_eq_false, Bool.not_true, Bool.not_false, reduceCtorEq, true_and, and_true, forall_const, false_and, and_false, false_implies, not_false_eq_true, not_true_eq_false, decide_eq_true_eq, decide_eq_false_iff_not, isi_none_int, isi_none_bool, isi_none_str, isi_none_tuple, isi_none_list, isi_none_list_tuple, isi_none_tuple_list, isi_bl_int, isi_bl_bool, isi_bl_str, isi_bl_tuple, isi_bl_list, isi_bl_list_tuple, isi_bl_tuple_list, isi_int_int, isi_int_bool, isi_int_str, isi_int_tuple, isi_int_list, isi_int_list_tuple, isi_int_tuple_list, isi_str_int, isi_str_bool, isi_str_str, isi_str_tuple, isi_str_list, isi_str_list_tuple, isi_str_tuple_list, isi_tup_int, isi_tup_bool, isi_tup_str, isi_tup_tuple, isi_tup_list, isi_tup_list_tuple, isi_tup_tuple_list, isi_lst_int, isi_lst_bool, isi_lst_str, isi_lst_tuple, isi_lst_list, isi_lst_list_tuple, isi_lst_tuple_list, cmp_eq_ii, cmp_ne_ii, cmp_eq_bb, cmp_ne_bb, cmp_lt, cmp_le, cmp_gt, cmp_ge, cmp_ni_ii, bltD, on1, lenD, seqD, idxD, cmp_eq_ss hw h1]
  refine ⟨fun _ => ⟨fun e => ?_, fun e => ?_⟩, fun z => ?_⟩
  · refine whole_spec (fun b hb hb' => ?_) hx
    simp only [wp_bind, wp_pure, wp_bad, wp_getS, wp_asB, wp_slotOpd, wp_rdSlot, wp_rdVar, wp_rdRet, wp_resV, wp_resS, wp_ress0, wp_ress, wp_setR, wp_setρ, wp_call, wp_setAt, wp_opd, wp_dat, wp_shr, wp_ownL, wp_popAt, wp_popLast, wp_app, wp_ins, wp_bindTup, wp_bindTs0, wp_bindTs, wp_bindNm, wp_blk, w_var, w_con, w_tup, w_lst, w_shr, w_bin, w_cmp, w_idx, w_cmp2, w_and2, w_or2, w_not1, w_ife, w_sli, w_call, w_blt, w_isi, w_lc, w_popk, w_popl, w_isN, w_neg, Z.w_rev, w_part0, w_part1, w_ds0, w_ds, w_os0, w_os, w_cs0, w_cs, line, w_asg, w_asgT, w_aug, w_setI, w_app, w_ins, w_ext, w_expr, w_ret, w_retN, w_if, w_forE, w_whil, w_brk, w_cont, w_pass, w_ss0, w_ss, fw_nx, fw_brk, fw_cont, fw_ret, nn_none, nn_int, nn_bl, nn_str, nn_tup, nn_lst, ol_lst, op_some, op_none, op_ite, ob_bl, oi_int, sl_pu, sl_ow, al_ow, al_obj, so_lst, opdV, retV, endQ, letgo, ite_self, ixN_3_0, ixN_3_1, ixN_3_2, atI_0, atI_1, atI_2, atI_3, List.getElem?_cons_zero, List.getElem?_cons_succ, List.set_cons_zero, List.set_cons_succ, List.length_cons, List.length_nil, List.length_map, Option.bind_some, Option.map_some, Nat.zero_add, Nat.reduceAdd, Nat.reduceLT, Nat.reduceLeDiff, Nat.zero_le, if_false, if_true, Bool.false_eq_true, Bool.true_eq_false, Bool.not_true, Bool.not_false, reduceCtorEq, true_and, and_true, forall_const, false_and, and_false, false_implies, not_false_eq_true, not_true_eq_false, decide_eq_true_eq, decide_eq_false_iff_not, isi_none_int, isi_none_bool, isi_none_str, isi_none_tuple, isi_none_list, isi_none_list_tuple, isi_none_tuple_list, isi_bl_int, isi_bl_bool, isi_bl_str, isi_bl_tuple, isi_bl_list, isi_bl_list_tuple, isi_bl_tuple_list, isi_int_int, isi_int_bool, isi_int_str, isi_int_tuple, isi_int_list, isi_int_list_tuple, isi_int_tuple_list, isi_str_int, isi_str_bool, isi_str_str, isi_str_tuple, isi_str_list, isi_str_list_tuple, isi_str_tuple_list, isi_tup_int, isi_tup_bool, isi_tup_str, isi_tup_tuple, isi_tup_list, isi_tup_list_tuple, isi_tup_tuple_list, isi_lst_int, isi_lst_bool, isi_lst_str, isi_lst_tuple, isi_lst_list, isi_lst_list_tuple, isi_lst_tuple_list, cmp_eq_ii, cmp_ne_ii, cmp_eq_bb, cmp_ne_bb, cmp_lt, cmp_le, cmp_gt, cmp_ge, cmp_ni_ii, bltD, on1, lenD, seqD, idxD]
    refine ⟨fun e2 => ?_, fun e2 => ?_⟩
    · obtain ⟨i, rfl⟩ := hb e2
      simp only [wp_bind, wp_pure, wp_bad, wp_getS, wp_asB, wp_slotOpd, wp_rdSlot, wp_rdVar, wp_rdRet, wp_resV, wp_resS, wp_ress0, wp_ress, wp_setR, wp_setρ, wp_call, wp_setAt, wp_opd, wp_dat, wp_shr, wp_ownL, wp_popAt, wp_popLast, wp_app, wp_ins, wp_bindTup, wp_bindTs0, wp_bindTs, wp_bindNm, wp_blk, w_var, w_con, w_tup, w_lst, w_shr, w_bin, w_cmp, w_idx, w_cmp2, w_and2, w_or2, w_not1, w_ife, w_sli, w_call, w_blt, w_isi, w_lc, w_popk, w_popl, w_isN, w_neg, Z.w_rev, w_part0, w_part1, w_ds0, w_ds, w_os0, w_os, w_cs0, w_cs, line, w_asg, w_asgT, w_aug, w_setI, w_app, w_ins, w_ext, w_expr, w_ret, w_retN, w_if, w_forE, w_whil, w_brk, w_cont, w_pass, w_ss0, w_ss, fw_nx, fw_brk, fw_cont, fw_ret, nn_none, nn_int, nn_bl, nn_str, nn_tup, nn_lst, ol_lst, op_some, op_none, op_ite, ob_bl, oi_int, sl_pu, sl_ow, al_ow, al_obj, so_lst, opdV, retV, endQ, letgo, ite_self, ixN_3_0, ixN_3_1, ixN_3_2, atI_0, atI_1, atI_2, atI_3, List.getElem?_cons_zero, List.getElem?_cons_succ, List.set_cons_zero, List.set_cons_succ, List.length_cons, List.length_nil, List.length_map, Option.bind_some, Option.map_some, Nat.zero_add, Nat.reduceAdd, Nat.reduceLT, Nat.reduceLeDiff, Nat.zero_le, if_false, if_true, Bool.false_eq_true, Bool.true_eq_false, Bool.not_true, Bool.not_false, reduceCtorEq, true_and, and_true, forall_const, false_and, and_false, false_implies, not_false_eq_true, not_true_eq_false, decide_eq_true_eq, decide_eq_false_iff_not, isi_none_int, isi_none_bool, isi_none_str, isi_none_tuple, isi_none_list, isi_none_list_tuple, isi_none_tuple_list, isi_bl_int, isi_bl_bool, isi_bl_str, isi_bl_tuple, isi_bl_list, isi_bl_list_tuple, isi_bl_tuple_list, isi_int_int, isi_int_bool, isi_int_str, isi_int_tuple, isi_int_list, isi_int_list_tuple, isi_int_tuple_list, isi_str_int, isi_str_bool, isi_str_str, isi_str_tuple, isi_str_list, isi_str_list_tuple, isi_str_tuple_list, isi_tup_int, isi_tup_bool, isi_tup_str, isi_tup_tuple, isi_tup_list, isi_tup_list_tuple, isi_tup_tuple_list, isi_lst_int, isi_lst_bool, isi_lst_str, isi_lst_tuple, isi_lst_list, isi_lst_list_tuple, isi_lst_tuple_list, cmp_eq_ii, cmp_ne_ii, cmp_eq_bb, cmp_ne_bb, cmp_lt, cmp_le, cmp_gt, cmp_ge, cmp_ni_ii, bltD, on1, lenD, seqD, idxD]
      refine ⟨fun e3 => ?_, fun e3 => ?_⟩
      · have e4 : (point w (.int i)).isSome = decide (i < 8) := by
          rw [point_int]
          by_cases h8 : i < 8
          · rw [if_pos ⟨e, e3, h8⟩, decide_eq_true h8]; rfl
          · rw [if_neg (fun z => h8 z.2.2), decide_eq_false h8]; rfl
        rw [e4] at h
        exact h
      · have e4 : (point w (.int i)).isSome = false := by
          rw [point_int, if_neg (fun z => e3 z.2.1)]
          rfl
        rw [e4] at h
        exact h
    · have e4 : (point w x).isSome = false := by
        cases x <;> first | rfl | (rename_i i; rw [hb' ⟨i, rfl⟩] at e2; cases e2)
      rw [e4] at h
      exact h
  · have e4 : (point w x).isSome = false := by
      cases x with
      | int i => rw [point_int, e]; rfl
      | _ => rfl
    rw [e4] at h
    exact h
  · exact absurd (by decide) z
/-- is_point of three things or of none such -/
theorem is_point_no {n : Nat} {st : List SO} {ds : List D} {Q : Rs → List SO → Prop} (hl : ds.length ≠ 2) (h : Q (.bl false, false) st) : Rp (callF fns wf (n + 2) 1 [.tup ds] st) Q := by
  refine c_is_point ?_
  unfold b_is_point
  simp only [wp_bind, wp_pure, wp_bad, wp_getS, wp_asB, wp_slotOpd, wp_rdSlot, wp_rdVar, wp_rdRet, wp_resV, wp_resS, wp_ress0, wp_ress, wp_setR, wp_setρ, wp_call, wp_setAt, wp_opd, wp_dat, wp_shr, wp_ownL, wp_popAt, wp_popLast, wp_app, wp_ins, wp_bindTup, wp_bindTs0, wp_bindTs, wp_bindNm, wp_blk, w_var, w_con, w_tup, w_lst, w_shr, w_bin, w_cmp, w_idx, w_cmp2, w_and2, w_or2, w_not1, w_ife, w_sli, w_call, w_blt, w_isi, w_lc, w_popk, w_popl, w_isN, w_neg, Z.w_rev, w_part0, w_part1, w_ds0, w_ds, w_os0, w_os, w_cs0, w_cs, line, w_asg, w_asgT, w_aug, w_setI, w_app, w_ins, w_ext, w_expr, w_ret, w_retN, w_if, w_forE, w_whil, w_brk, w_cont, w_pass, w_ss0, w_ss, fw_nx, fw_brk, fw_cont, fw_ret, nn_none, nn_int, nn_bl, nn_str, nn_tup, nn_lst, ol_lst, op_some, op_none, op_ite, ob_bl, oi_int, sl_pu, sl_ow, al_ow, al_obj, so_lst, opdV, retV, endQ, letgo, ite_self, ixN_3_0, ixN_3_1, ixN_3_2, atI_0, atI_1, atI_2, atI_3, List.getElem?_cons_zero, List.getElem?_cons_succ, List.set_cons_zero, List.set_cons_succ, List.length_cons, List.length_nil, List.length_map, Option.bind_some, Option.map_some, Nat.zero_add, Nat.reduceAdd, Nat.reduceLT, Nat.reduceLeDiff, Nat.zero_le, if_false, if_true, Bool.false_eq_true, Bool.true_eq_false, Bool.not_true, Bool.not_false, reduceCtorEq, true_and, and_true, forall_const, false_and, and_false, false_implies, not_false_eq_true, not_true_eq_false, decide_eq_true_eq, decide_eq_false_iff_not, isi_none_int, isi_none_bool, isi_none_str, isi_none_tuple, isi_none_list, isi_none_list_tuple, isi_none_tuple_list, isi_bl_int, isi_bl_bool, isi_bl_str, isi_bl_tuple, isi_bl_list, isi_bl_list_tuple, isi_bl_tuple_list, isi_int_int, isi_int_bool, isi_int_str, isi_int_tuple, isi_int_list, isi_int_list_tuple, isi_int_tuple_list, isi_str_int, isi_str_bool, isi_str_str, isi_str_tuple, isi_str_list, isi_str_list_tuple, isi_str_tuple_list, isi_tup_int, isi_tup_bool, isi_tup_str, isi_tup_tuple, isi_tup_list, isi_tup_list_tuple, isi_tup_tuple_list, isi_lst_int, isi_lst_bool, isi_lst_str, isi_lst_tuple, isi_lst_list, isi_lst_list_tuple, isi_lst_tuple_list, cmp_eq_ii, cmp_ne_ii, cmp_eq_bb, cmp_ne_bb, cmp_lt, cmp_le, cmp_gt, cmp_ge, cmp_ni_ii, bltD, on1, lenD, seqD, idxD]
  have e : ¬ ((ds.length : Int) = 2) := by omega
  simp only [e]
  simp only [wp_bind, wp_pure, wp_bad, wp_getS, wp_asB, wp_slotOpd, wp_rdSlot, wp_rdVar, wp_rdRet, wp_resV, wp_resS, wp_ress0, wp_ress, wp_setR, wp_setρ, wp_call, wp_setAt, wp_opd, wp_dat, wp_shr, wp_ownL, wp_popAt, wp_popLast, wp_app, wp_ins, wp_bindTup, wp_bindTs0, wp_bindTs, wp_bindNm, wp_blk, w_var, w_con, w_tup, w_lst, w_shr, w_bin, w_cmp, w_idx, w_cmp2, w_and2, w_or2, w_not1, w_ife, w_sli, w_call, w_blt, w_isi, w_lc, w_popk, w_popl, w_isN, w_neg, Z.w_rev, w_part0, w_part1, w_ds0, w_ds, w_os0, w_os, w_cs0, w_cs, line, w_asg, w_asgT, w_aug, w_setI, w_app, w_ins, w_ext, w_expr, w_ret, w_retN, w_if, w_forE, w_whil, w_brk, w_cont, w_pass, w_ss0, w_ss, fw_nx, fw_brk, fw_cont, fw_ret, nn_none, nn_int, nn_bl, nn_str, nn_tup, nn_lst, ol_lst, op_some, op_none, op_ite, ob_bl, oi_int, sl_pu, sl_ow, al_ow, al_obj, so_lst, opdV, retV, endQ, letgo, ite_self, ixN_3_0, ixN_3_1, ixN_3_2, atI_0, atI_1, atI_2, atI_3, List.getElem?_cons_zero, List.getElem?_cons_succ, List.set_cons_zero, List.set_cons_succ, List.length_cons, List.length_nil, List.length_map, Option.bind_some, Option.map_some, Nat.zero_add, Nat.reduceAdd, Nat.reduceLT, Nat.reduceLeDiff, Nat.zero_le, if_false, if_true, Bool.false_eq_true, Bool.true_eq_false, Bool.not_true, Bool.not_false, reduceCtorEq, true_and, and_true, forall_const, false_and, and_false, false_implies, not_false_eq_true, not_true_eq_false, decide_eq_true_eq, decide_eq_false_iff_not, isi_none_int, isi_none_bool, isi_none_str, isi_none_tuple, isi_none_list, isi_none_list_tuple, isi_none_tuple_list, isi_bl_int, isi_bl_bool, isi_bl_str, isi_bl_tuple, isi_bl_list, isi_bl_list_tuple, isi_bl_tuple_list, isi_int_int, isi_int_bool, isi_int_str, isi_int_tuple, isi_int_list, isi_int_list_tuple, isi_int_tuple_list, isi_str_int, isi_str_bool, isi_str_str, isi_str_tuple, isi_str_list, isi_str_list_tuple, isi_str_tuple_list, isi_tup_int, isi_tup_bool, isi_tup_str, isi_tup_tuple, isi_tup_list, isi_tup_list_tuple, isi_tup_tuple_list, isi_lst_int, isi_lst_bool, isi_lst_str, isi_lst_tuple, isi_lst_list, isi_lst_list_tuple, isi_lst_tuple_list, cmp_eq_ii, cmp_ne_ii, cmp_eq_bb, cmp_ne_bb, cmp_lt, cmp_le, cmp_gt, cmp_ge, cmp_ni_ii]
  exact h
theorem step_spec {n : Nat} {st : List SO} {w : Str} {i j big : Int} {Q : Rs → List SO → Prop} (hw : PyData.strOk w = true)
    (h : Q (if 0 ≤ (if eqD (.str w) (.str "meet") = true then i + j - big else i + j) ∧ (if eqD (.str w) (.str "meet") = true then i + j - big else i + j) ≤ big then .int (if eqD (.str w) (.str "meet") = true then i + j - big else i + j) else .none, false) st) : Rp (callF fns wf (n + 1) 2 [.str w, .int i, .int j, .int big] st) Q := by
  obtain ⟨h1, h2, h3⟩ := ok_lit
  refine c_step_together ?_
  unfold b_step_together
  simp only [wp_bind, wp_pure, wp_bad, wp_getS, wp_asB, wp_slotOpd, wp_rdSlot, wp_rdVar, wp_rdRet, wp_resV, wp_resS, wp_ress0, wp_ress, wp_setR, wp_setρ, wp_call, wp_setAt, wp_opd, wp_dat, wp_shr, wp_ownL, wp_popAt, wp_popLast, wp_app, wp_ins, wp_bindTup, wp_bindTs0, wp_bindTs, wp_bindNm, wp_blk, w_var, w_con, w_tup, w_lst, w_shr, w_bin, w_cmp, w_idx, w_cmp2, w_and2, w_or2, w_not1, w_ife, w_sli, w_call, w_blt, w_isi, w_lc, w_popk, w_popl, w_isN, w_neg, Z.w_rev, w_part0, w_part1, w_ds0, w_ds, w_os0, w_os, w_cs0, w_cs, line, w_asg, w_asgT, w_aug, w_setI, w_app, w_ins, w_ext, w_expr, w_ret, w_retN, w_if, w_forE, w_whil, w_brk, w_cont, w_pass, w_ss0, w_ss, fw_nx, fw_brk, fw_cont, fw_ret, nn_none, nn_int, nn_bl, nn_str, nn_tup, nn_lst, ol_lst, op_some, op_none, op_ite, ob_bl, oi_int, sl_pu, sl_ow, al_ow, al_obj, so_lst, opdV, retV, endQ, letgo, ite_self, ixN_3_0, ixN_3_1, ixN_3_2, atI_0, atI_1, atI_2, atI_3, List.getElem?_cons_zero, List.getElem?_cons_succ, List.set_cons_zero, List.set_cons_succ, List.length_cons, List.length_nil, List.length_map, Option.bind_some, Option.map_some, Nat.zero_add, Nat.reduceAdd, Nat.reduceLT, Nat.reduceLeDiff, Nat.zero_le, if_false, if_true, Bool.false_eq_true, Bool.true_eq_false, Bool.not_true, Bool.not_false, reduceCtorEq, true_and, and_true, forall_const, false_and, and_false, false_implies, not_false_eq_true, not_true_eq_false, decide_eq_true_eq, decide_eq_false_iff_not, isi_none_int, isi_none_bool, isi_none_str, isi_none_tuple, isi_none_list, isi_none_list_tuple, isi_none_tuple_list, isi_bl_int, isi_bl_bool, isi_bl_str, isi_bl_tuple, isi_bl_list, isi_bl_list_tuple, isi_bl_tuple_list, isi_int_int, isi_int_bool, isi_int_str, isi_int_tuple, isi_int_list, isi_int_list_tuple, isi_int_tuple_list, isi_str_int, isi_str_bool, isi_str_str, isi_str_tuple, isi_str_list, isi_str_list_tuple, isi_str_tuple_list, isi_tup_int, isi_tup_bool, isi_tup_str, isi_tup_tuple, isi_tup_list, isi_tup_list_tuple, isi_tup_tuple_list, isi_lst_int, isi_lst_bool, isi_lst_str, isi_lst_tuple, isi_lst_list, isi_lst_list_tuple, isi_lst_tuple_list, cmp_eq_ii, cmp_ne_ii, cmp_eq_bb, cmp_ne_bb, cmp_lt, cmp_le, cmp_gt, cmp_ge, cmp_ni_ii, binD, cmp_eq_ss hw h3]
  refine ⟨fun e => ?_, fun e => ?_⟩
  · rw [e] at h
    simp only [if_true] at h
    refine ⟨fun a => ⟨fun b => ?_, fun b => ?_⟩, fun a => ?_⟩
    · rw [if_pos ⟨a, b⟩] at h; exact h
    · rw [if_neg (fun z => b z.2)] at h; exact h
    · rw [if_neg (fun z => a z.1)] at h; exact h
  · rw [e] at h
    simp only [Bool.false_eq_true, if_false] at h
    refine ⟨fun a => ⟨fun b => ?_, fun b => ?_⟩, fun a => ?_⟩
    · rw [if_pos ⟨a, b⟩] at h; exact h
    · rw [if_neg (fun z => b z.2)] at h; exact h
    · rw [if_neg (fun z => a z.1)] at h; exact h
theorem put_spec {n : Nat} {st : List SO} {w : Str} {a b : Int × Int × Int} {big : Int} {Q : Rs → List SO → Prop} (hw : PyData.strOk w = true) (h : Q (code (put w big a b), false) st) : Rp (callF fns wf (n + 2) 3 [.str w, code (some a), code (some b), .int big] st) Q := by
  obtain ⟨h1, h2, h3⟩ := ok_lit
  obtain ⟨a1, a2, a3⟩ := a
  obtain ⟨b1, b2, b3⟩ := b
  refine c_put_together ?_
  unfold b_put_together code
  simp only [wp_bind, wp_pure, wp_bad, wp_getS, wp_asB, wp_slotOpd, wp_rdSlot, wp_rdVar, wp_rdRet, wp_resV, wp_resS, wp_ress0, wp_ress, wp_setR, wp_setρ, wp_call, wp_setAt, wp_opd, wp_dat, wp_shr, wp_ownL, wp_popAt, wp_popLast, wp_app, wp_ins, wp_bindTup, wp_bindTs0, wp_bindTs, wp_bindNm, wp_blk, w_var, w_con, w_tup, w_lst, w_shr, w_bin, w_cmp, w_idx, w_cmp2, w_and2, w_or2, w_not1, w_ife, w_sli, w_call, w_blt, w_isi, w_lc, w_popk, w_popl, w_isN, w_neg, Z.w_rev, w_part0, w_part1, w_ds0, w_ds, w_os0, w_os, w_cs0, w_cs, line, w_asg, w_asgT, w_aug, w_setI, w_app, w_ins, w_ext, w_expr, w_ret, w_retN, w_if, w_forE, w_whil, w_brk, w_cont, w_pass, w_ss0, w_ss, fw_nx, fw_brk, fw_cont, fw_ret, nn_none, nn_int, nn_bl, nn_str, nn_tup, nn_lst, ol_lst, op_some, op_none, op_ite, ob_bl, oi_int, sl_pu, sl_ow, al_ow, al_obj, so_lst, opdV, retV, endQ, letgo, ite_self, ixN_3_0, ixN_3_1, ixN_3_2, atI_0, atI_1, atI_2, atI_3, List.getElem?_cons_zero, List.getElem?_cons_succ, List.set_cons_zero, List.set_cons_succ, List.length_cons, List.length_nil, List.length_map, Option.bind_some, Option.map_some, Nat.zero_add, Nat.reduceAdd, Nat.reduceLT, Nat.reduceLeDiff, Nat.zero_le, if_false, if_true, Bool.false_eq_true, Bool.true_eq_false, Bool.not_true, Bool.not_false, reduceCtorEq, true_and, and_true, forall_const, false_and, and_false, false_implies, not_false_eq_true, not_true_eq_false, decide_eq_true_eq, decide_eq_false_iff_not, isi_none_int, isi_none_bool, isi_none_str, isi_none_tuple, isi_none_list, isi_none_list_tuple, isi_none_tuple_list, isi_bl_int, isi_bl_bool, isi_bl_str, isi_bl_tuple, isi_bl_list, isi_bl_list_tuple, isi_bl_tuple_list, isi_int_int, isi_int_bool, isi_int_str, isi_int_tuple, isi_int_list, isi_int_list_tuple, isi_int_tuple_list, isi_str_int, isi_str_bool, isi_str_str, isi_str_tuple, isi_str_list, isi_str_list_tuple, isi_str_tuple_list, isi_tup_int, isi_tup_bool, isi_tup_str, isi_tup_tuple, isi_tup_list, isi_tup_list_tuple, isi_tup_tuple_list, isi_lst_int, isi_lst_bool, isi_lst_str, isi_lst_tuple, isi_lst_list, isi_lst_list_tuple, isi_lst_tuple_list, cmp_eq_ii, cmp_ne_ii, cmp_eq_bb, cmp_ne_bb, cmp_lt, cmp_le, cmp_gt, cmp_ge, cmp_ni_ii, binD, bltD, on2, max2D, idxD, seqD]
  refine step_spec hw ?_
  simp only [wp_bind, wp_pure, wp_bad, wp_getS, wp_asB, wp_slotOpd, wp_rdSlot, wp_rdVar, wp_rdRet, wp_resV, wp_resS, wp_ress0, wp_ress, wp_setR, wp_setρ, wp_call, wp_setAt, wp_opd, wp_dat, wp_shr, wp_ownL, wp_popAt, wp_popLast, wp_app, wp_ins, wp_bindTup, wp_bindTs0, wp_bindTs, wp_bindNm, wp_blk, w_var, w_con, w_tup, w_lst, w_shr, w_bin, w_cmp, w_idx, w_cmp2, w_and2, w_or2, w_not1, w_ife, w_sli, w_call, w_blt, w_isi, w_lc, w_popk, w_popl, w_isN, w_neg, Z.w_rev, w_part0, w_part1, w_ds0, w_ds, w_os0, w_os, w_cs0, w_cs, line, w_asg, w_asgT, w_aug, w_setI, w_app, w_ins, w_ext, w_expr, w_ret, w_retN, w_if, w_forE, w_whil, w_brk, w_cont, w_pass, w_ss0, w_ss, fw_nx, fw_brk, fw_cont, fw_ret, nn_none, nn_int, nn_bl, nn_str, nn_tup, nn_lst, ol_lst, op_some, op_none, op_ite, ob_bl, oi_int, sl_pu, sl_ow, al_ow, al_obj, so_lst, opdV, retV, endQ, letgo, ite_self, ixN_3_0, ixN_3_1, ixN_3_2, atI_0, atI_1, atI_2, atI_3, List.getElem?_cons_zero, List.getElem?_cons_succ, List.set_cons_zero, List.set_cons_succ, List.length_cons, List.length_nil, List.length_map, Option.bind_some, Option.map_some, Nat.zero_add, Nat.reduceAdd, Nat.reduceLT, Nat.reduceLeDiff, Nat.zero_le, if_false, if_true, Bool.false_eq_true, Bool.true_eq_false, Bool.not_true, Bool.not_false, reduceCtorEq, true_and, and_true, forall_const, false_and, and_false, false_implies, not_false_eq_true, not_true_eq_false, decide_eq_true_eq, decide_eq_false_iff_not, isi_none_int, isi_none_bool, isi_none_str, isi_none_tuple, isi_none_list, isi_none_list_tuple, isi_none_tuple_list, isi_bl_int, isi_bl_bool, isi_bl_str, isi_bl_tuple, isi_bl_list, isi_bl_list_tuple, isi_bl_tuple_list, isi_int_int, isi_int_bool, isi_int_str, isi_int_tuple, isi_int_list, isi_int_list_tuple, isi_int_tuple_list, isi_str_int, isi_str_bool, isi_str_str, isi_str_tuple, isi_str_list, isi_str_list_tuple, isi_str_tuple_list, isi_tup_int, isi_tup_bool, isi_tup_str, isi_tup_tuple, isi_tup_list, isi_tup_list_tuple, isi_tup_tuple_list, isi_lst_int, isi_lst_bool, isi_lst_str, isi_lst_tuple, isi_lst_list, isi_lst_list_tuple, isi_lst_tuple_list, cmp_eq_ii, cmp_ne_ii, cmp_eq_bb, cmp_ne_bb, cmp_lt, cmp_le, cmp_gt, cmp_ge, cmp_ni_ii, binD, bltD, on2, max2D, idxD, seqD]
  unfold put mx at h
  dsimp only at h
  generalize (if eqD (.str w) (.str "meet") = true then a3 + b3 - big else a3 + b3) = s at h ⊢
  have m4 : mulOk 4 big = true := mulOk_l (by decide)
  by_cases hs : 0 ≤ s ∧ s ≤ big
  · rw [if_pos hs]
    simp only [wp_bind, wp_pure, wp_bad, wp_getS, wp_asB, wp_slotOpd, wp_rdSlot, wp_rdVar, wp_rdRet, wp_resV, wp_resS, wp_ress0, wp_ress, wp_setR, wp_setρ, wp_call, wp_setAt, wp_opd, wp_dat, wp_shr, wp_ownL, wp_popAt, wp_popLast, wp_app, wp_ins, wp_bindTup, wp_bindTs0, wp_bindTs, wp_bindNm, wp_blk, w_var, w_con, w_tup, w_lst, w_shr, w_bin, w_cmp, w_idx, w_cmp2, w_and2, w_or2, w_not1, w_ife, w_sli, w_call, w_blt, w_isi, w_lc, w_popk, w_popl, w_isN, w_neg, Z.w_rev, w_part0, w_part1, w_ds0, w_ds, w_os0, w_os, w_cs0, w_cs, line, w_asg, w_asgT, w_aug, w_setI, w_app, w_ins, w_ext, w_expr, w_ret, w_retN, w_if, w_forE, w_whil, w_brk, w_cont, w_pass, w_ss0, w_ss, fw_nx, fw_brk, fw_cont, fw_ret, nn_none, nn_int, nn_bl, nn_str, nn_tup, nn_lst, ol_lst, op_some, op_none, op_ite, ob_bl, oi_int, sl_pu, sl_ow, al_ow, al_obj, so_lst, opdV, retV, endQ, letgo, ite_self, ixN_3_0, ixN_3_1, ixN_3_2, atI_0, atI_1, atI_2, atI_3, List.getElem?_cons_zero, List.getElem?_cons_succ, List.set_cons_zero, List.set_cons_succ, List.length_cons, List.length_nil, List.length_map, Option.bind_some, Option.map_some, Nat.zero_add, Nat.reduceAdd, Nat.reduceLT, Nat.reduceLeDiff, Nat.zero_le, if_false, if_true, Bool.false_eq_true, Bool.true_eq_false, Bool.not_true, Bool.not_false, reduceCtorEq, true_and, and_true, forall_const, false_and, and_false, false_implies, not_false_eq_true, not_true_eq_false, decide_eq_true_eq, decide_eq_false_iff_not, isi_none_int, isi_none_bool, isi_none_str, isi_none_tuple, isi_none_list, isi_none_list_tuple, isi_none_tuple_list, isi_bl_int, isi_bl_bool, isi_bl_str, isi_bl_tuple, isi_bl_list, isi_bl_list_tuple, isi_bl_tuple_list, isi_int_int, isi_int_bool, isi_int_str, isi_int_tuple, isi_int_list, isi_int_list_tuple, isi_int_tuple_list, isi_str_int, isi_str_bool, isi_str_str, isi_str_tuple, isi_str_list, isi_str_list_tuple, isi_str_tuple_list, isi_tup_int, isi_tup_bool, isi_tup_str, isi_tup_tuple, isi_tup_list, isi_tup_list_tuple, isi_tup_tuple_list, isi_lst_int, isi_lst_bool, isi_lst_str, isi_lst_tuple, isi_lst_list, isi_lst_list_tuple, isi_lst_tuple_list, cmp_eq_ii, cmp_ne_ii, cmp_eq_bb, cmp_ne_bb, cmp_lt, cmp_le, cmp_gt, cmp_ge, cmp_ni_ii, binD, m4]
    refine ⟨fun c => ?_, fun c => ⟨fun c2 => ?_, fun c2 => ?_⟩⟩
    · rw [if_neg (by omega)] at h; exact h
    · rw [if_neg (by omega)] at h; exact h
    · rw [if_pos (by omega)] at h; exact h
  · rw [if_neg hs]
    simp only [wp_bind, wp_pure, wp_bad, wp_getS, wp_asB, wp_slotOpd, wp_rdSlot, wp_rdVar, wp_rdRet, wp_resV, wp_resS, wp_ress0, wp_ress, wp_setR, wp_setρ, wp_call, wp_setAt, wp_opd, wp_dat, wp_shr, wp_ownL, wp_popAt, wp_popLast, wp_app, wp_ins, wp_bindTup, wp_bindTs0, wp_bindTs, wp_bindNm, wp_blk, w_var, w_con, w_tup, w_lst, w_shr, w_bin, w_cmp, w_idx, w_cmp2, w_and2, w_or2, w_not1, w_ife, w_sli, w_call, w_blt, w_isi, w_lc, w_popk, w_popl, w_isN, w_neg, Z.w_rev, w_part0, w_part1, w_ds0, w_ds, w_os0, w_os, w_cs0, w_cs, line, w_asg, w_asgT, w_aug, w_setI, w_app, w_ins, w_ext, w_expr, w_ret, w_retN, w_if, w_forE, w_whil, w_brk, w_cont, w_pass, w_ss0, w_ss, fw_nx, fw_brk, fw_cont, fw_ret, nn_none, nn_int, nn_bl, nn_str, nn_tup, nn_lst, ol_lst, op_some, op_none, op_ite, ob_bl, oi_int, sl_pu, sl_ow, al_ow, al_obj, so_lst, opdV, retV, endQ, letgo, ite_self, ixN_3_0, ixN_3_1, ixN_3_2, atI_0, atI_1, atI_2, atI_3, List.getElem?_cons_zero, List.getElem?_cons_succ, List.set_cons_zero, List.set_cons_succ, List.length_cons, List.length_nil, List.length_map, Option.bind_some, Option.map_some, Nat.zero_add, Nat.reduceAdd, Nat.reduceLT, Nat.reduceLeDiff, Nat.zero_le, if_false, if_true, Bool.false_eq_true, Bool.true_eq_false, Bool.not_true, Bool.not_false, reduceCtorEq, true_and, and_true, forall_const, false_and, and_false, false_implies, not_false_eq_true, not_true_eq_false, decide_eq_true_eq, decide_eq_false_iff_not, isi_none_int, isi_none_bool, isi_none_str, isi_none_tuple, isi_none_list, isi_none_list_tuple, isi_none_tuple_list, isi_bl_int, isi_bl_bool, isi_bl_str, isi_bl_tuple, isi_bl_list, isi_bl_list_tuple, isi_bl_tuple_list, isi_int_int, isi_int_bool, isi_int_str, isi_int_tuple, isi_int_list, isi_int_list_tuple, isi_int_tuple_list, isi_str_int, isi_str_bool, isi_str_str, isi_str_tuple, isi_str_list, isi_str_list_tuple, isi_str_tuple_list, isi_tup_int, isi_tup_bool, isi_tup_str, isi_tup_tuple, isi_tup_list, isi_tup_list_tuple, isi_tup_tuple_list, isi_lst_int, isi_lst_bool, isi_lst_str, isi_lst_tuple, isi_lst_list, isi_lst_list_tuple, isi_lst_tuple_list, cmp_eq_ii, cmp_ne_ii, cmp_eq_bb, cmp_ne_bb, cmp_lt, cmp_le, cmp_gt, cmp_ge, cmp_ni_ii, binD, m4]
    rw [if_neg (by omega)] at h
    exact h
end G

namespace G
open PySem PySem.Spec PyProof.Rows L2 Z
theorem kid {L k : Nat} {ds : List D} (h : Fine L (k + 1) (.tup ds)) {x : D} (hx : x ∈ ds) : Fine L k x := by
  unfold Fine at h
  exact h.2 x hx
theorem sok {L k : Nat} {w : Str} (h : Fine L k (.str w)) : PyData.strOk w = true := by
  cases k with
  | zero => unfold Fine at h; exact h.elim
  | succ k => unfold Fine at h; exact h.1
theorem meas_nt {big : Int} {k : Nat} {d : D} (h : ∀ w x, d ≠ .tup [.str w, x]) (h' : ∀ w x y, d ≠ .tup [.str w, x, y]) : meas big k d = none := by
  cases k with
  | zero => rfl
  | succ k =>
    unfold meas
    split
    · exact absurd rfl (h _ _)
    · exact absurd rfl (h' _ _ _)
    · rfl
theorem measured_spec {L : Nat} {big : Int} {st : List SO} : ∀ {k : Nat} {d : D} {n : Nat} {Q : Rs → List SO → Prop}, Fine L k d → Q (code (meas big k d), false) st → Rp (callF fns wf (n + k + 3) 4 [d, .int big] st) Q
  | 0, d, n, Q, hd, _ => by unfold Fine at hd; exact hd.elim
  | k + 1, d, n, Q, hd, h => by
    obtain ⟨h1, h2, h3⟩ := ok_lit
    show Rp (callF fns wf ((n + k + 3) + 1) 4 [d, .int big] st) Q
    refine c_measured ?_
    unfold b_measured
    cases d with
    | dic _ _ => unfold Fine at hd; exact hd.elim
    | obj _ => unfold Fine at hd; exact hd.elim
    | scr _ => unfold Fine at hd; exact hd.elim
    | tup ds =>
      match ds, hd, h with
      | [], hd, h => simp only [wp_bind, wp_pure, wp_bad, wp_getS, wp_asB, wp_slotOpd, wp_rdSlot, wp_rdVar, wp_rdRet, wp_resV, wp_resS, wp_ress0, wp_ress, wp_setR, wp_setρ, wp_call, wp_setAt, wp_opd, wp_dat, wp_shr, wp_ownL, wp_popAt, wp_popLast, wp_app, wp_ins, wp_bindTup, wp_bindTs0, wp_bindTs, wp_bindNm, wp_blk, w_var, w_con, w_tup, w_lst, w_shr, w_bin, w_cmp, w_idx, w_cmp2, w_and2, w_or2, w_not1, w_ife, w_sli, w_call, w_blt, w_isi, w_lc, w_popk, w_popl, w_isN, w_neg, Z.w_rev, w_part0, w_part1, w_ds0, w_ds, w_os0, w_os, w_cs0, w_cs, line, w_asg, w_asgT, w_aug, w_setI, w_app, w_ins, w_ext, w_expr, w_ret, w_retN, w_if, w_forE, w_whil, w_brk, w_cont, w_pass, w_ss0, w_ss, fw_nx, fw_brk, fw_cont, fw_ret, nn_none, nn_int, nn_bl, nn_str, nn_tup, nn_lst, ol_lst, op_some, op_none, op_ite, ob_bl, oi_int, sl_pu, sl_ow, al_ow, al_obj, so_lst, opdV, retV, endQ, letgo, ite_self, ixN_3_0, ixN_3_1, ixN_3_2, atI_0, atI_1, atI_2, atI_3, List.getElem?_cons_zero, List.getElem?_cons_succ, List.set_cons_zero, List.set_cons_succ, List.length_cons, List.length_nil, List.length_map, Option.bind_some, Option.map_some, Nat.zero_add, Nat.reduceAdd, Nat.reduceLT, Nat.reduceLeDiff, Nat.zero_le, if_false, if_true, Bool.false_eq_true, Bool.true_eq_false, Bool.not_true, Bool.not_false, reduceCtorEq, true_and, and_true, forall_const, false_and, and_false, false_implies, not_false_eq_true, not_true_eq_false, decide_eq_true_eq, decide_eq_false_iff_not, isi_none_int, isi_none_bool, isi_none_str, isi_none_tuple, isi_none_list, isi_none_list_tuple, isi_none_tuple_list, isi_bl_int, isi_bl_bool, isi_bl_str, isi_bl_tuple, isi_bl_list, isi_bl_list_tuple, isi_bl_tuple_list, isi_int_int, isi_int_bool, isi_int_str, isi_int_tuple, isi_int_list, isi_int_list_tuple, isi_int_tuple_list, isi_str_int, isi_str_bool, isi_str_str, isi_str_tuple, isi_str_list, isi_str_list_tuple, isi_str_tuple_list, isi_tup_int, isi_tup_bool, isi_tup_str, isi_tup_tuple, isi_tup_list, isi_tup_list_tuple, isi_tup_tuple_list, isi_lst_int, isi_lst_bool, isi_lst_str, isi_lst_tuple, isi_lst_list, isi_lst_list_tuple, isi_lst_tuple_list, cmp_eq_ii, cmp_ne_ii, cmp_eq_bb, cmp_ne_bb, cmp_lt, cmp_le, cmp_gt, cmp_ge, cmp_ni_ii, bltD, on1, lenD, seqD, idxD]; exact ⟨fun _ => h, fun z => absurd z (by decide)⟩
      | [x], hd, h =>
        rw [meas_nt (fun w x z => by cases z) (fun w x y z => by cases z)] at h
        simp only [wp_bind, wp_pure, wp_bad, wp_getS, wp_asB, wp_slotOpd, wp_rdSlot, wp_rdVar, wp_rdRet, wp_resV, wp_resS, wp_ress0, wp_ress, wp_setR, wp_setρ, wp_call, wp_setAt, wp_opd, wp_dat, wp_shr, wp_ownL, wp_popAt, wp_popLast, wp_app, wp_ins, wp_bindTup, wp_bindTs0, wp_bindTs, wp_bindNm, wp_blk, w_var, w_con, w_tup, w_lst, w_shr, w_bin, w_cmp, w_idx, w_cmp2, w_and2, w_or2, w_not1, w_ife, w_sli, w_call, w_blt, w_isi, w_lc, w_popk, w_popl, w_isN, w_neg, Z.w_rev, w_part0, w_part1, w_ds0, w_ds, w_os0, w_os, w_cs0, w_cs, line, w_asg, w_asgT, w_aug, w_setI, w_app, w_ins, w_ext, w_expr, w_ret, w_retN, w_if, w_forE, w_whil, w_brk, w_cont, w_pass, w_ss0, w_ss, fw_nx, fw_brk, fw_cont, fw_ret, nn_none, nn_int, nn_bl, nn_str, nn_tup, nn_lst, ol_lst, op_some, op_none, op_ite, ob_bl, oi_int, sl_pu, sl_ow, al_ow, al_obj, so_lst, opdV, retV, endQ, letgo, ite_self, ixN_3_0, ixN_3_1, ixN_3_2, atI_0, atI_1, atI_2, atI_3, List.getElem?_cons_zero, List.getElem?_cons_succ, List.set_cons_zero, List.set_cons_succ, List.length_cons, List.length_nil, List.length_map, Option.bind_some, Option.map_some, Nat.zero_add, Nat.reduceAdd, Nat.reduceLT, Nat.reduceLeDiff, Nat.zero_le, if_false, if_true, Bool.false_eq_true, Bool.true_eq_false, Bool.not_true, Bool.not_false, reduceCtorEq, true_and, and_true, forall_const, false_and, and_false, false_implies, not_false_eq_true, not_true_eq_false, decide_eq_true_eq, decide_eq_false_iff_not, isi_none_int, isi_none_bool, isi_none_str, isi_none_tuple, isi_none_list, isi_none_list_tuple, isi_none_tuple_list, isi_bl_int, isi_bl_bool, isi_bl_str, isi_bl_tuple, isi_bl_list, isi_bl_list_tuple, isi_bl_tuple_list, isi_int_int, isi_int_bool, isi_int_str, isi_int_tuple, isi_int_list, isi_int_list_tuple, isi_int_tuple_list, isi_str_int, isi_str_bool, isi_str_str, isi_str_tuple, isi_str_list, isi_str_list_tuple, isi_str_tuple_list, isi_tup_int, isi_tup_bool, isi_tup_str, isi_tup_tuple, isi_tup_list, isi_tup_list_tuple, isi_tup_tuple_list, isi_lst_int, isi_lst_bool, isi_lst_str, isi_lst_tuple, isi_lst_list, isi_lst_list_tuple, isi_lst_tuple_list, cmp_eq_ii, cmp_ne_ii, cmp_eq_bb, cmp_ne_bb, cmp_lt, cmp_le, cmp_gt, cmp_ge, cmp_ni_ii, bltD, on1, lenD, seqD, idxD]
        exact ⟨fun _ => h, fun z => absurd z (by decide)⟩
      | [a, x], hd, h =>
        have ha := kid hd (x := a) (by simp)
        have hx := kid hd (x := x) (by simp)
        cases a with
        | dic _ _ => cases k <;> (unfold Fine at ha; exact ha.elim)
        | obj _ => cases k <;> (unfold Fine at ha; exact ha.elim)
        | scr _ => cases k <;> (unfold Fine at ha; exact ha.elim)
        | str w =>
          simp only [wp_bind, wp_pure, wp_bad, wp_getS, wp_asB, wp_slotOpd, wp_rdSlot, wp_rdVar, wp_rdRet, wp_resV, wp_resS, wp_ress0, wp_ress, wp_setR, wp_setρ, wp_call, wp_setAt, wp_opd, wp_dat, wp_shr, wp_ownL, wp_popAt, wp_popLast, wp_app, wp_ins, wp_bindTup, wp_bindTs0, wp_bindTs, wp_bindNm, wp_blk, w_var, w_con, w_tup, w_lst, w_shr, w_bin, w_cmp, w_idx, w_cmp2, w_and2, w_or2, w_not1, w_ife, w_sli, w_call, w_blt, w_isi, w_lc, w_popk, w_popl, w_isN, w_neg, Z.w_rev, w_part0, w_part1, w_ds0, w_ds, w_os0, w_os, w_cs0, w_cs, line, w_asg, w_asgT, w_aug, w_setI, w_app, w_ins, w_ext, w_expr, w_ret, w_retN, w_if, w_forE, w_whil, w_brk, w_cont, w_pass, w_ss0, w_ss, fw_nx, fw_brk, fw_cont, fw_ret, nn_none, nn_int, nn_bl, nn_str, nn_tup, nn_lst, ol_lst, op_some, op_none, op_ite, ob_bl, oi_int, sl_pu, sl_ow, al_ow, al_obj, so_lst, opdV, retV, endQ, letgo, ite_self, ixN_3_0, ixN_3_1, ixN_3_2, atI_0, atI_1, atI_2, atI_3, List.getElem?_cons_zero, List.getElem?_cons_succ, List.set_cons_zero, List.set_cons_succ, List.length_cons, List.length_nil, List.length_map, Option.bind_some, Option.map_some, Nat.zero_add, Nat.reduceAdd, Nat.reduceLT, Nat.reduceLeDiff, Nat.zero_le, if_false, if_true, Bool.false_eq_true, Bool.true_eq_false, Bool.not_true, Bool.not_false, reduceCtorEq, true_and, and_true, forall_const, false_and, and_false, false_implies, not_false_eq_true, not_true_eq_false, decide_eq_true_eq, decide_eq_false_iff_not, isi_none_int, isi_none_bool, isi_none_str, isi_none_tuple, isi_none_list, isi_none_list_tuple, isi_none_tuple_list, isi_bl_int, isi_bl_bool, isi_bl_str, isi_bl_tuple, isi_bl_list, isi_bl_list_tuple, isi_bl_tuple_list, isi_int_int, isi_int_bool, isi_int_str, isi_int_tuple, isi_int_list, isi_int_list_tuple, isi_int_tuple_list, isi_str_int, isi_str_bool, isi_str_str, isi_str_tuple, isi_str_list, isi_str_list_tuple, isi_str_tuple_list, isi_tup_int, isi_tup_bool, isi_tup_str, isi_tup_tuple, isi_tup_list, isi_tup_list_tuple, isi_tup_tuple_list, isi_lst_int, isi_lst_bool, isi_lst_str, isi_lst_tuple, isi_lst_list, isi_lst_list_tuple, isi_lst_tuple_list, cmp_eq_ii, cmp_ne_ii, cmp_eq_bb, cmp_ne_bb, cmp_lt, cmp_le, cmp_gt, cmp_ge, cmp_ni_ii, bltD, on1, lenD, seqD, idxD]
          refine ⟨fun z => absurd z (by decide), fun _ => ?_⟩
          refine is_point_spec (sok ha) ⟨L, k, hx⟩ ?_
          simp only [wp_bind, wp_pure, wp_bad, wp_getS, wp_asB, wp_slotOpd, wp_rdSlot, wp_rdVar, wp_rdRet, wp_resV, wp_resS, wp_ress0, wp_ress, wp_setR, wp_setρ, wp_call, wp_setAt, wp_opd, wp_dat, wp_shr, wp_ownL, wp_popAt, wp_popLast, wp_app, wp_ins, wp_bindTup, wp_bindTs0, wp_bindTs, wp_bindNm, wp_blk, w_var, w_con, w_tup, w_lst, w_shr, w_bin, w_cmp, w_idx, w_cmp2, w_and2, w_or2, w_not1, w_ife, w_sli, w_call, w_blt, w_isi, w_lc, w_popk, w_popl, w_isN, w_neg, Z.w_rev, w_part0, w_part1, w_ds0, w_ds, w_os0, w_os, w_cs0, w_cs, line, w_asg, w_asgT, w_aug, w_setI, w_app, w_ins, w_ext, w_expr, w_ret, w_retN, w_if, w_forE, w_whil, w_brk, w_cont, w_pass, w_ss0, w_ss, fw_nx, fw_brk, fw_cont, fw_ret, nn_none, nn_int, nn_bl, nn_str, nn_tup, nn_lst, ol_lst, op_some, op_none, op_ite, ob_bl, oi_int, sl_pu, sl_ow, al_ow, al_obj, so_lst, opdV, retV, endQ, letgo, ite_self, ixN_3_0, ixN_3_1, ixN_3_2, atI_0, atI_1, atI_2, atI_3, List.getElem?_cons_zero, List.getElem?_cons_succ, List.set_cons_zero, List.set_cons_succ, List.length_cons, List.length_nil, List.length_map, Option.bind_some, Option.map_some, Nat.zero_add, Nat.reduceAdd, Nat.reduceLT, Nat.reduceLeDiff, Nat.zero_le, if_false, if_true, Bool.false_eq_true, Bool.true_eq_false, Bool.not_true, Bool.not_false, reduceCtorEq, true_and, and_true, forall_const, false_and, and_false, false_implies, not_false_eq_true, not_true_eq_false, decide_eq_true_eq, decide_eq_false_iff_not, isi_none_int, isi_none_bool, isi_none_str, isi_none_tuple, isi_none_list, isi_none_list_tuple, isi_none_tuple_list, isi_bl_int, isi_bl_bool, isi_bl_str, isi_bl_tuple, isi_bl_list, isi_bl_list_tuple, isi_bl_tuple_list, isi_int_int, isi_int_bool, isi_int_str, isi_int_tuple, isi_int_list, isi_int_list_tuple, isi_int_tuple_list, isi_str_int, isi_str_bool, isi_str_str, isi_str_tuple, isi_str_list, isi_str_list_tuple, isi_str_tuple_list, isi_tup_int, isi_tup_bool, isi_tup_str, isi_tup_tuple, isi_tup_list, isi_tup_list_tuple, isi_tup_tuple_list, isi_lst_int, isi_lst_bool, isi_lst_str, isi_lst_tuple, isi_lst_list, isi_lst_list_tuple, isi_lst_tuple_list, cmp_eq_ii, cmp_ne_ii, cmp_eq_bb, cmp_ne_bb, cmp_lt, cmp_le, cmp_gt, cmp_ge, cmp_ni_ii, bltD, on1, lenD, seqD, idxD]
          have h : Q (code (point w x), false) st := h
          refine ⟨fun e => ?_, fun e => ?_⟩
          · have e2 : point w x = some (1, 1, 1) := by
              cases x with
              | int i =>
                rw [point_int] at e ⊢
                by_cases c : eqD (.str w) (.str "point") = true ∧ 0 ≤ i ∧ i < 8
                · rw [if_pos c]
                · rw [if_neg c] at e; cases e
              | _ => cases e
            rw [e2] at h
            exact h
          · have e2 : point w x = none := by
              cases e3 : point w x with
              | none => rfl
              | some v => rw [e3] at e; cases e
            rw [e2] at h
            exact ⟨fun _ => h, fun z => absurd z (by decide)⟩
        | _ =>
          simp only [wp_bind, wp_pure, wp_bad, wp_getS, wp_asB, wp_slotOpd, wp_rdSlot, wp_rdVar, wp_rdRet, wp_resV, wp_resS, wp_ress0, wp_ress, wp_setR, wp_setρ, wp_call, wp_setAt, wp_opd, wp_dat, wp_shr, wp_ownL, wp_popAt, wp_popLast, wp_app, wp_ins, wp_bindTup, wp_bindTs0, wp_bindTs, wp_bindNm, wp_blk, w_var, w_con, w_tup, w_lst, w_shr, w_bin, w_cmp, w_idx, w_cmp2, w_and2, w_or2, w_not1, w_ife, w_sli, w_call, w_blt, w_isi, w_lc, w_popk, w_popl, w_isN, w_neg, Z.w_rev, w_part0, w_part1, w_ds0, w_ds, w_os0, w_os, w_cs0, w_cs, line, w_asg, w_asgT, w_aug, w_setI, w_app, w_ins, w_ext, w_expr, w_ret, w_retN, w_if, w_forE, w_whil, w_brk, w_cont, w_pass, w_ss0, w_ss, fw_nx, fw_brk, fw_cont, fw_ret, nn_none, nn_int, nn_bl, nn_str, nn_tup, nn_lst, ol_lst, op_some, op_none, op_ite, ob_bl, oi_int, sl_pu, sl_ow, al_ow, al_obj, so_lst, opdV, retV, endQ, letgo, ite_self, ixN_3_0, ixN_3_1, ixN_3_2, atI_0, atI_1, atI_2, atI_3, List.getElem?_cons_zero, List.getElem?_cons_succ, List.set_cons_zero, List.set_cons_succ, List.length_cons, List.length_nil, List.length_map, Option.bind_some, Option.map_some, Nat.zero_add, Nat.reduceAdd, Nat.reduceLT, Nat.reduceLeDiff, Nat.zero_le, if_false, if_true, Bool.false_eq_true, Bool.true_eq_false, Bool.not_true, Bool.not_false, reduceCtorEq, true_and, and_true, forall_const, false_and, and_false, false_implies, not_false_eq_true, not_true_eq_false, decide_eq_true_eq, decide_eq_false_iff_not, isi_none_int, isi_none_bool, isi_none_str, isi_none_tuple, isi_none_list, isi_none_list_tuple, isi_none_tuple_list, isi_bl_int, isi_bl_bool, isi_bl_str, isi_bl_tuple, isi_bl_list, isi_bl_list_tuple, isi_bl_tuple_list, isi_int_int, isi_int_bool, isi_int_str, isi_int_tuple, isi_int_list, isi_int_list_tuple, isi_int_tuple_list, isi_str_int, isi_str_bool, isi_str_str, isi_str_tuple, isi_str_list, isi_str_list_tuple, isi_str_tuple_list, isi_tup_int, isi_tup_bool, isi_tup_str, isi_tup_tuple, isi_tup_list, isi_tup_list_tuple, isi_tup_tuple_list, isi_lst_int, isi_lst_bool, isi_lst_str, isi_lst_tuple, isi_lst_list, isi_lst_list_tuple, isi_lst_tuple_list, cmp_eq_ii, cmp_ne_ii, cmp_eq_bb, cmp_ne_bb, cmp_lt, cmp_le, cmp_gt, cmp_ge, cmp_ni_ii, bltD, on1, lenD, seqD, idxD]
          exact ⟨fun _ => h, fun z => h⟩
      | [a, x, y], hd, h =>
        have ha := kid hd (x := a) (by simp)
        have hx := kid hd (x := x) (by simp)
        have hy := kid hd (x := y) (by simp)
        cases a with
        | dic _ _ => cases k <;> (unfold Fine at ha; exact ha.elim)
        | obj _ => cases k <;> (unfold Fine at ha; exact ha.elim)
        | scr _ => cases k <;> (unfold Fine at ha; exact ha.elim)
        | str w =>
          simp only [wp_bind, wp_pure, wp_bad, wp_getS, wp_asB, wp_slotOpd, wp_rdSlot, wp_rdVar, wp_rdRet, wp_resV, wp_resS, wp_ress0, wp_ress, wp_setR, wp_setρ, wp_call, wp_setAt, wp_opd, wp_dat, wp_shr, wp_ownL, wp_popAt, wp_popLast, wp_app, wp_ins, wp_bindTup, wp_bindTs0, wp_bindTs, wp_bindNm, wp_blk, w_var, w_con, w_tup, w_lst, w_shr, w_bin, w_cmp, w_idx, w_cmp2, w_and2, w_or2, w_not1, w_ife, w_sli, w_call, w_blt, w_isi, w_lc, w_popk, w_popl, w_isN, w_neg, Z.w_rev, w_part0, w_part1, w_ds0, w_ds, w_os0, w_os, w_cs0, w_cs, line, w_asg, w_asgT, w_aug, w_setI, w_app, w_ins, w_ext, w_expr, w_ret, w_retN, w_if, w_forE, w_whil, w_brk, w_cont, w_pass, w_ss0, w_ss, fw_nx, fw_brk, fw_cont, fw_ret, nn_none, nn_int, nn_bl, nn_str, nn_tup, nn_lst, ol_lst, op_some, op_none, op_ite, ob_bl, oi_int, sl_pu, sl_ow, al_ow, al_obj, so_lst, opdV, retV, endQ, letgo, ite_self, ixN_3_0, ixN_3_1, ixN_3_2, atI_0, atI_1, atI_2, atI_3, List.getElem?_cons_zero, List.getElem?_cons_succ, List.set_cons_zero, List.set_cons_succ, List.length_cons, List.length_nil, List.length_map, Option.bind_some, Option.map_some, Nat.zero_add, Nat.reduceAdd, Nat.reduceLT, Nat.reduceLeDiff, Nat.zero_le, if_false, if_true, Bool.false_eq_true, Bool.true_eq_false, Bool.not_true, Bool.not_false, reduceCtorEq, true_and, and_true, forall_const, false_and, and_false, false_implies, not_false_eq_true, not_true_eq_false, decide_eq_true_eq, decide_eq_false_iff_not, isi_none_int, isi_none_bool, isi_none_str, isi_none_tuple, isi_none_list, isi_none_list_tuple, isi_none_tuple_list, isi_bl_int, isi_bl_bool, isi_bl_str, isi_bl_tuple, isi_bl_list, isi_bl_list_tuple, isi_bl_tuple_list, isi_int_int, isi_int_bool, isi_int_str, isi_int_tuple, isi_int_list, isi_int_list_tuple, isi_int_tuple_list, isi_str_int, isi_str_bool, isi_str_str, isi_str_tuple, isi_str_list, isi_str_list_tuple, isi_str_tuple_list, isi_tup_int, isi_tup_bool, isi_tup_str, isi_tup_tuple, isi_tup_list, isi_tup_list_tuple, isi_tup_tuple_list, isi_lst_int, isi_lst_bool, isi_lst_str, isi_lst_tuple, isi_lst_list, isi_lst_list_tuple, isi_lst_tuple_list, cmp_eq_ii, cmp_ne_ii, cmp_eq_bb, cmp_ne_bb, cmp_lt, cmp_le, cmp_gt, cmp_ge, cmp_ni_ii, bltD, on1, lenD, seqD, idxD]
          refine ⟨fun z => absurd z (by decide), fun _ => ?_⟩
          refine is_point_no (by simp) ?_
          simp only [wp_bind, wp_pure, wp_bad, wp_getS, wp_asB, wp_slotOpd, wp_rdSlot, wp_rdVar, wp_rdRet, wp_resV, wp_resS, wp_ress0, wp_ress, wp_setR, wp_setρ, wp_call, wp_setAt, wp_opd, wp_dat, wp_shr, wp_ownL, wp_popAt, wp_popLast, wp_app, wp_ins, wp_bindTup, wp_bindTs0, wp_bindTs, wp_bindNm, wp_blk, w_var, w_con, w_tup, w_lst, w_shr, w_bin, w_cmp, w_idx, w_cmp2, w_and2, w_or2, w_not1, w_ife, w_sli, w_call, w_blt, w_isi, w_lc, w_popk, w_popl, w_isN, w_neg, Z.w_rev, w_part0, w_part1, w_ds0, w_ds, w_os0, w_os, w_cs0, w_cs, line, w_asg, w_asgT, w_aug, w_setI, w_app, w_ins, w_ext, w_expr, w_ret, w_retN, w_if, w_forE, w_whil, w_brk, w_cont, w_pass, w_ss0, w_ss, fw_nx, fw_brk, fw_cont, fw_ret, nn_none, nn_int, nn_bl, nn_str, nn_tup, nn_lst, ol_lst, op_some, op_none, op_ite, ob_bl, oi_int, sl_pu, sl_ow, al_ow, al_obj, so_lst, opdV, retV, endQ, letgo, ite_self, ixN_3_0, ixN_3_1, ixN_3_2, atI_0, atI_1, atI_2, atI_3, List.getElem?_cons_zero, List.getElem?_cons_succ, List.set_cons_zero, List.set_cons_succ, List.length_cons, List.length_nil, List.length_map, Option.bind_some, Option.map_some, Nat.zero_add, Nat.reduceAdd, Nat.reduceLT, Nat.reduceLeDiff, Nat.zero_le, if_false, if_true, Bool.false_eq_true, Bool.true_eq_false, Bool.not_true, Bool.not_false, reduceCtorEq, true_and, and_true, forall_const, false_and, and_false, false_implies, not_false_eq_true, not_true_eq_false, decide_eq_true_eq, decide_eq_false_iff_not, isi_none_int, isi_none_bool, isi_none_str, isi_none_tuple, isi_none_list, isi_none_list_tuple, isi_none_tuple_list, isi_bl_int, isi_bl_bool, isi_bl_str, isi_bl_tuple, isi_bl_list, isi_bl_list_tuple, isi_bl_tuple_list, isi_int_int, isi_int_bool, isi_int_str, isi_int_tuple, isi_int_list, isi_int_list_tuple, isi_int_tuple_list, isi_str_int, isi_str_bool, isi_str_str, isi_str_tuple, isi_str_list, isi_str_list_tuple, isi_str_tuple_list, isi_tup_int, isi_tup_bool, isi_tup_str, isi_tup_tuple, isi_tup_list, isi_tup_list_tuple, isi_tup_tuple_list, isi_lst_int, isi_lst_bool, isi_lst_str, isi_lst_tuple, isi_lst_list, isi_lst_list_tuple, isi_lst_tuple_list, cmp_eq_ii, cmp_ne_ii, cmp_eq_bb, cmp_ne_bb, cmp_lt, cmp_le, cmp_gt, cmp_ge, cmp_ni_ii, bltD, on1, lenD, seqD, idxD, cmp_ni_ss (sok ha) h2 h3]
          refine ⟨fun z => absurd z (by decide), fun _ => ⟨fun e => ?_, fun e => ?_⟩⟩
          · have e2 : meas big (k + 1) (.tup [.str w, x, y]) = none := by
              show two w big (meas big k x) (meas big k y) = none
              unfold two
              split
              · rw [if_neg]; intro z; rw [z] at e; cases e
              · rfl
            rw [e2] at h
            exact h
          · have e : (eqD (.str "join") (.str w) || eqD (.str "meet") (.str w)) = true := by
              cases e3 : (eqD (.str "join") (.str w) || eqD (.str "meet") (.str w)) with
              | true => rfl
              | false => rw [e3] at e; cases e
            refine measured_spec hx ?_
            simp only [wp_bind, wp_pure, wp_bad, wp_getS, wp_asB, wp_slotOpd, wp_rdSlot, wp_rdVar, wp_rdRet, wp_resV, wp_resS, wp_ress0, wp_ress, wp_setR, wp_setρ, wp_call, wp_setAt, wp_opd, wp_dat, wp_shr, wp_ownL, wp_popAt, wp_popLast, wp_app, wp_ins, wp_bindTup, wp_bindTs0, wp_bindTs, wp_bindNm, wp_blk, w_var, w_con, w_tup, w_lst, w_shr, w_bin, w_cmp, w_idx, w_cmp2, w_and2, w_or2, w_not1, w_ife, w_sli, w_call, w_blt, w_isi, w_lc, w_popk, w_popl, w_isN, w_neg, Z.w_rev, w_part0, w_part1, w_ds0, w_ds, w_os0, w_os, w_cs0, w_cs, line, w_asg, w_asgT, w_aug, w_setI, w_app, w_ins, w_ext, w_expr, w_ret, w_retN, w_if, w_forE, w_whil, w_brk, w_cont, w_pass, w_ss0, w_ss, fw_nx, fw_brk, fw_cont, fw_ret, nn_none, nn_int, nn_bl, nn_str, nn_tup, nn_lst, ol_lst, op_some, op_none, op_ite, ob_bl, oi_int, sl_pu, sl_ow, al_ow, al_obj, so_lst, opdV, retV, endQ, letgo, ite_self, ixN_3_0, ixN_3_1, ixN_3_2, atI_0, atI_1, atI_2, atI_3, List.getElem?_cons_zero, List.getElem?_cons_succ, List.set_cons_zero, List.set_cons_succ, List.length_cons, List.length_nil, List.length_map, Option.bind_some, Option.map_some, Nat.zero_add, Nat.reduceAdd, Nat.reduceLT, Nat.reduceLeDiff, Nat.zero_le, if_false, if_true, Bool.false_eq_true, Bool.true_eq_false, Bool.not_true, Bool.not_false, reduceCtorEq, true_and, and_true, forall_const, false_and, and_false, false_implies, not_false_eq_true, not_true_eq_false, decide_eq_true_eq, decide_eq_false_iff_not, isi_none_int, isi_none_bool, isi_none_str, isi_none_tuple, isi_none_list, isi_none_list_tuple, isi_none_tuple_list, isi_bl_int, isi_bl_bool, isi_bl_str, isi_bl_tuple, isi_bl_list, isi_bl_list_tuple, isi_bl_tuple_list, isi_int_int, isi_int_bool, isi_int_str, isi_int_tuple, isi_int_list, isi_int_list_tuple, isi_int_tuple_list, isi_str_int, isi_str_bool, isi_str_str, isi_str_tuple, isi_str_list, isi_str_list_tuple, isi_str_tuple_list, isi_tup_int, isi_tup_bool, isi_tup_str, isi_tup_tuple, isi_tup_list, isi_tup_list_tuple, isi_tup_tuple_list, isi_lst_int, isi_lst_bool, isi_lst_str, isi_lst_tuple, isi_lst_list, isi_lst_list_tuple, isi_lst_tuple_list, cmp_eq_ii, cmp_ne_ii, cmp_eq_bb, cmp_ne_bb, cmp_lt, cmp_le, cmp_gt, cmp_ge, cmp_ni_ii, bltD, on1, lenD, seqD, idxD]
            refine measured_spec hy ?_
            simp only [wp_bind, wp_pure, wp_bad, wp_getS, wp_asB, wp_slotOpd, wp_rdSlot, wp_rdVar, wp_rdRet, wp_resV, wp_resS, wp_ress0, wp_ress, wp_setR, wp_setρ, wp_call, wp_setAt, wp_opd, wp_dat, wp_shr, wp_ownL, wp_popAt, wp_popLast, wp_app, wp_ins, wp_bindTup, wp_bindTs0, wp_bindTs, wp_bindNm, wp_blk, w_var, w_con, w_tup, w_lst, w_shr, w_bin, w_cmp, w_idx, w_cmp2, w_and2, w_or2, w_not1, w_ife, w_sli, w_call, w_blt, w_isi, w_lc, w_popk, w_popl, w_isN, w_neg, Z.w_rev, w_part0, w_part1, w_ds0, w_ds, w_os0, w_os, w_cs0, w_cs, line, w_asg, w_asgT, w_aug, w_setI, w_app, w_ins, w_ext, w_expr, w_ret, w_retN, w_if, w_forE, w_whil, w_brk, w_cont, w_pass, w_ss0, w_ss, fw_nx, fw_brk, fw_cont, fw_ret, nn_none, nn_int, nn_bl, nn_str, nn_tup, nn_lst, ol_lst, op_some, op_none, op_ite, ob_bl, oi_int, sl_pu, sl_ow, al_ow, al_obj, so_lst, opdV, retV, endQ, letgo, ite_self, ixN_3_0, ixN_3_1, ixN_3_2, atI_0, atI_1, atI_2, atI_3, List.getElem?_cons_zero, List.getElem?_cons_succ, List.set_cons_zero, List.set_cons_succ, List.length_cons, List.length_nil, List.length_map, Option.bind_some, Option.map_some, Nat.zero_add, Nat.reduceAdd, Nat.reduceLT, Nat.reduceLeDiff, Nat.zero_le, if_false, if_true, Bool.false_eq_true, Bool.true_eq_false, Bool.not_true, Bool.not_false, reduceCtorEq, true_and, and_true, forall_const, false_and, and_false, false_implies, not_false_eq_true, not_true_eq_false, decide_eq_true_eq, decide_eq_false_iff_not, isi_none_int, isi_none_bool, isi_none_str, isi_none_tuple, isi_none_list, isi_none_list_tuple, isi_none_tuple_list, isi_bl_int, isi_bl_bool, isi_bl_str, isi_bl_tuple, isi_bl_list, isi_bl_list_tuple, isi_bl_tuple_list, isi_int_int, isi_int_bool, isi_int_str, isi_int_tuple, isi_int_list, isi_int_list_tuple, isi_int_tuple_list, isi_str_int, isi_str_bool, isi_str_str, isi_str_tuple, isi_str_list, isi_str_list_tuple, isi_str_tuple_list, isi_tup_int, isi_tup_bool, isi_tup_str, isi_tup_tuple, isi_tup_list, isi_tup_list_tuple, isi_tup_tuple_list, isi_lst_int, isi_lst_bool, isi_lst_str, isi_lst_tuple, isi_lst_list, isi_lst_list_tuple, isi_lst_tuple_list, cmp_eq_ii, cmp_ne_ii, cmp_eq_bb, cmp_ne_bb, cmp_lt, cmp_le, cmp_gt, cmp_ge, cmp_ni_ii, bltD, on1, lenD, seqD, idxD]
            have h : Q (code (two w big (meas big k x) (meas big k y)), false) st := h
            generalize meas big k x = u at h ⊢
            generalize meas big k y = v at h ⊢
            unfold two at h
            match u, v, h with
            | none, v, h => unfold code; simp only [wp_bind, wp_pure, wp_bad, wp_getS, wp_asB, wp_slotOpd, wp_rdSlot, wp_rdVar, wp_rdRet, wp_resV, wp_resS, wp_ress0, wp_ress, wp_setR, wp_setρ, wp_call, wp_setAt, wp_opd, wp_dat, wp_shr, wp_ownL, wp_popAt, wp_popLast, wp_app, wp_ins, wp_bindTup, wp_bindTs0, wp_bindTs, wp_bindNm, wp_blk, w_var, w_con, w_tup, w_lst, w_shr, w_bin, w_cmp, w_idx, w_cmp2, w_and2, w_or2, w_not1, w_ife, w_sli, w_call, w_blt, w_isi, w_lc, w_popk, w_popl, w_isN, w_neg, Z.w_rev, w_part0, w_part1, w_ds0, w_ds, w_os0, w_os, w_cs0, w_cs, line, w_asg, w_asgT, w_aug, w_setI, w_app, w_ins, w_ext, w_expr, w_ret, w_retN, w_if, w_forE, w_whil, w_brk, w_cont, w_pass, w_ss0, w_ss, fw_nx, fw_brk, fw_cont, fw_ret, nn_none, nn_int, nn_bl, nn_str, nn_tup, nn_lst, ol_lst, op_some, op_none, op_ite, ob_bl, oi_int, sl_pu, sl_ow, al_ow, al_obj, so_lst, opdV, retV, endQ, letgo, ite_self, ixN_3_0, ixN_3_1, ixN_3_2, atI_0, atI_1, atI_2, atI_3, List.getElem?_cons_zero, List.getElem?_cons_succ, List.set_cons_zero, List.set_cons_succ, List.length_cons, List.length_nil, List.length_map, Option.bind_some, Option.map_some, Nat.zero_add, Nat.reduceAdd, Nat.reduceLT, Nat.reduceLeDiff, Nat.zero_le, if_false, if_true, Bool.false_eq_true, Bool.true_eq_false, Bool.not_true, Bool.not_false, reduceCtorEq, true_and, and_true, forall_const, false_and, and_false, false_implies, not_false_eq_true, not_true_eq_false, decide_eq_true_eq, decide_eq_false_iff_not, isi_none_int, isi_none_bool, isi_none_str, isi_none_tuple, isi_none_list, isi_none_list_tuple, isi_none_tuple_list, isi_bl_int, isi_bl_bool, isi_bl_str, isi_bl_tuple, isi_bl_list, isi_bl_list_tuple, isi_bl_tuple_list, isi_int_int, isi_int_bool, isi_int_str, isi_int_tuple, isi_int_list, isi_int_list_tuple, isi_int_tuple_list, isi_str_int, isi_str_bool, isi_str_str, isi_str_tuple, isi_str_list, isi_str_list_tuple, isi_str_tuple_list, isi_tup_int, isi_tup_bool, isi_tup_str, isi_tup_tuple, isi_tup_list, isi_tup_list_tuple, isi_tup_tuple_list, isi_lst_int, isi_lst_bool, isi_lst_str, isi_lst_tuple, isi_lst_list, isi_lst_list_tuple, isi_lst_tuple_list, cmp_eq_ii, cmp_ne_ii, cmp_eq_bb, cmp_ne_bb, cmp_lt, cmp_le, cmp_gt, cmp_ge, cmp_ni_ii]; exact h
            | some a, none, h => unfold code; obtain ⟨a1, a2, a3⟩ := a; simp only [wp_bind, wp_pure, wp_bad, wp_getS, wp_asB, wp_slotOpd, wp_rdSlot, wp_rdVar, wp_rdRet, wp_resV, wp_resS, wp_ress0, wp_ress, wp_setR, wp_setρ, wp_call, wp_setAt, wp_opd, wp_dat, wp_shr, wp_ownL, wp_popAt, wp_popLast, wp_app, wp_ins, wp_bindTup, wp_bindTs0, wp_bindTs, wp_bindNm, wp_blk, w_var, w_con, w_tup, w_lst, w_shr, w_bin, w_cmp, w_idx, w_cmp2, w_and2, w_or2, w_not1, w_ife, w_sli, w_call, w_blt, w_isi, w_lc, w_popk, w_popl, w_isN, w_neg, Z.w_rev, w_part0, w_part1, w_ds0, w_ds, w_os0, w_os, w_cs0, w_cs, line, w_asg, w_asgT, w_aug, w_setI, w_app, w_ins, w_ext, w_expr, w_ret, w_retN, w_if, w_forE, w_whil, w_brk, w_cont, w_pass, w_ss0, w_ss, fw_nx, fw_brk, fw_cont, fw_ret, nn_none, nn_int, nn_bl, nn_str, nn_tup, nn_lst, ol_lst, op_some, op_none, op_ite, ob_bl, oi_int, sl_pu, sl_ow, al_ow, al_obj, so_lst, opdV, retV, endQ, letgo, ite_self, ixN_3_0, ixN_3_1, ixN_3_2, atI_0, atI_1, atI_2, atI_3, List.getElem?_cons_zero, List.getElem?_cons_succ, List.set_cons_zero, List.set_cons_succ, List.length_cons, List.length_nil, List.length_map, Option.bind_some, Option.map_some, Nat.zero_add, Nat.reduceAdd, Nat.reduceLT, Nat.reduceLeDiff, Nat.zero_le, if_false, if_true, Bool.false_eq_true, Bool.true_eq_false, Bool.not_true, Bool.not_false, reduceCtorEq, true_and, and_true, forall_const, false_and, and_false, false_implies, not_false_eq_true, not_true_eq_false, decide_eq_true_eq, decide_eq_false_iff_not, isi_none_int, isi_none_bool, isi_none_str, isi_none_tuple, isi_none_list, isi_none_list_tuple, isi_none_tuple_list, isi_bl_int, isi_bl_bool, isi_bl_str, isi_bl_tuple, isi_bl_list, isi_bl_list_tuple, isi_bl_tuple_list, isi_int_int, isi_int_bool, isi_int_str, isi_int_tuple, isi_int_list, isi_int_list_tuple, isi_int_tuple_list, isi_str_int, isi_str_bool, isi_str_str, isi_str_tuple, isi_str_list, isi_str_list_tuple, isi_str_tuple_list, isi_tup_int, isi_tup_bool, isi_tup_str, isi_tup_tuple, isi_tup_list, isi_tup_list_tuple, isi_tup_tuple_list, isi_lst_int, isi_lst_bool, isi_lst_str, isi_lst_tuple, isi_lst_list, isi_lst_list_tuple, isi_lst_tuple_list, cmp_eq_ii, cmp_ne_ii, cmp_eq_bb, cmp_ne_bb, cmp_lt, cmp_le, cmp_gt, cmp_ge, cmp_ni_ii]; exact h
            | some a, some b, h =>
              dsimp only at h
              rw [if_pos e] at h
              have nn : ∀ (a : Int × Int × Int) (P Q : Prop), Nn (code (some a)) P Q = Q := fun a _ _ => rfl
              simp only [wp_bind, wp_pure, wp_bad, wp_getS, wp_asB, wp_slotOpd, wp_rdSlot, wp_rdVar, wp_rdRet, wp_resV, wp_resS, wp_ress0, wp_ress, wp_setR, wp_setρ, wp_call, wp_setAt, wp_opd, wp_dat, wp_shr, wp_ownL, wp_popAt, wp_popLast, wp_app, wp_ins, wp_bindTup, wp_bindTs0, wp_bindTs, wp_bindNm, wp_blk, w_var, w_con, w_tup, w_lst, w_shr, w_bin, w_cmp, w_idx, w_cmp2, w_and2, w_or2, w_not1, w_ife, w_sli, w_call, w_blt, w_isi, w_lc, w_popk, w_popl, w_isN, w_neg, Z.w_rev, w_part0, w_part1, w_ds0, w_ds, w_os0, w_os, w_cs0, w_cs, line, w_asg, w_asgT, w_aug, w_setI, w_app, w_ins, w_ext, w_expr, w_ret, w_retN, w_if, w_forE, w_whil, w_brk, w_cont, w_pass, w_ss0, w_ss, fw_nx, fw_brk, fw_cont, fw_ret, nn_none, nn_int, nn_bl, nn_str, nn_tup, nn_lst, ol_lst, op_some, op_none, op_ite, ob_bl, oi_int, sl_pu, sl_ow, al_ow, al_obj, so_lst, opdV, retV, endQ, letgo, ite_self, ixN_3_0, ixN_3_1, ixN_3_2, atI_0, atI_1, atI_2, atI_3, List.getElem?_cons_zero, List.getElem?_cons_succ, List.set_cons_zero, List.set_cons_succ, List.length_cons, List.length_nil, List.length_map, Option.bind_some, Option.map_some, Nat.zero_add, Nat.reduceAdd, Nat.reduceLT, Nat.reduceLeDiff, Nat.zero_le, if_false, if_true, Bool.false_eq_true, Bool.true_eq_false, Bool.not_true, Bool.not_false, reduceCtorEq, true_and, and_true, forall_const, false_and, and_false, false_implies, not_false_eq_true, not_true_eq_false, decide_eq_true_eq, decide_eq_false_iff_not, isi_none_int, isi_none_bool, isi_none_str, isi_none_tuple, isi_none_list, isi_none_list_tuple, isi_none_tuple_list, isi_bl_int, isi_bl_bool, isi_bl_str, isi_bl_tuple, isi_bl_list, isi_bl_list_tuple, isi_bl_tuple_list, isi_int_int, isi_int_bool, isi_int_str, isi_int_tuple, isi_int_list, isi_int_list_tuple, isi_int_tuple_list, isi_str_int, isi_str_bool, isi_str_str, isi_str_tuple, isi_str_list, isi_str_list_tuple, isi_str_tuple_list, isi_tup_int, isi_tup_bool, isi_tup_str, isi_tup_tuple, isi_tup_list, isi_tup_list_tuple, isi_tup_tuple_list, isi_lst_int, isi_lst_bool, isi_lst_str, isi_lst_tuple, isi_lst_list, isi_lst_list_tuple, isi_lst_tuple_list, cmp_eq_ii, cmp_ne_ii, cmp_eq_bb, cmp_ne_bb, cmp_lt, cmp_le, cmp_gt, cmp_ge, cmp_ni_ii, bltD, on1, lenD, seqD, idxD, nn]
              refine put_spec (sok ha) ?_
              exact h
        | _ =>
          simp only [wp_bind, wp_pure, wp_bad, wp_getS, wp_asB, wp_slotOpd, wp_rdSlot, wp_rdVar, wp_rdRet, wp_resV, wp_resS, wp_ress0, wp_ress, wp_setR, wp_setρ, wp_call, wp_setAt, wp_opd, wp_dat, wp_shr, wp_ownL, wp_popAt, wp_popLast, wp_app, wp_ins, wp_bindTup, wp_bindTs0, wp_bindTs, wp_bindNm, wp_blk, w_var, w_con, w_tup, w_lst, w_shr, w_bin, w_cmp, w_idx, w_cmp2, w_and2, w_or2, w_not1, w_ife, w_sli, w_call, w_blt, w_isi, w_lc, w_popk, w_popl, w_isN, w_neg, Z.w_rev, w_part0, w_part1, w_ds0, w_ds, w_os0, w_os, w_cs0, w_cs, line, w_asg, w_asgT, w_aug, w_setI, w_app, w_ins, w_ext, w_expr, w_ret, w_retN, w_if, w_forE, w_whil, w_brk, w_cont, w_pass, w_ss0, w_ss, fw_nx, fw_brk, fw_cont, fw_ret, nn_none, nn_int, nn_bl, nn_str, nn_tup, nn_lst, ol_lst, op_some, op_none, op_ite, ob_bl, oi_int, sl_pu, sl_ow, al_ow, al_obj, so_lst, opdV, retV, endQ, letgo, ite_self, ixN_3_0, ixN_3_1, ixN_3_2, atI_0, atI_1, atI_2, atI_3, List.getElem?_cons_zero, List.getElem?_cons_succ, List.set_cons_zero, List.set_cons_succ, List.length_cons, List.length_nil, List.length_map, Option.bind_some, Option.map_some, Nat.zero_add, Nat.reduceAdd, Nat.reduceLT, Nat.reduceLeDiff, Nat.zero_le, if_false, if_true, Bool.false_eq_true, Bool.true_eq_false, Bool.not_true, Bool.not_false, reduceCtorEq, true_and, and_true, forall_const, false_and, and_false, false_implies, not_false_eq_true, not_true_eq_false, decide_eq_true_eq, decide_eq_false_iff_not, isi_none_int, isi_none_bool, isi_none_str, isi_none_tuple, isi_none_list, isi_none_list_tuple, isi_none_tuple_list, isi_bl_int, isi_bl_bool, isi_bl_str, isi_bl_tuple, isi_bl_list, isi_bl_list_tuple, isi_bl_tuple_list, isi_int_int, isi_int_bool, isi_int_str, isi_int_tuple, isi_int_list, isi_int_list_tuple, isi_int_tuple_list, isi_str_int, isi_str_bool, isi_str_str, isi_str_tuple, isi_str_list, isi_str_list_tuple, isi_str_tuple_list, isi_tup_int, isi_tup_bool, isi_tup_str, isi_tup_tuple, isi_tup_list, isi_tup_list_tuple, isi_tup_tuple_list, isi_lst_int, isi_lst_bool, isi_lst_str, isi_lst_tuple, isi_lst_list, isi_lst_list_tuple, isi_lst_tuple_list, cmp_eq_ii, cmp_ne_ii, cmp_eq_bb, cmp_ne_bb, cmp_lt, cmp_le, cmp_gt, cmp_ge, cmp_ni_ii, bltD, on1, lenD, seqD, idxD]
          exact ⟨fun _ => h, fun z => h⟩
      | a :: b :: c :: e :: r, hd, h =>
        have e2 : meas big (k + 1) (.tup (a :: b :: c :: e :: r)) = none := by
          refine meas_nt (fun w x z => ?_) (fun w x y z => ?_)
          · cases z
          · cases z
        rw [e2] at h
        simp only [wp_bind, wp_pure, wp_bad, wp_getS, wp_asB, wp_slotOpd, wp_rdSlot, wp_rdVar, wp_rdRet, wp_resV, wp_resS, wp_ress0, wp_ress, wp_setR, wp_setρ, wp_call, wp_setAt, wp_opd, wp_dat, wp_shr, wp_ownL, wp_popAt, wp_popLast, wp_app, wp_ins, wp_bindTup, wp_bindTs0, wp_bindTs, wp_bindNm, wp_blk, w_var, w_con, w_tup, w_lst, w_shr, w_bin, w_cmp, w_idx, w_cmp2, w_and2, w_or2, w_not1, w_ife, w_sli, w_call, w_blt, w_isi, w_lc, w_popk, w_popl, w_isN, w_neg, Z.w_rev, w_part0, w_part1, w_ds0, w_ds, w_os0, w_os, w_cs0, w_cs, line, w_asg, w_asgT, w_aug, w_setI, w_app, w_ins, w_ext, w_expr, w_ret, w_retN, w_if, w_forE, w_whil, w_brk, w_cont, w_pass, w_ss0, w_ss, fw_nx, fw_brk, fw_cont, fw_ret, nn_none, nn_int, nn_bl, nn_str, nn_tup, nn_lst, ol_lst, op_some, op_none, op_ite, ob_bl, oi_int, sl_pu, sl_ow, al_ow, al_obj, so_lst, opdV, retV, endQ, letgo, ite_self, ixN_3_0, ixN_3_1, ixN_3_2, atI_0, atI_1, atI_2, atI_3, List.getElem?_cons_zero, List.getElem?_cons_succ, List.set_cons_zero, List.set_cons_succ, List.length_cons, List.length_nil, List.length_map, Option.bind_some, Option.map_some, Nat.zero_add, Nat.reduceAdd, Nat.reduceLT, Nat.reduceLeDiff, Nat.zero_le, if_false, if_true, Bool.false_eq_true, Bool.true_eq_false, Bool.not_true, Bool.not_false, reduceCtorEq, true_and, and_true, forall_const, false_and, and_false, false_implies, not_false_eq_true, not_true_eq_false, decide_eq_true_eq, decide_eq_false_iff_not, isi_none_int, isi_none_bool, isi_none_str, isi_none_tuple, isi_none_list, isi_none_list_tuple, isi_none_tuple_list, isi_bl_int, isi_bl_bool, isi_bl_str, isi_bl_tuple, isi_bl_list, isi_bl_list_tuple, isi_bl_tuple_list, isi_int_int, isi_int_bool, isi_int_str, isi_int_tuple, isi_int_list, isi_int_list_tuple, isi_int_tuple_list, isi_str_int, isi_str_bool, isi_str_str, isi_str_tuple, isi_str_list, isi_str_list_tuple, isi_str_tuple_list, isi_tup_int, isi_tup_bool, isi_tup_str, isi_tup_tuple, isi_tup_list, isi_tup_list_tuple, isi_tup_tuple_list, isi_lst_int, isi_lst_bool, isi_lst_str, isi_lst_tuple, isi_lst_list, isi_lst_list_tuple, isi_lst_tuple_list, cmp_eq_ii, cmp_ne_ii, cmp_eq_bb, cmp_ne_bb, cmp_lt, cmp_le, cmp_gt, cmp_ge, cmp_ni_ii, bltD, on1, lenD, seqD, idxD]
        have e3 : (!(decide ((2 : Int) = ((r.length + 1 + 1 + 1 + 1 : Nat) : Int)) || decide ((3 : Int) = ((r.length + 1 + 1 + 1 + 1 : Nat) : Int)))) = true := by
          rw [decide_eq_false (by omega), decide_eq_false (by omega)]
          rfl
        refine ⟨fun _ => h, fun z => ?_⟩
        exact absurd e3 (by rw [z]; decide)
    | _ =>
      simp only [wp_bind, wp_pure, wp_bad, wp_getS, wp_asB, wp_slotOpd, wp_rdSlot, wp_rdVar, wp_rdRet, wp_resV, wp_resS, wp_ress0, wp_ress, wp_setR, wp_setρ, wp_call, wp_setAt, wp_opd, wp_dat, wp_shr, wp_ownL, wp_popAt, wp_popLast, wp_app, wp_ins, wp_bindTup, wp_bindTs0, wp_bindTs, wp_bindNm, wp_blk, w_var, w_con, w_tup, w_lst, w_shr, w_bin, w_cmp, w_idx, w_cmp2, w_and2, w_or2, w_not1, w_ife, w_sli, w_call, w_blt, w_isi, w_lc, w_popk, w_popl, w_isN, w_neg, Z.w_rev, w_part0, w_part1, w_ds0, w_ds, w_os0, w_os, w_cs0, w_cs, line, w_asg, w_asgT, w_aug, w_setI, w_app, w_ins, w_ext, w_expr, w_ret, w_retN, w_if, w_forE, w_whil, w_brk, w_cont, w_pass, w_ss0, w_ss, fw_nx, fw_brk, fw_cont, fw_ret, nn_none, nn_int, nn_bl, nn_str, nn_tup, nn_lst, ol_lst, op_some, op_none, op_ite, ob_bl, oi_int, sl_pu, sl_ow, al_ow, al_obj, so_lst, opdV, retV, endQ, letgo, ite_self, ixN_3_0, ixN_3_1, ixN_3_2, atI_0, atI_1, atI_2, atI_3, List.getElem?_cons_zero, List.getElem?_cons_succ, List.set_cons_zero, List.set_cons_succ, List.length_cons, List.length_nil, List.length_map, Option.bind_some, Option.map_some, Nat.zero_add, Nat.reduceAdd, Nat.reduceLT, Nat.reduceLeDiff, Nat.zero_le, if_false, if_true, Bool.false_eq_true, Bool.true_eq_false, Bool.not_true, Bool.not_false, reduceCtorEq, true_and, and_true, forall_const, false_and, and_false, false_implies, not_false_eq_true, not_true_eq_false, decide_eq_true_eq, decide_eq_false_iff_not, isi_none_int, isi_none_bool, isi_none_str, isi_none_tuple, isi_none_list, isi_none_list_tuple, isi_none_tuple_list, isi_bl_int, isi_bl_bool, isi_bl_str, isi_bl_tuple, isi_bl_list, isi_bl_list_tuple, isi_bl_tuple_list, isi_int_int, isi_int_bool, isi_int_str, isi_int_tuple, isi_int_list, isi_int_list_tuple, isi_int_tuple_list, isi_str_int, isi_str_bool, isi_str_str, isi_str_tuple, isi_str_list, isi_str_list_tuple, isi_str_tuple_list, isi_tup_int, isi_tup_bool, isi_tup_str, isi_tup_tuple, isi_tup_list, isi_tup_list_tuple, isi_tup_tuple_list, isi_lst_int, isi_lst_bool, isi_lst_str, isi_lst_tuple, isi_lst_list, isi_lst_list_tuple, isi_lst_tuple_list, cmp_eq_ii, cmp_ne_ii, cmp_eq_bb, cmp_ne_bb, cmp_lt, cmp_le, cmp_gt, cmp_ge, cmp_ni_ii, bltD, on1, lenD, seqD, idxD]
      exact h
theorem within_spec {n : Nat} {st : List SO} {x : D} {lo hi : Int} {Q : Rs → List SO → Prop} (hx : ∃ L k, Fine L k x) (h : ∀ b : Bool, (b = true ↔ ∃ i, x = .int i ∧ lo ≤ i ∧ i ≤ hi) → Q (.bl b, false) st) : Rp (callF fns wf (n + 2) 9 [x, .int lo, .int hi] st) Q := by
  refine c__law_within ?_
  unfold b__law_within
  simp only [wp_bind, wp_pure, wp_bad, wp_getS, wp_asB, wp_slotOpd, wp_rdSlot, wp_rdVar, wp_rdRet, wp_resV, wp_resS, wp_ress0, wp_ress, wp_setR, wp_setρ, wp_call, wp_setAt, wp_opd, wp_dat, wp_shr, wp_ownL, wp_popAt, wp_popLast, wp_app, wp_ins, wp_bindTup, wp_bindTs0, wp_bindTs, wp_bindNm, wp_blk, w_var, w_con, w_tup, w_lst, w_shr, w_bin, w_cmp, w_idx, w_cmp2, w_and2, w_or2, w_not1, w_ife, w_sli, w_call, w_blt, w_isi, w_lc, w_popk, w_popl, w_isN, w_neg, Z.w_rev, w_part0, w_part1, w_ds0, w_ds, w_os0, w_os, w_cs0, w_cs, line, w_asg, w_asgT, w_aug, w_setI, w_app, w_ins, w_ext, w_expr, w_ret, w_retN, w_if, w_forE, w_whil, w_brk, w_cont, w_pass, w_ss0, w_ss, fw_nx, fw_brk, fw_cont, fw_ret, nn_none, nn_int, nn_bl, nn_str, nn_tup, nn_lst, ol_lst, op_some, op_none, op_ite, ob_bl, oi_int, sl_pu, sl_ow, al_ow, al_obj, so_lst, opdV, retV, endQ, letgo, ite_self, ixN_3_0, ixN_3_1, ixN_3_2, atI_0, atI_1, atI_2, atI_3, List.getElem?_cons_zero, List.getElem?_cons_succ, List.set_cons_zero, List.set_cons_succ, List.length_cons, List.length_nil, List.length_map, Option.bind_some, Option.map_some, Nat.zero_add, Nat.reduceAdd, Nat.reduceLT, Nat.reduceLeDiff, Nat.zero_le, if_false, if_true, Bool.false_eq_true, Bool.true_eq_false, Bool.not_true, Bool.not_false, reduceCtorEq, true_and, and_true, forall_const, false_and, and_false, false_implies, not_false_eq_true, not_true_eq_false, decide_eq_true_eq, decide_eq_false_iff_not, isi_none_int, isi_none_bool, isi_none_str, isi_none_tuple, isi_none_list, isi_none_list_tuple, isi_none_tuple_list, isi_bl_int, isi_bl_bool, isi_bl_str, isi_bl_tuple, isi_bl_list, isi_bl_list_tuple, isi_bl_tuple_list, isi_int_int, isi_int_bool, isi_int_str, isi_int_tuple, isi_int_list, isi_int_list_tuple, isi_int_tuple_list, isi_str_int, isi_str_bool, isi_str_str, isi_str_tuple, isi_str_list, isi_str_list_tuple, isi_str_tuple_list, isi_tup_int, isi_tup_bool, isi_tup_str, isi_tup_tuple, isi_tup_list, isi_tup_list_tuple, isi_tup_tuple_list, isi_lst_int, isi_lst_bool, isi_lst_str, isi_lst_tuple, isi_lst_list, isi_lst_list_tuple, isi_lst_tuple_list, cmp_eq_ii, cmp_ne_ii, cmp_eq_bb, cmp_ne_bb, cmp_lt, cmp_le, cmp_gt, cmp_ge, cmp_ni_ii]
  refine whole2_spec (fun b hb hb' => ?_) hx
  simp only [wp_bind, wp_pure, wp_bad, wp_getS, wp_asB, wp_slotOpd, wp_rdSlot, wp_rdVar, wp_rdRet, wp_resV, wp_resS, wp_ress0, wp_ress, wp_setR, wp_setρ, wp_call, wp_setAt, wp_opd, wp_dat, wp_shr, wp_ownL, wp_popAt, wp_popLast, wp_app, wp_ins, wp_bindTup, wp_bindTs0, wp_bindTs, wp_bindNm, wp_blk, w_var, w_con, w_tup, w_lst, w_shr, w_bin, w_cmp, w_idx, w_cmp2, w_and2, w_or2, w_not1, w_ife, w_sli, w_call, w_blt, w_isi, w_lc, w_popk, w_popl, w_isN, w_neg, Z.w_rev, w_part0, w_part1, w_ds0, w_ds, w_os0, w_os, w_cs0, w_cs, line, w_asg, w_asgT, w_aug, w_setI, w_app, w_ins, w_ext, w_expr, w_ret, w_retN, w_if, w_forE, w_whil, w_brk, w_cont, w_pass, w_ss0, w_ss, fw_nx, fw_brk, fw_cont, fw_ret, nn_none, nn_int, nn_bl, nn_str, nn_tup, nn_lst, ol_lst, op_some, op_none, op_ite, ob_bl, oi_int, sl_pu, sl_ow, al_ow, al_obj, so_lst, opdV, retV, endQ, letgo, ite_self, ixN_3_0, ixN_3_1, ixN_3_2, atI_0, atI_1, atI_2, atI_3, List.getElem?_cons_zero, List.getElem?_cons_succ, List.set_cons_zero, List.set_cons_succ, List.length_cons, List.length_nil, List.length_map, Option.bind_some, Option.map_some, Nat.zero_add, Nat.reduceAdd, Nat.reduceLT, Nat.reduceLeDiff, Nat.zero_le, if_false, if_true, Bool.false_eq_true, Bool.true_eq_false, Bool.not_true, Bool.not_false, reduceCtorEq, true_and, and_true, forall_const, false_and, and_false, false_implies, not_false_eq_true, not_true_eq_false, decide_eq_true_eq, decide_eq_false_iff_not, isi_none_int, isi_none_bool, isi_none_str, isi_none_tuple, isi_none_list, isi_none_list_tuple, isi_none_tuple_list, isi_bl_int, isi_bl_bool, isi_bl_str, isi_bl_tuple, isi_bl_list, isi_bl_list_tuple, isi_bl_tuple_list, isi_int_int, isi_int_bool, isi_int_str, isi_int_tuple, isi_int_list, isi_int_list_tuple, isi_int_tuple_list, isi_str_int, isi_str_bool, isi_str_str, isi_str_tuple, isi_str_list, isi_str_list_tuple, isi_str_tuple_list, isi_tup_int, isi_tup_bool, isi_tup_str, isi_tup_tuple, isi_tup_list, isi_tup_list_tuple, isi_tup_tuple_list, isi_lst_int, isi_lst_bool, isi_lst_str, isi_lst_tuple, isi_lst_list, isi_lst_list_tuple, isi_lst_tuple_list, cmp_eq_ii, cmp_ne_ii, cmp_eq_bb, cmp_ne_bb, cmp_lt, cmp_le, cmp_gt, cmp_ge, cmp_ni_ii]
  refine ⟨fun e => ?_, fun e => ?_⟩
  · obtain ⟨i, rfl⟩ := hb e
    simp only [wp_bind, wp_pure, wp_bad, wp_getS, wp_asB, wp_slotOpd, wp_rdSlot, wp_rdVar, wp_rdRet, wp_resV, wp_resS, wp_ress0, wp_ress, wp_setR, wp_setρ, wp_call, wp_setAt, wp_opd, wp_dat, wp_shr, wp_ownL, wp_popAt, wp_popLast, wp_app, wp_ins, wp_bindTup, wp_bindTs0, wp_bindTs, wp_bindNm, wp_blk, w_var, w_con, w_tup, w_lst, w_shr, w_bin, w_cmp, w_idx, w_cmp2, w_and2, w_or2, w_not1, w_ife, w_sli, w_call, w_blt, w_isi, w_lc, w_popk, w_popl, w_isN, w_neg, Z.w_rev, w_part0, w_part1, w_ds0, w_ds, w_os0, w_os, w_cs0, w_cs, line, w_asg, w_asgT, w_aug, w_setI, w_app, w_ins, w_ext, w_expr, w_ret, w_retN, w_if, w_forE, w_whil, w_brk, w_cont, w_pass, w_ss0, w_ss, fw_nx, fw_brk, fw_cont, fw_ret, nn_none, nn_int, nn_bl, nn_str, nn_tup, nn_lst, ol_lst, op_some, op_none, op_ite, ob_bl, oi_int, sl_pu, sl_ow, al_ow, al_obj, so_lst, opdV, retV, endQ, letgo, ite_self, ixN_3_0, ixN_3_1, ixN_3_2, atI_0, atI_1, atI_2, atI_3, List.getElem?_cons_zero, List.getElem?_cons_succ, List.set_cons_zero, List.set_cons_succ, List.length_cons, List.length_nil, List.length_map, Option.bind_some, Option.map_some, Nat.zero_add, Nat.reduceAdd, Nat.reduceLT, Nat.reduceLeDiff, Nat.zero_le, if_false, if_true, Bool.false_eq_true, Bool.true_eq_false, Bool.not_true, Bool.not_false, reduceCtorEq, true_and, and_true, forall_const, false_and, and_false, false_implies, not_false_eq_true, not_true_eq_false, decide_eq_true_eq, decide_eq_false_iff_not, isi_none_int, isi_none_bool, isi_none_str, isi_none_tuple, isi_none_list, isi_none_list_tuple, isi_none_tuple_list, isi_bl_int, isi_bl_bool, isi_bl_str, isi_bl_tuple, isi_bl_list, isi_bl_list_tuple, isi_bl_tuple_list, isi_int_int, isi_int_bool, isi_int_str, isi_int_tuple, isi_int_list, isi_int_list_tuple, isi_int_tuple_list, isi_str_int, isi_str_bool, isi_str_str, isi_str_tuple, isi_str_list, isi_str_list_tuple, isi_str_tuple_list, isi_tup_int, isi_tup_bool, isi_tup_str, isi_tup_tuple, isi_tup_list, isi_tup_list_tuple, isi_tup_tuple_list, isi_lst_int, isi_lst_bool, isi_lst_str, isi_lst_tuple, isi_lst_list, isi_lst_list_tuple, isi_lst_tuple_list, cmp_eq_ii, cmp_ne_ii, cmp_eq_bb, cmp_ne_bb, cmp_lt, cmp_le, cmp_gt, cmp_ge, cmp_ni_ii]
    refine ⟨fun e3 => ?_, fun e3 => ?_⟩
    · refine h _ ⟨fun q => ⟨i, rfl, e3, of_decide_eq_true q⟩, fun ⟨j, e, q1, q2⟩ => ?_⟩
      cases e
      exact decide_eq_true q2
    · refine h _ ⟨fun q => (nomatch q), fun ⟨j, e, q1, q2⟩ => ?_⟩
      cases e
      exact absurd q1 e3
  · refine h _ ⟨fun q => (nomatch q), fun ⟨j, e2, q1, q2⟩ => ?_⟩
    rw [hb' ⟨j, e2⟩] at e
    cases e
theorem lmeasured_spec {n : Nat} {st : List SO} {w : Str} {a b : Int × Int × Int} {big : Int} {Q : Rs → List SO → Prop} (hw : PyData.strOk w = true) (h : Q (code (put w big a b), false) st) : Rp (callF fns wf (n + 1) 19 [.str w, code (some a), code (some b), .int big] st) Q := by
  obtain ⟨h1, h2, h3⟩ := ok_lit
  obtain ⟨a1, a2, a3⟩ := a
  obtain ⟨b1, b2, b3⟩ := b
  refine c__law_measured ?_
  unfold b__law_measured code
  have m4 : mulOk 4 big = true := mulOk_l (by decide)
  simp only [wp_bind, wp_pure, wp_bad, wp_getS, wp_asB, wp_slotOpd, wp_rdSlot, wp_rdVar, wp_rdRet, wp_resV, wp_resS, wp_ress0, wp_ress, wp_setR, wp_setρ, wp_call, wp_setAt, wp_opd, wp_dat, wp_shr, wp_ownL, wp_popAt, wp_popLast, wp_app, wp_ins, wp_bindTup, wp_bindTs0, wp_bindTs, wp_bindNm, wp_blk, w_var, w_con, w_tup, w_lst, w_shr, w_bin, w_cmp, w_idx, w_cmp2, w_and2, w_or2, w_not1, w_ife, w_sli, w_call, w_blt, w_isi, w_lc, w_popk, w_popl, w_isN, w_neg, Z.w_rev, w_part0, w_part1, w_ds0, w_ds, w_os0, w_os, w_cs0, w_cs, line, w_asg, w_asgT, w_aug, w_setI, w_app, w_ins, w_ext, w_expr, w_ret, w_retN, w_if, w_forE, w_whil, w_brk, w_cont, w_pass, w_ss0, w_ss, fw_nx, fw_brk, fw_cont, fw_ret, nn_none, nn_int, nn_bl, nn_str, nn_tup, nn_lst, ol_lst, op_some, op_none, op_ite, ob_bl, oi_int, sl_pu, sl_ow, al_ow, al_obj, so_lst, opdV, retV, endQ, letgo, ite_self, ixN_3_0, ixN_3_1, ixN_3_2, atI_0, atI_1, atI_2, atI_3, List.getElem?_cons_zero, List.getElem?_cons_succ, List.set_cons_zero, List.set_cons_succ, List.length_cons, List.length_nil, List.length_map, Option.bind_some, Option.map_some, Nat.zero_add, Nat.reduceAdd, Nat.reduceLT, Nat.reduceLeDiff, Nat.zero_le, if_false, if_true, Bool.false_eq_true, Bool.true_eq_false, Bool.not_true, Bool.not_false, reduceCtorEq, true_and, and_true, forall_const, false_and, and_false, false_implies, not_false_eq_true, not_true_eq_false, decide_eq_true_eq, decide_eq_false_iff_not, isi_none_int, isi_none_bool, isi_none_str, isi_none_tuple, isi_none_list, isi_none_list_tuple, isi_none_tuple_list, isi_bl_int, isi_bl_bool, isi_bl_str, isi_bl_tuple, isi_bl_list, isi_bl_list_tuple, isi_bl_tuple_list, isi_int_int, isi_int_bool, isi_int_str, isi_int_tuple, isi_int_list, isi_int_list_tuple, isi_int_tuple_list, isi_str_int, isi_str_bool, isi_str_str, isi_str_tuple, isi_str_list, isi_str_list_tuple, isi_str_tuple_list, isi_tup_int, isi_tup_bool, isi_tup_str, isi_tup_tuple, isi_tup_list, isi_tup_list_tuple, isi_tup_tuple_list, isi_lst_int, isi_lst_bool, isi_lst_str, isi_lst_tuple, isi_lst_list, isi_lst_list_tuple, isi_lst_tuple_list, cmp_eq_ii, cmp_ne_ii, cmp_eq_bb, cmp_ne_bb, cmp_lt, cmp_le, cmp_gt, cmp_ge, cmp_ni_ii, binD, bltD, on2, max2D, idxD, seqD, cmp_eq_ss hw h3, m4]
  unfold put mx at h
  dsimp only at h
  refine ⟨fun e => ?_, fun e => ?_⟩
  · rw [e] at h
    simp only [if_true] at h
    refine ⟨fun c => ?_, fun c => ⟨fun c => ?_, fun c => ⟨fun c => ?_, fun c => ⟨fun c => ?_, fun c => ?_⟩⟩⟩⟩
    · rw [if_neg (by omega)] at h; exact h
    · rw [if_neg (by omega)] at h; exact h
    · rw [if_neg (by omega)] at h; exact h
    · rw [if_neg (by omega)] at h; exact h
    · rw [if_pos (by omega)] at h; exact h
  · rw [e] at h
    simp only [Bool.false_eq_true, if_false] at h
    refine ⟨fun c => ?_, fun c => ⟨fun c => ?_, fun c => ⟨fun c => ?_, fun c => ⟨fun c => ?_, fun c => ?_⟩⟩⟩⟩
    · rw [if_neg (by omega)] at h; exact h
    · rw [if_neg (by omega)] at h; exact h
    · rw [if_neg (by omega)] at h; exact h
    · rw [if_neg (by omega)] at h; exact h
    · rw [if_pos (by omega)] at h; exact h
theorem lmeasure_spec {L : Nat} {big : Int} {st : List SO} : ∀ {k : Nat} {d : D} {n : Nat} {Q : Rs → List SO → Prop}, Fine L k d → Q (code (meas big k d), false) st → Rp (callF fns wf (n + k + 3) 18 [d, .int big] st) Q
  | 0, d, n, Q, hd, _ => by unfold Fine at hd; exact hd.elim
  | k + 1, d, n, Q, hd, h => by
    obtain ⟨h1, h2, h3⟩ := ok_lit
    show Rp (callF fns wf ((n + k + 3) + 1) 18 [d, .int big] st) Q
    refine c__law_measure ?_
    unfold b__law_measure
    cases d with
    | dic _ _ => unfold Fine at hd; exact hd.elim
    | obj _ => unfold Fine at hd; exact hd.elim
    | scr _ => unfold Fine at hd; exact hd.elim
    | tup ds =>
      match ds, hd, h with
      | [], hd, h => simp only [wp_bind, wp_pure, wp_bad, wp_getS, wp_asB, wp_slotOpd, wp_rdSlot, wp_rdVar, wp_rdRet, wp_resV, wp_resS, wp_ress0, wp_ress, wp_setR, wp_setρ, wp_call, wp_setAt, wp_opd, wp_dat, wp_shr, wp_ownL, wp_popAt, wp_popLast, wp_app, wp_ins, wp_bindTup, wp_bindTs0, wp_bindTs, wp_bindNm, wp_blk, w_var, w_con, w_tup, w_lst, w_shr, w_bin, w_cmp, w_idx, w_cmp2, w_and2, w_or2, w_not1, w_ife, w_sli, w_call, w_blt, w_isi, w_lc, w_popk, w_popl, w_isN, w_neg, Z.w_rev, w_part0, w_part1, w_ds0, w_ds, w_os0, w_os, w_cs0, w_cs, line, w_asg, w_asgT, w_aug, w_setI, w_app, w_ins, w_ext, w_expr, w_ret, w_retN, w_if, w_forE, w_whil, w_brk, w_cont, w_pass, w_ss0, w_ss, fw_nx, fw_brk, fw_cont, fw_ret, nn_none, nn_int, nn_bl, nn_str, nn_tup, nn_lst, ol_lst, op_some, op_none, op_ite, ob_bl, oi_int, sl_pu, sl_ow, al_ow, al_obj, so_lst, opdV, retV, endQ, letgo, ite_self, ixN_3_0, ixN_3_1, ixN_3_2, atI_0, atI_1, atI_2, atI_3, List.getElem?_cons_zero, List.getElem?_cons_succ, List.set_cons_zero, List.set_cons_succ, List.length_cons, List.length_nil, List.length_map, Option.bind_some, Option.map_some, Nat.zero_add, Nat.reduceAdd, Nat.reduceLT, Nat.reduceLeDiff, Nat.zero_le, if_false, if_true, Bool.false_eq_true, Bool.true_eq_false, Bool.not_true, Bool.not_false, reduceCtorEq, true_and, and_true, forall_const, false_and, and_false, false_implies, not_false_eq_true, not_true_eq_false, decide_eq_true_eq, decide_eq_false_iff_not, isi_none_int, isi_none_bool, isi_none_str, isi_none_tuple, isi_none_list, isi_none_list_tuple, isi_none_tuple_list, isi_bl_int, isi_bl_bool, isi_bl_str, isi_bl_tuple, isi_bl_list, isi_bl_list_tuple, isi_bl_tuple_list, isi_int_int, isi_int_bool, isi_int_str, isi_int_tuple, isi_int_list, isi_int_list_tuple, isi_int_tuple_list, isi_str_int, isi_str_bool, isi_str_str, isi_str_tuple, isi_str_list, isi_str_list_tuple, isi_str_tuple_list, isi_tup_int, isi_tup_bool, isi_tup_str, isi_tup_tuple, isi_tup_list, isi_tup_list_tuple, isi_tup_tuple_list, isi_lst_int, isi_lst_bool, isi_lst_str, isi_lst_tuple, isi_lst_list, isi_lst_list_tuple, isi_lst_tuple_list, cmp_eq_ii, cmp_ne_ii, cmp_eq_bb, cmp_ne_bb, cmp_lt, cmp_le, cmp_gt, cmp_ge, cmp_ni_ii, bltD, on1, lenD, seqD, idxD]; exact ⟨fun _ => h, fun z => absurd z (by decide)⟩
      | [x], hd, h =>
        rw [meas_nt (fun w x z => by cases z) (fun w x y z => by cases z)] at h
        simp only [wp_bind, wp_pure, wp_bad, wp_getS, wp_asB, wp_slotOpd, wp_rdSlot, wp_rdVar, wp_rdRet, wp_resV, wp_resS, wp_ress0, wp_ress, wp_setR, wp_setρ, wp_call, wp_setAt, wp_opd, wp_dat, wp_shr, wp_ownL, wp_popAt, wp_popLast, wp_app, wp_ins, wp_bindTup, wp_bindTs0, wp_bindTs, wp_bindNm, wp_blk, w_var, w_con, w_tup, w_lst, w_shr, w_bin, w_cmp, w_idx, w_cmp2, w_and2, w_or2, w_not1, w_ife, w_sli, w_call, w_blt, w_isi, w_lc, w_popk, w_popl, w_isN, w_neg, Z.w_rev, w_part0, w_part1, w_ds0, w_ds, w_os0, w_os, w_cs0, w_cs, line, w_asg, w_asgT, w_aug, w_setI, w_app, w_ins, w_ext, w_expr, w_ret, w_retN, w_if, w_forE, w_whil, w_brk, w_cont, w_pass, w_ss0, w_ss, fw_nx, fw_brk, fw_cont, fw_ret, nn_none, nn_int, nn_bl, nn_str, nn_tup, nn_lst, ol_lst, op_some, op_none, op_ite, ob_bl, oi_int, sl_pu, sl_ow, al_ow, al_obj, so_lst, opdV, retV, endQ, letgo, ite_self, ixN_3_0, ixN_3_1, ixN_3_2, atI_0, atI_1, atI_2, atI_3, List.getElem?_cons_zero, List.getElem?_cons_succ, List.set_cons_zero, List.set_cons_succ, List.length_cons, List.length_nil, List.length_map, Option.bind_some, Option.map_some, Nat.zero_add, Nat.reduceAdd, Nat.reduceLT, Nat.reduceLeDiff, Nat.zero_le, if_false, if_true, Bool.false_eq_true, Bool.true_eq_false, Bool.not_true, Bool.not_false, reduceCtorEq, true_and, and_true, forall_const, false_and, and_false, false_implies, not_false_eq_true, not_true_eq_false, decide_eq_true_eq, decide_eq_false_iff_not, isi_none_int, isi_none_bool, isi_none_str, isi_none_tuple, isi_none_list, isi_none_list_tuple, isi_none_tuple_list, isi_bl_int, isi_bl_bool, isi_bl_str, isi_bl_tuple, isi_bl_list, isi_bl_list_tuple, isi_bl_tuple_list, isi_int_int, isi_int_bool, isi_int_str, isi_int_tuple, isi_int_list, isi_int_list_tuple, isi_int_tuple_list, isi_str_int, isi_str_bool, isi_str_str, isi_str_tuple, isi_str_list, isi_str_list_tuple, isi_str_tuple_list, isi_tup_int, isi_tup_bool, isi_tup_str, isi_tup_tuple, isi_tup_list, isi_tup_list_tuple, isi_tup_tuple_list, isi_lst_int, isi_lst_bool, isi_lst_str, isi_lst_tuple, isi_lst_list, isi_lst_list_tuple, isi_lst_tuple_list, cmp_eq_ii, cmp_ne_ii, cmp_eq_bb, cmp_ne_bb, cmp_lt, cmp_le, cmp_gt, cmp_ge, cmp_ni_ii, bltD, on1, lenD, seqD, idxD]
        exact ⟨fun _ => h, fun z => absurd z (by decide)⟩
      | [a, x], hd, h =>
        have ha := kid hd (x := a) (by simp)
        have hx := kid hd (x := x) (by simp)
        cases a with
        | dic _ _ => cases k <;> (unfold Fine at ha; exact ha.elim)
        | obj _ => cases k <;> (unfold Fine at ha; exact ha.elim)
        | scr _ => cases k <;> (unfold Fine at ha; exact ha.elim)
        | str w =>
          simp only [wp_bind, wp_pure, wp_bad, wp_getS, wp_asB, wp_slotOpd, wp_rdSlot, wp_rdVar, wp_rdRet, wp_resV, wp_resS, wp_ress0, wp_ress, wp_setR, wp_setρ, wp_call, wp_setAt, wp_opd, wp_dat, wp_shr, wp_ownL, wp_popAt, wp_popLast, wp_app, wp_ins, wp_bindTup, wp_bindTs0, wp_bindTs, wp_bindNm, wp_blk, w_var, w_con, w_tup, w_lst, w_shr, w_bin, w_cmp, w_idx, w_cmp2, w_and2, w_or2, w_not1, w_ife, w_sli, w_call, w_blt, w_isi, w_lc, w_popk, w_popl, w_isN, w_neg, Z.w_rev, w_part0, w_part1, w_ds0, w_ds, w_os0, w_os, w_cs0, w_cs, line, w_asg, w_asgT, w_aug, w_setI, w_app, w_ins, w_ext, w_expr, w_ret, w_retN, w_if, w_forE, w_whil, w_brk, w_cont, w_pass, w_ss0, w_ss, fw_nx, fw_brk, fw_cont, fw_ret, nn_none, nn_int, nn_bl, nn_str, nn_tup, nn_lst, ol_lst, op_some, op_none, op_ite, ob_bl, oi_int, sl_pu, sl_ow, al_ow, al_obj, so_lst, opdV, retV, endQ, letgo, ite_self, ixN_3_0, ixN_3_1, ixN_3_2, atI_0, atI_1, atI_2, atI_3, List.getElem?_cons_zero, List.getElem?_cons_succ, List.set_cons_zero, List.set_cons_succ, List.length_cons, List.length_nil, List.length_map, Option.bind_some, Option.map_some, Nat.zero_add, Nat.reduceAdd, Nat.reduceLT, Nat.reduceLeDiff, Nat.zero_le, if_false, if_true, Bool.false_eq_true, Bool.true_eq_false, Bool.not_true, Bool.not_false, reduceCtorEq, true_and, and_true, forall_const, false_and, and_false, false_implies, not_false_eq_true, not_true_eq_false, decide_eq_true_eq, decide_eq_false_iff_not, isi_none_int, isi_none_bool, isi_none_str, isi_none_tuple, isi_none_list, isi_none_list_tuple, isi_none_tuple_list, isi_bl_int, isi_bl_bool, isi_bl_str, isi_bl_tuple, isi_bl_list, isi_bl_list_tuple, isi_bl_tuple_list, isi_int_int, isi_int_bool, isi_int_str, isi_int_tuple, isi_int_list, isi_int_list_tuple, isi_int_tuple_list, isi_str_int, isi_str_bool, isi_str_str, isi_str_tuple, isi_str_list, isi_str_list_tuple, isi_str_tuple_list, isi_tup_int, isi_tup_bool, isi_tup_str, isi_tup_tuple, isi_tup_list, isi_tup_list_tuple, isi_tup_tuple_list, isi_lst_int, isi_lst_bool, isi_lst_str, isi_lst_tuple, isi_lst_list, isi_lst_list_tuple, isi_lst_tuple_list, cmp_eq_ii, cmp_ne_ii, cmp_eq_bb, cmp_ne_bb, cmp_lt, cmp_le, cmp_gt, cmp_ge, cmp_ni_ii, bltD, on1, lenD, seqD, idxD]
          refine ⟨fun z => absurd z (by decide), fun _ => ⟨fun _ => ?_, fun z => absurd (by decide) z⟩⟩
          have h : Q (code (point w x), false) st := h
          simp only [wp_bind, wp_pure, wp_bad, wp_getS, wp_asB, wp_slotOpd, wp_rdSlot, wp_rdVar, wp_rdRet, wp_resV, wp_resS, wp_ress0, wp_ress, wp_setR, wp_setρ, wp_call, wp_setAt, wp_opd, wp_dat, wp_shr, wp_ownL, wp_popAt, wp_popLast, wp_app, wp_ins, wp_bindTup, wp_bindTs0, wp_bindTs, wp_bindNm, wp_blk, w_var, w_con, w_tup, w_lst, w_shr, w_bin, w_cmp, w_idx, w_cmp2, w_and2, w_or2, w_not1, w_ife, w_sli, w_call, w_blt, w_isi, w_lc, w_popk, w_popl, w_isN, w_neg, Z.w_rev, w_part0, w_part1, w_ds0, w_ds, w_os0, w_os, w_cs0, w_cs, line, w_asg, w_asgT, w_aug, w_setI, w_app, w_ins, w_ext, w_expr, w_ret, w_retN, w_if, w_forE, w_whil, w_brk, w_cont, w_pass, w_ss0, w_ss, fw_nx, fw_brk, fw_cont, fw_ret, nn_none, nn_int, nn_bl, nn_str, nn_tup, nn_lst, ol_lst, op_some, op_none, op_ite, ob_bl, oi_int, sl_pu, sl_ow, al_ow, al_obj, so_lst, opdV, retV, endQ, letgo, ite_self, ixN_3_0, ixN_3_1, ixN_3_2, atI_0, atI_1, atI_2, atI_3, List.getElem?_cons_zero, List.getElem?_cons_succ, List.set_cons_zero, List.set_cons_succ, List.length_cons, List.length_nil, List.length_map, Option.bind_some, Option.map_some, Nat.zero_add, Nat.reduceAdd, Nat.reduceLT, Nat.reduceLeDiff, Nat.zero_le, if_false, if_true, Bool.false_eq_true, Bool.true_eq_false, Bool.not_true, Bool.not_false, reduceCtorEq, true_and, and_true, forall_const, false_and, and_false, false_implies, not_false_eq_true, not_true_eq_false, decide_eq_true_eq, decide_eq_false_iff_not, isi_none_int, isi_none_bool, isi_none_str, isi_none_tuple, isi_none_list, isi_none_list_tuple, isi_none_tuple_list, isi_bl_int, isi_bl_bool, isi_bl_str, isi_bl_tuple, isi_bl_list, isi_bl_list_tuple, isi_bl_tuple_list, isi_int_int, isi_int_bool, isi_int_str, isi_int_tuple, isi_int_list, isi_int_list_tuple, isi_int_tuple_list, isi_str_int, isi_str_bool, isi_str_str, isi_str_tuple, isi_str_list, isi_str_list_tuple, isi_str_tuple_list, isi_tup_int, isi_tup_bool, isi_tup_str, isi_tup_tuple, isi_tup_list, isi_tup_list_tuple, isi_tup_tuple_list, isi_lst_int, isi_lst_bool, isi_lst_str, isi_lst_tuple, isi_lst_list, isi_lst_list_tuple, isi_lst_tuple_list, cmp_eq_ii, cmp_ne_ii, cmp_eq_bb, cmp_ne_bb, cmp_lt, cmp_le, cmp_gt, cmp_ge, cmp_ni_ii, cmp_eq_ss (sok ha) h1, idxD, seqD]
          refine ⟨fun e => ?_, fun e => ?_⟩
          · refine within_spec ⟨L, k, hx⟩ (fun b hb => ?_)
            simp only [wp_bind, wp_pure, wp_bad, wp_getS, wp_asB, wp_slotOpd, wp_rdSlot, wp_rdVar, wp_rdRet, wp_resV, wp_resS, wp_ress0, wp_ress, wp_setR, wp_setρ, wp_call, wp_setAt, wp_opd, wp_dat, wp_shr, wp_ownL, wp_popAt, wp_popLast, wp_app, wp_ins, wp_bindTup, wp_bindTs0, wp_bindTs, wp_bindNm, wp_blk, w_var, w_con, w_tup, w_lst, w_shr, w_bin, w_cmp, w_idx, w_cmp2, w_and2, w_or2, w_not1, w_ife, w_sli, w_call, w_blt, w_isi, w_lc, w_popk, w_popl, w_isN, w_neg, Z.w_rev, w_part0, w_part1, w_ds0, w_ds, w_os0, w_os, w_cs0, w_cs, line, w_asg, w_asgT, w_aug, w_setI, w_app, w_ins, w_ext, w_expr, w_ret, w_retN, w_if, w_forE, w_whil, w_brk, w_cont, w_pass, w_ss0, w_ss, fw_nx, fw_brk, fw_cont, fw_ret, nn_none, nn_int, nn_bl, nn_str, nn_tup, nn_lst, ol_lst, op_some, op_none, op_ite, ob_bl, oi_int, sl_pu, sl_ow, al_ow, al_obj, so_lst, opdV, retV, endQ, letgo, ite_self, ixN_3_0, ixN_3_1, ixN_3_2, atI_0, atI_1, atI_2, atI_3, List.getElem?_cons_zero, List.getElem?_cons_succ, List.set_cons_zero, List.set_cons_succ, List.length_cons, List.length_nil, List.length_map, Option.bind_some, Option.map_some, Nat.zero_add, Nat.reduceAdd, Nat.reduceLT, Nat.reduceLeDiff, Nat.zero_le, if_false, if_true, Bool.false_eq_true, Bool.true_eq_false, Bool.not_true, Bool.not_false, reduceCtorEq, true_and, and_true, forall_const, false_and, and_false, false_implies, not_false_eq_true, not_true_eq_false, decide_eq_true_eq, decide_eq_false_iff_not, isi_none_int, isi_none_bool, isi_none_str, isi_none_tuple, isi_none_list, isi_none_list_tuple, isi_none_tuple_list, isi_bl_int, isi_bl_bool, isi_bl_str, isi_bl_tuple, isi_bl_list, isi_bl_list_tuple, isi_bl_tuple_list, isi_int_int, isi_int_bool, isi_int_str, isi_int_tuple, isi_int_list, isi_int_list_tuple, isi_int_tuple_list, isi_str_int, isi_str_bool, isi_str_str, isi_str_tuple, isi_str_list, isi_str_list_tuple, isi_str_tuple_list, isi_tup_int, isi_tup_bool, isi_tup_str, isi_tup_tuple, isi_tup_list, isi_tup_list_tuple, isi_tup_tuple_list, isi_lst_int, isi_lst_bool, isi_lst_str, isi_lst_tuple, isi_lst_list, isi_lst_list_tuple, isi_lst_tuple_list, cmp_eq_ii, cmp_ne_ii, cmp_eq_bb, cmp_ne_bb, cmp_lt, cmp_le, cmp_gt, cmp_ge, cmp_ni_ii, bltD, on1, lenD, seqD, idxD]
            cases b with
            | true =>
              obtain ⟨i, rfl, q1, q2⟩ := hb.mp rfl
              rw [point_int, if_pos ⟨e, q1, by omega⟩] at h
              simp only [wp_bind, wp_pure, wp_bad, wp_getS, wp_asB, wp_slotOpd, wp_rdSlot, wp_rdVar, wp_rdRet, wp_resV, wp_resS, wp_ress0, wp_ress, wp_setR, wp_setρ, wp_call, wp_setAt, wp_opd, wp_dat, wp_shr, wp_ownL, wp_popAt, wp_popLast, wp_app, wp_ins, wp_bindTup, wp_bindTs0, wp_bindTs, wp_bindNm, wp_blk, w_var, w_con, w_tup, w_lst, w_shr, w_bin, w_cmp, w_idx, w_cmp2, w_and2, w_or2, w_not1, w_ife, w_sli, w_call, w_blt, w_isi, w_lc, w_popk, w_popl, w_isN, w_neg, Z.w_rev, w_part0, w_part1, w_ds0, w_ds, w_os0, w_os, w_cs0, w_cs, line, w_asg, w_asgT, w_aug, w_setI, w_app, w_ins, w_ext, w_expr, w_ret, w_retN, w_if, w_forE, w_whil, w_brk, w_cont, w_pass, w_ss0, w_ss, fw_nx, fw_brk, fw_cont, fw_ret, nn_none, nn_int, nn_bl, nn_str, nn_tup, nn_lst, ol_lst, op_some, op_none, op_ite, ob_bl, oi_int, sl_pu, sl_ow, al_ow, al_obj, so_lst, opdV, retV, endQ, letgo, ite_self, ixN_3_0, ixN_3_1, ixN_3_2, atI_0, atI_1, atI_2, atI_3, List.getElem?_cons_zero, List.getElem?_cons_succ, List.set_cons_zero, List.set_cons_succ, List.length_cons, List.length_nil, List.length_map, Option.bind_some, Option.map_some, Nat.zero_add, Nat.reduceAdd, Nat.reduceLT, Nat.reduceLeDiff, Nat.zero_le, if_false, if_true, Bool.false_eq_true, Bool.true_eq_false, Bool.not_true, Bool.not_false, reduceCtorEq, true_and, and_true, forall_const, false_and, and_false, false_implies, not_false_eq_true, not_true_eq_false, decide_eq_true_eq, decide_eq_false_iff_not, isi_none_int, isi_none_bool, isi_none_str, isi_none_tuple, isi_none_list, isi_none_list_tuple, isi_none_tuple_list, isi_bl_int, isi_bl_bool, isi_bl_str, isi_bl_tuple, isi_bl_list, isi_bl_list_tuple, isi_bl_tuple_list, isi_int_int, isi_int_bool, isi_int_str, isi_int_tuple, isi_int_list, isi_int_list_tuple, isi_int_tuple_list, isi_str_int, isi_str_bool, isi_str_str, isi_str_tuple, isi_str_list, isi_str_list_tuple, isi_str_tuple_list, isi_tup_int, isi_tup_bool, isi_tup_str, isi_tup_tuple, isi_tup_list, isi_tup_list_tuple, isi_tup_tuple_list, isi_lst_int, isi_lst_bool, isi_lst_str, isi_lst_tuple, isi_lst_list, isi_lst_list_tuple, isi_lst_tuple_list, cmp_eq_ii, cmp_ne_ii, cmp_eq_bb, cmp_ne_bb, cmp_lt, cmp_le, cmp_gt, cmp_ge, cmp_ni_ii]
              exact h
            | false =>
              have e2 : point w x = none := by
                cases x with
                | int i =>
                  rw [point_int]
                  refine if_neg (fun z => ?_)
                  have := hb.mpr ⟨i, rfl, z.2.1, by omega⟩
                  cases this
                | _ => rfl
              rw [e2] at h
              simp only [wp_bind, wp_pure, wp_bad, wp_getS, wp_asB, wp_slotOpd, wp_rdSlot, wp_rdVar, wp_rdRet, wp_resV, wp_resS, wp_ress0, wp_ress, wp_setR, wp_setρ, wp_call, wp_setAt, wp_opd, wp_dat, wp_shr, wp_ownL, wp_popAt, wp_popLast, wp_app, wp_ins, wp_bindTup, wp_bindTs0, wp_bindTs, wp_bindNm, wp_blk, w_var, w_con, w_tup, w_lst, w_shr, w_bin, w_cmp, w_idx, w_cmp2, w_and2, w_or2, w_not1, w_ife, w_sli, w_call, w_blt, w_isi, w_lc, w_popk, w_popl, w_isN, w_neg, Z.w_rev, w_part0, w_part1, w_ds0, w_ds, w_os0, w_os, w_cs0, w_cs, line, w_asg, w_asgT, w_aug, w_setI, w_app, w_ins, w_ext, w_expr, w_ret, w_retN, w_if, w_forE, w_whil, w_brk, w_cont, w_pass, w_ss0, w_ss, fw_nx, fw_brk, fw_cont, fw_ret, nn_none, nn_int, nn_bl, nn_str, nn_tup, nn_lst, ol_lst, op_some, op_none, op_ite, ob_bl, oi_int, sl_pu, sl_ow, al_ow, al_obj, so_lst, opdV, retV, endQ, letgo, ite_self, ixN_3_0, ixN_3_1, ixN_3_2, atI_0, atI_1, atI_2, atI_3, List.getElem?_cons_zero, List.getElem?_cons_succ, List.set_cons_zero, List.set_cons_succ, List.length_cons, List.length_nil, List.length_map, Option.bind_some, Option.map_some, Nat.zero_add, Nat.reduceAdd, Nat.reduceLT, Nat.reduceLeDiff, Nat.zero_le, if_false, if_true, Bool.false_eq_true, Bool.true_eq_false, Bool.not_true, Bool.not_false, reduceCtorEq, true_and, and_true, forall_const, false_and, and_false, false_implies, not_false_eq_true, not_true_eq_false, decide_eq_true_eq, decide_eq_false_iff_not, isi_none_int, isi_none_bool, isi_none_str, isi_none_tuple, isi_none_list, isi_none_list_tuple, isi_none_tuple_list, isi_bl_int, isi_bl_bool, isi_bl_str, isi_bl_tuple, isi_bl_list, isi_bl_list_tuple, isi_bl_tuple_list, isi_int_int, isi_int_bool, isi_int_str, isi_int_tuple, isi_int_list, isi_int_list_tuple, isi_int_tuple_list, isi_str_int, isi_str_bool, isi_str_str, isi_str_tuple, isi_str_list, isi_str_list_tuple, isi_str_tuple_list, isi_tup_int, isi_tup_bool, isi_tup_str, isi_tup_tuple, isi_tup_list, isi_tup_list_tuple, isi_tup_tuple_list, isi_lst_int, isi_lst_bool, isi_lst_str, isi_lst_tuple, isi_lst_list, isi_lst_list_tuple, isi_lst_tuple_list, cmp_eq_ii, cmp_ne_ii, cmp_eq_bb, cmp_ne_bb, cmp_lt, cmp_le, cmp_gt, cmp_ge, cmp_ni_ii]
              exact h
          · have e2 : point w x = none := by
              cases x with
              | int i => rw [point_int, e]; rfl
              | _ => rfl
            rw [e2] at h
            exact h
        | _ =>
          simp only [wp_bind, wp_pure, wp_bad, wp_getS, wp_asB, wp_slotOpd, wp_rdSlot, wp_rdVar, wp_rdRet, wp_resV, wp_resS, wp_ress0, wp_ress, wp_setR, wp_setρ, wp_call, wp_setAt, wp_opd, wp_dat, wp_shr, wp_ownL, wp_popAt, wp_popLast, wp_app, wp_ins, wp_bindTup, wp_bindTs0, wp_bindTs, wp_bindNm, wp_blk, w_var, w_con, w_tup, w_lst, w_shr, w_bin, w_cmp, w_idx, w_cmp2, w_and2, w_or2, w_not1, w_ife, w_sli, w_call, w_blt, w_isi, w_lc, w_popk, w_popl, w_isN, w_neg, Z.w_rev, w_part0, w_part1, w_ds0, w_ds, w_os0, w_os, w_cs0, w_cs, line, w_asg, w_asgT, w_aug, w_setI, w_app, w_ins, w_ext, w_expr, w_ret, w_retN, w_if, w_forE, w_whil, w_brk, w_cont, w_pass, w_ss0, w_ss, fw_nx, fw_brk, fw_cont, fw_ret, nn_none, nn_int, nn_bl, nn_str, nn_tup, nn_lst, ol_lst, op_some, op_none, op_ite, ob_bl, oi_int, sl_pu, sl_ow, al_ow, al_obj, so_lst, opdV, retV, endQ, letgo, ite_self, ixN_3_0, ixN_3_1, ixN_3_2, atI_0, atI_1, atI_2, atI_3, List.getElem?_cons_zero, List.getElem?_cons_succ, List.set_cons_zero, List.set_cons_succ, List.length_cons, List.length_nil, List.length_map, Option.bind_some, Option.map_some, Nat.zero_add, Nat.reduceAdd, Nat.reduceLT, Nat.reduceLeDiff, Nat.zero_le, if_false, if_true, Bool.false_eq_true, Bool.true_eq_false, Bool.not_true, Bool.not_false, reduceCtorEq, true_and, and_true, forall_const, false_and, and_false, false_implies, not_false_eq_true, not_true_eq_false, decide_eq_true_eq, decide_eq_false_iff_not, isi_none_int, isi_none_bool, isi_none_str, isi_none_tuple, isi_none_list, isi_none_list_tuple, isi_none_tuple_list, isi_bl_int, isi_bl_bool, isi_bl_str, isi_bl_tuple, isi_bl_list, isi_bl_list_tuple, isi_bl_tuple_list, isi_int_int, isi_int_bool, isi_int_str, isi_int_tuple, isi_int_list, isi_int_list_tuple, isi_int_tuple_list, isi_str_int, isi_str_bool, isi_str_str, isi_str_tuple, isi_str_list, isi_str_list_tuple, isi_str_tuple_list, isi_tup_int, isi_tup_bool, isi_tup_str, isi_tup_tuple, isi_tup_list, isi_tup_list_tuple, isi_tup_tuple_list, isi_lst_int, isi_lst_bool, isi_lst_str, isi_lst_tuple, isi_lst_list, isi_lst_list_tuple, isi_lst_tuple_list, cmp_eq_ii, cmp_ne_ii, cmp_eq_bb, cmp_ne_bb, cmp_lt, cmp_le, cmp_gt, cmp_ge, cmp_ni_ii, bltD, on1, lenD, seqD, idxD]
          exact ⟨fun _ => h, fun z => h⟩
      | [a, x, y], hd, h =>
        have ha := kid hd (x := a) (by simp)
        have hx := kid hd (x := x) (by simp)
        have hy := kid hd (x := y) (by simp)
        cases a with
        | dic _ _ => cases k <;> (unfold Fine at ha; exact ha.elim)
        | obj _ => cases k <;> (unfold Fine at ha; exact ha.elim)
        | scr _ => cases k <;> (unfold Fine at ha; exact ha.elim)
        | str w =>
          simp only [wp_bind, wp_pure, wp_bad, wp_getS, wp_asB, wp_slotOpd, wp_rdSlot, wp_rdVar, wp_rdRet, wp_resV, wp_resS, wp_ress0, wp_ress, wp_setR, wp_setρ, wp_call, wp_setAt, wp_opd, wp_dat, wp_shr, wp_ownL, wp_popAt, wp_popLast, wp_app, wp_ins, wp_bindTup, wp_bindTs0, wp_bindTs, wp_bindNm, wp_blk, w_var, w_con, w_tup, w_lst, w_shr, w_bin, w_cmp, w_idx, w_cmp2, w_and2, w_or2, w_not1, w_ife, w_sli, w_call, w_blt, w_isi, w_lc, w_popk, w_popl, w_isN, w_neg, Z.w_rev, w_part0, w_part1, w_ds0, w_ds, w_os0, w_os, w_cs0, w_cs, line, w_asg, w_asgT, w_aug, w_setI, w_app, w_ins, w_ext, w_expr, w_ret, w_retN, w_if, w_forE, w_whil, w_brk, w_cont, w_pass, w_ss0, w_ss, fw_nx, fw_brk, fw_cont, fw_ret, nn_none, nn_int, nn_bl, nn_str, nn_tup, nn_lst, ol_lst, op_some, op_none, op_ite, ob_bl, oi_int, sl_pu, sl_ow, al_ow, al_obj, so_lst, opdV, retV, endQ, letgo, ite_self, ixN_3_0, ixN_3_1, ixN_3_2, atI_0, atI_1, atI_2, atI_3, List.getElem?_cons_zero, List.getElem?_cons_succ, List.set_cons_zero, List.set_cons_succ, List.length_cons, List.length_nil, List.length_map, Option.bind_some, Option.map_some, Nat.zero_add, Nat.reduceAdd, Nat.reduceLT, Nat.reduceLeDiff, Nat.zero_le, if_false, if_true, Bool.false_eq_true, Bool.true_eq_false, Bool.not_true, Bool.not_false, reduceCtorEq, true_and, and_true, forall_const, false_and, and_false, false_implies, not_false_eq_true, not_true_eq_false, decide_eq_true_eq, decide_eq_false_iff_not, isi_none_int, isi_none_bool, isi_none_str, isi_none_tuple, isi_none_list, isi_none_list_tuple, isi_none_tuple_list, isi_bl_int, isi_bl_bool, isi_bl_str, isi_bl_tuple, isi_bl_list, isi_bl_list_tuple, isi_bl_tuple_list, isi_int_int, isi_int_bool, isi_int_str, isi_int_tuple, isi_int_list, isi_int_list_tuple, isi_int_tuple_list, isi_str_int, isi_str_bool, isi_str_str, isi_str_tuple, isi_str_list, isi_str_list_tuple, isi_str_tuple_list, isi_tup_int, isi_tup_bool, isi_tup_str, isi_tup_tuple, isi_tup_list, isi_tup_list_tuple, isi_tup_tuple_list, isi_lst_int, isi_lst_bool, isi_lst_str, isi_lst_tuple, isi_lst_list, isi_lst_list_tuple, isi_lst_tuple_list, cmp_eq_ii, cmp_ne_ii, cmp_eq_bb, cmp_ne_bb, cmp_lt, cmp_le, cmp_gt, cmp_ge, cmp_ni_ii, bltD, on1, lenD, seqD, idxD]
          refine ⟨fun z => absurd z (by decide), fun _ => ⟨fun z => absurd z (by decide), fun _ => ?_⟩⟩
          refine lmeasure_spec hx ?_
          simp only [wp_bind, wp_pure, wp_bad, wp_getS, wp_asB, wp_slotOpd, wp_rdSlot, wp_rdVar, wp_rdRet, wp_resV, wp_resS, wp_ress0, wp_ress, wp_setR, wp_setρ, wp_call, wp_setAt, wp_opd, wp_dat, wp_shr, wp_ownL, wp_popAt, wp_popLast, wp_app, wp_ins, wp_bindTup, wp_bindTs0, wp_bindTs, wp_bindNm, wp_blk, w_var, w_con, w_tup, w_lst, w_shr, w_bin, w_cmp, w_idx, w_cmp2, w_and2, w_or2, w_not1, w_ife, w_sli, w_call, w_blt, w_isi, w_lc, w_popk, w_popl, w_isN, w_neg, Z.w_rev, w_part0, w_part1, w_ds0, w_ds, w_os0, w_os, w_cs0, w_cs, line, w_asg, w_asgT, w_aug, w_setI, w_app, w_ins, w_ext, w_expr, w_ret, w_retN, w_if, w_forE, w_whil, w_brk, w_cont, w_pass, w_ss0, w_ss, fw_nx, fw_brk, fw_cont, fw_ret, nn_none, nn_int, nn_bl, nn_str, nn_tup, nn_lst, ol_lst, op_some, op_none, op_ite, ob_bl, oi_int, sl_pu, sl_ow, al_ow, al_obj, so_lst, opdV, retV, endQ, letgo, ite_self, ixN_3_0, ixN_3_1, ixN_3_2, atI_0, atI_1, atI_2, atI_3, List.getElem?_cons_zero, List.getElem?_cons_succ, List.set_cons_zero, List.set_cons_succ, List.length_cons, List.length_nil, List.length_map, Option.bind_some, Option.map_some, Nat.zero_add, Nat.reduceAdd, Nat.reduceLT, Nat.reduceLeDiff, Nat.zero_le, if_false, if_true, Bool.false_eq_true, Bool.true_eq_false, Bool.not_true, Bool.not_false, reduceCtorEq, true_and, and_true, forall_const, false_and, and_false, false_implies, not_false_eq_true, not_true_eq_false, decide_eq_true_eq, decide_eq_false_iff_not, isi_none_int, isi_none_bool, isi_none_str, isi_none_tuple, isi_none_list, isi_none_list_tuple, isi_none_tuple_list, isi_bl_int, isi_bl_bool, isi_bl_str, isi_bl_tuple, isi_bl_list, isi_bl_list_tuple, isi_bl_tuple_list, isi_int_int, isi_int_bool, isi_int_str, isi_int_tuple, isi_int_list, isi_int_list_tuple, isi_int_tuple_list, isi_str_int, isi_str_bool, isi_str_str, isi_str_tuple, isi_str_list, isi_str_list_tuple, isi_str_tuple_list, isi_tup_int, isi_tup_bool, isi_tup_str, isi_tup_tuple, isi_tup_list, isi_tup_list_tuple, isi_tup_tuple_list, isi_lst_int, isi_lst_bool, isi_lst_str, isi_lst_tuple, isi_lst_list, isi_lst_list_tuple, isi_lst_tuple_list, cmp_eq_ii, cmp_ne_ii, cmp_eq_bb, cmp_ne_bb, cmp_lt, cmp_le, cmp_gt, cmp_ge, cmp_ni_ii, bltD, on1, lenD, seqD, idxD]
          refine lmeasure_spec hy ?_
          simp only [wp_bind, wp_pure, wp_bad, wp_getS, wp_asB, wp_slotOpd, wp_rdSlot, wp_rdVar, wp_rdRet, wp_resV, wp_resS, wp_ress0, wp_ress, wp_setR, wp_setρ, wp_call, wp_setAt, wp_opd, wp_dat, wp_shr, wp_ownL, wp_popAt, wp_popLast, wp_app, wp_ins, wp_bindTup, wp_bindTs0, wp_bindTs, wp_bindNm, wp_blk, w_var, w_con, w_tup, w_lst, w_shr, w_bin, w_cmp, w_idx, w_cmp2, w_and2, w_or2, w_not1, w_ife, w_sli, w_call, w_blt, w_isi, w_lc, w_popk, w_popl, w_isN, w_neg, Z.w_rev, w_part0, w_part1, w_ds0, w_ds, w_os0, w_os, w_cs0, w_cs, line, w_asg, w_asgT, w_aug, w_setI, w_app, w_ins, w_ext, w_expr, w_ret, w_retN, w_if, w_forE, w_whil, w_brk, w_cont, w_pass, w_ss0, w_ss, fw_nx, fw_brk, fw_cont, fw_ret, nn_none, nn_int, nn_bl, nn_str, nn_tup, nn_lst, ol_lst, op_some, op_none, op_ite, ob_bl, oi_int, sl_pu, sl_ow, al_ow, al_obj, so_lst, opdV, retV, endQ, letgo, ite_self, ixN_3_0, ixN_3_1, ixN_3_2, atI_0, atI_1, atI_2, atI_3, List.getElem?_cons_zero, List.getElem?_cons_succ, List.set_cons_zero, List.set_cons_succ, List.length_cons, List.length_nil, List.length_map, Option.bind_some, Option.map_some, Nat.zero_add, Nat.reduceAdd, Nat.reduceLT, Nat.reduceLeDiff, Nat.zero_le, if_false, if_true, Bool.false_eq_true, Bool.true_eq_false, Bool.not_true, Bool.not_false, reduceCtorEq, true_and, and_true, forall_const, false_and, and_false, false_implies, not_false_eq_true, not_true_eq_false, decide_eq_true_eq, decide_eq_false_iff_not, isi_none_int, isi_none_bool, isi_none_str, isi_none_tuple, isi_none_list, isi_none_list_tuple, isi_none_tuple_list, isi_bl_int, isi_bl_bool, isi_bl_str, isi_bl_tuple, isi_bl_list, isi_bl_list_tuple, isi_bl_tuple_list, isi_int_int, isi_int_bool, isi_int_str, isi_int_tuple, isi_int_list, isi_int_list_tuple, isi_int_tuple_list, isi_str_int, isi_str_bool, isi_str_str, isi_str_tuple, isi_str_list, isi_str_list_tuple, isi_str_tuple_list, isi_tup_int, isi_tup_bool, isi_tup_str, isi_tup_tuple, isi_tup_list, isi_tup_list_tuple, isi_tup_tuple_list, isi_lst_int, isi_lst_bool, isi_lst_str, isi_lst_tuple, isi_lst_list, isi_lst_list_tuple, isi_lst_tuple_list, cmp_eq_ii, cmp_ne_ii, cmp_eq_bb, cmp_ne_bb, cmp_lt, cmp_le, cmp_gt, cmp_ge, cmp_ni_ii, bltD, on1, lenD, seqD, idxD]
          have h : Q (code (two w big (meas big k x) (meas big k y)), false) st := h
          generalize meas big k x = u at h ⊢
          generalize meas big k y = v at h ⊢
          unfold two at h
          match u, v, h with
          | none, v, h => unfold code; simp only [wp_bind, wp_pure, wp_bad, wp_getS, wp_asB, wp_slotOpd, wp_rdSlot, wp_rdVar, wp_rdRet, wp_resV, wp_resS, wp_ress0, wp_ress, wp_setR, wp_setρ, wp_call, wp_setAt, wp_opd, wp_dat, wp_shr, wp_ownL, wp_popAt, wp_popLast, wp_app, wp_ins, wp_bindTup, wp_bindTs0, wp_bindTs, wp_bindNm, wp_blk, w_var, w_con, w_tup, w_lst, w_shr, w_bin, w_cmp, w_idx, w_cmp2, w_and2, w_or2, w_not1, w_ife, w_sli, w_call, w_blt, w_isi, w_lc, w_popk, w_popl, w_isN, w_neg, Z.w_rev, w_part0, w_part1, w_ds0, w_ds, w_os0, w_os, w_cs0, w_cs, line, w_asg, w_asgT, w_aug, w_setI, w_app, w_ins, w_ext, w_expr, w_ret, w_retN, w_if, w_forE, w_whil, w_brk, w_cont, w_pass, w_ss0, w_ss, fw_nx, fw_brk, fw_cont, fw_ret, nn_none, nn_int, nn_bl, nn_str, nn_tup, nn_lst, ol_lst, op_some, op_none, op_ite, ob_bl, oi_int, sl_pu, sl_ow, al_ow, al_obj, so_lst, opdV, retV, endQ, letgo, ite_self, ixN_3_0, ixN_3_1, ixN_3_2, atI_0, atI_1, atI_2, atI_3, List.getElem?_cons_zero, List.getElem?_cons_succ, List.set_cons_zero, List.set_cons_succ, List.length_cons, List.length_nil, List.length_map, Option.bind_some, Option.map_some, Nat.zero_add, Nat.reduceAdd, Nat.reduceLT, Nat.reduceLeDiff, Nat.zero_le, if_false, if_true, Bool.false_eq_true, Bool.true_eq_false, Bool.not_true, Bool.not_false, reduceCtorEq, true_and, and_true, forall_const, false_and, and_false, false_implies, not_false_eq_true, not_true_eq_false, decide_eq_true_eq, decide_eq_false_iff_not, isi_none_int, isi_none_bool, isi_none_str, isi_none_tuple, isi_none_list, isi_none_list_tuple, isi_none_tuple_list, isi_bl_int, isi_bl_bool, isi_bl_str, isi_bl_tuple, isi_bl_list, isi_bl_list_tuple, isi_bl_tuple_list, isi_int_int, isi_int_bool, isi_int_str, isi_int_tuple, isi_int_list, isi_int_list_tuple, isi_int_tuple_list, isi_str_int, isi_str_bool, isi_str_str, isi_str_tuple, isi_str_list, isi_str_list_tuple, isi_str_tuple_list, isi_tup_int, isi_tup_bool, isi_tup_str, isi_tup_tuple, isi_tup_list, isi_tup_list_tuple, isi_tup_tuple_list, isi_lst_int, isi_lst_bool, isi_lst_str, isi_lst_tuple, isi_lst_list, isi_lst_list_tuple, isi_lst_tuple_list, cmp_eq_ii, cmp_ne_ii, cmp_eq_bb, cmp_ne_bb, cmp_lt, cmp_le, cmp_gt, cmp_ge, cmp_ni_ii]; exact h
          | some a, none, h => unfold code; obtain ⟨a1, a2, a3⟩ := a; simp only [wp_bind, wp_pure, wp_bad, wp_getS, wp_asB, wp_slotOpd, wp_rdSlot, wp_rdVar, wp_rdRet, wp_resV, wp_resS, wp_ress0, wp_ress, wp_setR, wp_setρ, wp_call, wp_setAt, wp_opd, wp_dat, wp_shr, wp_ownL, wp_popAt, wp_popLast, wp_app, wp_ins, wp_bindTup, wp_bindTs0, wp_bindTs, wp_bindNm, wp_blk, w_var, w_con, w_tup, w_lst, w_shr, w_bin, w_cmp, w_idx, w_cmp2, w_and2, w_or2, w_not1, w_ife, w_sli, w_call, w_blt, w_isi, w_lc, w_popk, w_popl, w_isN, w_neg, Z.w_rev, w_part0, w_part1, w_ds0, w_ds, w_os0, w_os, w_cs0, w_cs, line, w_asg, w_asgT, w_aug, w_setI, w_app, w_ins, w_ext, w_expr, w_ret, w_retN, w_if, w_forE, w_whil, w_brk, w_cont, w_pass, w_ss0, w_ss, fw_nx, fw_brk, fw_cont, fw_ret, nn_none, nn_int, nn_bl, nn_str, nn_tup, nn_lst, ol_lst, op_some, op_none, op_ite, ob_bl, oi_int, sl_pu, sl_ow, al_ow, al_obj, so_lst, opdV, retV, endQ, letgo, ite_self, ixN_3_0, ixN_3_1, ixN_3_2, atI_0, atI_1, atI_2, atI_3, List.getElem?_cons_zero, List.getElem?_cons_succ, List.set_cons_zero, List.set_cons_succ, List.length_cons, List.length_nil, List.length_map, Option.bind_some, Option.map_some, Nat.zero_add, Nat.reduceAdd, Nat.reduceLT, Nat.reduceLeDiff, Nat.zero_le, if_false, if_true, Bool.false_eq_true, Bool.true_eq_false, Bool.not_true, Bool.not_false, reduceCtorEq, true_and, and_true, forall_const, false_and, and_false, false_implies, not_false_eq_true, not_true_eq_false, decide_eq_true_eq, decide_eq_false_iff_not, isi_none_int, isi_none_bool, isi_none_str, isi_none_tuple, isi_none_list, isi_none_list_tuple, isi_none_tuple_list, isi_bl_int, isi_bl_bool, isi_bl_str, isi_bl_tuple, isi_bl_list, isi_bl_list_tuple, isi_bl_tuple_list, isi_int_int, isi_int_bool, isi_int_str, isi_int_tuple, isi_int_list, isi_int_list_tuple, isi_int_tuple_list, isi_str_int, isi_str_bool, isi_str_str, isi_str_tuple, isi_str_list, isi_str_list_tuple, isi_str_tuple_list, isi_tup_int, isi_tup_bool, isi_tup_str, isi_tup_tuple, isi_tup_list, isi_tup_list_tuple, isi_tup_tuple_list, isi_lst_int, isi_lst_bool, isi_lst_str, isi_lst_tuple, isi_lst_list, isi_lst_list_tuple, isi_lst_tuple_list, cmp_eq_ii, cmp_ne_ii, cmp_eq_bb, cmp_ne_bb, cmp_lt, cmp_le, cmp_gt, cmp_ge, cmp_ni_ii]; exact h
          | some a, some b, h =>
            dsimp only at h
            have nn : ∀ (a : Int × Int × Int) (P Q : Prop), Nn (code (some a)) P Q = Q := fun a _ _ => rfl
            simp only [wp_bind, wp_pure, wp_bad, wp_getS, wp_asB, wp_slotOpd, wp_rdSlot, wp_rdVar, wp_rdRet, wp_resV, wp_resS, wp_ress0, wp_ress, wp_setR, wp_setρ, wp_call, wp_setAt, wp_opd, wp_dat, wp_shr, wp_ownL, wp_popAt, wp_popLast, wp_app, wp_ins, wp_bindTup, wp_bindTs0, wp_bindTs, wp_bindNm, wp_blk, w_var, w_con, w_tup, w_lst, w_shr, w_bin, w_cmp, w_idx, w_cmp2, w_and2, w_or2, w_not1, w_ife, w_sli, w_call, w_blt, w_isi, w_lc, w_popk, w_popl, w_isN, w_neg, Z.w_rev, w_part0, w_part1, w_ds0, w_ds, w_os0, w_os, w_cs0, w_cs, line, w_asg, w_asgT, w_aug, w_setI, w_app, w_ins, w_ext, w_expr, w_ret, w_retN, w_if, w_forE, w_whil, w_brk, w_cont, w_pass, w_ss0, w_ss, fw_nx, fw_brk, fw_cont, fw_ret, nn_none, nn_int, nn_bl, nn_str, nn_tup, nn_lst, ol_lst, op_some, op_none, op_ite, ob_bl, oi_int, sl_pu, sl_ow, al_ow, al_obj, so_lst, opdV, retV, endQ, letgo, ite_self, ixN_3_0, ixN_3_1, ixN_3_2, atI_0, atI_1, atI_2, atI_3, List.getElem?_cons_zero, List.getElem?_cons_succ, List.set_cons_zero, List.set_cons_succ, List.length_cons, List.length_nil, List.length_map, Option.bind_some, Option.map_some, Nat.zero_add, Nat.reduceAdd, Nat.reduceLT, Nat.reduceLeDiff, Nat.zero_le, if_false, if_true, Bool.false_eq_true, Bool.true_eq_false, Bool.not_true, Bool.not_false, reduceCtorEq, true_and, and_true, forall_const, false_and, and_false, false_implies, not_false_eq_true, not_true_eq_false, decide_eq_true_eq, decide_eq_false_iff_not, isi_none_int, isi_none_bool, isi_none_str, isi_none_tuple, isi_none_list, isi_none_list_tuple, isi_none_tuple_list, isi_bl_int, isi_bl_bool, isi_bl_str, isi_bl_tuple, isi_bl_list, isi_bl_list_tuple, isi_bl_tuple_list, isi_int_int, isi_int_bool, isi_int_str, isi_int_tuple, isi_int_list, isi_int_list_tuple, isi_int_tuple_list, isi_str_int, isi_str_bool, isi_str_str, isi_str_tuple, isi_str_list, isi_str_list_tuple, isi_str_tuple_list, isi_tup_int, isi_tup_bool, isi_tup_str, isi_tup_tuple, isi_tup_list, isi_tup_list_tuple, isi_tup_tuple_list, isi_lst_int, isi_lst_bool, isi_lst_str, isi_lst_tuple, isi_lst_list, isi_lst_list_tuple, isi_lst_tuple_list, cmp_eq_ii, cmp_ne_ii, cmp_eq_bb, cmp_ne_bb, cmp_lt, cmp_le, cmp_gt, cmp_ge, cmp_ni_ii, bltD, on1, lenD, seqD, idxD, nn, cmp_ni_ss (sok ha) h2 h3]
            refine ⟨fun e => ?_, fun e => ?_⟩
            · rw [if_neg (fun z => by rw [z] at e; cases e)] at h
              exact h
            · rw [if_pos (by cases e3 : (eqD (.str "join") (.str w) || eqD (.str "meet") (.str w)) with
                | true => rfl
                | false => rw [e3] at e; cases e)] at h
              refine lmeasured_spec (sok ha) ?_
              exact h
        | _ =>
          simp only [wp_bind, wp_pure, wp_bad, wp_getS, wp_asB, wp_slotOpd, wp_rdSlot, wp_rdVar, wp_rdRet, wp_resV, wp_resS, wp_ress0, wp_ress, wp_setR, wp_setρ, wp_call, wp_setAt, wp_opd, wp_dat, wp_shr, wp_ownL, wp_popAt, wp_popLast, wp_app, wp_ins, wp_bindTup, wp_bindTs0, wp_bindTs, wp_bindNm, wp_blk, w_var, w_con, w_tup, w_lst, w_shr, w_bin, w_cmp, w_idx, w_cmp2, w_and2, w_or2, w_not1, w_ife, w_sli, w_call, w_blt, w_isi, w_lc, w_popk, w_popl, w_isN, w_neg, Z.w_rev, w_part0, w_part1, w_ds0, w_ds, w_os0, w_os, w_cs0, w_cs, line, w_asg, w_asgT, w_aug, w_setI, w_app, w_ins, w_ext, w_expr, w_ret, w_retN, w_if, w_forE, w_whil, w_brk, w_cont, w_pass, w_ss0, w_ss, fw_nx, fw_brk, fw_cont, fw_ret, nn_none, nn_int, nn_bl, nn_str, nn_tup, nn_lst, ol_lst, op_some, op_none, op_ite, ob_bl, oi_int, sl_pu, sl_ow, al_ow, al_obj, so_lst, opdV, retV, endQ, letgo, ite_self, ixN_3_0, ixN_3_1, ixN_3_2, atI_0, atI_1, atI_2, atI_3, List.getElem?_cons_zero, List.getElem?_cons_succ, List.set_cons_zero, List.set_cons_succ, List.length_cons, List.length_nil, List.length_map, Option.bind_some, Option.map_some, Nat.zero_add, Nat.reduceAdd, Nat.reduceLT, Nat.reduceLeDiff, Nat.zero_le, if_false, if_true, Bool.false_eq_true, Bool.true_eq_false, Bool.not_true, Bool.not_false, reduceCtorEq, true_and, and_true, forall_const, false_and, and_false, false_implies, not_false_eq_true, not_true_eq_false, decide_eq_true_eq, decide_eq_false_iff_not, isi_none_int, isi_none_bool, isi_none_str, isi_none_tuple, isi_none_list, isi_none_list_tuple, isi_none_tuple_list, isi_bl_int, isi_bl_bool, isi_bl_str, isi_bl_tuple, isi_bl_list, isi_bl_list_tuple, isi_bl_tuple_list, isi_int_int, isi_int_bool, isi_int_str, isi_int_tuple, isi_int_list, isi_int_list_tuple, isi_int_tuple_list, isi_str_int, isi_str_bool, isi_str_str, isi_str_tuple, isi_str_list, isi_str_list_tuple, isi_str_tuple_list, isi_tup_int, isi_tup_bool, isi_tup_str, isi_tup_tuple, isi_tup_list, isi_tup_list_tuple, isi_tup_tuple_list, isi_lst_int, isi_lst_bool, isi_lst_str, isi_lst_tuple, isi_lst_list, isi_lst_list_tuple, isi_lst_tuple_list, cmp_eq_ii, cmp_ne_ii, cmp_eq_bb, cmp_ne_bb, cmp_lt, cmp_le, cmp_gt, cmp_ge, cmp_ni_ii, bltD, on1, lenD, seqD, idxD]
          exact ⟨fun _ => h, fun z => h⟩
      | a :: b :: c :: e :: r, hd, h =>
        have e2 : meas big (k + 1) (.tup (a :: b :: c :: e :: r)) = none := by
          refine meas_nt (fun w x z => ?_) (fun w x y z => ?_)
          · cases z
          · cases z
        rw [e2] at h
        simp only [wp_bind, wp_pure, wp_bad, wp_getS, wp_asB, wp_slotOpd, wp_rdSlot, wp_rdVar, wp_rdRet, wp_resV, wp_resS, wp_ress0, wp_ress, wp_setR, wp_setρ, wp_call, wp_setAt, wp_opd, wp_dat, wp_shr, wp_ownL, wp_popAt, wp_popLast, wp_app, wp_ins, wp_bindTup, wp_bindTs0, wp_bindTs, wp_bindNm, wp_blk, w_var, w_con, w_tup, w_lst, w_shr, w_bin, w_cmp, w_idx, w_cmp2, w_and2, w_or2, w_not1, w_ife, w_sli, w_call, w_blt, w_isi, w_lc, w_popk, w_popl, w_isN, w_neg, Z.w_rev, w_part0, w_part1, w_ds0, w_ds, w_os0, w_os, w_cs0, w_cs, line, w_asg, w_asgT, w_aug, w_setI, w_app, w_ins, w_ext, w_expr, w_ret, w_retN, w_if, w_forE, w_whil, w_brk, w_cont, w_pass, w_ss0, w_ss, fw_nx, fw_brk, fw_cont, fw_ret, nn_none, nn_int, nn_bl, nn_str, nn_tup, nn_lst, ol_lst, op_some, op_none, op_ite, ob_bl, oi_int, sl_pu, sl_ow, al_ow, al_obj, so_lst, opdV, retV, endQ, letgo, ite_self, ixN_3_0, ixN_3_1, ixN_3_2, atI_0, atI_1, atI_2, atI_3, List.getElem?_cons_zero, List.getElem?_cons_succ, List.set_cons_zero, List.set_cons_succ, List.length_cons, List.length_nil, List.length_map, Option.bind_some, Option.map_some, Nat.zero_add, Nat.reduceAdd, Nat.reduceLT, Nat.reduceLeDiff, Nat.zero_le, if_false, if_true, Bool.false_eq_true, Bool.true_eq_false, Bool.not_true, Bool.not_false, reduceCtorEq, true_and, and_true, forall_const, false_and, and_false, false_implies, not_false_eq_true, not_true_eq_false, decide_eq_true_eq, decide_eq_false_iff_not, isi_none_int, isi_none_bool, isi_none_str, isi_none_tuple, isi_none_list, isi_none_list_tuple, isi_none_tuple_list, isi_bl_int, isi_bl_bool, isi_bl_str, isi_bl_tuple, isi_bl_list, isi_bl_list_tuple, isi_bl_tuple_list, isi_int_int, isi_int_bool, isi_int_str, isi_int_tuple, isi_int_list, isi_int_list_tuple, isi_int_tuple_list, isi_str_int, isi_str_bool, isi_str_str, isi_str_tuple, isi_str_list, isi_str_list_tuple, isi_str_tuple_list, isi_tup_int, isi_tup_bool, isi_tup_str, isi_tup_tuple, isi_tup_list, isi_tup_list_tuple, isi_tup_tuple_list, isi_lst_int, isi_lst_bool, isi_lst_str, isi_lst_tuple, isi_lst_list, isi_lst_list_tuple, isi_lst_tuple_list, cmp_eq_ii, cmp_ne_ii, cmp_eq_bb, cmp_ne_bb, cmp_lt, cmp_le, cmp_gt, cmp_ge, cmp_ni_ii, bltD, on1, lenD, seqD, idxD]
        have e3 : (!(decide ((2 : Int) = ((r.length + 1 + 1 + 1 + 1 : Nat) : Int)) || decide ((3 : Int) = ((r.length + 1 + 1 + 1 + 1 : Nat) : Int)))) = true := by
          rw [decide_eq_false (by omega), decide_eq_false (by omega)]
          rfl
        refine ⟨fun _ => h, fun z => ?_⟩
        exact absurd e3 (by rw [z]; decide)
    | _ =>
      simp only [wp_bind, wp_pure, wp_bad, wp_getS, wp_asB, wp_slotOpd, wp_rdSlot, wp_rdVar, wp_rdRet, wp_resV, wp_resS, wp_ress0, wp_ress, wp_setR, wp_setρ, wp_call, wp_setAt, wp_opd, wp_dat, wp_shr, wp_ownL, wp_popAt, wp_popLast, wp_app, wp_ins, wp_bindTup, wp_bindTs0, wp_bindTs, wp_bindNm, wp_blk, w_var, w_con, w_tup, w_lst, w_shr, w_bin, w_cmp, w_idx, w_cmp2, w_and2, w_or2, w_not1, w_ife, w_sli, w_call, w_blt, w_isi, w_lc, w_popk, w_popl, w_isN, w_neg, Z.w_rev, w_part0, w_part1, w_ds0, w_ds, w_os0, w_os, w_cs0, w_cs, line, w_asg, w_asgT, w_aug, w_setI, w_app, w_ins, w_ext, w_expr, w_ret, w_retN, w_if, w_forE, w_whil, w_brk, w_cont, w_pass, w_ss0, w_ss, fw_nx, fw_brk, fw_cont, fw_ret, nn_none, nn_int, nn_bl, nn_str, nn_tup, nn_lst, ol_lst, op_some, op_none, op_ite, ob_bl, oi_int, sl_pu, sl_ow, al_ow, al_obj, so_lst, opdV, retV, endQ, letgo, ite_self, ixN_3_0, ixN_3_1, ixN_3_2, atI_0, atI_1, atI_2, atI_3, List.getElem?_cons_zero, List.getElem?_cons_succ, List.set_cons_zero, List.set_cons_succ, List.length_cons, List.length_nil, List.length_map, Option.bind_some, Option.map_some, Nat.zero_add, Nat.reduceAdd, Nat.reduceLT, Nat.reduceLeDiff, Nat.zero_le, if_false, if_true, Bool.false_eq_true, Bool.true_eq_false, Bool.not_true, Bool.not_false, reduceCtorEq, true_and, and_true, forall_const, false_and, and_false, false_implies, not_false_eq_true, not_true_eq_false, decide_eq_true_eq, decide_eq_false_iff_not, isi_none_int, isi_none_bool, isi_none_str, isi_none_tuple, isi_none_list, isi_none_list_tuple, isi_none_tuple_list, isi_bl_int, isi_bl_bool, isi_bl_str, isi_bl_tuple, isi_bl_list, isi_bl_list_tuple, isi_bl_tuple_list, isi_int_int, isi_int_bool, isi_int_str, isi_int_tuple, isi_int_list, isi_int_list_tuple, isi_int_tuple_list, isi_str_int, isi_str_bool, isi_str_str, isi_str_tuple, isi_str_list, isi_str_list_tuple, isi_str_tuple_list, isi_tup_int, isi_tup_bool, isi_tup_str, isi_tup_tuple, isi_tup_list, isi_tup_list_tuple, isi_tup_tuple_list, isi_lst_int, isi_lst_bool, isi_lst_str, isi_lst_tuple, isi_lst_list, isi_lst_list_tuple, isi_lst_tuple_list, cmp_eq_ii, cmp_ne_ii, cmp_eq_bb, cmp_ne_bb, cmp_lt, cmp_le, cmp_gt, cmp_ge, cmp_ni_ii, bltD, on1, lenD, seqD, idxD]
      exact h
end G

namespace G
open PySem PySem.Spec PyProof.Rows L2 Z
theorem op_atI {α : Type} {xs : List α} {i : Int} {Q : α → Prop} (h0 : 0 ≤ i) (h1 : i < xs.length) (h : ∀ a ∈ xs, Q a) : Op (atI xs i) Q := by
  obtain ⟨a, e, m⟩ := atI_in xs h0 h1
  rw [e]
  exact h a m
theorem size_spec {n : Nat} {st : List SO} {Q : Rs → List SO → Prop} (T : Tape st) (h : ∀ (b : Int) st', b = 2 ∨ b = 3 → Tape st' → Q (.int b, false) st') : Rp (callF fns wf (n + 2) 11 [.obj 1] st) Q := by
  refine c__law_size ?_
  unfold b__law_size
  simp only [wp_bind, wp_pure, wp_bad, wp_getS, wp_asB, wp_slotOpd, wp_rdSlot, wp_rdVar, wp_rdRet, wp_resV, wp_resS, wp_ress0, wp_ress, wp_setR, wp_setρ, wp_call, wp_setAt, wp_opd, wp_dat, wp_shr, wp_ownL, wp_popAt, wp_popLast, wp_app, wp_ins, wp_bindTup, wp_bindTs0, wp_bindTs, wp_bindNm, wp_blk, w_var, w_con, w_tup, w_lst, w_shr, w_bin, w_cmp, w_idx, w_cmp2, w_and2, w_or2, w_not1, w_ife, w_sli, w_call, w_blt, w_isi, w_lc, w_popk, w_popl, w_isN, w_neg, Z.w_rev, w_part0, w_part1, w_ds0, w_ds, w_os0, w_os, w_cs0, w_cs, line, w_asg, w_asgT, w_aug, w_setI, w_app, w_ins, w_ext, w_expr, w_ret, w_retN, w_if, w_forE, w_whil, w_brk, w_cont, w_pass, w_ss0, w_ss, fw_nx, fw_brk, fw_cont, fw_ret, nn_none, nn_int, nn_bl, nn_str, nn_tup, nn_lst, ol_lst, op_some, op_none, op_ite, ob_bl, oi_int, sl_pu, sl_ow, al_ow, al_obj, so_lst, opdV, retV, endQ, letgo, ite_self, ixN_3_0, ixN_3_1, ixN_3_2, atI_0, atI_1, atI_2, atI_3, List.getElem?_cons_zero, List.getElem?_cons_succ, List.set_cons_zero, List.set_cons_succ, List.length_cons, List.length_nil, List.length_map, Option.bind_some, Option.map_some, Nat.zero_add, Nat.reduceAdd, Nat.reduceLT, Nat.reduceLeDiff, Nat.zero_le, if_false, if_true, Bool.false_eq_true, Bool.true_eq_false, Bool.not_true, Bool.not_false, reduceCtorEq, true_and, and_true, forall_const, false_and, and_false, false_implies, not_false_eq_true, not_true_eq_false, decide_eq_true_eq, decide_eq_false_iff_not, isi_none_int, isi_none_bool, isi_none_str, isi_none_tuple, isi_none_list, isi_none_list_tuple, isi_none_tuple_list, isi_bl_int, isi_bl_bool, isi_bl_str, isi_bl_tuple, isi_bl_list, isi_bl_list_tuple, isi_bl_tuple_list, isi_int_int, isi_int_bool, isi_int_str, isi_int_tuple, isi_int_list, isi_int_list_tuple, isi_int_tuple_list, isi_str_int, isi_str_bool, isi_str_str, isi_str_tuple, isi_str_list, isi_str_list_tuple, isi_str_tuple_list, isi_tup_int, isi_tup_bool, isi_tup_str, isi_tup_tuple, isi_tup_list, isi_tup_list_tuple, isi_tup_tuple_list, isi_lst_int, isi_lst_bool, isi_lst_str, isi_lst_tuple, isi_lst_list, isi_lst_list_tuple, isi_lst_tuple_list, cmp_eq_ii, cmp_ne_ii, cmp_eq_bb, cmp_ne_bb, cmp_lt, cmp_le, cmp_gt, cmp_ge, cmp_ni_ii, binD]
  refine draw_spec T (by decide) (by decide) fun f st1 h0 h1 T1 => ?_
  simp only [wp_bind, wp_pure, wp_bad, wp_getS, wp_asB, wp_slotOpd, wp_rdSlot, wp_rdVar, wp_rdRet, wp_resV, wp_resS, wp_ress0, wp_ress, wp_setR, wp_setρ, wp_call, wp_setAt, wp_opd, wp_dat, wp_shr, wp_ownL, wp_popAt, wp_popLast, wp_app, wp_ins, wp_bindTup, wp_bindTs0, wp_bindTs, wp_bindNm, wp_blk, w_var, w_con, w_tup, w_lst, w_shr, w_bin, w_cmp, w_idx, w_cmp2, w_and2, w_or2, w_not1, w_ife, w_sli, w_call, w_blt, w_isi, w_lc, w_popk, w_popl, w_isN, w_neg, Z.w_rev, w_part0, w_part1, w_ds0, w_ds, w_os0, w_os, w_cs0, w_cs, line, w_asg, w_asgT, w_aug, w_setI, w_app, w_ins, w_ext, w_expr, w_ret, w_retN, w_if, w_forE, w_whil, w_brk, w_cont, w_pass, w_ss0, w_ss, fw_nx, fw_brk, fw_cont, fw_ret, nn_none, nn_int, nn_bl, nn_str, nn_tup, nn_lst, ol_lst, op_some, op_none, op_ite, ob_bl, oi_int, sl_pu, sl_ow, al_ow, al_obj, so_lst, opdV, retV, endQ, letgo, ite_self, ixN_3_0, ixN_3_1, ixN_3_2, atI_0, atI_1, atI_2, atI_3, List.getElem?_cons_zero, List.getElem?_cons_succ, List.set_cons_zero, List.set_cons_succ, List.length_cons, List.length_nil, List.length_map, Option.bind_some, Option.map_some, Nat.zero_add, Nat.reduceAdd, Nat.reduceLT, Nat.reduceLeDiff, Nat.zero_le, if_false, if_true, Bool.false_eq_true, Bool.true_eq_false, Bool.not_true, Bool.not_false, reduceCtorEq, true_and, and_true, forall_const, false_and, and_false, false_implies, not_false_eq_true, not_true_eq_false, decide_eq_true_eq, decide_eq_false_iff_not, isi_none_int, isi_none_bool, isi_none_str, isi_none_tuple, isi_none_list, isi_none_list_tuple, isi_none_tuple_list, isi_bl_int, isi_bl_bool, isi_bl_str, isi_bl_tuple, isi_bl_list, isi_bl_list_tuple, isi_bl_tuple_list, isi_int_int, isi_int_bool, isi_int_str, isi_int_tuple, isi_int_list, isi_int_list_tuple, isi_int_tuple_list, isi_str_int, isi_str_bool, isi_str_str, isi_str_tuple, isi_str_list, isi_str_list_tuple, isi_str_tuple_list, isi_tup_int, isi_tup_bool, isi_tup_str, isi_tup_tuple, isi_tup_list, isi_tup_list_tuple, isi_tup_tuple_list, isi_lst_int, isi_lst_bool, isi_lst_str, isi_lst_tuple, isi_lst_list, isi_lst_list_tuple, isi_lst_tuple_list, cmp_eq_ii, cmp_ne_ii, cmp_eq_bb, cmp_ne_bb, cmp_lt, cmp_le, cmp_gt, cmp_ge, cmp_ni_ii, binD]
  exact h _ _ (by omega) T1
theorem any_spec : ∀ {k n : Nat} {st : List SO} {Q : Rs → List SO → Prop}, Tape st → (∀ d st', Fine 5 (k + 1) d → Tape st' → Q (d, false) st') → Rp (callF fns wf (n + k + 2) 12 [.obj 1, .int k] st) Q
  | k, n, st, Q, T, h => by
    show Rp (callF fns wf ((n + k + 1) + 1) 12 [.obj 1, .int k] st) Q
    refine c__law_any ?_
    unfold b__law_any
    simp only [wp_bind, wp_pure, wp_bad, wp_getS, wp_asB, wp_slotOpd, wp_rdSlot, wp_rdVar, wp_rdRet, wp_resV, wp_resS, wp_ress0, wp_ress, wp_setR, wp_setρ, wp_call, wp_setAt, wp_opd, wp_dat, wp_shr, wp_ownL, wp_popAt, wp_popLast, wp_app, wp_ins, wp_bindTup, wp_bindTs0, wp_bindTs, wp_bindNm, wp_blk, w_var, w_con, w_tup, w_lst, w_shr, w_bin, w_cmp, w_idx, w_cmp2, w_and2, w_or2, w_not1, w_ife, w_sli, w_call, w_blt, w_isi, w_lc, w_popk, w_popl, w_isN, w_neg, Z.w_rev, w_part0, w_part1, w_ds0, w_ds, w_os0, w_os, w_cs0, w_cs, line, w_asg, w_asgT, w_aug, w_setI, w_app, w_ins, w_ext, w_expr, w_ret, w_retN, w_if, w_forE, w_whil, w_brk, w_cont, w_pass, w_ss0, w_ss, fw_nx, fw_brk, fw_cont, fw_ret, nn_none, nn_int, nn_bl, nn_str, nn_tup, nn_lst, ol_lst, op_some, op_none, op_ite, ob_bl, oi_int, sl_pu, sl_ow, al_ow, al_obj, so_lst, opdV, retV, endQ, letgo, ite_self, ixN_3_0, ixN_3_1, ixN_3_2, atI_0, atI_1, atI_2, atI_3, List.getElem?_cons_zero, List.getElem?_cons_succ, List.set_cons_zero, List.set_cons_succ, List.length_cons, List.length_nil, List.length_map, Option.bind_some, Option.map_some, Nat.zero_add, Nat.reduceAdd, Nat.reduceLT, Nat.reduceLeDiff, Nat.zero_le, if_false, if_true, Bool.false_eq_true, Bool.true_eq_false, Bool.not_true, Bool.not_false, reduceCtorEq, true_and, and_true, forall_const, false_and, and_false, false_implies, not_false_eq_true, not_true_eq_false, decide_eq_true_eq, decide_eq_false_iff_not, isi_none_int, isi_none_bool, isi_none_str, isi_none_tuple, isi_none_list, isi_none_list_tuple, isi_none_tuple_list, isi_bl_int, isi_bl_bool, isi_bl_str, isi_bl_tuple, isi_bl_list, isi_bl_list_tuple, isi_bl_tuple_list, isi_int_int, isi_int_bool, isi_int_str, isi_int_tuple, isi_int_list, isi_int_list_tuple, isi_int_tuple_list, isi_str_int, isi_str_bool, isi_str_str, isi_str_tuple, isi_str_list, isi_str_list_tuple, isi_str_tuple_list, isi_tup_int, isi_tup_bool, isi_tup_str, isi_tup_tuple, isi_tup_list, isi_tup_list_tuple, isi_tup_tuple_list, isi_lst_int, isi_lst_bool, isi_lst_str, isi_lst_tuple, isi_lst_list, isi_lst_list_tuple, isi_lst_tuple_list, cmp_eq_ii, cmp_ne_ii, cmp_eq_bb, cmp_ne_bb, cmp_lt, cmp_le, cmp_gt, cmp_ge, cmp_ni_ii, binD]
    refine draw_spec T (by decide) (by decide) fun way st1 h0 h1 T1 => ?_
    simp only [wp_bind, wp_pure, wp_bad, wp_getS, wp_asB, wp_slotOpd, wp_rdSlot, wp_rdVar, wp_rdRet, wp_resV, wp_resS, wp_ress0, wp_ress, wp_setR, wp_setρ, wp_call, wp_setAt, wp_opd, wp_dat, wp_shr, wp_ownL, wp_popAt, wp_popLast, wp_app, wp_ins, wp_bindTup, wp_bindTs0, wp_bindTs, wp_bindNm, wp_blk, w_var, w_con, w_tup, w_lst, w_shr, w_bin, w_cmp, w_idx, w_cmp2, w_and2, w_or2, w_not1, w_ife, w_sli, w_call, w_blt, w_isi, w_lc, w_popk, w_popl, w_isN, w_neg, Z.w_rev, w_part0, w_part1, w_ds0, w_ds, w_os0, w_os, w_cs0, w_cs, line, w_asg, w_asgT, w_aug, w_setI, w_app, w_ins, w_ext, w_expr, w_ret, w_retN, w_if, w_forE, w_whil, w_brk, w_cont, w_pass, w_ss0, w_ss, fw_nx, fw_brk, fw_cont, fw_ret, nn_none, nn_int, nn_bl, nn_str, nn_tup, nn_lst, ol_lst, op_some, op_none, op_ite, ob_bl, oi_int, sl_pu, sl_ow, al_ow, al_obj, so_lst, opdV, retV, endQ, letgo, ite_self, ixN_3_0, ixN_3_1, ixN_3_2, atI_0, atI_1, atI_2, atI_3, List.getElem?_cons_zero, List.getElem?_cons_succ, List.set_cons_zero, List.set_cons_succ, List.length_cons, List.length_nil, List.length_map, Option.bind_some, Option.map_some, Nat.zero_add, Nat.reduceAdd, Nat.reduceLT, Nat.reduceLeDiff, Nat.zero_le, if_false, if_true, Bool.false_eq_true, Bool.true_eq_false, Bool.not_true, Bool.not_false, reduceCtorEq, true_and, and_true, forall_const, false_and, and_false, false_implies, not_false_eq_true, not_true_eq_false, decide_eq_true_eq, decide_eq_false_iff_not, isi_none_int, isi_none_bool, isi_none_str, isi_none_tuple, isi_none_list, isi_none_list_tuple, isi_none_tuple_list, isi_bl_int, isi_bl_bool, isi_bl_str, isi_bl_tuple, isi_bl_list, isi_bl_list_tuple, isi_bl_tuple_list, isi_int_int, isi_int_bool, isi_int_str, isi_int_tuple, isi_int_list, isi_int_list_tuple, isi_int_tuple_list, isi_str_int, isi_str_bool, isi_str_str, isi_str_tuple, isi_str_list, isi_str_list_tuple, isi_str_tuple_list, isi_tup_int, isi_tup_bool, isi_tup_str, isi_tup_tuple, isi_tup_list, isi_tup_list_tuple, isi_tup_tuple_list, isi_lst_int, isi_lst_bool, isi_lst_str, isi_lst_tuple, isi_lst_list, isi_lst_list_tuple, isi_lst_tuple_list, cmp_eq_ii, cmp_ne_ii, cmp_eq_bb, cmp_ne_bb, cmp_lt, cmp_le, cmp_gt, cmp_ge, cmp_ni_ii, binD]
    refine ⟨fun h4 => ⟨fun hk => ?_, fun hk => ?_⟩, fun h4 => ?_⟩
    · match k, hk, h with
      | 0, hk, h => exact absurd hk (by decide)
      | k + 1, _, h =>
      refine draw_spec T1 (by decide) (by decide) fun f st2 f0 f1 T2 => ?_
      simp only [wp_bind, wp_pure, wp_bad, wp_getS, wp_asB, wp_slotOpd, wp_rdSlot, wp_rdVar, wp_rdRet, wp_resV, wp_resS, wp_ress0, wp_ress, wp_setR, wp_setρ, wp_call, wp_setAt, wp_opd, wp_dat, wp_shr, wp_ownL, wp_popAt, wp_popLast, wp_app, wp_ins, wp_bindTup, wp_bindTs0, wp_bindTs, wp_bindNm, wp_blk, w_var, w_con, w_tup, w_lst, w_shr, w_bin, w_cmp, w_idx, w_cmp2, w_and2, w_or2, w_not1, w_ife, w_sli, w_call, w_blt, w_isi, w_lc, w_popk, w_popl, w_isN, w_neg, Z.w_rev, w_part0, w_part1, w_ds0, w_ds, w_os0, w_os, w_cs0, w_cs, line, w_asg, w_asgT, w_aug, w_setI, w_app, w_ins, w_ext, w_expr, w_ret, w_retN, w_if, w_forE, w_whil, w_brk, w_cont, w_pass, w_ss0, w_ss, fw_nx, fw_brk, fw_cont, fw_ret, nn_none, nn_int, nn_bl, nn_str, nn_tup, nn_lst, ol_lst, op_some, op_none, op_ite, ob_bl, oi_int, sl_pu, sl_ow, al_ow, al_obj, so_lst, opdV, retV, endQ, letgo, ite_self, ixN_3_0, ixN_3_1, ixN_3_2, atI_0, atI_1, atI_2, atI_3, List.getElem?_cons_zero, List.getElem?_cons_succ, List.set_cons_zero, List.set_cons_succ, List.length_cons, List.length_nil, List.length_map, Option.bind_some, Option.map_some, Nat.zero_add, Nat.reduceAdd, Nat.reduceLT, Nat.reduceLeDiff, Nat.zero_le, if_false, if_true, Bool.false_eq_true, Bool.true_eq_false, Bool.not_true, Bool.not_false, reduceCtorEq, true_and, and_true, forall_const, false_and, and_false, false_implies, not_false_eq_true, not_true_eq_false, decide_eq_true_eq, decide_eq_false_iff_not, isi_none_int, isi_none_bool, isi_none_str, isi_none_tuple, isi_none_list, isi_none_list_tuple, isi_none_tuple_list, isi_bl_int, isi_bl_bool, isi_bl_str, isi_bl_tuple, isi_bl_list, isi_bl_list_tuple, isi_bl_tuple_list, isi_int_int, isi_int_bool, isi_int_str, isi_int_tuple, isi_int_list, isi_int_list_tuple, isi_int_tuple_list, isi_str_int, isi_str_bool, isi_str_str, isi_str_tuple, isi_str_list, isi_str_list_tuple, isi_str_tuple_list, isi_tup_int, isi_tup_bool, isi_tup_str, isi_tup_tuple, isi_tup_list, isi_tup_list_tuple, isi_tup_tuple_list, isi_lst_int, isi_lst_bool, isi_lst_str, isi_lst_tuple, isi_lst_list, isi_lst_list_tuple, isi_lst_tuple_list, cmp_eq_ii, cmp_ne_ii, cmp_eq_bb, cmp_ne_bb, cmp_lt, cmp_le, cmp_gt, cmp_ge, cmp_ni_ii, binD, itemsD, it1, rng1I]
      refine ⟨by omega, ?_⟩
      refine wp_lc_inv _ rfl (fun s => ∃ st' x, s = ⟨[.pu (.obj 1), .pu (.int ((k + 1 : Nat) : Int)), .pu (.int way), .un, x], st'⟩ ∧ Tape st') (Fine 5 (k + 1)) 3 (by decide) ⟨st2, _, rfl, T2⟩ (fun y hy => by cases hy) (by simp; omega) ?_ ?_
      · rintro x hx s ⟨st', y, rfl, T'⟩
        simp only [wp_bind, wp_pure, wp_bad, wp_getS, wp_asB, wp_slotOpd, wp_rdSlot, wp_rdVar, wp_rdRet, wp_resV, wp_resS, wp_ress0, wp_ress, wp_setR, wp_setρ, wp_call, wp_setAt, wp_opd, wp_dat, wp_shr, wp_ownL, wp_popAt, wp_popLast, wp_app, wp_ins, wp_bindTup, wp_bindTs0, wp_bindTs, wp_bindNm, wp_blk, w_var, w_con, w_tup, w_lst, w_shr, w_bin, w_cmp, w_idx, w_cmp2, w_and2, w_or2, w_not1, w_ife, w_sli, w_call, w_blt, w_isi, w_lc, w_popk, w_popl, w_isN, w_neg, Z.w_rev, w_part0, w_part1, w_ds0, w_ds, w_os0, w_os, w_cs0, w_cs, line, w_asg, w_asgT, w_aug, w_setI, w_app, w_ins, w_ext, w_expr, w_ret, w_retN, w_if, w_forE, w_whil, w_brk, w_cont, w_pass, w_ss0, w_ss, fw_nx, fw_brk, fw_cont, fw_ret, nn_none, nn_int, nn_bl, nn_str, nn_tup, nn_lst, ol_lst, op_some, op_none, op_ite, ob_bl, oi_int, sl_pu, sl_ow, al_ow, al_obj, so_lst, opdV, retV, endQ, letgo, ite_self, ixN_3_0, ixN_3_1, ixN_3_2, atI_0, atI_1, atI_2, atI_3, List.getElem?_cons_zero, List.getElem?_cons_succ, List.set_cons_zero, List.set_cons_succ, List.length_cons, List.length_nil, List.length_map, Option.bind_some, Option.map_some, Nat.zero_add, Nat.reduceAdd, Nat.reduceLT, Nat.reduceLeDiff, Nat.zero_le, if_false, if_true, Bool.false_eq_true, Bool.true_eq_false, Bool.not_true, Bool.not_false, reduceCtorEq, true_and, and_true, forall_const, false_and, and_false, false_implies, not_false_eq_true, not_true_eq_false, decide_eq_true_eq, decide_eq_false_iff_not, isi_none_int, isi_none_bool, isi_none_str, isi_none_tuple, isi_none_list, isi_none_list_tuple, isi_none_tuple_list, isi_bl_int, isi_bl_bool, isi_bl_str, isi_bl_tuple, isi_bl_list, isi_bl_list_tuple, isi_bl_tuple_list, isi_int_int, isi_int_bool, isi_int_str, isi_int_tuple, isi_int_list, isi_int_list_tuple, isi_int_tuple_list, isi_str_int, isi_str_bool, isi_str_str, isi_str_tuple, isi_str_list, isi_str_list_tuple, isi_str_tuple_list, isi_tup_int, isi_tup_bool, isi_tup_str, isi_tup_tuple, isi_tup_list, isi_tup_list_tuple, isi_tup_tuple_list, isi_lst_int, isi_lst_bool, isi_lst_str, isi_lst_tuple, isi_lst_list, isi_lst_list_tuple, isi_lst_tuple_list, cmp_eq_ii, cmp_ne_ii, cmp_eq_bb, cmp_ne_bb, cmp_lt, cmp_le, cmp_gt, cmp_ge, cmp_ni_ii, binD, wp_wipe, List.foldr_cons, List.foldr_nil]
        have e : (((k + 1 : Nat) : Int) - 1) = (k : Int) := by omega
        rw [e]
        refine any_spec (n := n) (k := k) T' fun d st' hd T' => ?_
        simp only [wp_bind, wp_pure, wp_bad, wp_getS, wp_asB, wp_slotOpd, wp_rdSlot, wp_rdVar, wp_rdRet, wp_resV, wp_resS, wp_ress0, wp_ress, wp_setR, wp_setρ, wp_call, wp_setAt, wp_opd, wp_dat, wp_shr, wp_ownL, wp_popAt, wp_popLast, wp_app, wp_ins, wp_bindTup, wp_bindTs0, wp_bindTs, wp_bindNm, wp_blk, w_var, w_con, w_tup, w_lst, w_shr, w_bin, w_cmp, w_idx, w_cmp2, w_and2, w_or2, w_not1, w_ife, w_sli, w_call, w_blt, w_isi, w_lc, w_popk, w_popl, w_isN, w_neg, Z.w_rev, w_part0, w_part1, w_ds0, w_ds, w_os0, w_os, w_cs0, w_cs, line, w_asg, w_asgT, w_aug, w_setI, w_app, w_ins, w_ext, w_expr, w_ret, w_retN, w_if, w_forE, w_whil, w_brk, w_cont, w_pass, w_ss0, w_ss, fw_nx, fw_brk, fw_cont, fw_ret, nn_none, nn_int, nn_bl, nn_str, nn_tup, nn_lst, ol_lst, op_some, op_none, op_ite, ob_bl, oi_int, sl_pu, sl_ow, al_ow, al_obj, so_lst, opdV, retV, endQ, letgo, ite_self, ixN_3_0, ixN_3_1, ixN_3_2, atI_0, atI_1, atI_2, atI_3, List.getElem?_cons_zero, List.getElem?_cons_succ, List.set_cons_zero, List.set_cons_succ, List.length_cons, List.length_nil, List.length_map, Option.bind_some, Option.map_some, Nat.zero_add, Nat.reduceAdd, Nat.reduceLT, Nat.reduceLeDiff, Nat.zero_le, if_false, if_true, Bool.false_eq_true, Bool.true_eq_false, Bool.not_true, Bool.not_false, reduceCtorEq, true_and, and_true, forall_const, false_and, and_false, false_implies, not_false_eq_true, not_true_eq_false, decide_eq_true_eq, decide_eq_false_iff_not, isi_none_int, isi_none_bool, isi_none_str, isi_none_tuple, isi_none_list, isi_none_list_tuple, isi_none_tuple_list, isi_bl_int, isi_bl_bool, isi_bl_str, isi_bl_tuple, isi_bl_list, isi_bl_list_tuple, isi_bl_tuple_list, isi_int_int, isi_int_bool, isi_int_str, isi_int_tuple, isi_int_list, isi_int_list_tuple, isi_int_tuple_list, isi_str_int, isi_str_bool, isi_str_str, isi_str_tuple, isi_str_list, isi_str_list_tuple, isi_str_tuple_list, isi_tup_int, isi_tup_bool, isi_tup_str, isi_tup_tuple, isi_tup_list, isi_tup_list_tuple, isi_tup_tuple_list, isi_lst_int, isi_lst_bool, isi_lst_str, isi_lst_tuple, isi_lst_list, isi_lst_list_tuple, isi_lst_tuple_list, cmp_eq_ii, cmp_ne_ii, cmp_eq_bb, cmp_ne_bb, cmp_lt, cmp_le, cmp_gt, cmp_ge, cmp_ni_ii]
        exact ⟨hd, st', _, rfl, T'⟩
      · rintro ds s ⟨st', y, rfl, T'⟩ hds hl
        have hl : ds.length ≤ 3 := by
          simp at hl
          omega
        simp only [wp_bind, wp_pure, wp_bad, wp_getS, wp_asB, wp_slotOpd, wp_rdSlot, wp_rdVar, wp_rdRet, wp_resV, wp_resS, wp_ress0, wp_ress, wp_setR, wp_setρ, wp_call, wp_setAt, wp_opd, wp_dat, wp_shr, wp_ownL, wp_popAt, wp_popLast, wp_app, wp_ins, wp_bindTup, wp_bindTs0, wp_bindTs, wp_bindNm, wp_blk, w_var, w_con, w_tup, w_lst, w_shr, w_bin, w_cmp, w_idx, w_cmp2, w_and2, w_or2, w_not1, w_ife, w_sli, w_call, w_blt, w_isi, w_lc, w_popk, w_popl, w_isN, w_neg, Z.w_rev, w_part0, w_part1, w_ds0, w_ds, w_os0, w_os, w_cs0, w_cs, line, w_asg, w_asgT, w_aug, w_setI, w_app, w_ins, w_ext, w_expr, w_ret, w_retN, w_if, w_forE, w_whil, w_brk, w_cont, w_pass, w_ss0, w_ss, fw_nx, fw_brk, fw_cont, fw_ret, nn_none, nn_int, nn_bl, nn_str, nn_tup, nn_lst, ol_lst, op_some, op_none, op_ite, ob_bl, oi_int, sl_pu, sl_ow, al_ow, al_obj, so_lst, opdV, retV, endQ, letgo, ite_self, ixN_3_0, ixN_3_1, ixN_3_2, atI_0, atI_1, atI_2, atI_3, List.getElem?_cons_zero, List.getElem?_cons_succ, List.set_cons_zero, List.set_cons_succ, List.length_cons, List.length_nil, List.length_map, Option.bind_some, Option.map_some, Nat.zero_add, Nat.reduceAdd, Nat.reduceLT, Nat.reduceLeDiff, Nat.zero_le, if_false, if_true, Bool.false_eq_true, Bool.true_eq_false, Bool.not_true, Bool.not_false, reduceCtorEq, true_and, and_true, forall_const, false_and, and_false, false_implies, not_false_eq_true, not_true_eq_false, decide_eq_true_eq, decide_eq_false_iff_not, isi_none_int, isi_none_bool, isi_none_str, isi_none_tuple, isi_none_list, isi_none_list_tuple, isi_none_tuple_list, isi_bl_int, isi_bl_bool, isi_bl_str, isi_bl_tuple, isi_bl_list, isi_bl_list_tuple, isi_bl_tuple_list, isi_int_int, isi_int_bool, isi_int_str, isi_int_tuple, isi_int_list, isi_int_list_tuple, isi_int_tuple_list, isi_str_int, isi_str_bool, isi_str_str, isi_str_tuple, isi_str_list, isi_str_list_tuple, isi_str_tuple_list, isi_tup_int, isi_tup_bool, isi_tup_str, isi_tup_tuple, isi_tup_list, isi_tup_list_tuple, isi_tup_tuple_list, isi_lst_int, isi_lst_bool, isi_lst_str, isi_lst_tuple, isi_lst_list, isi_lst_list_tuple, isi_lst_tuple_list, cmp_eq_ii, cmp_ne_ii, cmp_eq_bb, cmp_ne_bb, cmp_lt, cmp_le, cmp_gt, cmp_ge, cmp_ni_ii, binD, unwipe, List.foldr_cons, List.foldr_nil, bltD, on1, tupleD, idxD, seqD]
        refine op_atI h0 (by simp; omega) ?_
        have f1 : Fine 5 (k + 2) (.lst ds) := .lst (by omega) hds
        have f2 : Fine 5 (k + 2) (.tup ds) := .tup (by omega) hds
        intro a ha
        simp only [List.mem_cons, List.not_mem_nil, or_false] at ha
        rcases ha with rfl | rfl | rfl | rfl
        · exact h _ _ f1 T'
        · exact h _ _ f2 T'
        · exact h _ _ f2 T'
        · exact h _ _ f2 T'
    all_goals
      refine ⟨fun h8 => ?_, fun h8 => ?_⟩
      · refine draw_spec T1 (by decide) (by decide) fun f st2 f0 f1 T2 => ?_
        simp only [wp_bind, wp_pure, wp_bad, wp_getS, wp_asB, wp_slotOpd, wp_rdSlot, wp_rdVar, wp_rdRet, wp_resV, wp_resS, wp_ress0, wp_ress, wp_setR, wp_setρ, wp_call, wp_setAt, wp_opd, wp_dat, wp_shr, wp_ownL, wp_popAt, wp_popLast, wp_app, wp_ins, wp_bindTup, wp_bindTs0, wp_bindTs, wp_bindNm, wp_blk, w_var, w_con, w_tup, w_lst, w_shr, w_bin, w_cmp, w_idx, w_cmp2, w_and2, w_or2, w_not1, w_ife, w_sli, w_call, w_blt, w_isi, w_lc, w_popk, w_popl, w_isN, w_neg, Z.w_rev, w_part0, w_part1, w_ds0, w_ds, w_os0, w_os, w_cs0, w_cs, line, w_asg, w_asgT, w_aug, w_setI, w_app, w_ins, w_ext, w_expr, w_ret, w_retN, w_if, w_forE, w_whil, w_brk, w_cont, w_pass, w_ss0, w_ss, fw_nx, fw_brk, fw_cont, fw_ret, nn_none, nn_int, nn_bl, nn_str, nn_tup, nn_lst, ol_lst, op_some, op_none, op_ite, ob_bl, oi_int, sl_pu, sl_ow, al_ow, al_obj, so_lst, opdV, retV, endQ, letgo, ite_self, ixN_3_0, ixN_3_1, ixN_3_2, atI_0, atI_1, atI_2, atI_3, List.getElem?_cons_zero, List.getElem?_cons_succ, List.set_cons_zero, List.set_cons_succ, List.length_cons, List.length_nil, List.length_map, Option.bind_some, Option.map_some, Nat.zero_add, Nat.reduceAdd, Nat.reduceLT, Nat.reduceLeDiff, Nat.zero_le, if_false, if_true, Bool.false_eq_true, Bool.true_eq_false, Bool.not_true, Bool.not_false, reduceCtorEq, true_and, and_true, forall_const, false_and, and_false, false_implies, not_false_eq_true, not_true_eq_false, decide_eq_true_eq, decide_eq_false_iff_not, isi_none_int, isi_none_bool, isi_none_str, isi_none_tuple, isi_none_list, isi_none_list_tuple, isi_none_tuple_list, isi_bl_int, isi_bl_bool, isi_bl_str, isi_bl_tuple, isi_bl_list, isi_bl_list_tuple, isi_bl_tuple_list, isi_int_int, isi_int_bool, isi_int_str, isi_int_tuple, isi_int_list, isi_int_list_tuple, isi_int_tuple_list, isi_str_int, isi_str_bool, isi_str_str, isi_str_tuple, isi_str_list, isi_str_list_tuple, isi_str_tuple_list, isi_tup_int, isi_tup_bool, isi_tup_str, isi_tup_tuple, isi_tup_list, isi_tup_list_tuple, isi_tup_tuple_list, isi_lst_int, isi_lst_bool, isi_lst_str, isi_lst_tuple, isi_lst_list, isi_lst_list_tuple, isi_lst_tuple_list, cmp_eq_ii, cmp_ne_ii, cmp_eq_bb, cmp_ne_bb, cmp_lt, cmp_le, cmp_gt, cmp_ge, cmp_ni_ii, binD]
        refine ⟨by decide, ?_⟩
        refine draw_spec T2 (by decide) (by decide +kernel) fun g st3 g0 g1 T3 => ?_
        simp only [wp_bind, wp_pure, wp_bad, wp_getS, wp_asB, wp_slotOpd, wp_rdSlot, wp_rdVar, wp_rdRet, wp_resV, wp_resS, wp_ress0, wp_ress, wp_setR, wp_setρ, wp_call, wp_setAt, wp_opd, wp_dat, wp_shr, wp_ownL, wp_popAt, wp_popLast, wp_app, wp_ins, wp_bindTup, wp_bindTs0, wp_bindTs, wp_bindNm, wp_blk, w_var, w_con, w_tup, w_lst, w_shr, w_bin, w_cmp, w_idx, w_cmp2, w_and2, w_or2, w_not1, w_ife, w_sli, w_call, w_blt, w_isi, w_lc, w_popk, w_popl, w_isN, w_neg, Z.w_rev, w_part0, w_part1, w_ds0, w_ds, w_os0, w_os, w_cs0, w_cs, line, w_asg, w_asgT, w_aug, w_setI, w_app, w_ins, w_ext, w_expr, w_ret, w_retN, w_if, w_forE, w_whil, w_brk, w_cont, w_pass, w_ss0, w_ss, fw_nx, fw_brk, fw_cont, fw_ret, nn_none, nn_int, nn_bl, nn_str, nn_tup, nn_lst, ol_lst, op_some, op_none, op_ite, ob_bl, oi_int, sl_pu, sl_ow, al_ow, al_obj, so_lst, opdV, retV, endQ, letgo, ite_self, ixN_3_0, ixN_3_1, ixN_3_2, atI_0, atI_1, atI_2, atI_3, List.getElem?_cons_zero, List.getElem?_cons_succ, List.set_cons_zero, List.set_cons_succ, List.length_cons, List.length_nil, List.length_map, Option.bind_some, Option.map_some, Nat.zero_add, Nat.reduceAdd, Nat.reduceLT, Nat.reduceLeDiff, Nat.zero_le, if_false, if_true, Bool.false_eq_true, Bool.true_eq_false, Bool.not_true, Bool.not_false, reduceCtorEq, true_and, and_true, forall_const, false_and, and_false, false_implies, not_false_eq_true, not_true_eq_false, decide_eq_true_eq, decide_eq_false_iff_not, isi_none_int, isi_none_bool, isi_none_str, isi_none_tuple, isi_none_list, isi_none_list_tuple, isi_none_tuple_list, isi_bl_int, isi_bl_bool, isi_bl_str, isi_bl_tuple, isi_bl_list, isi_bl_list_tuple, isi_bl_tuple_list, isi_int_int, isi_int_bool, isi_int_str, isi_int_tuple, isi_int_list, isi_int_list_tuple, isi_int_tuple_list, isi_str_int, isi_str_bool, isi_str_str, isi_str_tuple, isi_str_list, isi_str_list_tuple, isi_str_tuple_list, isi_tup_int, isi_tup_bool, isi_tup_str, isi_tup_tuple, isi_tup_list, isi_tup_list_tuple, isi_tup_tuple_list, isi_lst_int, isi_lst_bool, isi_lst_str, isi_lst_tuple, isi_lst_list, isi_lst_list_tuple, isi_lst_tuple_list, cmp_eq_ii, cmp_ne_ii, cmp_eq_bb, cmp_ne_bb, cmp_lt, cmp_le, cmp_gt, cmp_ge, cmp_ni_ii, binD, bltD, on2, max2D, idxD, seqD]
        refine op_atI (by split <;> omega) (by simp; split <;> omega) ?_
        intro a ha
        simp only [List.mem_cons, List.not_mem_nil, or_false] at ha
        rcases ha with rfl | rfl | rfl | rfl <;> exact h _ _ (Fine.int _) T3
      · refine draw_spec T1 (by decide) (by decide) fun f st2 f0 f1 T2 => ?_
        simp only [wp_bind, wp_pure, wp_bad, wp_getS, wp_asB, wp_slotOpd, wp_rdSlot, wp_rdVar, wp_rdRet, wp_resV, wp_resS, wp_ress0, wp_ress, wp_setR, wp_setρ, wp_call, wp_setAt, wp_opd, wp_dat, wp_shr, wp_ownL, wp_popAt, wp_popLast, wp_app, wp_ins, wp_bindTup, wp_bindTs0, wp_bindTs, wp_bindNm, wp_blk, w_var, w_con, w_tup, w_lst, w_shr, w_bin, w_cmp, w_idx, w_cmp2, w_and2, w_or2, w_not1, w_ife, w_sli, w_call, w_blt, w_isi, w_lc, w_popk, w_popl, w_isN, w_neg, Z.w_rev, w_part0, w_part1, w_ds0, w_ds, w_os0, w_os, w_cs0, w_cs, line, w_asg, w_asgT, w_aug, w_setI, w_app, w_ins, w_ext, w_expr, w_ret, w_retN, w_if, w_forE, w_whil, w_brk, w_cont, w_pass, w_ss0, w_ss, fw_nx, fw_brk, fw_cont, fw_ret, nn_none, nn_int, nn_bl, nn_str, nn_tup, nn_lst, ol_lst, op_some, op_none, op_ite, ob_bl, oi_int, sl_pu, sl_ow, al_ow, al_obj, so_lst, opdV, retV, endQ, letgo, ite_self, ixN_3_0, ixN_3_1, ixN_3_2, atI_0, atI_1, atI_2, atI_3, List.getElem?_cons_zero, List.getElem?_cons_succ, List.set_cons_zero, List.set_cons_succ, List.length_cons, List.length_nil, List.length_map, Option.bind_some, Option.map_some, Nat.zero_add, Nat.reduceAdd, Nat.reduceLT, Nat.reduceLeDiff, Nat.zero_le, if_false, if_true, Bool.false_eq_true, Bool.true_eq_false, Bool.not_true, Bool.not_false, reduceCtorEq, true_and, and_true, forall_const, false_and, and_false, false_implies, not_false_eq_true, not_true_eq_false, decide_eq_true_eq, decide_eq_false_iff_not, isi_none_int, isi_none_bool, isi_none_str, isi_none_tuple, isi_none_list, isi_none_list_tuple, isi_none_tuple_list, isi_bl_int, isi_bl_bool, isi_bl_str, isi_bl_tuple, isi_bl_list, isi_bl_list_tuple, isi_bl_tuple_list, isi_int_int, isi_int_bool, isi_int_str, isi_int_tuple, isi_int_list, isi_int_list_tuple, isi_int_tuple_list, isi_str_int, isi_str_bool, isi_str_str, isi_str_tuple, isi_str_list, isi_str_list_tuple, isi_str_tuple_list, isi_tup_int, isi_tup_bool, isi_tup_str, isi_tup_tuple, isi_tup_list, isi_tup_list_tuple, isi_tup_tuple_list, isi_lst_int, isi_lst_bool, isi_lst_str, isi_lst_tuple, isi_lst_list, isi_lst_list_tuple, isi_lst_tuple_list, cmp_eq_ii, cmp_ne_ii, cmp_eq_bb, cmp_ne_bb, cmp_lt, cmp_le, cmp_gt, cmp_ge, cmp_ni_ii, binD, idxD, seqD]
        refine op_atI f0 (by simp; omega) ?_
        intro a ha
        have fa : Fine 5 (k + 1) a := by
          simp only [List.mem_cons, List.not_mem_nil, or_false] at ha
          rcases ha with rfl | rfl | rfl | rfl | rfl | rfl | rfl | rfl | rfl | rfl | rfl | rfl | rfl | rfl | rfl <;> exact Fine.str (by decide +kernel) (by decide +kernel)
        simp only [wp_bind, wp_pure, wp_bad, wp_getS, wp_asB, wp_slotOpd, wp_rdSlot, wp_rdVar, wp_rdRet, wp_resV, wp_resS, wp_ress0, wp_ress, wp_setR, wp_setρ, wp_call, wp_setAt, wp_opd, wp_dat, wp_shr, wp_ownL, wp_popAt, wp_popLast, wp_app, wp_ins, wp_bindTup, wp_bindTs0, wp_bindTs, wp_bindNm, wp_blk, w_var, w_con, w_tup, w_lst, w_shr, w_bin, w_cmp, w_idx, w_cmp2, w_and2, w_or2, w_not1, w_ife, w_sli, w_call, w_blt, w_isi, w_lc, w_popk, w_popl, w_isN, w_neg, Z.w_rev, w_part0, w_part1, w_ds0, w_ds, w_os0, w_os, w_cs0, w_cs, line, w_asg, w_asgT, w_aug, w_setI, w_app, w_ins, w_ext, w_expr, w_ret, w_retN, w_if, w_forE, w_whil, w_brk, w_cont, w_pass, w_ss0, w_ss, fw_nx, fw_brk, fw_cont, fw_ret, nn_none, nn_int, nn_bl, nn_str, nn_tup, nn_lst, ol_lst, op_some, op_none, op_ite, ob_bl, oi_int, sl_pu, sl_ow, al_ow, al_obj, so_lst, opdV, retV, endQ, letgo, ite_self, ixN_3_0, ixN_3_1, ixN_3_2, atI_0, atI_1, atI_2, atI_3, List.getElem?_cons_zero, List.getElem?_cons_succ, List.set_cons_zero, List.set_cons_succ, List.length_cons, List.length_nil, List.length_map, Option.bind_some, Option.map_some, Nat.zero_add, Nat.reduceAdd, Nat.reduceLT, Nat.reduceLeDiff, Nat.zero_le, if_false, if_true, Bool.false_eq_true, Bool.true_eq_false, Bool.not_true, Bool.not_false, reduceCtorEq, true_and, and_true, forall_const, false_and, and_false, false_implies, not_false_eq_true, not_true_eq_false, decide_eq_true_eq, decide_eq_false_iff_not, isi_none_int, isi_none_bool, isi_none_str, isi_none_tuple, isi_none_list, isi_none_list_tuple, isi_none_tuple_list, isi_bl_int, isi_bl_bool, isi_bl_str, isi_bl_tuple, isi_bl_list, isi_bl_list_tuple, isi_bl_tuple_list, isi_int_int, isi_int_bool, isi_int_str, isi_int_tuple, isi_int_list, isi_int_list_tuple, isi_int_tuple_list, isi_str_int, isi_str_bool, isi_str_str, isi_str_tuple, isi_str_list, isi_str_list_tuple, isi_str_tuple_list, isi_tup_int, isi_tup_bool, isi_tup_str, isi_tup_tuple, isi_tup_list, isi_tup_list_tuple, isi_tup_tuple_list, isi_lst_int, isi_lst_bool, isi_lst_str, isi_lst_tuple, isi_lst_list, isi_lst_list_tuple, isi_lst_tuple_list, cmp_eq_ii, cmp_ne_ii, cmp_eq_bb, cmp_ne_bb, cmp_lt, cmp_le, cmp_gt, cmp_ge, cmp_ni_ii, binD, idxD, seqD]
        refine op_atI (by omega) (by simp; omega) ?_
        intro b hb
        simp only [List.mem_cons, List.not_mem_nil, or_false] at hb
        rcases hb with rfl | rfl | rfl | rfl | rfl
        · exact h _ _ (Fine.bl _) T2
        · exact h _ _ (Fine.bl _) T2
        · exact h _ _ Fine.none T2
        · exact h _ _ fa T2
        · exact h _ _ (Fine.tup (by simp) (by simp)) T2
end G

namespace G
open PySem PySem.Spec PyProof.Rows L2 Z
theorem op_get {α : Type} {xs : List α} {j : Nat} {Q : α → Prop} (h : ∀ a ∈ xs, Q a) (hj : j < xs.length) : Op xs[j]? Q := by
  rw [List.getElem?_eq_getElem hj]
  exact h _ (List.getElem_mem hj)
theorem fine_item {L k : Nat} {xs : List D} (h : ∀ x ∈ xs, Fine L k x) {L' k' : Nat} (hL : L ≤ L') (hk : k ≤ k') : ∀ x ∈ xs, Fine L' k' x := fun x hx => (h x hx).mono hL hk
theorem fine_set {L k : Nat} {xs : List D} (h : ∀ x ∈ xs, Fine L k x) {d : D} (hd : Fine L k d) (j : Nat) : ∀ x ∈ xs.set j d, Fine L k x := fun x hx => by
  rcases List.mem_or_eq_of_mem_set hx with z | z
  · exact h x z
  · subst z; exact hd
theorem fine_erase {L k : Nat} {xs : List D} (h : ∀ x ∈ xs, Fine L k x) (j : Nat) : ∀ x ∈ xs.eraseIdx j, Fine L k x := fun x hx => h x (List.mem_of_mem_eraseIdx hx)
theorem fine_ins {L k : Nat} {xs : List D} (h : ∀ x ∈ xs, Fine L k x) {d : D} (hd : Fine L k d) (j : Nat) : ∀ x ∈ xs.take j ++ [d] ++ xs.drop j, Fine L k x := fun x hx => by
  rcases List.mem_append.mp hx with z | z
  · rcases List.mem_append.mp z with z | z
    · exact h x (List.mem_of_mem_take z)
    · rw [List.mem_singleton.mp z]; exact hd
  · exact h x (List.mem_of_mem_drop z)
theorem len_ins {xs : List D} (d : D) (j : Nat) : (xs.take j ++ [d] ++ xs.drop j).length = xs.length + 1 := by
  simp
  omega
theorem ok_s {s : Str} (h : PyData.strOk s = true) : PyData.strOk (s ++ ("s" : Str)) = true := by
  show (s.cps ++ ("s" : Str).cps).all (· < 0x110000) = true
  rw [Array.all_append, Bool.and_eq_true]
  exact ⟨h, by decide +kernel⟩
theorem len_s {L : Nat} {s : Str} (h : s.length ≤ L) : (s ++ ("s" : Str)).length ≤ L + 1 := by
  show (s.cps ++ ("s" : Str).cps).size ≤ L + 1
  rw [Array.size_append]
  have e : ("s" : Str).cps.size = 1 := by decide +kernel
  rw [e]
  exact Nat.add_le_add_right h 1
theorem log_small {m : Int} (h : m.natAbs < 2 ^ 64) : m.natAbs.log2 < 9000 := by
  by_cases h0 : m.natAbs = 0
  · rw [h0]; decide
  · exact Nat.lt_of_lt_of_le ((Nat.log2_lt h0).mpr h) (by omega)
/-- a list of at most L items, plain ones, as a tuple or a list -/
def Fl (L k : Nat) (ds : List D) : Prop := ds.length ≤ L ∧ ∀ x ∈ ds, Fine L k x
theorem spoilt_spec {L : Nat} (hL : 10 ≤ L) (hL2 : L < 1000000) : ∀ {k n : Nat} {d : D} {st : List SO} {Q : Rs → List SO → Prop}, Fine L k d → Tape st → (∀ e b st', Fine (L + 1) (k + 3) e → Tape st' → Q (e, b) st') → Rp (callF fns wf (n + k + 5) 13 [.obj 1, d] st) Q
  | 0, n, d, st, Q, hd, _, _ => by unfold Fine at hd; exact hd.elim
  | k + 1, n, d, st, Q, hd, T, h => by
    show Rp (callF fns wf ((n + k + 5) + 1) 13 [.obj 1, d] st) Q
    have anyq : ∀ st', Tape st' → Rp (callF fns wf (n + k + 5) 12 [.obj 1, .int 2] st') fun a st' => Q a st' := fun st' T' => by
      show Rp (callF fns wf ((n + k + 1) + 2 + 2) 12 [.obj 1, .int ((2 : Nat) : Int)] st') _
      exact any_spec T' fun e st2 he T2 => h _ _ _ (he.mono (by omega) (by omega)) T2
    refine c__law_spoilt ?_
    unfold b__law_spoilt
    cases d with
    | dic _ _ => unfold Fine at hd; exact hd.elim
    | obj _ => unfold Fine at hd; exact hd.elim
    | scr _ => unfold Fine at hd; exact hd.elim
    | none =>
      simp only [wp_bind, wp_pure, wp_bad, wp_getS, wp_asB, wp_slotOpd, wp_rdSlot, wp_rdVar, wp_rdRet, wp_resV, wp_resS, wp_ress0, wp_ress, wp_setR, wp_setρ, wp_call, wp_setAt, wp_opd, wp_dat, wp_shr, wp_ownL, wp_popAt, wp_popLast, wp_app, wp_ins, wp_bindTup, wp_bindTs0, wp_bindTs, wp_bindNm, wp_blk, w_var, w_con, w_tup, w_lst, w_shr, w_bin, w_cmp, w_idx, w_cmp2, w_and2, w_or2, w_not1, w_ife, w_sli, w_call, w_blt, w_isi, w_lc, w_popk, w_popl, w_isN, w_neg, Z.w_rev, w_part0, w_part1, w_ds0, w_ds, w_os0, w_os, w_cs0, w_cs, line, w_asg, w_asgT, w_aug, w_setI, w_app, w_ins, w_ext, w_expr, w_ret, w_retN, w_if, w_forE, w_whil, w_brk, w_cont, w_pass, w_ss0, w_ss, fw_nx, fw_brk, fw_cont, fw_ret, nn_none, nn_int, nn_bl, nn_str, nn_tup, nn_lst, ol_lst, op_some, op_none, op_ite, ob_bl, oi_int, sl_pu, sl_ow, al_ow, al_obj, so_lst, opdV, retV, endQ, letgo, ite_self, ixN_3_0, ixN_3_1, ixN_3_2, atI_0, atI_1, atI_2, atI_3, List.getElem?_cons_zero, List.getElem?_cons_succ, List.set_cons_zero, List.set_cons_succ, List.length_cons, List.length_nil, List.length_map, Option.bind_some, Option.map_some, Nat.zero_add, Nat.reduceAdd, Nat.reduceLT, Nat.reduceLeDiff, Nat.zero_le, if_false, if_true, Bool.false_eq_true, Bool.true_eq_false, Bool.not_true, Bool.not_false, reduceCtorEq, true_and, and_true, forall_const, false_and, and_false, false_implies, not_false_eq_true, not_true_eq_false, decide_eq_true_eq, decide_eq_false_iff_not, isi_none_int, isi_none_bool, isi_none_str, isi_none_tuple, isi_none_list, isi_none_list_tuple, isi_none_tuple_list, isi_bl_int, isi_bl_bool, isi_bl_str, isi_bl_tuple, isi_bl_list, isi_bl_list_tuple, isi_bl_tuple_list, isi_int_int, isi_int_bool, isi_int_str, isi_int_tuple, isi_int_list, isi_int_list_tuple, isi_int_tuple_list, isi_str_int, isi_str_bool, isi_str_str, isi_str_tuple, isi_str_list, isi_str_list_tuple, isi_str_tuple_list, isi_tup_int, isi_tup_bool, isi_tup_str, isi_tup_tuple, isi_tup_list, isi_tup_list_tuple, isi_tup_tuple_list, isi_lst_int, isi_lst_bool, isi_lst_str, isi_lst_tuple, isi_lst_list, isi_lst_list_tuple, isi_lst_tuple_list, cmp_eq_ii, cmp_ne_ii, cmp_eq_bb, cmp_ne_bb, cmp_lt, cmp_le, cmp_gt, cmp_ge, cmp_ni_ii]
      refine whole2_spec (fun b hb hb' => ?_) ⟨L, k + 1, hd⟩
      simp only [wp_bind, wp_pure, wp_bad, wp_getS, wp_asB, wp_slotOpd, wp_rdSlot, wp_rdVar, wp_rdRet, wp_resV, wp_resS, wp_ress0, wp_ress, wp_setR, wp_setρ, wp_call, wp_setAt, wp_opd, wp_dat, wp_shr, wp_ownL, wp_popAt, wp_popLast, wp_app, wp_ins, wp_bindTup, wp_bindTs0, wp_bindTs, wp_bindNm, wp_blk, w_var, w_con, w_tup, w_lst, w_shr, w_bin, w_cmp, w_idx, w_cmp2, w_and2, w_or2, w_not1, w_ife, w_sli, w_call, w_blt, w_isi, w_lc, w_popk, w_popl, w_isN, w_neg, Z.w_rev, w_part0, w_part1, w_ds0, w_ds, w_os0, w_os, w_cs0, w_cs, line, w_asg, w_asgT, w_aug, w_setI, w_app, w_ins, w_ext, w_expr, w_ret, w_retN, w_if, w_forE, w_whil, w_brk, w_cont, w_pass, w_ss0, w_ss, fw_nx, fw_brk, fw_cont, fw_ret, nn_none, nn_int, nn_bl, nn_str, nn_tup, nn_lst, ol_lst, op_some, op_none, op_ite, ob_bl, oi_int, sl_pu, sl_ow, al_ow, al_obj, so_lst, opdV, retV, endQ, letgo, ite_self, ixN_3_0, ixN_3_1, ixN_3_2, atI_0, atI_1, atI_2, atI_3, List.getElem?_cons_zero, List.getElem?_cons_succ, List.set_cons_zero, List.set_cons_succ, List.length_cons, List.length_nil, List.length_map, Option.bind_some, Option.map_some, Nat.zero_add, Nat.reduceAdd, Nat.reduceLT, Nat.reduceLeDiff, Nat.zero_le, if_false, if_true, Bool.false_eq_true, Bool.true_eq_false, Bool.not_true, Bool.not_false, reduceCtorEq, true_and, and_true, forall_const, false_and, and_false, false_implies, not_false_eq_true, not_true_eq_false, decide_eq_true_eq, decide_eq_false_iff_not, isi_none_int, isi_none_bool, isi_none_str, isi_none_tuple, isi_none_list, isi_none_list_tuple, isi_none_tuple_list, isi_bl_int, isi_bl_bool, isi_bl_str, isi_bl_tuple, isi_bl_list, isi_bl_list_tuple, isi_bl_tuple_list, isi_int_int, isi_int_bool, isi_int_str, isi_int_tuple, isi_int_list, isi_int_list_tuple, isi_int_tuple_list, isi_str_int, isi_str_bool, isi_str_str, isi_str_tuple, isi_str_list, isi_str_list_tuple, isi_str_tuple_list, isi_tup_int, isi_tup_bool, isi_tup_str, isi_tup_tuple, isi_tup_list, isi_tup_list_tuple, isi_tup_tuple_list, isi_lst_int, isi_lst_bool, isi_lst_str, isi_lst_tuple, isi_lst_list, isi_lst_list_tuple, isi_lst_tuple_list, cmp_eq_ii, cmp_ne_ii, cmp_eq_bb, cmp_ne_bb, cmp_lt, cmp_le, cmp_gt, cmp_ge, cmp_ni_ii]
      refine ⟨fun e => ?_, fun _ => ?_⟩
      · obtain ⟨i, q⟩ := hb e; cases q
      · exact anyq _ T
    | bl b0 =>
      simp only [wp_bind, wp_pure, wp_bad, wp_getS, wp_asB, wp_slotOpd, wp_rdSlot, wp_rdVar, wp_rdRet, wp_resV, wp_resS, wp_ress0, wp_ress, wp_setR, wp_setρ, wp_call, wp_setAt, wp_opd, wp_dat, wp_shr, wp_ownL, wp_popAt, wp_popLast, wp_app, wp_ins, wp_bindTup, wp_bindTs0, wp_bindTs, wp_bindNm, wp_blk, w_var, w_con, w_tup, w_lst, w_shr, w_bin, w_cmp, w_idx, w_cmp2, w_and2, w_or2, w_not1, w_ife, w_sli, w_call, w_blt, w_isi, w_lc, w_popk, w_popl, w_isN, w_neg, Z.w_rev, w_part0, w_part1, w_ds0, w_ds, w_os0, w_os, w_cs0, w_cs, line, w_asg, w_asgT, w_aug, w_setI, w_app, w_ins, w_ext, w_expr, w_ret, w_retN, w_if, w_forE, w_whil, w_brk, w_cont, w_pass, w_ss0, w_ss, fw_nx, fw_brk, fw_cont, fw_ret, nn_none, nn_int, nn_bl, nn_str, nn_tup, nn_lst, ol_lst, op_some, op_none, op_ite, ob_bl, oi_int, sl_pu, sl_ow, al_ow, al_obj, so_lst, opdV, retV, endQ, letgo, ite_self, ixN_3_0, ixN_3_1, ixN_3_2, atI_0, atI_1, atI_2, atI_3, List.getElem?_cons_zero, List.getElem?_cons_succ, List.set_cons_zero, List.set_cons_succ, List.length_cons, List.length_nil, List.length_map, Option.bind_some, Option.map_some, Nat.zero_add, Nat.reduceAdd, Nat.reduceLT, Nat.reduceLeDiff, Nat.zero_le, if_false, if_true, Bool.false_eq_true, Bool.true_eq_false, Bool.not_true, Bool.not_false, reduceCtorEq, true_and, and_true, forall_const, false_and, and_false, false_implies, not_false_eq_true, not_true_eq_false, decide_eq_true_eq, decide_eq_false_iff_not, isi_none_int, isi_none_bool, isi_none_str, isi_none_tuple, isi_none_list, isi_none_list_tuple, isi_none_tuple_list, isi_bl_int, isi_bl_bool, isi_bl_str, isi_bl_tuple, isi_bl_list, isi_bl_list_tuple, isi_bl_tuple_list, isi_int_int, isi_int_bool, isi_int_str, isi_int_tuple, isi_int_list, isi_int_list_tuple, isi_int_tuple_list, isi_str_int, isi_str_bool, isi_str_str, isi_str_tuple, isi_str_list, isi_str_list_tuple, isi_str_tuple_list, isi_tup_int, isi_tup_bool, isi_tup_str, isi_tup_tuple, isi_tup_list, isi_tup_list_tuple, isi_tup_tuple_list, isi_lst_int, isi_lst_bool, isi_lst_str, isi_lst_tuple, isi_lst_list, isi_lst_list_tuple, isi_lst_tuple_list, cmp_eq_ii, cmp_ne_ii, cmp_eq_bb, cmp_ne_bb, cmp_lt, cmp_le, cmp_gt, cmp_ge, cmp_ni_ii]
      refine whole2_spec (fun b hb hb' => ?_) ⟨L, k + 1, hd⟩
      simp only [wp_bind, wp_pure, wp_bad, wp_getS, wp_asB, wp_slotOpd, wp_rdSlot, wp_rdVar, wp_rdRet, wp_resV, wp_resS, wp_ress0, wp_ress, wp_setR, wp_setρ, wp_call, wp_setAt, wp_opd, wp_dat, wp_shr, wp_ownL, wp_popAt, wp_popLast, wp_app, wp_ins, wp_bindTup, wp_bindTs0, wp_bindTs, wp_bindNm, wp_blk, w_var, w_con, w_tup, w_lst, w_shr, w_bin, w_cmp, w_idx, w_cmp2, w_and2, w_or2, w_not1, w_ife, w_sli, w_call, w_blt, w_isi, w_lc, w_popk, w_popl, w_isN, w_neg, Z.w_rev, w_part0, w_part1, w_ds0, w_ds, w_os0, w_os, w_cs0, w_cs, line, w_asg, w_asgT, w_aug, w_setI, w_app, w_ins, w_ext, w_expr, w_ret, w_retN, w_if, w_forE, w_whil, w_brk, w_cont, w_pass, w_ss0, w_ss, fw_nx, fw_brk, fw_cont, fw_ret, nn_none, nn_int, nn_bl, nn_str, nn_tup, nn_lst, ol_lst, op_some, op_none, op_ite, ob_bl, oi_int, sl_pu, sl_ow, al_ow, al_obj, so_lst, opdV, retV, endQ, letgo, ite_self, ixN_3_0, ixN_3_1, ixN_3_2, atI_0, atI_1, atI_2, atI_3, List.getElem?_cons_zero, List.getElem?_cons_succ, List.set_cons_zero, List.set_cons_succ, List.length_cons, List.length_nil, List.length_map, Option.bind_some, Option.map_some, Nat.zero_add, Nat.reduceAdd, Nat.reduceLT, Nat.reduceLeDiff, Nat.zero_le, if_false, if_true, Bool.false_eq_true, Bool.true_eq_false, Bool.not_true, Bool.not_false, reduceCtorEq, true_and, and_true, forall_const, false_and, and_false, false_implies, not_false_eq_true, not_true_eq_false, decide_eq_true_eq, decide_eq_false_iff_not, isi_none_int, isi_none_bool, isi_none_str, isi_none_tuple, isi_none_list, isi_none_list_tuple, isi_none_tuple_list, isi_bl_int, isi_bl_bool, isi_bl_str, isi_bl_tuple, isi_bl_list, isi_bl_list_tuple, isi_bl_tuple_list, isi_int_int, isi_int_bool, isi_int_str, isi_int_tuple, isi_int_list, isi_int_list_tuple, isi_int_tuple_list, isi_str_int, isi_str_bool, isi_str_str, isi_str_tuple, isi_str_list, isi_str_list_tuple, isi_str_tuple_list, isi_tup_int, isi_tup_bool, isi_tup_str, isi_tup_tuple, isi_tup_list, isi_tup_list_tuple, isi_tup_tuple_list, isi_lst_int, isi_lst_bool, isi_lst_str, isi_lst_tuple, isi_lst_list, isi_lst_list_tuple, isi_lst_tuple_list, cmp_eq_ii, cmp_ne_ii, cmp_eq_bb, cmp_ne_bb, cmp_lt, cmp_le, cmp_gt, cmp_ge, cmp_ni_ii]
      refine ⟨fun e => ?_, fun _ => ?_⟩
      · obtain ⟨i, q⟩ := hb e; cases q
      · exact anyq _ T
    | int i =>
      simp only [wp_bind, wp_pure, wp_bad, wp_getS, wp_asB, wp_slotOpd, wp_rdSlot, wp_rdVar, wp_rdRet, wp_resV, wp_resS, wp_ress0, wp_ress, wp_setR, wp_setρ, wp_call, wp_setAt, wp_opd, wp_dat, wp_shr, wp_ownL, wp_popAt, wp_popLast, wp_app, wp_ins, wp_bindTup, wp_bindTs0, wp_bindTs, wp_bindNm, wp_blk, w_var, w_con, w_tup, w_lst, w_shr, w_bin, w_cmp, w_idx, w_cmp2, w_and2, w_or2, w_not1, w_ife, w_sli, w_call, w_blt, w_isi, w_lc, w_popk, w_popl, w_isN, w_neg, Z.w_rev, w_part0, w_part1, w_ds0, w_ds, w_os0, w_os, w_cs0, w_cs, line, w_asg, w_asgT, w_aug, w_setI, w_app, w_ins, w_ext, w_expr, w_ret, w_retN, w_if, w_forE, w_whil, w_brk, w_cont, w_pass, w_ss0, w_ss, fw_nx, fw_brk, fw_cont, fw_ret, nn_none, nn_int, nn_bl, nn_str, nn_tup, nn_lst, ol_lst, op_some, op_none, op_ite, ob_bl, oi_int, sl_pu, sl_ow, al_ow, al_obj, so_lst, opdV, retV, endQ, letgo, ite_self, ixN_3_0, ixN_3_1, ixN_3_2, atI_0, atI_1, atI_2, atI_3, List.getElem?_cons_zero, List.getElem?_cons_succ, List.set_cons_zero, List.set_cons_succ, List.length_cons, List.length_nil, List.length_map, Option.bind_some, Option.map_some, Nat.zero_add, Nat.reduceAdd, Nat.reduceLT, Nat.reduceLeDiff, Nat.zero_le, if_false, if_true, Bool.false_eq_true, Bool.true_eq_false, Bool.not_true, Bool.not_false, reduceCtorEq, true_and, and_true, forall_const, false_and, and_false, false_implies, not_false_eq_true, not_true_eq_false, decide_eq_true_eq, decide_eq_false_iff_not, isi_none_int, isi_none_bool, isi_none_str, isi_none_tuple, isi_none_list, isi_none_list_tuple, isi_none_tuple_list, isi_bl_int, isi_bl_bool, isi_bl_str, isi_bl_tuple, isi_bl_list, isi_bl_list_tuple, isi_bl_tuple_list, isi_int_int, isi_int_bool, isi_int_str, isi_int_tuple, isi_int_list, isi_int_list_tuple, isi_int_tuple_list, isi_str_int, isi_str_bool, isi_str_str, isi_str_tuple, isi_str_list, isi_str_list_tuple, isi_str_tuple_list, isi_tup_int, isi_tup_bool, isi_tup_str, isi_tup_tuple, isi_tup_list, isi_tup_list_tuple, isi_tup_tuple_list, isi_lst_int, isi_lst_bool, isi_lst_str, isi_lst_tuple, isi_lst_list, isi_lst_list_tuple, isi_lst_tuple_list, cmp_eq_ii, cmp_ne_ii, cmp_eq_bb, cmp_ne_bb, cmp_lt, cmp_le, cmp_gt, cmp_ge, cmp_ni_ii]
      refine whole2_spec (fun b hb hb' => ?_) ⟨L, k + 1, hd⟩
      simp only [wp_bind, wp_pure, wp_bad, wp_getS, wp_asB, wp_slotOpd, wp_rdSlot, wp_rdVar, wp_rdRet, wp_resV, wp_resS, wp_ress0, wp_ress, wp_setR, wp_setρ, wp_call, wp_setAt, wp_opd, wp_dat, wp_shr, wp_ownL, wp_popAt, wp_popLast, wp_app, wp_ins, wp_bindTup, wp_bindTs0, wp_bindTs, wp_bindNm, wp_blk, w_var, w_con, w_tup, w_lst, w_shr, w_bin, w_cmp, w_idx, w_cmp2, w_and2, w_or2, w_not1, w_ife, w_sli, w_call, w_blt, w_isi, w_lc, w_popk, w_popl, w_isN, w_neg, Z.w_rev, w_part0, w_part1, w_ds0, w_ds, w_os0, w_os, w_cs0, w_cs, line, w_asg, w_asgT, w_aug, w_setI, w_app, w_ins, w_ext, w_expr, w_ret, w_retN, w_if, w_forE, w_whil, w_brk, w_cont, w_pass, w_ss0, w_ss, fw_nx, fw_brk, fw_cont, fw_ret, nn_none, nn_int, nn_bl, nn_str, nn_tup, nn_lst, ol_lst, op_some, op_none, op_ite, ob_bl, oi_int, sl_pu, sl_ow, al_ow, al_obj, so_lst, opdV, retV, endQ, letgo, ite_self, ixN_3_0, ixN_3_1, ixN_3_2, atI_0, atI_1, atI_2, atI_3, List.getElem?_cons_zero, List.getElem?_cons_succ, List.set_cons_zero, List.set_cons_succ, List.length_cons, List.length_nil, List.length_map, Option.bind_some, Option.map_some, Nat.zero_add, Nat.reduceAdd, Nat.reduceLT, Nat.reduceLeDiff, Nat.zero_le, if_false, if_true, Bool.false_eq_true, Bool.true_eq_false, Bool.not_true, Bool.not_false, reduceCtorEq, true_and, and_true, forall_const, false_and, and_false, false_implies, not_false_eq_true, not_true_eq_false, decide_eq_true_eq, decide_eq_false_iff_not, isi_none_int, isi_none_bool, isi_none_str, isi_none_tuple, isi_none_list, isi_none_list_tuple, isi_none_tuple_list, isi_bl_int, isi_bl_bool, isi_bl_str, isi_bl_tuple, isi_bl_list, isi_bl_list_tuple, isi_bl_tuple_list, isi_int_int, isi_int_bool, isi_int_str, isi_int_tuple, isi_int_list, isi_int_list_tuple, isi_int_tuple_list, isi_str_int, isi_str_bool, isi_str_str, isi_str_tuple, isi_str_list, isi_str_list_tuple, isi_str_tuple_list, isi_tup_int, isi_tup_bool, isi_tup_str, isi_tup_tuple, isi_tup_list, isi_tup_list_tuple, isi_tup_tuple_list, isi_lst_int, isi_lst_bool, isi_lst_str, isi_lst_tuple, isi_lst_list, isi_lst_list_tuple, isi_lst_tuple_list, cmp_eq_ii, cmp_ne_ii, cmp_eq_bb, cmp_ne_bb, cmp_lt, cmp_le, cmp_gt, cmp_ge, cmp_ni_ii]
      refine ⟨fun e => ?_, fun e => ?_⟩
      · refine draw_spec T (by decide) (by decide) fun f st1 f0 f1 T1 => ?_
        simp only [wp_bind, wp_pure, wp_bad, wp_getS, wp_asB, wp_slotOpd, wp_rdSlot, wp_rdVar, wp_rdRet, wp_resV, wp_resS, wp_ress0, wp_ress, wp_setR, wp_setρ, wp_call, wp_setAt, wp_opd, wp_dat, wp_shr, wp_ownL, wp_popAt, wp_popLast, wp_app, wp_ins, wp_bindTup, wp_bindTs0, wp_bindTs, wp_bindNm, wp_blk, w_var, w_con, w_tup, w_lst, w_shr, w_bin, w_cmp, w_idx, w_cmp2, w_and2, w_or2, w_not1, w_ife, w_sli, w_call, w_blt, w_isi, w_lc, w_popk, w_popl, w_isN, w_neg, Z.w_rev, w_part0, w_part1, w_ds0, w_ds, w_os0, w_os, w_cs0, w_cs, line, w_asg, w_asgT, w_aug, w_setI, w_app, w_ins, w_ext, w_expr, w_ret, w_retN, w_if, w_forE, w_whil, w_brk, w_cont, w_pass, w_ss0, w_ss, fw_nx, fw_brk, fw_cont, fw_ret, nn_none, nn_int, nn_bl, nn_str, nn_tup, nn_lst, ol_lst, op_some, op_none, op_ite, ob_bl, oi_int, sl_pu, sl_ow, al_ow, al_obj, so_lst, opdV, retV, endQ, letgo, ite_self, ixN_3_0, ixN_3_1, ixN_3_2, atI_0, atI_1, atI_2, atI_3, List.getElem?_cons_zero, List.getElem?_cons_succ, List.set_cons_zero, List.set_cons_succ, List.length_cons, List.length_nil, List.length_map, Option.bind_some, Option.map_some, Nat.zero_add, Nat.reduceAdd, Nat.reduceLT, Nat.reduceLeDiff, Nat.zero_le, if_false, if_true, Bool.false_eq_true, Bool.true_eq_false, Bool.not_true, Bool.not_false, reduceCtorEq, true_and, and_true, forall_const, false_and, and_false, false_implies, not_false_eq_true, not_true_eq_false, decide_eq_true_eq, decide_eq_false_iff_not, isi_none_int, isi_none_bool, isi_none_str, isi_none_tuple, isi_none_list, isi_none_list_tuple, isi_none_tuple_list, isi_bl_int, isi_bl_bool, isi_bl_str, isi_bl_tuple, isi_bl_list, isi_bl_list_tuple, isi_bl_tuple_list, isi_int_int, isi_int_bool, isi_int_str, isi_int_tuple, isi_int_list, isi_int_list_tuple, isi_int_tuple_list, isi_str_int, isi_str_bool, isi_str_str, isi_str_tuple, isi_str_list, isi_str_list_tuple, isi_str_tuple_list, isi_tup_int, isi_tup_bool, isi_tup_str, isi_tup_tuple, isi_tup_list, isi_tup_list_tuple, isi_tup_tuple_list, isi_lst_int, isi_lst_bool, isi_lst_str, isi_lst_tuple, isi_lst_list, isi_lst_list_tuple, isi_lst_tuple_list, cmp_eq_ii, cmp_ne_ii, cmp_eq_bb, cmp_ne_bb, cmp_lt, cmp_le, cmp_gt, cmp_ge, cmp_ni_ii, binD]
        refine ⟨fun hf => ?_, fun hf => ?_⟩
        · refine ⟨mulOk_l (by decide), ?_⟩
          refine ⟨by decide, ?_⟩
          refine draw_spec T1 (by decide) (by decide) fun g st2 g0 g1 T2 => ?_
          simp only [wp_bind, wp_pure, wp_bad, wp_getS, wp_asB, wp_slotOpd, wp_rdSlot, wp_rdVar, wp_rdRet, wp_resV, wp_resS, wp_ress0, wp_ress, wp_setR, wp_setρ, wp_call, wp_setAt, wp_opd, wp_dat, wp_shr, wp_ownL, wp_popAt, wp_popLast, wp_app, wp_ins, wp_bindTup, wp_bindTs0, wp_bindTs, wp_bindNm, wp_blk, w_var, w_con, w_tup, w_lst, w_shr, w_bin, w_cmp, w_idx, w_cmp2, w_and2, w_or2, w_not1, w_ife, w_sli, w_call, w_blt, w_isi, w_lc, w_popk, w_popl, w_isN, w_neg, Z.w_rev, w_part0, w_part1, w_ds0, w_ds, w_os0, w_os, w_cs0, w_cs, line, w_asg, w_asgT, w_aug, w_setI, w_app, w_ins, w_ext, w_expr, w_ret, w_retN, w_if, w_forE, w_whil, w_brk, w_cont, w_pass, w_ss0, w_ss, fw_nx, fw_brk, fw_cont, fw_ret, nn_none, nn_int, nn_bl, nn_str, nn_tup, nn_lst, ol_lst, op_some, op_none, op_ite, ob_bl, oi_int, sl_pu, sl_ow, al_ow, al_obj, so_lst, opdV, retV, endQ, letgo, ite_self, ixN_3_0, ixN_3_1, ixN_3_2, atI_0, atI_1, atI_2, atI_3, List.getElem?_cons_zero, List.getElem?_cons_succ, List.set_cons_zero, List.set_cons_succ, List.length_cons, List.length_nil, List.length_map, Option.bind_some, Option.map_some, Nat.zero_add, Nat.reduceAdd, Nat.reduceLT, Nat.reduceLeDiff, Nat.zero_le, if_false, if_true, Bool.false_eq_true, Bool.true_eq_false, Bool.not_true, Bool.not_false, reduceCtorEq, true_and, and_true, forall_const, false_and, and_false, false_implies, not_false_eq_true, not_true_eq_false, decide_eq_true_eq, decide_eq_false_iff_not, isi_none_int, isi_none_bool, isi_none_str, isi_none_tuple, isi_none_list, isi_none_list_tuple, isi_none_tuple_list, isi_bl_int, isi_bl_bool, isi_bl_str, isi_bl_tuple, isi_bl_list, isi_bl_list_tuple, isi_bl_tuple_list, isi_int_int, isi_int_bool, isi_int_str, isi_int_tuple, isi_int_list, isi_int_list_tuple, isi_int_tuple_list, isi_str_int, isi_str_bool, isi_str_str, isi_str_tuple, isi_str_list, isi_str_list_tuple, isi_str_tuple_list, isi_tup_int, isi_tup_bool, isi_tup_str, isi_tup_tuple, isi_tup_list, isi_tup_list_tuple, isi_tup_tuple_list, isi_lst_int, isi_lst_bool, isi_lst_str, isi_lst_tuple, isi_lst_list, isi_lst_list_tuple, isi_lst_tuple_list, cmp_eq_ii, cmp_ne_ii, cmp_eq_bb, cmp_ne_bb, cmp_lt, cmp_le, cmp_gt, cmp_ge, cmp_ni_ii, binD, idxD, seqD]
          refine op_atI g0 (by simp; omega) fun a ha => ?_
          have hi : ∃ j, a = .int j := by
            simp only [List.mem_cons, List.not_mem_nil, or_false] at ha
            rcases ha with rfl | rfl | rfl | rfl | rfl | rfl <;> exact ⟨_, rfl⟩
          obtain ⟨j, rfl⟩ := hi
          simp only [wp_bind, wp_pure, wp_bad, wp_getS, wp_asB, wp_slotOpd, wp_rdSlot, wp_rdVar, wp_rdRet, wp_resV, wp_resS, wp_ress0, wp_ress, wp_setR, wp_setρ, wp_call, wp_setAt, wp_opd, wp_dat, wp_shr, wp_ownL, wp_popAt, wp_popLast, wp_app, wp_ins, wp_bindTup, wp_bindTs0, wp_bindTs, wp_bindNm, wp_blk, w_var, w_con, w_tup, w_lst, w_shr, w_bin, w_cmp, w_idx, w_cmp2, w_and2, w_or2, w_not1, w_ife, w_sli, w_call, w_blt, w_isi, w_lc, w_popk, w_popl, w_isN, w_neg, Z.w_rev, w_part0, w_part1, w_ds0, w_ds, w_os0, w_os, w_cs0, w_cs, line, w_asg, w_asgT, w_aug, w_setI, w_app, w_ins, w_ext, w_expr, w_ret, w_retN, w_if, w_forE, w_whil, w_brk, w_cont, w_pass, w_ss0, w_ss, fw_nx, fw_brk, fw_cont, fw_ret, nn_none, nn_int, nn_bl, nn_str, nn_tup, nn_lst, ol_lst, op_some, op_none, op_ite, ob_bl, oi_int, sl_pu, sl_ow, al_ow, al_obj, so_lst, opdV, retV, endQ, letgo, ite_self, ixN_3_0, ixN_3_1, ixN_3_2, atI_0, atI_1, atI_2, atI_3, List.getElem?_cons_zero, List.getElem?_cons_succ, List.set_cons_zero, List.set_cons_succ, List.length_cons, List.length_nil, List.length_map, Option.bind_some, Option.map_some, Nat.zero_add, Nat.reduceAdd, Nat.reduceLT, Nat.reduceLeDiff, Nat.zero_le, if_false, if_true, Bool.false_eq_true, Bool.true_eq_false, Bool.not_true, Bool.not_false, reduceCtorEq, true_and, and_true, forall_const, false_and, and_false, false_implies, not_false_eq_true, not_true_eq_false, decide_eq_true_eq, decide_eq_false_iff_not, isi_none_int, isi_none_bool, isi_none_str, isi_none_tuple, isi_none_list, isi_none_list_tuple, isi_none_tuple_list, isi_bl_int, isi_bl_bool, isi_bl_str, isi_bl_tuple, isi_bl_list, isi_bl_list_tuple, isi_bl_tuple_list, isi_int_int, isi_int_bool, isi_int_str, isi_int_tuple, isi_int_list, isi_int_list_tuple, isi_int_tuple_list, isi_str_int, isi_str_bool, isi_str_str, isi_str_tuple, isi_str_list, isi_str_list_tuple, isi_str_tuple_list, isi_tup_int, isi_tup_bool, isi_tup_str, isi_tup_tuple, isi_tup_list, isi_tup_list_tuple, isi_tup_tuple_list, isi_lst_int, isi_lst_bool, isi_lst_str, isi_lst_tuple, isi_lst_list, isi_lst_list_tuple, isi_lst_tuple_list, cmp_eq_ii, cmp_ne_ii, cmp_eq_bb, cmp_ne_bb, cmp_lt, cmp_le, cmp_gt, cmp_ge, cmp_ni_ii, binD, idxD, seqD]
          exact h _ _ _ (Fine.int _) T2
        · exact anyq _ T1
      · rw [hb' ⟨i, rfl⟩] at e; cases e
    | str s =>
      simp only [wp_bind, wp_pure, wp_bad, wp_getS, wp_asB, wp_slotOpd, wp_rdSlot, wp_rdVar, wp_rdRet, wp_resV, wp_resS, wp_ress0, wp_ress, wp_setR, wp_setρ, wp_call, wp_setAt, wp_opd, wp_dat, wp_shr, wp_ownL, wp_popAt, wp_popLast, wp_app, wp_ins, wp_bindTup, wp_bindTs0, wp_bindTs, wp_bindNm, wp_blk, w_var, w_con, w_tup, w_lst, w_shr, w_bin, w_cmp, w_idx, w_cmp2, w_and2, w_or2, w_not1, w_ife, w_sli, w_call, w_blt, w_isi, w_lc, w_popk, w_popl, w_isN, w_neg, Z.w_rev, w_part0, w_part1, w_ds0, w_ds, w_os0, w_os, w_cs0, w_cs, line, w_asg, w_asgT, w_aug, w_setI, w_app, w_ins, w_ext, w_expr, w_ret, w_retN, w_if, w_forE, w_whil, w_brk, w_cont, w_pass, w_ss0, w_ss, fw_nx, fw_brk, fw_cont, fw_ret, nn_none, nn_int, nn_bl, nn_str, nn_tup, nn_lst, ol_lst, op_some, op_none, op_ite, ob_bl, oi_int, sl_pu, sl_ow, al_ow, al_obj, so_lst, opdV, retV, endQ, letgo, ite_self, ixN_3_0, ixN_3_1, ixN_3_2, atI_0, atI_1, atI_2, atI_3, List.getElem?_cons_zero, List.getElem?_cons_succ, List.set_cons_zero, List.set_cons_succ, List.length_cons, List.length_nil, List.length_map, Option.bind_some, Option.map_some, Nat.zero_add, Nat.reduceAdd, Nat.reduceLT, Nat.reduceLeDiff, Nat.zero_le, if_false, if_true, Bool.false_eq_true, Bool.true_eq_false, Bool.not_true, Bool.not_false, reduceCtorEq, true_and, and_true, forall_const, false_and, and_false, false_implies, not_false_eq_true, not_true_eq_false, decide_eq_true_eq, decide_eq_false_iff_not, isi_none_int, isi_none_bool, isi_none_str, isi_none_tuple, isi_none_list, isi_none_list_tuple, isi_none_tuple_list, isi_bl_int, isi_bl_bool, isi_bl_str, isi_bl_tuple, isi_bl_list, isi_bl_list_tuple, isi_bl_tuple_list, isi_int_int, isi_int_bool, isi_int_str, isi_int_tuple, isi_int_list, isi_int_list_tuple, isi_int_tuple_list, isi_str_int, isi_str_bool, isi_str_str, isi_str_tuple, isi_str_list, isi_str_list_tuple, isi_str_tuple_list, isi_tup_int, isi_tup_bool, isi_tup_str, isi_tup_tuple, isi_tup_list, isi_tup_list_tuple, isi_tup_tuple_list, isi_lst_int, isi_lst_bool, isi_lst_str, isi_lst_tuple, isi_lst_list, isi_lst_list_tuple, isi_lst_tuple_list, cmp_eq_ii, cmp_ne_ii, cmp_eq_bb, cmp_ne_bb, cmp_lt, cmp_le, cmp_gt, cmp_ge, cmp_ni_ii]
      have hs : PyData.strOk s = true ∧ s.length ≤ L := by unfold Fine at hd; exact hd
      refine whole2_spec (fun b hb hb' => ?_) ⟨L, k + 1, hd⟩
      simp only [wp_bind, wp_pure, wp_bad, wp_getS, wp_asB, wp_slotOpd, wp_rdSlot, wp_rdVar, wp_rdRet, wp_resV, wp_resS, wp_ress0, wp_ress, wp_setR, wp_setρ, wp_call, wp_setAt, wp_opd, wp_dat, wp_shr, wp_ownL, wp_popAt, wp_popLast, wp_app, wp_ins, wp_bindTup, wp_bindTs0, wp_bindTs, wp_bindNm, wp_blk, w_var, w_con, w_tup, w_lst, w_shr, w_bin, w_cmp, w_idx, w_cmp2, w_and2, w_or2, w_not1, w_ife, w_sli, w_call, w_blt, w_isi, w_lc, w_popk, w_popl, w_isN, w_neg, Z.w_rev, w_part0, w_part1, w_ds0, w_ds, w_os0, w_os, w_cs0, w_cs, line, w_asg, w_asgT, w_aug, w_setI, w_app, w_ins, w_ext, w_expr, w_ret, w_retN, w_if, w_forE, w_whil, w_brk, w_cont, w_pass, w_ss0, w_ss, fw_nx, fw_brk, fw_cont, fw_ret, nn_none, nn_int, nn_bl, nn_str, nn_tup, nn_lst, ol_lst, op_some, op_none, op_ite, ob_bl, oi_int, sl_pu, sl_ow, al_ow, al_obj, so_lst, opdV, retV, endQ, letgo, ite_self, ixN_3_0, ixN_3_1, ixN_3_2, atI_0, atI_1, atI_2, atI_3, List.getElem?_cons_zero, List.getElem?_cons_succ, List.set_cons_zero, List.set_cons_succ, List.length_cons, List.length_nil, List.length_map, Option.bind_some, Option.map_some, Nat.zero_add, Nat.reduceAdd, Nat.reduceLT, Nat.reduceLeDiff, Nat.zero_le, if_false, if_true, Bool.false_eq_true, Bool.true_eq_false, Bool.not_true, Bool.not_false, reduceCtorEq, true_and, and_true, forall_const, false_and, and_false, false_implies, not_false_eq_true, not_true_eq_false, decide_eq_true_eq, decide_eq_false_iff_not, isi_none_int, isi_none_bool, isi_none_str, isi_none_tuple, isi_none_list, isi_none_list_tuple, isi_none_tuple_list, isi_bl_int, isi_bl_bool, isi_bl_str, isi_bl_tuple, isi_bl_list, isi_bl_list_tuple, isi_bl_tuple_list, isi_int_int, isi_int_bool, isi_int_str, isi_int_tuple, isi_int_list, isi_int_list_tuple, isi_int_tuple_list, isi_str_int, isi_str_bool, isi_str_str, isi_str_tuple, isi_str_list, isi_str_list_tuple, isi_str_tuple_list, isi_tup_int, isi_tup_bool, isi_tup_str, isi_tup_tuple, isi_tup_list, isi_tup_list_tuple, isi_tup_tuple_list, isi_lst_int, isi_lst_bool, isi_lst_str, isi_lst_tuple, isi_lst_list, isi_lst_list_tuple, isi_lst_tuple_list, cmp_eq_ii, cmp_ne_ii, cmp_eq_bb, cmp_ne_bb, cmp_lt, cmp_le, cmp_gt, cmp_ge, cmp_ni_ii]
      refine ⟨fun e => ?_, fun e => ?_⟩
      · obtain ⟨i, q⟩ := hb e; cases q
      · refine draw_spec T (by decide) (by decide) fun f st1 f0 f1 T1 => ?_
        have ba : binD .add (.str s) (.str ("s" : Str)) = some (.str (s ++ ("s" : Str)), false) := by
          have l1 : ("s" : Str).length = 1 := by decide +kernel
          show (if s.length + ("s" : Str).length ≤ line then some (D.str (s ++ ("s" : Str)), false) else none) = _
          rw [if_pos (by rw [l1]; unfold line; omega)]
        simp only [wp_bind, wp_pure, wp_bad, wp_getS, wp_asB, wp_slotOpd, wp_rdSlot, wp_rdVar, wp_rdRet, wp_resV, wp_resS, wp_ress0, wp_ress, wp_setR, wp_setρ, wp_call, wp_setAt, wp_opd, wp_dat, wp_shr, wp_ownL, wp_popAt, wp_popLast, wp_app, wp_ins, wp_bindTup, wp_bindTs0, wp_bindTs, wp_bindNm, wp_blk, w_var, w_con, w_tup, w_lst, w_shr, w_bin, w_cmp, w_idx, w_cmp2, w_and2, w_or2, w_not1, w_ife, w_sli, w_call, w_blt, w_isi, w_lc, w_popk, w_popl, w_isN, w_neg, Z.w_rev, w_part0, w_part1, w_ds0, w_ds, w_os0, w_os, w_cs0, w_cs, line, w_asg, w_asgT, w_aug, w_setI, w_app, w_ins, w_ext, w_expr, w_ret, w_retN, w_if, w_forE, w_whil, w_brk, w_cont, w_pass, w_ss0, w_ss, fw_nx, fw_brk, fw_cont, fw_ret, nn_none, nn_int, nn_bl, nn_str, nn_tup, nn_lst, ol_lst, op_some, op_none, op_ite, ob_bl, oi_int, sl_pu, sl_ow, al_ow, al_obj, so_lst, opdV, retV, endQ, letgo, ite_self, ixN_3_0, ixN_3_1, ixN_3_2, atI_0, atI_1, atI_2, atI_3, List.getElem?_cons_zero, List.getElem?_cons_succ, List.set_cons_zero, List.set_cons_succ, List.length_cons, List.length_nil, List.length_map, Option.bind_some, Option.map_some, Nat.zero_add, Nat.reduceAdd, Nat.reduceLT, Nat.reduceLeDiff, Nat.zero_le, if_false, if_true, Bool.false_eq_true, Bool.true_eq_false, Bool.not_true, Bool.not_false, reduceCtorEq, true_and, and_true, forall_const, false_and, and_false, false_implies, not_false_eq_true, not_true_eq_false, decide_eq_true_eq, decide_eq_false_iff_not, isi_none_int, isi_none_bool, isi_none_str, isi_none_tuple, isi_none_list, isi_none_list_tuple, isi_none_tuple_list, isi_bl_int, isi_bl_bool, isi_bl_str, isi_bl_tuple, isi_bl_list, isi_bl_list_tuple, isi_bl_tuple_list, isi_int_int, isi_int_bool, isi_int_str, isi_int_tuple, isi_int_list, isi_int_list_tuple, isi_int_tuple_list, isi_str_int, isi_str_bool, isi_str_str, isi_str_tuple, isi_str_list, isi_str_list_tuple, isi_str_tuple_list, isi_tup_int, isi_tup_bool, isi_tup_str, isi_tup_tuple, isi_tup_list, isi_tup_list_tuple, isi_tup_tuple_list, isi_lst_int, isi_lst_bool, isi_lst_str, isi_lst_tuple, isi_lst_list, isi_lst_list_tuple, isi_lst_tuple_list, cmp_eq_ii, cmp_ne_ii, cmp_eq_bb, cmp_ne_bb, cmp_lt, cmp_le, cmp_gt, cmp_ge, cmp_ni_ii, ba]
        refine ⟨fun hf => ?_, fun hf => ?_⟩
        · skip
          refine draw_spec T1 (by decide) (by decide) fun g st2 g0 g1 T2 => ?_
          simp only [wp_bind, wp_pure, wp_bad, wp_getS, wp_asB, wp_slotOpd, wp_rdSlot, wp_rdVar, wp_rdRet, wp_resV, wp_resS, wp_ress0, wp_ress, wp_setR, wp_setρ, wp_call, wp_setAt, wp_opd, wp_dat, wp_shr, wp_ownL, wp_popAt, wp_popLast, wp_app, wp_ins, wp_bindTup, wp_bindTs0, wp_bindTs, wp_bindNm, wp_blk, w_var, w_con, w_tup, w_lst, w_shr, w_bin, w_cmp, w_idx, w_cmp2, w_and2, w_or2, w_not1, w_ife, w_sli, w_call, w_blt, w_isi, w_lc, w_popk, w_popl, w_isN, w_neg, Z.w_rev, w_part0, w_part1, w_ds0, w_ds, w_os0, w_os, w_cs0, w_cs, line, w_asg, w_asgT, w_aug, w_setI, w_app, w_ins, w_ext, w_expr, w_ret, w_retN, w_if, w_forE, w_whil, w_brk, w_cont, w_pass, w_ss0, w_ss, fw_nx, fw_brk, fw_cont, fw_ret, nn_none, nn_int, nn_bl, nn_str, nn_tup, nn_lst, ol_lst, op_some, op_none, op_ite, ob_bl, oi_int, sl_pu, sl_ow, al_ow, al_obj, so_lst, opdV, retV, endQ, letgo, ite_self, ixN_3_0, ixN_3_1, ixN_3_2, atI_0, atI_1, atI_2, atI_3, List.getElem?_cons_zero, List.getElem?_cons_succ, List.set_cons_zero, List.set_cons_succ, List.length_cons, List.length_nil, List.length_map, Option.bind_some, Option.map_some, Nat.zero_add, Nat.reduceAdd, Nat.reduceLT, Nat.reduceLeDiff, Nat.zero_le, if_false, if_true, Bool.false_eq_true, Bool.true_eq_false, Bool.not_true, Bool.not_false, reduceCtorEq, true_and, and_true, forall_const, false_and, and_false, false_implies, not_false_eq_true, not_true_eq_false, decide_eq_true_eq, decide_eq_false_iff_not, isi_none_int, isi_none_bool, isi_none_str, isi_none_tuple, isi_none_list, isi_none_list_tuple, isi_none_tuple_list, isi_bl_int, isi_bl_bool, isi_bl_str, isi_bl_tuple, isi_bl_list, isi_bl_list_tuple, isi_bl_tuple_list, isi_int_int, isi_int_bool, isi_int_str, isi_int_tuple, isi_int_list, isi_int_list_tuple, isi_int_tuple_list, isi_str_int, isi_str_bool, isi_str_str, isi_str_tuple, isi_str_list, isi_str_list_tuple, isi_str_tuple_list, isi_tup_int, isi_tup_bool, isi_tup_str, isi_tup_tuple, isi_tup_list, isi_tup_list_tuple, isi_tup_tuple_list, isi_lst_int, isi_lst_bool, isi_lst_str, isi_lst_tuple, isi_lst_list, isi_lst_list_tuple, isi_lst_tuple_list, cmp_eq_ii, cmp_ne_ii, cmp_eq_bb, cmp_ne_bb, cmp_lt, cmp_le, cmp_gt, cmp_ge, cmp_ni_ii, binD, idxD, seqD]
          refine op_atI g0 (by simp; omega) fun a ha => ?_
          refine h _ _ _ ?_ T2
          simp only [List.mem_cons, List.not_mem_nil, or_false] at ha
          rcases ha with rfl | rfl | rfl | rfl | rfl | rfl | rfl | rfl | rfl | rfl | rfl | rfl
          case' inr.inr.inr.inr.inr.inr.inr.inr.inr.inr.inl => exact Fine.str (ok_s hs.1) (len_s hs.2)
          all_goals exact Fine.mono (L := 10) (k := 1) (by omega) (by omega) (Fine.str (by decide +kernel) (by decide +kernel))
        · exact anyq _ T1
    | tup ds =>
      have hf : ds.length ≤ L ∧ ∀ x ∈ ds, Fine L k x := by unfold Fine at hd; exact hd
      obtain ⟨hl, hx⟩ := hf
      have fin : ∀ (b : Bool) (es : List D) st', es.length ≤ L + 1 → (∀ x ∈ es, Fine (L + 1) (k + 3) x) → Tape st' → Q (.tup es, b) st' := fun b es st' h1 h2 T' => h _ _ _ (Fine.tup (k := k + 3) h1 h2) T'
      have up := fine_item hx (L' := L + 1) (k' := k + 3) (by omega) (by omega)
      simp only [wp_bind, wp_pure, wp_bad, wp_getS, wp_asB, wp_slotOpd, wp_rdSlot, wp_rdVar, wp_rdRet, wp_resV, wp_resS, wp_ress0, wp_ress, wp_setR, wp_setρ, wp_call, wp_setAt, wp_opd, wp_dat, wp_shr, wp_ownL, wp_popAt, wp_popLast, wp_app, wp_ins, wp_bindTup, wp_bindTs0, wp_bindTs, wp_bindNm, wp_blk, w_var, w_con, w_tup, w_lst, w_shr, w_bin, w_cmp, w_idx, w_cmp2, w_and2, w_or2, w_not1, w_ife, w_sli, w_call, w_blt, w_isi, w_lc, w_popk, w_popl, w_isN, w_neg, Z.w_rev, w_part0, w_part1, w_ds0, w_ds, w_os0, w_os, w_cs0, w_cs, line, w_asg, w_asgT, w_aug, w_setI, w_app, w_ins, w_ext, w_expr, w_ret, w_retN, w_if, w_forE, w_whil, w_brk, w_cont, w_pass, w_ss0, w_ss, fw_nx, fw_brk, fw_cont, fw_ret, nn_none, nn_int, nn_bl, nn_str, nn_tup, nn_lst, ol_lst, op_some, op_none, op_ite, ob_bl, oi_int, sl_pu, sl_ow, al_ow, al_obj, so_lst, opdV, retV, endQ, letgo, ite_self, ixN_3_0, ixN_3_1, ixN_3_2, atI_0, atI_1, atI_2, atI_3, List.getElem?_cons_zero, List.getElem?_cons_succ, List.set_cons_zero, List.set_cons_succ, List.length_cons, List.length_nil, List.length_map, Option.bind_some, Option.map_some, Nat.zero_add, Nat.reduceAdd, Nat.reduceLT, Nat.reduceLeDiff, Nat.zero_le, if_false, if_true, Bool.false_eq_true, Bool.true_eq_false, Bool.not_true, Bool.not_false, reduceCtorEq, true_and, and_true, forall_const, false_and, and_false, false_implies, not_false_eq_true, not_true_eq_false, decide_eq_true_eq, decide_eq_false_iff_not, isi_none_int, isi_none_bool, isi_none_str, isi_none_tuple, isi_none_list, isi_none_list_tuple, isi_none_tuple_list, isi_bl_int, isi_bl_bool, isi_bl_str, isi_bl_tuple, isi_bl_list, isi_bl_list_tuple, isi_bl_tuple_list, isi_int_int, isi_int_bool, isi_int_str, isi_int_tuple, isi_int_list, isi_int_list_tuple, isi_int_tuple_list, isi_str_int, isi_str_bool, isi_str_str, isi_str_tuple, isi_str_list, isi_str_list_tuple, isi_str_tuple_list, isi_tup_int, isi_tup_bool, isi_tup_str, isi_tup_tuple, isi_tup_list, isi_tup_list_tuple, isi_tup_tuple_list, isi_lst_int, isi_lst_bool, isi_lst_str, isi_lst_tuple, isi_lst_list, isi_lst_list_tuple, isi_lst_tuple_list, cmp_eq_ii, cmp_ne_ii, cmp_eq_bb, cmp_ne_bb, cmp_lt, cmp_le, cmp_gt, cmp_ge, cmp_ni_ii, bltD, on1, lenD, seqD]
      refine ⟨fun hl0 => ?_, fun hl0 => ?_⟩
      case' refine_1 => refine draw_spec T (by decide) (by decide) fun f st1 f0 f1 T1 => ?_
      case' refine_1 => simp only [wp_bind, wp_pure, wp_bad, wp_getS, wp_asB, wp_slotOpd, wp_rdSlot, wp_rdVar, wp_rdRet, wp_resV, wp_resS, wp_ress0, wp_ress, wp_setR, wp_setρ, wp_call, wp_setAt, wp_opd, wp_dat, wp_shr, wp_ownL, wp_popAt, wp_popLast, wp_app, wp_ins, wp_bindTup, wp_bindTs0, wp_bindTs, wp_bindNm, wp_blk, w_var, w_con, w_tup, w_lst, w_shr, w_bin, w_cmp, w_idx, w_cmp2, w_and2, w_or2, w_not1, w_ife, w_sli, w_call, w_blt, w_isi, w_lc, w_popk, w_popl, w_isN, w_neg, Z.w_rev, w_part0, w_part1, w_ds0, w_ds, w_os0, w_os, w_cs0, w_cs, line, w_asg, w_asgT, w_aug, w_setI, w_app, w_ins, w_ext, w_expr, w_ret, w_retN, w_if, w_forE, w_whil, w_brk, w_cont, w_pass, w_ss0, w_ss, fw_nx, fw_brk, fw_cont, fw_ret, nn_none, nn_int, nn_bl, nn_str, nn_tup, nn_lst, ol_lst, op_some, op_none, op_ite, ob_bl, oi_int, sl_pu, sl_ow, al_ow, al_obj, so_lst, opdV, retV, endQ, letgo, ite_self, ixN_3_0, ixN_3_1, ixN_3_2, atI_0, atI_1, atI_2, atI_3, List.getElem?_cons_zero, List.getElem?_cons_succ, List.set_cons_zero, List.set_cons_succ, List.length_cons, List.length_nil, List.length_map, Option.bind_some, Option.map_some, Nat.zero_add, Nat.reduceAdd, Nat.reduceLT, Nat.reduceLeDiff, Nat.zero_le, if_false, if_true, Bool.false_eq_true, Bool.true_eq_false, Bool.not_true, Bool.not_false, reduceCtorEq, true_and, and_true, forall_const, false_and, and_false, false_implies, not_false_eq_true, not_true_eq_false, decide_eq_true_eq, decide_eq_false_iff_not, isi_none_int, isi_none_bool, isi_none_str, isi_none_tuple, isi_none_list, isi_none_list_tuple, isi_none_tuple_list, isi_bl_int, isi_bl_bool, isi_bl_str, isi_bl_tuple, isi_bl_list, isi_bl_list_tuple, isi_bl_tuple_list, isi_int_int, isi_int_bool, isi_int_str, isi_int_tuple, isi_int_list, isi_int_list_tuple, isi_int_tuple_list, isi_str_int, isi_str_bool, isi_str_str, isi_str_tuple, isi_str_list, isi_str_list_tuple, isi_str_tuple_list, isi_tup_int, isi_tup_bool, isi_tup_str, isi_tup_tuple, isi_tup_list, isi_tup_list_tuple, isi_tup_tuple_list, isi_lst_int, isi_lst_bool, isi_lst_str, isi_lst_tuple, isi_lst_list, isi_lst_list_tuple, isi_lst_tuple_list, cmp_eq_ii, cmp_ne_ii, cmp_eq_bb, cmp_ne_bb, cmp_lt, cmp_le, cmp_gt, cmp_ge, cmp_ni_ii, bltD, on1, lenD, seqD]
      case' refine_1 => refine ⟨fun hf => ?_, fun hf => ?_⟩
      case refine_1.refine_1 =>
        refine draw_spec T1 (by omega) (log_small (by omega)) fun g st2 g0 g1 T2 => ?_
        simp only [wp_bind, wp_pure, wp_bad, wp_getS, wp_asB, wp_slotOpd, wp_rdSlot, wp_rdVar, wp_rdRet, wp_resV, wp_resS, wp_ress0, wp_ress, wp_setR, wp_setρ, wp_call, wp_setAt, wp_opd, wp_dat, wp_shr, wp_ownL, wp_popAt, wp_popLast, wp_app, wp_ins, wp_bindTup, wp_bindTs0, wp_bindTs, wp_bindNm, wp_blk, w_var, w_con, w_tup, w_lst, w_shr, w_bin, w_cmp, w_idx, w_cmp2, w_and2, w_or2, w_not1, w_ife, w_sli, w_call, w_blt, w_isi, w_lc, w_popk, w_popl, w_isN, w_neg, Z.w_rev, w_part0, w_part1, w_ds0, w_ds, w_os0, w_os, w_cs0, w_cs, line, w_asg, w_asgT, w_aug, w_setI, w_app, w_ins, w_ext, w_expr, w_ret, w_retN, w_if, w_forE, w_whil, w_brk, w_cont, w_pass, w_ss0, w_ss, fw_nx, fw_brk, fw_cont, fw_ret, nn_none, nn_int, nn_bl, nn_str, nn_tup, nn_lst, ol_lst, op_some, op_none, op_ite, ob_bl, oi_int, sl_pu, sl_ow, al_ow, al_obj, so_lst, opdV, retV, endQ, letgo, ite_self, ixN_3_0, ixN_3_1, ixN_3_2, atI_0, atI_1, atI_2, atI_3, List.getElem?_cons_zero, List.getElem?_cons_succ, List.set_cons_zero, List.set_cons_succ, List.length_cons, List.length_nil, List.length_map, Option.bind_some, Option.map_some, Nat.zero_add, Nat.reduceAdd, Nat.reduceLT, Nat.reduceLeDiff, Nat.zero_le, if_false, if_true, Bool.false_eq_true, Bool.true_eq_false, Bool.not_true, Bool.not_false, reduceCtorEq, true_and, and_true, forall_const, false_and, and_false, false_implies, not_false_eq_true, not_true_eq_false, decide_eq_true_eq, decide_eq_false_iff_not, isi_none_int, isi_none_bool, isi_none_str, isi_none_tuple, isi_none_list, isi_none_list_tuple, isi_none_tuple_list, isi_bl_int, isi_bl_bool, isi_bl_str, isi_bl_tuple, isi_bl_list, isi_bl_list_tuple, isi_bl_tuple_list, isi_int_int, isi_int_bool, isi_int_str, isi_int_tuple, isi_int_list, isi_int_list_tuple, isi_int_tuple_list, isi_str_int, isi_str_bool, isi_str_str, isi_str_tuple, isi_str_list, isi_str_list_tuple, isi_str_tuple_list, isi_tup_int, isi_tup_bool, isi_tup_str, isi_tup_tuple, isi_tup_list, isi_tup_list_tuple, isi_tup_tuple_list, isi_lst_int, isi_lst_bool, isi_lst_str, isi_lst_tuple, isi_lst_list, isi_lst_list_tuple, isi_lst_tuple_list, cmp_eq_ii, cmp_ne_ii, cmp_eq_bb, cmp_ne_bb, cmp_lt, cmp_le, cmp_gt, cmp_ge, cmp_ni_ii, bltD, on1, lenD, seqD, listD]
        refine draw_spec T2 (by decide) (by decide) fun way st3 w0 w1 T3 => ?_
        simp only [wp_bind, wp_pure, wp_bad, wp_getS, wp_asB, wp_slotOpd, wp_rdSlot, wp_rdVar, wp_rdRet, wp_resV, wp_resS, wp_ress0, wp_ress, wp_setR, wp_setρ, wp_call, wp_setAt, wp_opd, wp_dat, wp_shr, wp_ownL, wp_popAt, wp_popLast, wp_app, wp_ins, wp_bindTup, wp_bindTs0, wp_bindTs, wp_bindNm, wp_blk, w_var, w_con, w_tup, w_lst, w_shr, w_bin, w_cmp, w_idx, w_cmp2, w_and2, w_or2, w_not1, w_ife, w_sli, w_call, w_blt, w_isi, w_lc, w_popk, w_popl, w_isN, w_neg, Z.w_rev, w_part0, w_part1, w_ds0, w_ds, w_os0, w_os, w_cs0, w_cs, line, w_asg, w_asgT, w_aug, w_setI, w_app, w_ins, w_ext, w_expr, w_ret, w_retN, w_if, w_forE, w_whil, w_brk, w_cont, w_pass, w_ss0, w_ss, fw_nx, fw_brk, fw_cont, fw_ret, nn_none, nn_int, nn_bl, nn_str, nn_tup, nn_lst, ol_lst, op_some, op_none, op_ite, ob_bl, oi_int, sl_pu, sl_ow, al_ow, al_obj, so_lst, opdV, retV, endQ, letgo, ite_self, ixN_3_0, ixN_3_1, ixN_3_2, atI_0, atI_1, atI_2, atI_3, List.getElem?_cons_zero, List.getElem?_cons_succ, List.set_cons_zero, List.set_cons_succ, List.length_cons, List.length_nil, List.length_map, Option.bind_some, Option.map_some, Nat.zero_add, Nat.reduceAdd, Nat.reduceLT, Nat.reduceLeDiff, Nat.zero_le, if_false, if_true, Bool.false_eq_true, Bool.true_eq_false, Bool.not_true, Bool.not_false, reduceCtorEq, true_and, and_true, forall_const, false_and, and_false, false_implies, not_false_eq_true, not_true_eq_false, decide_eq_true_eq, decide_eq_false_iff_not, isi_none_int, isi_none_bool, isi_none_str, isi_none_tuple, isi_none_list, isi_none_list_tuple, isi_none_tuple_list, isi_bl_int, isi_bl_bool, isi_bl_str, isi_bl_tuple, isi_bl_list, isi_bl_list_tuple, isi_bl_tuple_list, isi_int_int, isi_int_bool, isi_int_str, isi_int_tuple, isi_int_list, isi_int_list_tuple, isi_int_tuple_list, isi_str_int, isi_str_bool, isi_str_str, isi_str_tuple, isi_str_list, isi_str_list_tuple, isi_str_tuple_list, isi_tup_int, isi_tup_bool, isi_tup_str, isi_tup_tuple, isi_tup_list, isi_tup_list_tuple, isi_tup_tuple_list, isi_lst_int, isi_lst_bool, isi_lst_str, isi_lst_tuple, isi_lst_list, isi_lst_list_tuple, isi_lst_tuple_list, cmp_eq_ii, cmp_ne_ii, cmp_eq_bb, cmp_ne_bb, cmp_lt, cmp_le, cmp_gt, cmp_ge, cmp_ni_ii, bltD, on1, lenD, seqD, listD]
        have kp : 1 ≤ k := by
          cases k with
          | zero =>
            cases ds with
            | nil => exact absurd hl0 (by decide)
            | cons x xs => exact (show False by have := hx x (by simp); unfold Fine at this; exact this).elim
          | succ k => omega
        refine ⟨fun h6 => ?_, fun h6 => ⟨fun e6 => ?_, fun e6 => ⟨fun e7 => ?_, fun e7 => ⟨fun e8 => ?_, fun e8 => ?_⟩⟩⟩⟩
        · try simp only [wp_bind, wp_pure, wp_bad, wp_getS, wp_asB, wp_slotOpd, wp_rdSlot, wp_rdVar, wp_rdRet, wp_resV, wp_resS, wp_ress0, wp_ress, wp_setR, wp_setρ, wp_call, wp_setAt, wp_opd, wp_dat, wp_shr, wp_ownL, wp_popAt, wp_popLast, wp_app, wp_ins, wp_bindTup, wp_bindTs0, wp_bindTs, wp_bindNm, wp_blk, w_var, w_con, w_tup, w_lst, w_shr, w_bin, w_cmp, w_idx, w_cmp2, w_and2, w_or2, w_not1, w_ife, w_sli, w_call, w_blt, w_isi, w_lc, w_popk, w_popl, w_isN, w_neg, Z.w_rev, w_part0, w_part1, w_ds0, w_ds, w_os0, w_os, w_cs0, w_cs, line, w_asg, w_asgT, w_aug, w_setI, w_app, w_ins, w_ext, w_expr, w_ret, w_retN, w_if, w_forE, w_whil, w_brk, w_cont, w_pass, w_ss0, w_ss, fw_nx, fw_brk, fw_cont, fw_ret, nn_none, nn_int, nn_bl, nn_str, nn_tup, nn_lst, ol_lst, op_some, op_none, op_ite, ob_bl, oi_int, sl_pu, sl_ow, al_ow, al_obj, so_lst, opdV, retV, endQ, letgo, ite_self, ixN_3_0, ixN_3_1, ixN_3_2, atI_0, atI_1, atI_2, atI_3, List.getElem?_cons_zero, List.getElem?_cons_succ, List.set_cons_zero, List.set_cons_succ, List.length_cons, List.length_nil, List.length_map, Option.bind_some, Option.map_some, Nat.zero_add, Nat.reduceAdd, Nat.reduceLT, Nat.reduceLeDiff, Nat.zero_le, if_false, if_true, Bool.false_eq_true, Bool.true_eq_false, Bool.not_true, Bool.not_false, reduceCtorEq, true_and, and_true, forall_const, false_and, and_false, false_implies, not_false_eq_true, not_true_eq_false, decide_eq_true_eq, decide_eq_false_iff_not, isi_none_int, isi_none_bool, isi_none_str, isi_none_tuple, isi_none_list, isi_none_list_tuple, isi_none_tuple_list, isi_bl_int, isi_bl_bool, isi_bl_str, isi_bl_tuple, isi_bl_list, isi_bl_list_tuple, isi_bl_tuple_list, isi_int_int, isi_int_bool, isi_int_str, isi_int_tuple, isi_int_list, isi_int_list_tuple, isi_int_tuple_list, isi_str_int, isi_str_bool, isi_str_str, isi_str_tuple, isi_str_list, isi_str_list_tuple, isi_str_tuple_list, isi_tup_int, isi_tup_bool, isi_tup_str, isi_tup_tuple, isi_tup_list, isi_tup_list_tuple, isi_tup_tuple_list, isi_lst_int, isi_lst_bool, isi_lst_str, isi_lst_tuple, isi_lst_list, isi_lst_list_tuple, isi_lst_tuple_list, cmp_eq_ii, cmp_ne_ii, cmp_eq_bb, cmp_ne_bb, cmp_lt, cmp_le, cmp_gt, cmp_ge, cmp_ni_ii, bltD, on1, lenD, seqD, listD, idxD]
          refine op_atI g0 (by omega) fun a ha => ?_
          simp only [wp_bind, wp_pure, wp_bad, wp_getS, wp_asB, wp_slotOpd, wp_rdSlot, wp_rdVar, wp_rdRet, wp_resV, wp_resS, wp_ress0, wp_ress, wp_setR, wp_setρ, wp_call, wp_setAt, wp_opd, wp_dat, wp_shr, wp_ownL, wp_popAt, wp_popLast, wp_app, wp_ins, wp_bindTup, wp_bindTs0, wp_bindTs, wp_bindNm, wp_blk, w_var, w_con, w_tup, w_lst, w_shr, w_bin, w_cmp, w_idx, w_cmp2, w_and2, w_or2, w_not1, w_ife, w_sli, w_call, w_blt, w_isi, w_lc, w_popk, w_popl, w_isN, w_neg, Z.w_rev, w_part0, w_part1, w_ds0, w_ds, w_os0, w_os, w_cs0, w_cs, line, w_asg, w_asgT, w_aug, w_setI, w_app, w_ins, w_ext, w_expr, w_ret, w_retN, w_if, w_forE, w_whil, w_brk, w_cont, w_pass, w_ss0, w_ss, fw_nx, fw_brk, fw_cont, fw_ret, nn_none, nn_int, nn_bl, nn_str, nn_tup, nn_lst, ol_lst, op_some, op_none, op_ite, ob_bl, oi_int, sl_pu, sl_ow, al_ow, al_obj, so_lst, opdV, retV, endQ, letgo, ite_self, ixN_3_0, ixN_3_1, ixN_3_2, atI_0, atI_1, atI_2, atI_3, List.getElem?_cons_zero, List.getElem?_cons_succ, List.set_cons_zero, List.set_cons_succ, List.length_cons, List.length_nil, List.length_map, Option.bind_some, Option.map_some, Nat.zero_add, Nat.reduceAdd, Nat.reduceLT, Nat.reduceLeDiff, Nat.zero_le, if_false, if_true, Bool.false_eq_true, Bool.true_eq_false, Bool.not_true, Bool.not_false, reduceCtorEq, true_and, and_true, forall_const, false_and, and_false, false_implies, not_false_eq_true, not_true_eq_false, decide_eq_true_eq, decide_eq_false_iff_not, isi_none_int, isi_none_bool, isi_none_str, isi_none_tuple, isi_none_list, isi_none_list_tuple, isi_none_tuple_list, isi_bl_int, isi_bl_bool, isi_bl_str, isi_bl_tuple, isi_bl_list, isi_bl_list_tuple, isi_bl_tuple_list, isi_int_int, isi_int_bool, isi_int_str, isi_int_tuple, isi_int_list, isi_int_list_tuple, isi_int_tuple_list, isi_str_int, isi_str_bool, isi_str_str, isi_str_tuple, isi_str_list, isi_str_list_tuple, isi_str_tuple_list, isi_tup_int, isi_tup_bool, isi_tup_str, isi_tup_tuple, isi_tup_list, isi_tup_list_tuple, isi_tup_tuple_list, isi_lst_int, isi_lst_bool, isi_lst_str, isi_lst_tuple, isi_lst_list, isi_lst_list_tuple, isi_lst_tuple_list, cmp_eq_ii, cmp_ne_ii, cmp_eq_bb, cmp_ne_bb, cmp_lt, cmp_le, cmp_gt, cmp_ge, cmp_ni_ii, bltD, on1, lenD, seqD, listD, idxD]
          refine spoilt_spec hL hL2 (hx a ha) T3 fun e b st4 he T4 => ?_
          simp only [wp_bind, wp_pure, wp_bad, wp_getS, wp_asB, wp_slotOpd, wp_rdSlot, wp_rdVar, wp_rdRet, wp_resV, wp_resS, wp_ress0, wp_ress, wp_setR, wp_setρ, wp_call, wp_setAt, wp_opd, wp_dat, wp_shr, wp_ownL, wp_popAt, wp_popLast, wp_app, wp_ins, wp_bindTup, wp_bindTs0, wp_bindTs, wp_bindNm, wp_blk, w_var, w_con, w_tup, w_lst, w_shr, w_bin, w_cmp, w_idx, w_cmp2, w_and2, w_or2, w_not1, w_ife, w_sli, w_call, w_blt, w_isi, w_lc, w_popk, w_popl, w_isN, w_neg, Z.w_rev, w_part0, w_part1, w_ds0, w_ds, w_os0, w_os, w_cs0, w_cs, line, w_asg, w_asgT, w_aug, w_setI, w_app, w_ins, w_ext, w_expr, w_ret, w_retN, w_if, w_forE, w_whil, w_brk, w_cont, w_pass, w_ss0, w_ss, fw_nx, fw_brk, fw_cont, fw_ret, nn_none, nn_int, nn_bl, nn_str, nn_tup, nn_lst, ol_lst, op_some, op_none, op_ite, ob_bl, oi_int, sl_pu, sl_ow, al_ow, al_obj, so_lst, opdV, retV, endQ, letgo, ite_self, ixN_3_0, ixN_3_1, ixN_3_2, atI_0, atI_1, atI_2, atI_3, List.getElem?_cons_zero, List.getElem?_cons_succ, List.set_cons_zero, List.set_cons_succ, List.length_cons, List.length_nil, List.length_map, Option.bind_some, Option.map_some, Nat.zero_add, Nat.reduceAdd, Nat.reduceLT, Nat.reduceLeDiff, Nat.zero_le, if_false, if_true, Bool.false_eq_true, Bool.true_eq_false, Bool.not_true, Bool.not_false, reduceCtorEq, true_and, and_true, forall_const, false_and, and_false, false_implies, not_false_eq_true, not_true_eq_false, decide_eq_true_eq, decide_eq_false_iff_not, isi_none_int, isi_none_bool, isi_none_str, isi_none_tuple, isi_none_list, isi_none_list_tuple, isi_none_tuple_list, isi_bl_int, isi_bl_bool, isi_bl_str, isi_bl_tuple, isi_bl_list, isi_bl_list_tuple, isi_bl_tuple_list, isi_int_int, isi_int_bool, isi_int_str, isi_int_tuple, isi_int_list, isi_int_list_tuple, isi_int_tuple_list, isi_str_int, isi_str_bool, isi_str_str, isi_str_tuple, isi_str_list, isi_str_list_tuple, isi_str_tuple_list, isi_tup_int, isi_tup_bool, isi_tup_str, isi_tup_tuple, isi_tup_list, isi_tup_list_tuple, isi_tup_tuple_list, isi_lst_int, isi_lst_bool, isi_lst_str, isi_lst_tuple, isi_lst_list, isi_lst_list_tuple, isi_lst_tuple_list, cmp_eq_ii, cmp_ne_ii, cmp_eq_bb, cmp_ne_bb, cmp_lt, cmp_le, cmp_gt, cmp_ge, cmp_ni_ii, bltD, on1, lenD, seqD, listD, idxD]
          rw [ixN_at g0 (by omega)]
          simp only [wp_bind, wp_pure, wp_bad, wp_getS, wp_asB, wp_slotOpd, wp_rdSlot, wp_rdVar, wp_rdRet, wp_resV, wp_resS, wp_ress0, wp_ress, wp_setR, wp_setρ, wp_call, wp_setAt, wp_opd, wp_dat, wp_shr, wp_ownL, wp_popAt, wp_popLast, wp_app, wp_ins, wp_bindTup, wp_bindTs0, wp_bindTs, wp_bindNm, wp_blk, w_var, w_con, w_tup, w_lst, w_shr, w_bin, w_cmp, w_idx, w_cmp2, w_and2, w_or2, w_not1, w_ife, w_sli, w_call, w_blt, w_isi, w_lc, w_popk, w_popl, w_isN, w_neg, Z.w_rev, w_part0, w_part1, w_ds0, w_ds, w_os0, w_os, w_cs0, w_cs, line, w_asg, w_asgT, w_aug, w_setI, w_app, w_ins, w_ext, w_expr, w_ret, w_retN, w_if, w_forE, w_whil, w_brk, w_cont, w_pass, w_ss0, w_ss, fw_nx, fw_brk, fw_cont, fw_ret, nn_none, nn_int, nn_bl, nn_str, nn_tup, nn_lst, ol_lst, op_some, op_none, op_ite, ob_bl, oi_int, sl_pu, sl_ow, al_ow, al_obj, so_lst, opdV, retV, endQ, letgo, ite_self, ixN_3_0, ixN_3_1, ixN_3_2, atI_0, atI_1, atI_2, atI_3, List.getElem?_cons_zero, List.getElem?_cons_succ, List.set_cons_zero, List.set_cons_succ, List.length_cons, List.length_nil, List.length_map, Option.bind_some, Option.map_some, Nat.zero_add, Nat.reduceAdd, Nat.reduceLT, Nat.reduceLeDiff, Nat.zero_le, if_false, if_true, Bool.false_eq_true, Bool.true_eq_false, Bool.not_true, Bool.not_false, reduceCtorEq, true_and, and_true, forall_const, false_and, and_false, false_implies, not_false_eq_true, not_true_eq_false, decide_eq_true_eq, decide_eq_false_iff_not, isi_none_int, isi_none_bool, isi_none_str, isi_none_tuple, isi_none_list, isi_none_list_tuple, isi_none_tuple_list, isi_bl_int, isi_bl_bool, isi_bl_str, isi_bl_tuple, isi_bl_list, isi_bl_list_tuple, isi_bl_tuple_list, isi_int_int, isi_int_bool, isi_int_str, isi_int_tuple, isi_int_list, isi_int_list_tuple, isi_int_tuple_list, isi_str_int, isi_str_bool, isi_str_str, isi_str_tuple, isi_str_list, isi_str_list_tuple, isi_str_tuple_list, isi_tup_int, isi_tup_bool, isi_tup_str, isi_tup_tuple, isi_tup_list, isi_tup_list_tuple, isi_tup_tuple_list, isi_lst_int, isi_lst_bool, isi_lst_str, isi_lst_tuple, isi_lst_list, isi_lst_list_tuple, isi_lst_tuple_list, cmp_eq_ii, cmp_ne_ii, cmp_eq_bb, cmp_ne_bb, cmp_lt, cmp_le, cmp_gt, cmp_ge, cmp_ni_ii, bltD, on1, lenD, seqD, listD, idxD, tupleD]
          exact fin _ _ _ (by rw [List.length_set]; omega) (fine_set up he _) T4
        · try simp only [wp_bind, wp_pure, wp_bad, wp_getS, wp_asB, wp_slotOpd, wp_rdSlot, wp_rdVar, wp_rdRet, wp_resV, wp_resS, wp_ress0, wp_ress, wp_setR, wp_setρ, wp_call, wp_setAt, wp_opd, wp_dat, wp_shr, wp_ownL, wp_popAt, wp_popLast, wp_app, wp_ins, wp_bindTup, wp_bindTs0, wp_bindTs, wp_bindNm, wp_blk, w_var, w_con, w_tup, w_lst, w_shr, w_bin, w_cmp, w_idx, w_cmp2, w_and2, w_or2, w_not1, w_ife, w_sli, w_call, w_blt, w_isi, w_lc, w_popk, w_popl, w_isN, w_neg, Z.w_rev, w_part0, w_part1, w_ds0, w_ds, w_os0, w_os, w_cs0, w_cs, line, w_asg, w_asgT, w_aug, w_setI, w_app, w_ins, w_ext, w_expr, w_ret, w_retN, w_if, w_forE, w_whil, w_brk, w_cont, w_pass, w_ss0, w_ss, fw_nx, fw_brk, fw_cont, fw_ret, nn_none, nn_int, nn_bl, nn_str, nn_tup, nn_lst, ol_lst, op_some, op_none, op_ite, ob_bl, oi_int, sl_pu, sl_ow, al_ow, al_obj, so_lst, opdV, retV, endQ, letgo, ite_self, ixN_3_0, ixN_3_1, ixN_3_2, atI_0, atI_1, atI_2, atI_3, List.getElem?_cons_zero, List.getElem?_cons_succ, List.set_cons_zero, List.set_cons_succ, List.length_cons, List.length_nil, List.length_map, Option.bind_some, Option.map_some, Nat.zero_add, Nat.reduceAdd, Nat.reduceLT, Nat.reduceLeDiff, Nat.zero_le, if_false, if_true, Bool.false_eq_true, Bool.true_eq_false, Bool.not_true, Bool.not_false, reduceCtorEq, true_and, and_true, forall_const, false_and, and_false, false_implies, not_false_eq_true, not_true_eq_false, decide_eq_true_eq, decide_eq_false_iff_not, isi_none_int, isi_none_bool, isi_none_str, isi_none_tuple, isi_none_list, isi_none_list_tuple, isi_none_tuple_list, isi_bl_int, isi_bl_bool, isi_bl_str, isi_bl_tuple, isi_bl_list, isi_bl_list_tuple, isi_bl_tuple_list, isi_int_int, isi_int_bool, isi_int_str, isi_int_tuple, isi_int_list, isi_int_list_tuple, isi_int_tuple_list, isi_str_int, isi_str_bool, isi_str_str, isi_str_tuple, isi_str_list, isi_str_list_tuple, isi_str_tuple_list, isi_tup_int, isi_tup_bool, isi_tup_str, isi_tup_tuple, isi_tup_list, isi_tup_list_tuple, isi_tup_tuple_list, isi_lst_int, isi_lst_bool, isi_lst_str, isi_lst_tuple, isi_lst_list, isi_lst_list_tuple, isi_lst_tuple_list, cmp_eq_ii, cmp_ne_ii, cmp_eq_bb, cmp_ne_bb, cmp_lt, cmp_le, cmp_gt, cmp_ge, cmp_ni_ii, ixP, if_pos (show -(2 ^ 63) ≤ g ∧ g < 2 ^ 63 by omega), ixN_at g0 g1]
          refine op_get (fun a ha => ?_) (by omega)
          simp only [wp_bind, wp_pure, wp_bad, wp_getS, wp_asB, wp_slotOpd, wp_rdSlot, wp_rdVar, wp_rdRet, wp_resV, wp_resS, wp_ress0, wp_ress, wp_setR, wp_setρ, wp_call, wp_setAt, wp_opd, wp_dat, wp_shr, wp_ownL, wp_popAt, wp_popLast, wp_app, wp_ins, wp_bindTup, wp_bindTs0, wp_bindTs, wp_bindNm, wp_blk, w_var, w_con, w_tup, w_lst, w_shr, w_bin, w_cmp, w_idx, w_cmp2, w_and2, w_or2, w_not1, w_ife, w_sli, w_call, w_blt, w_isi, w_lc, w_popk, w_popl, w_isN, w_neg, Z.w_rev, w_part0, w_part1, w_ds0, w_ds, w_os0, w_os, w_cs0, w_cs, line, w_asg, w_asgT, w_aug, w_setI, w_app, w_ins, w_ext, w_expr, w_ret, w_retN, w_if, w_forE, w_whil, w_brk, w_cont, w_pass, w_ss0, w_ss, fw_nx, fw_brk, fw_cont, fw_ret, nn_none, nn_int, nn_bl, nn_str, nn_tup, nn_lst, ol_lst, op_some, op_none, op_ite, ob_bl, oi_int, sl_pu, sl_ow, al_ow, al_obj, so_lst, opdV, retV, endQ, letgo, ite_self, ixN_3_0, ixN_3_1, ixN_3_2, atI_0, atI_1, atI_2, atI_3, List.getElem?_cons_zero, List.getElem?_cons_succ, List.set_cons_zero, List.set_cons_succ, List.length_cons, List.length_nil, List.length_map, Option.bind_some, Option.map_some, Nat.zero_add, Nat.reduceAdd, Nat.reduceLT, Nat.reduceLeDiff, Nat.zero_le, if_false, if_true, Bool.false_eq_true, Bool.true_eq_false, Bool.not_true, Bool.not_false, reduceCtorEq, true_and, and_true, forall_const, false_and, and_false, false_implies, not_false_eq_true, not_true_eq_false, decide_eq_true_eq, decide_eq_false_iff_not, isi_none_int, isi_none_bool, isi_none_str, isi_none_tuple, isi_none_list, isi_none_list_tuple, isi_none_tuple_list, isi_bl_int, isi_bl_bool, isi_bl_str, isi_bl_tuple, isi_bl_list, isi_bl_list_tuple, isi_bl_tuple_list, isi_int_int, isi_int_bool, isi_int_str, isi_int_tuple, isi_int_list, isi_int_list_tuple, isi_int_tuple_list, isi_str_int, isi_str_bool, isi_str_str, isi_str_tuple, isi_str_list, isi_str_list_tuple, isi_str_tuple_list, isi_tup_int, isi_tup_bool, isi_tup_str, isi_tup_tuple, isi_tup_list, isi_tup_list_tuple, isi_tup_tuple_list, isi_lst_int, isi_lst_bool, isi_lst_str, isi_lst_tuple, isi_lst_list, isi_lst_list_tuple, isi_lst_tuple_list, cmp_eq_ii, cmp_ne_ii, cmp_eq_bb, cmp_ne_bb, cmp_lt, cmp_le, cmp_gt, cmp_ge, cmp_ni_ii, bltD, on1, tupleD]
          exact fin _ _ _ (by rw [List.length_eraseIdx]; split <;> omega) (fine_erase up _) T3
        · try simp only [wp_bind, wp_pure, wp_bad, wp_getS, wp_asB, wp_slotOpd, wp_rdSlot, wp_rdVar, wp_rdRet, wp_resV, wp_resS, wp_ress0, wp_ress, wp_setR, wp_setρ, wp_call, wp_setAt, wp_opd, wp_dat, wp_shr, wp_ownL, wp_popAt, wp_popLast, wp_app, wp_ins, wp_bindTup, wp_bindTs0, wp_bindTs, wp_bindNm, wp_blk, w_var, w_con, w_tup, w_lst, w_shr, w_bin, w_cmp, w_idx, w_cmp2, w_and2, w_or2, w_not1, w_ife, w_sli, w_call, w_blt, w_isi, w_lc, w_popk, w_popl, w_isN, w_neg, Z.w_rev, w_part0, w_part1, w_ds0, w_ds, w_os0, w_os, w_cs0, w_cs, line, w_asg, w_asgT, w_aug, w_setI, w_app, w_ins, w_ext, w_expr, w_ret, w_retN, w_if, w_forE, w_whil, w_brk, w_cont, w_pass, w_ss0, w_ss, fw_nx, fw_brk, fw_cont, fw_ret, nn_none, nn_int, nn_bl, nn_str, nn_tup, nn_lst, ol_lst, op_some, op_none, op_ite, ob_bl, oi_int, sl_pu, sl_ow, al_ow, al_obj, so_lst, opdV, retV, endQ, letgo, ite_self, ixN_3_0, ixN_3_1, ixN_3_2, atI_0, atI_1, atI_2, atI_3, List.getElem?_cons_zero, List.getElem?_cons_succ, List.set_cons_zero, List.set_cons_succ, List.length_cons, List.length_nil, List.length_map, Option.bind_some, Option.map_some, Nat.zero_add, Nat.reduceAdd, Nat.reduceLT, Nat.reduceLeDiff, Nat.zero_le, if_false, if_true, Bool.false_eq_true, Bool.true_eq_false, Bool.not_true, Bool.not_false, reduceCtorEq, true_and, and_true, forall_const, false_and, and_false, false_implies, not_false_eq_true, not_true_eq_false, decide_eq_true_eq, decide_eq_false_iff_not, isi_none_int, isi_none_bool, isi_none_str, isi_none_tuple, isi_none_list, isi_none_list_tuple, isi_none_tuple_list, isi_bl_int, isi_bl_bool, isi_bl_str, isi_bl_tuple, isi_bl_list, isi_bl_list_tuple, isi_bl_tuple_list, isi_int_int, isi_int_bool, isi_int_str, isi_int_tuple, isi_int_list, isi_int_list_tuple, isi_int_tuple_list, isi_str_int, isi_str_bool, isi_str_str, isi_str_tuple, isi_str_list, isi_str_list_tuple, isi_str_tuple_list, isi_tup_int, isi_tup_bool, isi_tup_str, isi_tup_tuple, isi_tup_list, isi_tup_list_tuple, isi_tup_tuple_list, isi_lst_int, isi_lst_bool, isi_lst_str, isi_lst_tuple, isi_lst_list, isi_lst_list_tuple, isi_lst_tuple_list, cmp_eq_ii, cmp_ne_ii, cmp_eq_bb, cmp_ne_bb, cmp_lt, cmp_le, cmp_gt, cmp_ge, cmp_ni_ii, bltD, on1, lenD, seqD, listD]
          refine draw_spec T3 (by omega) (log_small (by omega)) fun q st4 q0 q1 T4 => ?_
          simp only [wp_bind, wp_pure, wp_bad, wp_getS, wp_asB, wp_slotOpd, wp_rdSlot, wp_rdVar, wp_rdRet, wp_resV, wp_resS, wp_ress0, wp_ress, wp_setR, wp_setρ, wp_call, wp_setAt, wp_opd, wp_dat, wp_shr, wp_ownL, wp_popAt, wp_popLast, wp_app, wp_ins, wp_bindTup, wp_bindTs0, wp_bindTs, wp_bindNm, wp_blk, w_var, w_con, w_tup, w_lst, w_shr, w_bin, w_cmp, w_idx, w_cmp2, w_and2, w_or2, w_not1, w_ife, w_sli, w_call, w_blt, w_isi, w_lc, w_popk, w_popl, w_isN, w_neg, Z.w_rev, w_part0, w_part1, w_ds0, w_ds, w_os0, w_os, w_cs0, w_cs, line, w_asg, w_asgT, w_aug, w_setI, w_app, w_ins, w_ext, w_expr, w_ret, w_retN, w_if, w_forE, w_whil, w_brk, w_cont, w_pass, w_ss0, w_ss, fw_nx, fw_brk, fw_cont, fw_ret, nn_none, nn_int, nn_bl, nn_str, nn_tup, nn_lst, ol_lst, op_some, op_none, op_ite, ob_bl, oi_int, sl_pu, sl_ow, al_ow, al_obj, so_lst, opdV, retV, endQ, letgo, ite_self, ixN_3_0, ixN_3_1, ixN_3_2, atI_0, atI_1, atI_2, atI_3, List.getElem?_cons_zero, List.getElem?_cons_succ, List.set_cons_zero, List.set_cons_succ, List.length_cons, List.length_nil, List.length_map, Option.bind_some, Option.map_some, Nat.zero_add, Nat.reduceAdd, Nat.reduceLT, Nat.reduceLeDiff, Nat.zero_le, if_false, if_true, Bool.false_eq_true, Bool.true_eq_false, Bool.not_true, Bool.not_false, reduceCtorEq, true_and, and_true, forall_const, false_and, and_false, false_implies, not_false_eq_true, not_true_eq_false, decide_eq_true_eq, decide_eq_false_iff_not, isi_none_int, isi_none_bool, isi_none_str, isi_none_tuple, isi_none_list, isi_none_list_tuple, isi_none_tuple_list, isi_bl_int, isi_bl_bool, isi_bl_str, isi_bl_tuple, isi_bl_list, isi_bl_list_tuple, isi_bl_tuple_list, isi_int_int, isi_int_bool, isi_int_str, isi_int_tuple, isi_int_list, isi_int_list_tuple, isi_int_tuple_list, isi_str_int, isi_str_bool, isi_str_str, isi_str_tuple, isi_str_list, isi_str_list_tuple, isi_str_tuple_list, isi_tup_int, isi_tup_bool, isi_tup_str, isi_tup_tuple, isi_tup_list, isi_tup_list_tuple, isi_tup_tuple_list, isi_lst_int, isi_lst_bool, isi_lst_str, isi_lst_tuple, isi_lst_list, isi_lst_list_tuple, isi_lst_tuple_list, cmp_eq_ii, cmp_ne_ii, cmp_eq_bb, cmp_ne_bb, cmp_lt, cmp_le, cmp_gt, cmp_ge, cmp_ni_ii, bltD, on1, lenD, seqD, listD, idxD]
          refine op_atI q0 (by omega) fun a ha => ?_
          simp only [wp_bind, wp_pure, wp_bad, wp_getS, wp_asB, wp_slotOpd, wp_rdSlot, wp_rdVar, wp_rdRet, wp_resV, wp_resS, wp_ress0, wp_ress, wp_setR, wp_setρ, wp_call, wp_setAt, wp_opd, wp_dat, wp_shr, wp_ownL, wp_popAt, wp_popLast, wp_app, wp_ins, wp_bindTup, wp_bindTs0, wp_bindTs, wp_bindNm, wp_blk, w_var, w_con, w_tup, w_lst, w_shr, w_bin, w_cmp, w_idx, w_cmp2, w_and2, w_or2, w_not1, w_ife, w_sli, w_call, w_blt, w_isi, w_lc, w_popk, w_popl, w_isN, w_neg, Z.w_rev, w_part0, w_part1, w_ds0, w_ds, w_os0, w_os, w_cs0, w_cs, line, w_asg, w_asgT, w_aug, w_setI, w_app, w_ins, w_ext, w_expr, w_ret, w_retN, w_if, w_forE, w_whil, w_brk, w_cont, w_pass, w_ss0, w_ss, fw_nx, fw_brk, fw_cont, fw_ret, nn_none, nn_int, nn_bl, nn_str, nn_tup, nn_lst, ol_lst, op_some, op_none, op_ite, ob_bl, oi_int, sl_pu, sl_ow, al_ow, al_obj, so_lst, opdV, retV, endQ, letgo, ite_self, ixN_3_0, ixN_3_1, ixN_3_2, atI_0, atI_1, atI_2, atI_3, List.getElem?_cons_zero, List.getElem?_cons_succ, List.set_cons_zero, List.set_cons_succ, List.length_cons, List.length_nil, List.length_map, Option.bind_some, Option.map_some, Nat.zero_add, Nat.reduceAdd, Nat.reduceLT, Nat.reduceLeDiff, Nat.zero_le, if_false, if_true, Bool.false_eq_true, Bool.true_eq_false, Bool.not_true, Bool.not_false, reduceCtorEq, true_and, and_true, forall_const, false_and, and_false, false_implies, not_false_eq_true, not_true_eq_false, decide_eq_true_eq, decide_eq_false_iff_not, isi_none_int, isi_none_bool, isi_none_str, isi_none_tuple, isi_none_list, isi_none_list_tuple, isi_none_tuple_list, isi_bl_int, isi_bl_bool, isi_bl_str, isi_bl_tuple, isi_bl_list, isi_bl_list_tuple, isi_bl_tuple_list, isi_int_int, isi_int_bool, isi_int_str, isi_int_tuple, isi_int_list, isi_int_list_tuple, isi_int_tuple_list, isi_str_int, isi_str_bool, isi_str_str, isi_str_tuple, isi_str_list, isi_str_list_tuple, isi_str_tuple_list, isi_tup_int, isi_tup_bool, isi_tup_str, isi_tup_tuple, isi_tup_list, isi_tup_list_tuple, isi_tup_tuple_list, isi_lst_int, isi_lst_bool, isi_lst_str, isi_lst_tuple, isi_lst_list, isi_lst_list_tuple, isi_lst_tuple_list, cmp_eq_ii, cmp_ne_ii, cmp_eq_bb, cmp_ne_bb, cmp_lt, cmp_le, cmp_gt, cmp_ge, cmp_ni_ii, bltD, on1, lenD, seqD, listD, idxD, tupleD]
          exact ⟨⟨by omega, g0, by omega⟩, fin _ _ _ (by rw [len_ins]; omega) (fine_ins up (up a ha) _) T4⟩
        · try simp only [wp_bind, wp_pure, wp_bad, wp_getS, wp_asB, wp_slotOpd, wp_rdSlot, wp_rdVar, wp_rdRet, wp_resV, wp_resS, wp_ress0, wp_ress, wp_setR, wp_setρ, wp_call, wp_setAt, wp_opd, wp_dat, wp_shr, wp_ownL, wp_popAt, wp_popLast, wp_app, wp_ins, wp_bindTup, wp_bindTs0, wp_bindTs, wp_bindNm, wp_blk, w_var, w_con, w_tup, w_lst, w_shr, w_bin, w_cmp, w_idx, w_cmp2, w_and2, w_or2, w_not1, w_ife, w_sli, w_call, w_blt, w_isi, w_lc, w_popk, w_popl, w_isN, w_neg, Z.w_rev, w_part0, w_part1, w_ds0, w_ds, w_os0, w_os, w_cs0, w_cs, line, w_asg, w_asgT, w_aug, w_setI, w_app, w_ins, w_ext, w_expr, w_ret, w_retN, w_if, w_forE, w_whil, w_brk, w_cont, w_pass, w_ss0, w_ss, fw_nx, fw_brk, fw_cont, fw_ret, nn_none, nn_int, nn_bl, nn_str, nn_tup, nn_lst, ol_lst, op_some, op_none, op_ite, ob_bl, oi_int, sl_pu, sl_ow, al_ow, al_obj, so_lst, opdV, retV, endQ, letgo, ite_self, ixN_3_0, ixN_3_1, ixN_3_2, atI_0, atI_1, atI_2, atI_3, List.getElem?_cons_zero, List.getElem?_cons_succ, List.set_cons_zero, List.set_cons_succ, List.length_cons, List.length_nil, List.length_map, Option.bind_some, Option.map_some, Nat.zero_add, Nat.reduceAdd, Nat.reduceLT, Nat.reduceLeDiff, Nat.zero_le, if_false, if_true, Bool.false_eq_true, Bool.true_eq_false, Bool.not_true, Bool.not_false, reduceCtorEq, true_and, and_true, forall_const, false_and, and_false, false_implies, not_false_eq_true, not_true_eq_false, decide_eq_true_eq, decide_eq_false_iff_not, isi_none_int, isi_none_bool, isi_none_str, isi_none_tuple, isi_none_list, isi_none_list_tuple, isi_none_tuple_list, isi_bl_int, isi_bl_bool, isi_bl_str, isi_bl_tuple, isi_bl_list, isi_bl_list_tuple, isi_bl_tuple_list, isi_int_int, isi_int_bool, isi_int_str, isi_int_tuple, isi_int_list, isi_int_list_tuple, isi_int_tuple_list, isi_str_int, isi_str_bool, isi_str_str, isi_str_tuple, isi_str_list, isi_str_list_tuple, isi_str_tuple_list, isi_tup_int, isi_tup_bool, isi_tup_str, isi_tup_tuple, isi_tup_list, isi_tup_list_tuple, isi_tup_tuple_list, isi_lst_int, isi_lst_bool, isi_lst_str, isi_lst_tuple, isi_lst_list, isi_lst_list_tuple, isi_lst_tuple_list, cmp_eq_ii, cmp_ne_ii, cmp_eq_bb, cmp_ne_bb, cmp_lt, cmp_le, cmp_gt, cmp_ge, cmp_ni_ii, bltD, on1, lenD, seqD, listD, idxD, tupleD]
          exact fin _ _ _ (by rw [List.length_reverse]; omega) (fun x hx' => up x (List.mem_reverse.mp hx')) T3
        · try simp only [wp_bind, wp_pure, wp_bad, wp_getS, wp_asB, wp_slotOpd, wp_rdSlot, wp_rdVar, wp_rdRet, wp_resV, wp_resS, wp_ress0, wp_ress, wp_setR, wp_setρ, wp_call, wp_setAt, wp_opd, wp_dat, wp_shr, wp_ownL, wp_popAt, wp_popLast, wp_app, wp_ins, wp_bindTup, wp_bindTs0, wp_bindTs, wp_bindNm, wp_blk, w_var, w_con, w_tup, w_lst, w_shr, w_bin, w_cmp, w_idx, w_cmp2, w_and2, w_or2, w_not1, w_ife, w_sli, w_call, w_blt, w_isi, w_lc, w_popk, w_popl, w_isN, w_neg, Z.w_rev, w_part0, w_part1, w_ds0, w_ds, w_os0, w_os, w_cs0, w_cs, line, w_asg, w_asgT, w_aug, w_setI, w_app, w_ins, w_ext, w_expr, w_ret, w_retN, w_if, w_forE, w_whil, w_brk, w_cont, w_pass, w_ss0, w_ss, fw_nx, fw_brk, fw_cont, fw_ret, nn_none, nn_int, nn_bl, nn_str, nn_tup, nn_lst, ol_lst, op_some, op_none, op_ite, ob_bl, oi_int, sl_pu, sl_ow, al_ow, al_obj, so_lst, opdV, retV, endQ, letgo, ite_self, ixN_3_0, ixN_3_1, ixN_3_2, atI_0, atI_1, atI_2, atI_3, List.getElem?_cons_zero, List.getElem?_cons_succ, List.set_cons_zero, List.set_cons_succ, List.length_cons, List.length_nil, List.length_map, Option.bind_some, Option.map_some, Nat.zero_add, Nat.reduceAdd, Nat.reduceLT, Nat.reduceLeDiff, Nat.zero_le, if_false, if_true, Bool.false_eq_true, Bool.true_eq_false, Bool.not_true, Bool.not_false, reduceCtorEq, true_and, and_true, forall_const, false_and, and_false, false_implies, not_false_eq_true, not_true_eq_false, decide_eq_true_eq, decide_eq_false_iff_not, isi_none_int, isi_none_bool, isi_none_str, isi_none_tuple, isi_none_list, isi_none_list_tuple, isi_none_tuple_list, isi_bl_int, isi_bl_bool, isi_bl_str, isi_bl_tuple, isi_bl_list, isi_bl_list_tuple, isi_bl_tuple_list, isi_int_int, isi_int_bool, isi_int_str, isi_int_tuple, isi_int_list, isi_int_list_tuple, isi_int_tuple_list, isi_str_int, isi_str_bool, isi_str_str, isi_str_tuple, isi_str_list, isi_str_list_tuple, isi_str_tuple_list, isi_tup_int, isi_tup_bool, isi_tup_str, isi_tup_tuple, isi_tup_list, isi_tup_list_tuple, isi_tup_tuple_list, isi_lst_int, isi_lst_bool, isi_lst_str, isi_lst_tuple, isi_lst_list, isi_lst_list_tuple, isi_lst_tuple_list, cmp_eq_ii, cmp_ne_ii, cmp_eq_bb, cmp_ne_bb, cmp_lt, cmp_le, cmp_gt, cmp_ge, cmp_ni_ii, bltD, on1, lenD, seqD, listD, idxD]
          have e1 : n + k + 5 = (n + k + 2) + 1 + 2 := by omega
          show Rp (callF fns wf ((n + k + 2) + 1 + 2) 12 [.obj 1, .int ((1 : Nat) : Int)] st3) _
          refine any_spec T3 fun e st4 he T4 => ?_
          simp only [wp_bind, wp_pure, wp_bad, wp_getS, wp_asB, wp_slotOpd, wp_rdSlot, wp_rdVar, wp_rdRet, wp_resV, wp_resS, wp_ress0, wp_ress, wp_setR, wp_setρ, wp_call, wp_setAt, wp_opd, wp_dat, wp_shr, wp_ownL, wp_popAt, wp_popLast, wp_app, wp_ins, wp_bindTup, wp_bindTs0, wp_bindTs, wp_bindNm, wp_blk, w_var, w_con, w_tup, w_lst, w_shr, w_bin, w_cmp, w_idx, w_cmp2, w_and2, w_or2, w_not1, w_ife, w_sli, w_call, w_blt, w_isi, w_lc, w_popk, w_popl, w_isN, w_neg, Z.w_rev, w_part0, w_part1, w_ds0, w_ds, w_os0, w_os, w_cs0, w_cs, line, w_asg, w_asgT, w_aug, w_setI, w_app, w_ins, w_ext, w_expr, w_ret, w_retN, w_if, w_forE, w_whil, w_brk, w_cont, w_pass, w_ss0, w_ss, fw_nx, fw_brk, fw_cont, fw_ret, nn_none, nn_int, nn_bl, nn_str, nn_tup, nn_lst, ol_lst, op_some, op_none, op_ite, ob_bl, oi_int, sl_pu, sl_ow, al_ow, al_obj, so_lst, opdV, retV, endQ, letgo, ite_self, ixN_3_0, ixN_3_1, ixN_3_2, atI_0, atI_1, atI_2, atI_3, List.getElem?_cons_zero, List.getElem?_cons_succ, List.set_cons_zero, List.set_cons_succ, List.length_cons, List.length_nil, List.length_map, Option.bind_some, Option.map_some, Nat.zero_add, Nat.reduceAdd, Nat.reduceLT, Nat.reduceLeDiff, Nat.zero_le, if_false, if_true, Bool.false_eq_true, Bool.true_eq_false, Bool.not_true, Bool.not_false, reduceCtorEq, true_and, and_true, forall_const, false_and, and_false, false_implies, not_false_eq_true, not_true_eq_false, decide_eq_true_eq, decide_eq_false_iff_not, isi_none_int, isi_none_bool, isi_none_str, isi_none_tuple, isi_none_list, isi_none_list_tuple, isi_none_tuple_list, isi_bl_int, isi_bl_bool, isi_bl_str, isi_bl_tuple, isi_bl_list, isi_bl_list_tuple, isi_bl_tuple_list, isi_int_int, isi_int_bool, isi_int_str, isi_int_tuple, isi_int_list, isi_int_list_tuple, isi_int_tuple_list, isi_str_int, isi_str_bool, isi_str_str, isi_str_tuple, isi_str_list, isi_str_list_tuple, isi_str_tuple_list, isi_tup_int, isi_tup_bool, isi_tup_str, isi_tup_tuple, isi_tup_list, isi_tup_list_tuple, isi_tup_tuple_list, isi_lst_int, isi_lst_bool, isi_lst_str, isi_lst_tuple, isi_lst_list, isi_lst_list_tuple, isi_lst_tuple_list, cmp_eq_ii, cmp_ne_ii, cmp_eq_bb, cmp_ne_bb, cmp_lt, cmp_le, cmp_gt, cmp_ge, cmp_ni_ii, bltD, on1, lenD, seqD, listD, idxD, tupleD]
          exact ⟨⟨by omega, g0, by omega⟩, fin _ _ _ (by rw [len_ins]; omega) (fine_ins up (he.mono (by omega) (by omega)) _) T4⟩
      case' refine_1.refine_2 => have T := T1
      all_goals
        refine whole2_spec (fun b hb hb' => ?_) ⟨L, k + 1, hd⟩
        simp only [wp_bind, wp_pure, wp_bad, wp_getS, wp_asB, wp_slotOpd, wp_rdSlot, wp_rdVar, wp_rdRet, wp_resV, wp_resS, wp_ress0, wp_ress, wp_setR, wp_setρ, wp_call, wp_setAt, wp_opd, wp_dat, wp_shr, wp_ownL, wp_popAt, wp_popLast, wp_app, wp_ins, wp_bindTup, wp_bindTs0, wp_bindTs, wp_bindNm, wp_blk, w_var, w_con, w_tup, w_lst, w_shr, w_bin, w_cmp, w_idx, w_cmp2, w_and2, w_or2, w_not1, w_ife, w_sli, w_call, w_blt, w_isi, w_lc, w_popk, w_popl, w_isN, w_neg, Z.w_rev, w_part0, w_part1, w_ds0, w_ds, w_os0, w_os, w_cs0, w_cs, line, w_asg, w_asgT, w_aug, w_setI, w_app, w_ins, w_ext, w_expr, w_ret, w_retN, w_if, w_forE, w_whil, w_brk, w_cont, w_pass, w_ss0, w_ss, fw_nx, fw_brk, fw_cont, fw_ret, nn_none, nn_int, nn_bl, nn_str, nn_tup, nn_lst, ol_lst, op_some, op_none, op_ite, ob_bl, oi_int, sl_pu, sl_ow, al_ow, al_obj, so_lst, opdV, retV, endQ, letgo, ite_self, ixN_3_0, ixN_3_1, ixN_3_2, atI_0, atI_1, atI_2, atI_3, List.getElem?_cons_zero, List.getElem?_cons_succ, List.set_cons_zero, List.set_cons_succ, List.length_cons, List.length_nil, List.length_map, Option.bind_some, Option.map_some, Nat.zero_add, Nat.reduceAdd, Nat.reduceLT, Nat.reduceLeDiff, Nat.zero_le, if_false, if_true, Bool.false_eq_true, Bool.true_eq_false, Bool.not_true, Bool.not_false, reduceCtorEq, true_and, and_true, forall_const, false_and, and_false, false_implies, not_false_eq_true, not_true_eq_false, decide_eq_true_eq, decide_eq_false_iff_not, isi_none_int, isi_none_bool, isi_none_str, isi_none_tuple, isi_none_list, isi_none_list_tuple, isi_none_tuple_list, isi_bl_int, isi_bl_bool, isi_bl_str, isi_bl_tuple, isi_bl_list, isi_bl_list_tuple, isi_bl_tuple_list, isi_int_int, isi_int_bool, isi_int_str, isi_int_tuple, isi_int_list, isi_int_list_tuple, isi_int_tuple_list, isi_str_int, isi_str_bool, isi_str_str, isi_str_tuple, isi_str_list, isi_str_list_tuple, isi_str_tuple_list, isi_tup_int, isi_tup_bool, isi_tup_str, isi_tup_tuple, isi_tup_list, isi_tup_list_tuple, isi_tup_tuple_list, isi_lst_int, isi_lst_bool, isi_lst_str, isi_lst_tuple, isi_lst_list, isi_lst_list_tuple, isi_lst_tuple_list, cmp_eq_ii, cmp_ne_ii, cmp_eq_bb, cmp_ne_bb, cmp_lt, cmp_le, cmp_gt, cmp_ge, cmp_ni_ii]
        refine ⟨fun e => ?_, fun e => ?_⟩
        · obtain ⟨i, q⟩ := hb e; cases q
        · refine draw_spec T (by decide) (by decide) fun q st4 q0 q1 T4 => ?_
          simp only [wp_bind, wp_pure, wp_bad, wp_getS, wp_asB, wp_slotOpd, wp_rdSlot, wp_rdVar, wp_rdRet, wp_resV, wp_resS, wp_ress0, wp_ress, wp_setR, wp_setρ, wp_call, wp_setAt, wp_opd, wp_dat, wp_shr, wp_ownL, wp_popAt, wp_popLast, wp_app, wp_ins, wp_bindTup, wp_bindTs0, wp_bindTs, wp_bindNm, wp_blk, w_var, w_con, w_tup, w_lst, w_shr, w_bin, w_cmp, w_idx, w_cmp2, w_and2, w_or2, w_not1, w_ife, w_sli, w_call, w_blt, w_isi, w_lc, w_popk, w_popl, w_isN, w_neg, Z.w_rev, w_part0, w_part1, w_ds0, w_ds, w_os0, w_os, w_cs0, w_cs, line, w_asg, w_asgT, w_aug, w_setI, w_app, w_ins, w_ext, w_expr, w_ret, w_retN, w_if, w_forE, w_whil, w_brk, w_cont, w_pass, w_ss0, w_ss, fw_nx, fw_brk, fw_cont, fw_ret, nn_none, nn_int, nn_bl, nn_str, nn_tup, nn_lst, ol_lst, op_some, op_none, op_ite, ob_bl, oi_int, sl_pu, sl_ow, al_ow, al_obj, so_lst, opdV, retV, endQ, letgo, ite_self, ixN_3_0, ixN_3_1, ixN_3_2, atI_0, atI_1, atI_2, atI_3, List.getElem?_cons_zero, List.getElem?_cons_succ, List.set_cons_zero, List.set_cons_succ, List.length_cons, List.length_nil, List.length_map, Option.bind_some, Option.map_some, Nat.zero_add, Nat.reduceAdd, Nat.reduceLT, Nat.reduceLeDiff, Nat.zero_le, if_false, if_true, Bool.false_eq_true, Bool.true_eq_false, Bool.not_true, Bool.not_false, reduceCtorEq, true_and, and_true, forall_const, false_and, and_false, false_implies, not_false_eq_true, not_true_eq_false, decide_eq_true_eq, decide_eq_false_iff_not, isi_none_int, isi_none_bool, isi_none_str, isi_none_tuple, isi_none_list, isi_none_list_tuple, isi_none_tuple_list, isi_bl_int, isi_bl_bool, isi_bl_str, isi_bl_tuple, isi_bl_list, isi_bl_list_tuple, isi_bl_tuple_list, isi_int_int, isi_int_bool, isi_int_str, isi_int_tuple, isi_int_list, isi_int_list_tuple, isi_int_tuple_list, isi_str_int, isi_str_bool, isi_str_str, isi_str_tuple, isi_str_list, isi_str_list_tuple, isi_str_tuple_list, isi_tup_int, isi_tup_bool, isi_tup_str, isi_tup_tuple, isi_tup_list, isi_tup_list_tuple, isi_tup_tuple_list, isi_lst_int, isi_lst_bool, isi_lst_str, isi_lst_tuple, isi_lst_list, isi_lst_list_tuple, isi_lst_tuple_list, cmp_eq_ii, cmp_ne_ii, cmp_eq_bb, cmp_ne_bb, cmp_lt, cmp_le, cmp_gt, cmp_ge, cmp_ni_ii, bltD, on1, listD, tupleD]
          exact ⟨fun _ => h _ _ _ (Fine.lst (k := k + 3) (by omega) up) T4, fun _ => anyq _ T4⟩
    | lst ds =>
      have hf : ds.length ≤ L ∧ ∀ x ∈ ds, Fine L k x := by unfold Fine at hd; exact hd
      obtain ⟨hl, hx⟩ := hf
      have fin : ∀ (b : Bool) (es : List D) st', es.length ≤ L + 1 → (∀ x ∈ es, Fine (L + 1) (k + 3) x) → Tape st' → Q (.lst es, b) st' := fun b es st' h1 h2 T' => h _ _ _ (Fine.lst (k := k + 3) h1 h2) T'
      have up := fine_item hx (L' := L + 1) (k' := k + 3) (by omega) (by omega)
      simp only [wp_bind, wp_pure, wp_bad, wp_getS, wp_asB, wp_slotOpd, wp_rdSlot, wp_rdVar, wp_rdRet, wp_resV, wp_resS, wp_ress0, wp_ress, wp_setR, wp_setρ, wp_call, wp_setAt, wp_opd, wp_dat, wp_shr, wp_ownL, wp_popAt, wp_popLast, wp_app, wp_ins, wp_bindTup, wp_bindTs0, wp_bindTs, wp_bindNm, wp_blk, w_var, w_con, w_tup, w_lst, w_shr, w_bin, w_cmp, w_idx, w_cmp2, w_and2, w_or2, w_not1, w_ife, w_sli, w_call, w_blt, w_isi, w_lc, w_popk, w_popl, w_isN, w_neg, Z.w_rev, w_part0, w_part1, w_ds0, w_ds, w_os0, w_os, w_cs0, w_cs, line, w_asg, w_asgT, w_aug, w_setI, w_app, w_ins, w_ext, w_expr, w_ret, w_retN, w_if, w_forE, w_whil, w_brk, w_cont, w_pass, w_ss0, w_ss, fw_nx, fw_brk, fw_cont, fw_ret, nn_none, nn_int, nn_bl, nn_str, nn_tup, nn_lst, ol_lst, op_some, op_none, op_ite, ob_bl, oi_int, sl_pu, sl_ow, al_ow, al_obj, so_lst, opdV, retV, endQ, letgo, ite_self, ixN_3_0, ixN_3_1, ixN_3_2, atI_0, atI_1, atI_2, atI_3, List.getElem?_cons_zero, List.getElem?_cons_succ, List.set_cons_zero, List.set_cons_succ, List.length_cons, List.length_nil, List.length_map, Option.bind_some, Option.map_some, Nat.zero_add, Nat.reduceAdd, Nat.reduceLT, Nat.reduceLeDiff, Nat.zero_le, if_false, if_true, Bool.false_eq_true, Bool.true_eq_false, Bool.not_true, Bool.not_false, reduceCtorEq, true_and, and_true, forall_const, false_and, and_false, false_implies, not_false_eq_true, not_true_eq_false, decide_eq_true_eq, decide_eq_false_iff_not, isi_none_int, isi_none_bool, isi_none_str, isi_none_tuple, isi_none_list, isi_none_list_tuple, isi_none_tuple_list, isi_bl_int, isi_bl_bool, isi_bl_str, isi_bl_tuple, isi_bl_list, isi_bl_list_tuple, isi_bl_tuple_list, isi_int_int, isi_int_bool, isi_int_str, isi_int_tuple, isi_int_list, isi_int_list_tuple, isi_int_tuple_list, isi_str_int, isi_str_bool, isi_str_str, isi_str_tuple, isi_str_list, isi_str_list_tuple, isi_str_tuple_list, isi_tup_int, isi_tup_bool, isi_tup_str, isi_tup_tuple, isi_tup_list, isi_tup_list_tuple, isi_tup_tuple_list, isi_lst_int, isi_lst_bool, isi_lst_str, isi_lst_tuple, isi_lst_list, isi_lst_list_tuple, isi_lst_tuple_list, cmp_eq_ii, cmp_ne_ii, cmp_eq_bb, cmp_ne_bb, cmp_lt, cmp_le, cmp_gt, cmp_ge, cmp_ni_ii, bltD, on1, lenD, seqD]
      refine ⟨fun hl0 => ?_, fun hl0 => ?_⟩
      case' refine_1 => refine draw_spec T (by decide) (by decide) fun f st1 f0 f1 T1 => ?_
      case' refine_1 => simp only [wp_bind, wp_pure, wp_bad, wp_getS, wp_asB, wp_slotOpd, wp_rdSlot, wp_rdVar, wp_rdRet, wp_resV, wp_resS, wp_ress0, wp_ress, wp_setR, wp_setρ, wp_call, wp_setAt, wp_opd, wp_dat, wp_shr, wp_ownL, wp_popAt, wp_popLast, wp_app, wp_ins, wp_bindTup, wp_bindTs0, wp_bindTs, wp_bindNm, wp_blk, w_var, w_con, w_tup, w_lst, w_shr, w_bin, w_cmp, w_idx, w_cmp2, w_and2, w_or2, w_not1, w_ife, w_sli, w_call, w_blt, w_isi, w_lc, w_popk, w_popl, w_isN, w_neg, Z.w_rev, w_part0, w_part1, w_ds0, w_ds, w_os0, w_os, w_cs0, w_cs, line, w_asg, w_asgT, w_aug, w_setI, w_app, w_ins, w_ext, w_expr, w_ret, w_retN, w_if, w_forE, w_whil, w_brk, w_cont, w_pass, w_ss0, w_ss, fw_nx, fw_brk, fw_cont, fw_ret, nn_none, nn_int, nn_bl, nn_str, nn_tup, nn_lst, ol_lst, op_some, op_none, op_ite, ob_bl, oi_int, sl_pu, sl_ow, al_ow, al_obj, so_lst, opdV, retV, endQ, letgo, ite_self, ixN_3_0, ixN_3_1, ixN_3_2, atI_0, atI_1, atI_2, atI_3, List.getElem?_cons_zero, List.getElem?_cons_succ, List.set_cons_zero, List.set_cons_succ, List.length_cons, List.length_nil, List.length_map, Option.bind_some, Option.map_some, Nat.zero_add, Nat.reduceAdd, Nat.reduceLT, Nat.reduceLeDiff, Nat.zero_le, if_false, if_true, Bool.false_eq_true, Bool.true_eq_false, Bool.not_true, Bool.not_false, reduceCtorEq, true_and, and_true, forall_const, false_and, and_false, false_implies, not_false_eq_true, not_true_eq_false, decide_eq_true_eq, decide_eq_false_iff_not, isi_none_int, isi_none_bool, isi_none_str, isi_none_tuple, isi_none_list, isi_none_list_tuple, isi_none_tuple_list, isi_bl_int, isi_bl_bool, isi_bl_str, isi_bl_tuple, isi_bl_list, isi_bl_list_tuple, isi_bl_tuple_list, isi_int_int, isi_int_bool, isi_int_str, isi_int_tuple, isi_int_list, isi_int_list_tuple, isi_int_tuple_list, isi_str_int, isi_str_bool, isi_str_str, isi_str_tuple, isi_str_list, isi_str_list_tuple, isi_str_tuple_list, isi_tup_int, isi_tup_bool, isi_tup_str, isi_tup_tuple, isi_tup_list, isi_tup_list_tuple, isi_tup_tuple_list, isi_lst_int, isi_lst_bool, isi_lst_str, isi_lst_tuple, isi_lst_list, isi_lst_list_tuple, isi_lst_tuple_list, cmp_eq_ii, cmp_ne_ii, cmp_eq_bb, cmp_ne_bb, cmp_lt, cmp_le, cmp_gt, cmp_ge, cmp_ni_ii, bltD, on1, lenD, seqD]
      case' refine_1 => refine ⟨fun hf => ?_, fun hf => ?_⟩
      case refine_1.refine_1 =>
        refine draw_spec T1 (by omega) (log_small (by omega)) fun g st2 g0 g1 T2 => ?_
        simp only [wp_bind, wp_pure, wp_bad, wp_getS, wp_asB, wp_slotOpd, wp_rdSlot, wp_rdVar, wp_rdRet, wp_resV, wp_resS, wp_ress0, wp_ress, wp_setR, wp_setρ, wp_call, wp_setAt, wp_opd, wp_dat, wp_shr, wp_ownL, wp_popAt, wp_popLast, wp_app, wp_ins, wp_bindTup, wp_bindTs0, wp_bindTs, wp_bindNm, wp_blk, w_var, w_con, w_tup, w_lst, w_shr, w_bin, w_cmp, w_idx, w_cmp2, w_and2, w_or2, w_not1, w_ife, w_sli, w_call, w_blt, w_isi, w_lc, w_popk, w_popl, w_isN, w_neg, Z.w_rev, w_part0, w_part1, w_ds0, w_ds, w_os0, w_os, w_cs0, w_cs, line, w_asg, w_asgT, w_aug, w_setI, w_app, w_ins, w_ext, w_expr, w_ret, w_retN, w_if, w_forE, w_whil, w_brk, w_cont, w_pass, w_ss0, w_ss, fw_nx, fw_brk, fw_cont, fw_ret, nn_none, nn_int, nn_bl, nn_str, nn_tup, nn_lst, ol_lst, op_some, op_none, op_ite, ob_bl, oi_int, sl_pu, sl_ow, al_ow, al_obj, so_lst, opdV, retV, endQ, letgo, ite_self, ixN_3_0, ixN_3_1, ixN_3_2, atI_0, atI_1, atI_2, atI_3, List.getElem?_cons_zero, List.getElem?_cons_succ, List.set_cons_zero, List.set_cons_succ, List.length_cons, List.length_nil, List.length_map, Option.bind_some, Option.map_some, Nat.zero_add, Nat.reduceAdd, Nat.reduceLT, Nat.reduceLeDiff, Nat.zero_le, if_false, if_true, Bool.false_eq_true, Bool.true_eq_false, Bool.not_true, Bool.not_false, reduceCtorEq, true_and, and_true, forall_const, false_and, and_false, false_implies, not_false_eq_true, not_true_eq_false, decide_eq_true_eq, decide_eq_false_iff_not, isi_none_int, isi_none_bool, isi_none_str, isi_none_tuple, isi_none_list, isi_none_list_tuple, isi_none_tuple_list, isi_bl_int, isi_bl_bool, isi_bl_str, isi_bl_tuple, isi_bl_list, isi_bl_list_tuple, isi_bl_tuple_list, isi_int_int, isi_int_bool, isi_int_str, isi_int_tuple, isi_int_list, isi_int_list_tuple, isi_int_tuple_list, isi_str_int, isi_str_bool, isi_str_str, isi_str_tuple, isi_str_list, isi_str_list_tuple, isi_str_tuple_list, isi_tup_int, isi_tup_bool, isi_tup_str, isi_tup_tuple, isi_tup_list, isi_tup_list_tuple, isi_tup_tuple_list, isi_lst_int, isi_lst_bool, isi_lst_str, isi_lst_tuple, isi_lst_list, isi_lst_list_tuple, isi_lst_tuple_list, cmp_eq_ii, cmp_ne_ii, cmp_eq_bb, cmp_ne_bb, cmp_lt, cmp_le, cmp_gt, cmp_ge, cmp_ni_ii, bltD, on1, lenD, seqD, listD]
        refine draw_spec T2 (by decide) (by decide) fun way st3 w0 w1 T3 => ?_
        simp only [wp_bind, wp_pure, wp_bad, wp_getS, wp_asB, wp_slotOpd, wp_rdSlot, wp_rdVar, wp_rdRet, wp_resV, wp_resS, wp_ress0, wp_ress, wp_setR, wp_setρ, wp_call, wp_setAt, wp_opd, wp_dat, wp_shr, wp_ownL, wp_popAt, wp_popLast, wp_app, wp_ins, wp_bindTup, wp_bindTs0, wp_bindTs, wp_bindNm, wp_blk, w_var, w_con, w_tup, w_lst, w_shr, w_bin, w_cmp, w_idx, w_cmp2, w_and2, w_or2, w_not1, w_ife, w_sli, w_call, w_blt, w_isi, w_lc, w_popk, w_popl, w_isN, w_neg, Z.w_rev, w_part0, w_part1, w_ds0, w_ds, w_os0, w_os, w_cs0, w_cs, line, w_asg, w_asgT, w_aug, w_setI, w_app, w_ins, w_ext, w_expr, w_ret, w_retN, w_if, w_forE, w_whil, w_brk, w_cont, w_pass, w_ss0, w_ss, fw_nx, fw_brk, fw_cont, fw_ret, nn_none, nn_int, nn_bl, nn_str, nn_tup, nn_lst, ol_lst, op_some, op_none, op_ite, ob_bl, oi_int, sl_pu, sl_ow, al_ow, al_obj, so_lst, opdV, retV, endQ, letgo, ite_self, ixN_3_0, ixN_3_1, ixN_3_2, atI_0, atI_1, atI_2, atI_3, List.getElem?_cons_zero, List.getElem?_cons_succ, List.set_cons_zero, List.set_cons_succ, List.length_cons, List.length_nil, List.length_map, Option.bind_some, Option.map_some, Nat.zero_add, Nat.reduceAdd, Nat.reduceLT, Nat.reduceLeDiff, Nat.zero_le, if_false, if_true, Bool.false_eq_true, Bool.true_eq_false, Bool.not_true, Bool.not_false, reduceCtorEq, true_and, and_true, forall_const, false_and, and_false, false_implies, not_false_eq_true, not_true_eq_false, decide_eq_true_eq, decide_eq_false_iff_not, isi_none_int, isi_none_bool, isi_none_str, isi_none_tuple, isi_none_list, isi_none_list_tuple, isi_none_tuple_list, isi_bl_int, isi_bl_bool, isi_bl_str, isi_bl_tuple, isi_bl_list, isi_bl_list_tuple, isi_bl_tuple_list, isi_int_int, isi_int_bool, isi_int_str, isi_int_tuple, isi_int_list, isi_int_list_tuple, isi_int_tuple_list, isi_str_int, isi_str_bool, isi_str_str, isi_str_tuple, isi_str_list, isi_str_list_tuple, isi_str_tuple_list, isi_tup_int, isi_tup_bool, isi_tup_str, isi_tup_tuple, isi_tup_list, isi_tup_list_tuple, isi_tup_tuple_list, isi_lst_int, isi_lst_bool, isi_lst_str, isi_lst_tuple, isi_lst_list, isi_lst_list_tuple, isi_lst_tuple_list, cmp_eq_ii, cmp_ne_ii, cmp_eq_bb, cmp_ne_bb, cmp_lt, cmp_le, cmp_gt, cmp_ge, cmp_ni_ii, bltD, on1, lenD, seqD, listD]
        have kp : 1 ≤ k := by
          cases k with
          | zero =>
            cases ds with
            | nil => exact absurd hl0 (by decide)
            | cons x xs => exact (show False by have := hx x (by simp); unfold Fine at this; exact this).elim
          | succ k => omega
        refine ⟨fun h6 => ?_, fun h6 => ⟨fun e6 => ?_, fun e6 => ⟨fun e7 => ?_, fun e7 => ⟨fun e8 => ?_, fun e8 => ?_⟩⟩⟩⟩
        · try simp only [wp_bind, wp_pure, wp_bad, wp_getS, wp_asB, wp_slotOpd, wp_rdSlot, wp_rdVar, wp_rdRet, wp_resV, wp_resS, wp_ress0, wp_ress, wp_setR, wp_setρ, wp_call, wp_setAt, wp_opd, wp_dat, wp_shr, wp_ownL, wp_popAt, wp_popLast, wp_app, wp_ins, wp_bindTup, wp_bindTs0, wp_bindTs, wp_bindNm, wp_blk, w_var, w_con, w_tup, w_lst, w_shr, w_bin, w_cmp, w_idx, w_cmp2, w_and2, w_or2, w_not1, w_ife, w_sli, w_call, w_blt, w_isi, w_lc, w_popk, w_popl, w_isN, w_neg, Z.w_rev, w_part0, w_part1, w_ds0, w_ds, w_os0, w_os, w_cs0, w_cs, line, w_asg, w_asgT, w_aug, w_setI, w_app, w_ins, w_ext, w_expr, w_ret, w_retN, w_if, w_forE, w_whil, w_brk, w_cont, w_pass, w_ss0, w_ss, fw_nx, fw_brk, fw_cont, fw_ret, nn_none, nn_int, nn_bl, nn_str, nn_tup, nn_lst, ol_lst, op_some, op_none, op_ite, ob_bl, oi_int, sl_pu, sl_ow, al_ow, al_obj, so_lst, opdV, retV, endQ, letgo, ite_self, ixN_3_0, ixN_3_1, ixN_3_2, atI_0, atI_1, atI_2, atI_3, List.getElem?_cons_zero, List.getElem?_cons_succ, List.set_cons_zero, List.set_cons_succ, List.length_cons, List.length_nil, List.length_map, Option.bind_some, Option.map_some, Nat.zero_add, Nat.reduceAdd, Nat.reduceLT, Nat.reduceLeDiff, Nat.zero_le, if_false, if_true, Bool.false_eq_true, Bool.true_eq_false, Bool.not_true, Bool.not_false, reduceCtorEq, true_and, and_true, forall_const, false_and, and_false, false_implies, not_false_eq_true, not_true_eq_false, decide_eq_true_eq, decide_eq_false_iff_not, isi_none_int, isi_none_bool, isi_none_str, isi_none_tuple, isi_none_list, isi_none_list_tuple, isi_none_tuple_list, isi_bl_int, isi_bl_bool, isi_bl_str, isi_bl_tuple, isi_bl_list, isi_bl_list_tuple, isi_bl_tuple_list, isi_int_int, isi_int_bool, isi_int_str, isi_int_tuple, isi_int_list, isi_int_list_tuple, isi_int_tuple_list, isi_str_int, isi_str_bool, isi_str_str, isi_str_tuple, isi_str_list, isi_str_list_tuple, isi_str_tuple_list, isi_tup_int, isi_tup_bool, isi_tup_str, isi_tup_tuple, isi_tup_list, isi_tup_list_tuple, isi_tup_tuple_list, isi_lst_int, isi_lst_bool, isi_lst_str, isi_lst_tuple, isi_lst_list, isi_lst_list_tuple, isi_lst_tuple_list, cmp_eq_ii, cmp_ne_ii, cmp_eq_bb, cmp_ne_bb, cmp_lt, cmp_le, cmp_gt, cmp_ge, cmp_ni_ii, bltD, on1, lenD, seqD, listD, idxD]
          refine op_atI g0 (by omega) fun a ha => ?_
          simp only [wp_bind, wp_pure, wp_bad, wp_getS, wp_asB, wp_slotOpd, wp_rdSlot, wp_rdVar, wp_rdRet, wp_resV, wp_resS, wp_ress0, wp_ress, wp_setR, wp_setρ, wp_call, wp_setAt, wp_opd, wp_dat, wp_shr, wp_ownL, wp_popAt, wp_popLast, wp_app, wp_ins, wp_bindTup, wp_bindTs0, wp_bindTs, wp_bindNm, wp_blk, w_var, w_con, w_tup, w_lst, w_shr, w_bin, w_cmp, w_idx, w_cmp2, w_and2, w_or2, w_not1, w_ife, w_sli, w_call, w_blt, w_isi, w_lc, w_popk, w_popl, w_isN, w_neg, Z.w_rev, w_part0, w_part1, w_ds0, w_ds, w_os0, w_os, w_cs0, w_cs, line, w_asg, w_asgT, w_aug, w_setI, w_app, w_ins, w_ext, w_expr, w_ret, w_retN, w_if, w_forE, w_whil, w_brk, w_cont, w_pass, w_ss0, w_ss, fw_nx, fw_brk, fw_cont, fw_ret, nn_none, nn_int, nn_bl, nn_str, nn_tup, nn_lst, ol_lst, op_some, op_none, op_ite, ob_bl, oi_int, sl_pu, sl_ow, al_ow, al_obj, so_lst, opdV, retV, endQ, letgo, ite_self, ixN_3_0, ixN_3_1, ixN_3_2, atI_0, atI_1, atI_2, atI_3, List.getElem?_cons_zero, List.getElem?_cons_succ, List.set_cons_zero, List.set_cons_succ, List.length_cons, List.length_nil, List.length_map, Option.bind_some, Option.map_some, Nat.zero_add, Nat.reduceAdd, Nat.reduceLT, Nat.reduceLeDiff, Nat.zero_le, if_false, if_true, Bool.false_eq_true, Bool.true_eq_false, Bool.not_true, Bool.not_false, reduceCtorEq, true_and, and_true, forall_const, false_and, and_false, false_implies, not_false_eq_true, not_true_eq_false, decide_eq_true_eq, decide_eq_false_iff_not, isi_none_int, isi_none_bool, isi_none_str, isi_none_tuple, isi_none_list, isi_none_list_tuple, isi_none_tuple_list, isi_bl_int, isi_bl_bool, isi_bl_str, isi_bl_tuple, isi_bl_list, isi_bl_list_tuple, isi_bl_tuple_list, isi_int_int, isi_int_bool, isi_int_str, isi_int_tuple, isi_int_list, isi_int_list_tuple, isi_int_tuple_list, isi_str_int, isi_str_bool, isi_str_str, isi_str_tuple, isi_str_list, isi_str_list_tuple, isi_str_tuple_list, isi_tup_int, isi_tup_bool, isi_tup_str, isi_tup_tuple, isi_tup_list, isi_tup_list_tuple, isi_tup_tuple_list, isi_lst_int, isi_lst_bool, isi_lst_str, isi_lst_tuple, isi_lst_list, isi_lst_list_tuple, isi_lst_tuple_list, cmp_eq_ii, cmp_ne_ii, cmp_eq_bb, cmp_ne_bb, cmp_lt, cmp_le, cmp_gt, cmp_ge, cmp_ni_ii, bltD, on1, lenD, seqD, listD, idxD]
          refine spoilt_spec hL hL2 (hx a ha) T3 fun e b st4 he T4 => ?_
          simp only [wp_bind, wp_pure, wp_bad, wp_getS, wp_asB, wp_slotOpd, wp_rdSlot, wp_rdVar, wp_rdRet, wp_resV, wp_resS, wp_ress0, wp_ress, wp_setR, wp_setρ, wp_call, wp_setAt, wp_opd, wp_dat, wp_shr, wp_ownL, wp_popAt, wp_popLast, wp_app, wp_ins, wp_bindTup, wp_bindTs0, wp_bindTs, wp_bindNm, wp_blk, w_var, w_con, w_tup, w_lst, w_shr, w_bin, w_cmp, w_idx, w_cmp2, w_and2, w_or2, w_not1, w_ife, w_sli, w_call, w_blt, w_isi, w_lc, w_popk, w_popl, w_isN, w_neg, Z.w_rev, w_part0, w_part1, w_ds0, w_ds, w_os0, w_os, w_cs0, w_cs, line, w_asg, w_asgT, w_aug, w_setI, w_app, w_ins, w_ext, w_expr, w_ret, w_retN, w_if, w_forE, w_whil, w_brk, w_cont, w_pass, w_ss0, w_ss, fw_nx, fw_brk, fw_cont, fw_ret, nn_none, nn_int, nn_bl, nn_str, nn_tup, nn_lst, ol_lst, op_some, op_none, op_ite, ob_bl, oi_int, sl_pu, sl_ow, al_ow, al_obj, so_lst, opdV, retV, endQ, letgo, ite_self, ixN_3_0, ixN_3_1, ixN_3_2, atI_0, atI_1, atI_2, atI_3, List.getElem?_cons_zero, List.getElem?_cons_succ, List.set_cons_zero, List.set_cons_succ, List.length_cons, List.length_nil, List.length_map, Option.bind_some, Option.map_some, Nat.zero_add, Nat.reduceAdd, Nat.reduceLT, Nat.reduceLeDiff, Nat.zero_le, if_false, if_true, Bool.false_eq_true, Bool.true_eq_false, Bool.not_true, Bool.not_false, reduceCtorEq, true_and, and_true, forall_const, false_and, and_false, false_implies, not_false_eq_true, not_true_eq_false, decide_eq_true_eq, decide_eq_false_iff_not, isi_none_int, isi_none_bool, isi_none_str, isi_none_tuple, isi_none_list, isi_none_list_tuple, isi_none_tuple_list, isi_bl_int, isi_bl_bool, isi_bl_str, isi_bl_tuple, isi_bl_list, isi_bl_list_tuple, isi_bl_tuple_list, isi_int_int, isi_int_bool, isi_int_str, isi_int_tuple, isi_int_list, isi_int_list_tuple, isi_int_tuple_list, isi_str_int, isi_str_bool, isi_str_str, isi_str_tuple, isi_str_list, isi_str_list_tuple, isi_str_tuple_list, isi_tup_int, isi_tup_bool, isi_tup_str, isi_tup_tuple, isi_tup_list, isi_tup_list_tuple, isi_tup_tuple_list, isi_lst_int, isi_lst_bool, isi_lst_str, isi_lst_tuple, isi_lst_list, isi_lst_list_tuple, isi_lst_tuple_list, cmp_eq_ii, cmp_ne_ii, cmp_eq_bb, cmp_ne_bb, cmp_lt, cmp_le, cmp_gt, cmp_ge, cmp_ni_ii, bltD, on1, lenD, seqD, listD, idxD]
          rw [ixN_at g0 (by omega)]
          simp only [wp_bind, wp_pure, wp_bad, wp_getS, wp_asB, wp_slotOpd, wp_rdSlot, wp_rdVar, wp_rdRet, wp_resV, wp_resS, wp_ress0, wp_ress, wp_setR, wp_setρ, wp_call, wp_setAt, wp_opd, wp_dat, wp_shr, wp_ownL, wp_popAt, wp_popLast, wp_app, wp_ins, wp_bindTup, wp_bindTs0, wp_bindTs, wp_bindNm, wp_blk, w_var, w_con, w_tup, w_lst, w_shr, w_bin, w_cmp, w_idx, w_cmp2, w_and2, w_or2, w_not1, w_ife, w_sli, w_call, w_blt, w_isi, w_lc, w_popk, w_popl, w_isN, w_neg, Z.w_rev, w_part0, w_part1, w_ds0, w_ds, w_os0, w_os, w_cs0, w_cs, line, w_asg, w_asgT, w_aug, w_setI, w_app, w_ins, w_ext, w_expr, w_ret, w_retN, w_if, w_forE, w_whil, w_brk, w_cont, w_pass, w_ss0, w_ss, fw_nx, fw_brk, fw_cont, fw_ret, nn_none, nn_int, nn_bl, nn_str, nn_tup, nn_lst, ol_lst, op_some, op_none, op_ite, ob_bl, oi_int, sl_pu, sl_ow, al_ow, al_obj, so_lst, opdV, retV, endQ, letgo, ite_self, ixN_3_0, ixN_3_1, ixN_3_2, atI_0, atI_1, atI_2, atI_3, List.getElem?_cons_zero, List.getElem?_cons_succ, List.set_cons_zero, List.set_cons_succ, List.length_cons, List.length_nil, List.length_map, Option.bind_some, Option.map_some, Nat.zero_add, Nat.reduceAdd, Nat.reduceLT, Nat.reduceLeDiff, Nat.zero_le, if_false, if_true, Bool.false_eq_true, Bool.true_eq_false, Bool.not_true, Bool.not_false, reduceCtorEq, true_and, and_true, forall_const, false_and, and_false, false_implies, not_false_eq_true, not_true_eq_false, decide_eq_true_eq, decide_eq_false_iff_not, isi_none_int, isi_none_bool, isi_none_str, isi_none_tuple, isi_none_list, isi_none_list_tuple, isi_none_tuple_list, isi_bl_int, isi_bl_bool, isi_bl_str, isi_bl_tuple, isi_bl_list, isi_bl_list_tuple, isi_bl_tuple_list, isi_int_int, isi_int_bool, isi_int_str, isi_int_tuple, isi_int_list, isi_int_list_tuple, isi_int_tuple_list, isi_str_int, isi_str_bool, isi_str_str, isi_str_tuple, isi_str_list, isi_str_list_tuple, isi_str_tuple_list, isi_tup_int, isi_tup_bool, isi_tup_str, isi_tup_tuple, isi_tup_list, isi_tup_list_tuple, isi_tup_tuple_list, isi_lst_int, isi_lst_bool, isi_lst_str, isi_lst_tuple, isi_lst_list, isi_lst_list_tuple, isi_lst_tuple_list, cmp_eq_ii, cmp_ne_ii, cmp_eq_bb, cmp_ne_bb, cmp_lt, cmp_le, cmp_gt, cmp_ge, cmp_ni_ii, bltD, on1, lenD, seqD, listD, idxD, tupleD]
          exact fin _ _ _ (by rw [List.length_set]; omega) (fine_set up he _) T4
        · try simp only [wp_bind, wp_pure, wp_bad, wp_getS, wp_asB, wp_slotOpd, wp_rdSlot, wp_rdVar, wp_rdRet, wp_resV, wp_resS, wp_ress0, wp_ress, wp_setR, wp_setρ, wp_call, wp_setAt, wp_opd, wp_dat, wp_shr, wp_ownL, wp_popAt, wp_popLast, wp_app, wp_ins, wp_bindTup, wp_bindTs0, wp_bindTs, wp_bindNm, wp_blk, w_var, w_con, w_tup, w_lst, w_shr, w_bin, w_cmp, w_idx, w_cmp2, w_and2, w_or2, w_not1, w_ife, w_sli, w_call, w_blt, w_isi, w_lc, w_popk, w_popl, w_isN, w_neg, Z.w_rev, w_part0, w_part1, w_ds0, w_ds, w_os0, w_os, w_cs0, w_cs, line, w_asg, w_asgT, w_aug, w_setI, w_app, w_ins, w_ext, w_expr, w_ret, w_retN, w_if, w_forE, w_whil, w_brk, w_cont, w_pass, w_ss0, w_ss, fw_nx, fw_brk, fw_cont, fw_ret, nn_none, nn_int, nn_bl, nn_str, nn_tup, nn_lst, ol_lst, op_some, op_none, op_ite, ob_bl, oi_int, sl_pu, sl_ow, al_ow, al_obj, so_lst, opdV, retV, endQ, letgo, ite_self, ixN_3_0, ixN_3_1, ixN_3_2, atI_0, atI_1, atI_2, atI_3, List.getElem?_cons_zero, List.getElem?_cons_succ, List.set_cons_zero, List.set_cons_succ, List.length_cons, List.length_nil, List.length_map, Option.bind_some, Option.map_some, Nat.zero_add, Nat.reduceAdd, Nat.reduceLT, Nat.reduceLeDiff, Nat.zero_le, if_false, if_true, Bool.false_eq_true, Bool.true_eq_false, Bool.not_true, Bool.not_false, reduceCtorEq, true_and, and_true, forall_const, false_and, and_false, false_implies, not_false_eq_true, not_true_eq_false, decide_eq_true_eq, decide_eq_false_iff_not, isi_none_int, isi_none_bool, isi_none_str, isi_none_tuple, isi_none_list, isi_none_list_tuple, isi_none_tuple_list, isi_bl_int, isi_bl_bool, isi_bl_str, isi_bl_tuple, isi_bl_list, isi_bl_list_tuple, isi_bl_tuple_list, isi_int_int, isi_int_bool, isi_int_str, isi_int_tuple, isi_int_list, isi_int_list_tuple, isi_int_tuple_list, isi_str_int, isi_str_bool, isi_str_str, isi_str_tuple, isi_str_list, isi_str_list_tuple, isi_str_tuple_list, isi_tup_int, isi_tup_bool, isi_tup_str, isi_tup_tuple, isi_tup_list, isi_tup_list_tuple, isi_tup_tuple_list, isi_lst_int, isi_lst_bool, isi_lst_str, isi_lst_tuple, isi_lst_list, isi_lst_list_tuple, isi_lst_tuple_list, cmp_eq_ii, cmp_ne_ii, cmp_eq_bb, cmp_ne_bb, cmp_lt, cmp_le, cmp_gt, cmp_ge, cmp_ni_ii, ixP, if_pos (show -(2 ^ 63) ≤ g ∧ g < 2 ^ 63 by omega), ixN_at g0 g1]
          refine op_get (fun a ha => ?_) (by omega)
          simp only [wp_bind, wp_pure, wp_bad, wp_getS, wp_asB, wp_slotOpd, wp_rdSlot, wp_rdVar, wp_rdRet, wp_resV, wp_resS, wp_ress0, wp_ress, wp_setR, wp_setρ, wp_call, wp_setAt, wp_opd, wp_dat, wp_shr, wp_ownL, wp_popAt, wp_popLast, wp_app, wp_ins, wp_bindTup, wp_bindTs0, wp_bindTs, wp_bindNm, wp_blk, w_var, w_con, w_tup, w_lst, w_shr, w_bin, w_cmp, w_idx, w_cmp2, w_and2, w_or2, w_not1, w_ife, w_sli, w_call, w_blt, w_isi, w_lc, w_popk, w_popl, w_isN, w_neg, Z.w_rev, w_part0, w_part1, w_ds0, w_ds, w_os0, w_os, w_cs0, w_cs, line, w_asg, w_asgT, w_aug, w_setI, w_app, w_ins, w_ext, w_expr, w_ret, w_retN, w_if, w_forE, w_whil, w_brk, w_cont, w_pass, w_ss0, w_ss, fw_nx, fw_brk, fw_cont, fw_ret, nn_none, nn_int, nn_bl, nn_str, nn_tup, nn_lst, ol_lst, op_some, op_none, op_ite, ob_bl, oi_int, sl_pu, sl_ow, al_ow, al_obj, so_lst, opdV, retV, endQ, letgo, ite_self, ixN_3_0, ixN_3_1, ixN_3_2, atI_0, atI_1, atI_2, atI_3, List.getElem?_cons_zero, List.getElem?_cons_succ, List.set_cons_zero, List.set_cons_succ, List.length_cons, List.length_nil, List.length_map, Option.bind_some, Option.map_some, Nat.zero_add, Nat.reduceAdd, Nat.reduceLT, Nat.reduceLeDiff, Nat.zero_le, if_false, if_true, Bool.false_eq_true, Bool.true_eq_false, Bool.not_true, Bool.not_false, reduceCtorEq, true_and, and_true, forall_const, false_and, and_false, false_implies, not_false_eq_true, not_true_eq_false, decide_eq_true_eq, decide_eq_false_iff_not, isi_none_int, isi_none_bool, isi_none_str, isi_none_tuple, isi_none_list, isi_none_list_tuple, isi_none_tuple_list, isi_bl_int, isi_bl_bool, isi_bl_str, isi_bl_tuple, isi_bl_list, isi_bl_list_tuple, isi_bl_tuple_list, isi_int_int, isi_int_bool, isi_int_str, isi_int_tuple, isi_int_list, isi_int_list_tuple, isi_int_tuple_list, isi_str_int, isi_str_bool, isi_str_str, isi_str_tuple, isi_str_list, isi_str_list_tuple, isi_str_tuple_list, isi_tup_int, isi_tup_bool, isi_tup_str, isi_tup_tuple, isi_tup_list, isi_tup_list_tuple, isi_tup_tuple_list, isi_lst_int, isi_lst_bool, isi_lst_str, isi_lst_tuple, isi_lst_list, isi_lst_list_tuple, isi_lst_tuple_list, cmp_eq_ii, cmp_ne_ii, cmp_eq_bb, cmp_ne_bb, cmp_lt, cmp_le, cmp_gt, cmp_ge, cmp_ni_ii, bltD, on1, tupleD]
          exact fin _ _ _ (by rw [List.length_eraseIdx]; split <;> omega) (fine_erase up _) T3
        · try simp only [wp_bind, wp_pure, wp_bad, wp_getS, wp_asB, wp_slotOpd, wp_rdSlot, wp_rdVar, wp_rdRet, wp_resV, wp_resS, wp_ress0, wp_ress, wp_setR, wp_setρ, wp_call, wp_setAt, wp_opd, wp_dat, wp_shr, wp_ownL, wp_popAt, wp_popLast, wp_app, wp_ins, wp_bindTup, wp_bindTs0, wp_bindTs, wp_bindNm, wp_blk, w_var, w_con, w_tup, w_lst, w_shr, w_bin, w_cmp, w_idx, w_cmp2, w_and2, w_or2, w_not1, w_ife, w_sli, w_call, w_blt, w_isi, w_lc, w_popk, w_popl, w_isN, w_neg, Z.w_rev, w_part0, w_part1, w_ds0, w_ds, w_os0, w_os, w_cs0, w_cs, line, w_asg, w_asgT, w_aug, w_setI, w_app, w_ins, w_ext, w_expr, w_ret, w_retN, w_if, w_forE, w_whil, w_brk, w_cont, w_pass, w_ss0, w_ss, fw_nx, fw_brk, fw_cont, fw_ret, nn_none, nn_int, nn_bl, nn_str, nn_tup, nn_lst, ol_lst, op_some, op_none, op_ite, ob_bl, oi_int, sl_pu, sl_ow, al_ow, al_obj, so_lst, opdV, retV, endQ, letgo, ite_self, ixN_3_0, ixN_3_1, ixN_3_2, atI_0, atI_1, atI_2, atI_3, List.getElem?_cons_zero, List.getElem?_cons_succ, List.set_cons_zero, List.set_cons_succ, List.length_cons, List.length_nil, List.length_map, Option.bind_some, Option.map_some, Nat.zero_add, Nat.reduceAdd, Nat.reduceLT, Nat.reduceLeDiff, Nat.zero_le, if_false, if_true, Bool.false_eq_true, Bool.true_eq_false, Bool.not_true, Bool.not_false, reduceCtorEq, true_and, and_true, forall_const, false_and, and_false, false_implies, not_false_eq_true, not_true_eq_false, decide_eq_true_eq, decide_eq_false_iff_not, isi_none_int, isi_none_bool, isi_none_str, isi_none_tuple, isi_none_list, isi_none_list_tuple, isi_none_tuple_list, isi_bl_int, isi_bl_bool, isi_bl_str, isi_bl_tuple, isi_bl_list, isi_bl_list_tuple, isi_bl_tuple_list, isi_int_int, isi_int_bool, isi_int_str, isi_int_tuple, isi_int_list, isi_int_list_tuple, isi_int_tuple_list, isi_str_int, isi_str_bool, isi_str_str, isi_str_tuple, isi_str_list, isi_str_list_tuple, isi_str_tuple_list, isi_tup_int, isi_tup_bool, isi_tup_str, isi_tup_tuple, isi_tup_list, isi_tup_list_tuple, isi_tup_tuple_list, isi_lst_int, isi_lst_bool, isi_lst_str, isi_lst_tuple, isi_lst_list, isi_lst_list_tuple, isi_lst_tuple_list, cmp_eq_ii, cmp_ne_ii, cmp_eq_bb, cmp_ne_bb, cmp_lt, cmp_le, cmp_gt, cmp_ge, cmp_ni_ii, bltD, on1, lenD, seqD, listD]
          refine draw_spec T3 (by omega) (log_small (by omega)) fun q st4 q0 q1 T4 => ?_
          simp only [wp_bind, wp_pure, wp_bad, wp_getS, wp_asB, wp_slotOpd, wp_rdSlot, wp_rdVar, wp_rdRet, wp_resV, wp_resS, wp_ress0, wp_ress, wp_setR, wp_setρ, wp_call, wp_setAt, wp_opd, wp_dat, wp_shr, wp_ownL, wp_popAt, wp_popLast, wp_app, wp_ins, wp_bindTup, wp_bindTs0, wp_bindTs, wp_bindNm, wp_blk, w_var, w_con, w_tup, w_lst, w_shr, w_bin, w_cmp, w_idx, w_cmp2, w_and2, w_or2, w_not1, w_ife, w_sli, w_call, w_blt, w_isi, w_lc, w_popk, w_popl, w_isN, w_neg, Z.w_rev, w_part0, w_part1, w_ds0, w_ds, w_os0, w_os, w_cs0, w_cs, line, w_asg, w_asgT, w_aug, w_setI, w_app, w_ins, w_ext, w_expr, w_ret, w_retN, w_if, w_forE, w_whil, w_brk, w_cont, w_pass, w_ss0, w_ss, fw_nx, fw_brk, fw_cont, fw_ret, nn_none, nn_int, nn_bl, nn_str, nn_tup, nn_lst, ol_lst, op_some, op_none, op_ite, ob_bl, oi_int, sl_pu, sl_ow, al_ow, al_obj, so_lst, opdV, retV, endQ, letgo, ite_self, ixN_3_0, ixN_3_1, ixN_3_2, atI_0, atI_1, atI_2, atI_3, List.getElem?_cons_zero, List.getElem?_cons_succ, List.set_cons_zero, List.set_cons_succ, List.length_cons, List.length_nil, List.length_map, Option.bind_some, Option.map_some, Nat.zero_add, Nat.reduceAdd, Nat.reduceLT, Nat.reduceLeDiff, Nat.zero_le, if_false, if_true, Bool.false_eq_true, Bool.true_eq_false, Bool.not_true, Bool.not_false, reduceCtorEq, true_and, and_true, forall_const, false_and, and_false, false_implies, not_false_eq_true, not_true_eq_false, decide_eq_true_eq, decide_eq_false_iff_not, isi_none_int, isi_none_bool, isi_none_str, isi_none_tuple, isi_none_list, isi_none_list_tuple, isi_none_tuple_list, isi_bl_int, isi_bl_bool, isi_bl_str, isi_bl_tuple, isi_bl_list, isi_bl_list_tuple, isi_bl_tuple_list, isi_int_int, isi_int_bool, isi_int_str, isi_int_tuple, isi_int_list, isi_int_list_tuple, isi_int_tuple_list, isi_str_int, isi_str_bool, isi_str_str, isi_str_tuple, isi_str_list, isi_str_list_tuple, isi_str_tuple_list, isi_tup_int, isi_tup_bool, isi_tup_str, isi_tup_tuple, isi_tup_list, isi_tup_list_tuple, isi_tup_tuple_list, isi_lst_int, isi_lst_bool, isi_lst_str, isi_lst_tuple, isi_lst_list, isi_lst_list_tuple, isi_lst_tuple_list, cmp_eq_ii, cmp_ne_ii, cmp_eq_bb, cmp_ne_bb, cmp_lt, cmp_le, cmp_gt, cmp_ge, cmp_ni_ii, bltD, on1, lenD, seqD, listD, idxD]
          refine op_atI q0 (by omega) fun a ha => ?_
          simp only [wp_bind, wp_pure, wp_bad, wp_getS, wp_asB, wp_slotOpd, wp_rdSlot, wp_rdVar, wp_rdRet, wp_resV, wp_resS, wp_ress0, wp_ress, wp_setR, wp_setρ, wp_call, wp_setAt, wp_opd, wp_dat, wp_shr, wp_ownL, wp_popAt, wp_popLast, wp_app, wp_ins, wp_bindTup, wp_bindTs0, wp_bindTs, wp_bindNm, wp_blk, w_var, w_con, w_tup, w_lst, w_shr, w_bin, w_cmp, w_idx, w_cmp2, w_and2, w_or2, w_not1, w_ife, w_sli, w_call, w_blt, w_isi, w_lc, w_popk, w_popl, w_isN, w_neg, Z.w_rev, w_part0, w_part1, w_ds0, w_ds, w_os0, w_os, w_cs0, w_cs, line, w_asg, w_asgT, w_aug, w_setI, w_app, w_ins, w_ext, w_expr, w_ret, w_retN, w_if, w_forE, w_whil, w_brk, w_cont, w_pass, w_ss0, w_ss, fw_nx, fw_brk, fw_cont, fw_ret, nn_none, nn_int, nn_bl, nn_str, nn_tup, nn_lst, ol_lst, op_some, op_none, op_ite, ob_bl, oi_int, sl_pu, sl_ow, al_ow, al_obj, so_lst, opdV, retV, endQ, letgo, ite_self, ixN_3_0, ixN_3_1, ixN_3_2, atI_0, atI_1, atI_2, atI_3, List.getElem?_cons_zero, List.getElem?_cons_succ, List.set_cons_zero, List.set_cons_succ, List.length_cons, List.length_nil, List.length_map, Option.bind_some, Option.map_some, Nat.zero_add, Nat.reduceAdd, Nat.reduceLT, Nat.reduceLeDiff, Nat.zero_le, if_false, if_true, Bool.false_eq_true, Bool.true_eq_false, Bool.not_true, Bool.not_false, reduceCtorEq, true_and, and_true, forall_const, false_and, and_false, false_implies, not_false_eq_true, not_true_eq_false, decide_eq_true_eq, decide_eq_false_iff_not, isi_none_int, isi_none_bool, isi_none_str, isi_none_tuple, isi_none_list, isi_none_list_tuple, isi_none_tuple_list, isi_bl_int, isi_bl_bool, isi_bl_str, isi_bl_tuple, isi_bl_list, isi_bl_list_tuple, isi_bl_tuple_list, isi_int_int, isi_int_bool, isi_int_str, isi_int_tuple, isi_int_list, isi_int_list_tuple, isi_int_tuple_list, isi_str_int, isi_str_bool, isi_str_str, isi_str_tuple, isi_str_list, isi_str_list_tuple, isi_str_tuple_list, isi_tup_int, isi_tup_bool, isi_tup_str, isi_tup_tuple, isi_tup_list, isi_tup_list_tuple, isi_tup_tuple_list, isi_lst_int, isi_lst_bool, isi_lst_str, isi_lst_tuple, isi_lst_list, isi_lst_list_tuple, isi_lst_tuple_list, cmp_eq_ii, cmp_ne_ii, cmp_eq_bb, cmp_ne_bb, cmp_lt, cmp_le, cmp_gt, cmp_ge, cmp_ni_ii, bltD, on1, lenD, seqD, listD, idxD, tupleD]
          exact ⟨⟨by omega, g0, by omega⟩, fin _ _ _ (by rw [len_ins]; omega) (fine_ins up (up a ha) _) T4⟩
        · try simp only [wp_bind, wp_pure, wp_bad, wp_getS, wp_asB, wp_slotOpd, wp_rdSlot, wp_rdVar, wp_rdRet, wp_resV, wp_resS, wp_ress0, wp_ress, wp_setR, wp_setρ, wp_call, wp_setAt, wp_opd, wp_dat, wp_shr, wp_ownL, wp_popAt, wp_popLast, wp_app, wp_ins, wp_bindTup, wp_bindTs0, wp_bindTs, wp_bindNm, wp_blk, w_var, w_con, w_tup, w_lst, w_shr, w_bin, w_cmp, w_idx, w_cmp2, w_and2, w_or2, w_not1, w_ife, w_sli, w_call, w_blt, w_isi, w_lc, w_popk, w_popl, w_isN, w_neg, Z.w_rev, w_part0, w_part1, w_ds0, w_ds, w_os0, w_os, w_cs0, w_cs, line, w_asg, w_asgT, w_aug, w_setI, w_app, w_ins, w_ext, w_expr, w_ret, w_retN, w_if, w_forE, w_whil, w_brk, w_cont, w_pass, w_ss0, w_ss, fw_nx, fw_brk, fw_cont, fw_ret, nn_none, nn_int, nn_bl, nn_str, nn_tup, nn_lst, ol_lst, op_some, op_none, op_ite, ob_bl, oi_int, sl_pu, sl_ow, al_ow, al_obj, so_lst, opdV, retV, endQ, letgo, ite_self, ixN_3_0, ixN_3_1, ixN_3_2, atI_0, atI_1, atI_2, atI_3, List.getElem?_cons_zero, List.getElem?_cons_succ, List.set_cons_zero, List.set_cons_succ, List.length_cons, List.length_nil, List.length_map, Option.bind_some, Option.map_some, Nat.zero_add, Nat.reduceAdd, Nat.reduceLT, Nat.reduceLeDiff, Nat.zero_le, if_false, if_true, Bool.false_eq_true, Bool.true_eq_false, Bool.not_true, Bool.not_false, reduceCtorEq, true_and, and_true, forall_const, false_and, and_false, false_implies, not_false_eq_true, not_true_eq_false, decide_eq_true_eq, decide_eq_false_iff_not, isi_none_int, isi_none_bool, isi_none_str, isi_none_tuple, isi_none_list, isi_none_list_tuple, isi_none_tuple_list, isi_bl_int, isi_bl_bool, isi_bl_str, isi_bl_tuple, isi_bl_list, isi_bl_list_tuple, isi_bl_tuple_list, isi_int_int, isi_int_bool, isi_int_str, isi_int_tuple, isi_int_list, isi_int_list_tuple, isi_int_tuple_list, isi_str_int, isi_str_bool, isi_str_str, isi_str_tuple, isi_str_list, isi_str_list_tuple, isi_str_tuple_list, isi_tup_int, isi_tup_bool, isi_tup_str, isi_tup_tuple, isi_tup_list, isi_tup_list_tuple, isi_tup_tuple_list, isi_lst_int, isi_lst_bool, isi_lst_str, isi_lst_tuple, isi_lst_list, isi_lst_list_tuple, isi_lst_tuple_list, cmp_eq_ii, cmp_ne_ii, cmp_eq_bb, cmp_ne_bb, cmp_lt, cmp_le, cmp_gt, cmp_ge, cmp_ni_ii, bltD, on1, lenD, seqD, listD, idxD, tupleD]
          exact fin _ _ _ (by rw [List.length_reverse]; omega) (fun x hx' => up x (List.mem_reverse.mp hx')) T3
        · try simp only [wp_bind, wp_pure, wp_bad, wp_getS, wp_asB, wp_slotOpd, wp_rdSlot, wp_rdVar, wp_rdRet, wp_resV, wp_resS, wp_ress0, wp_ress, wp_setR, wp_setρ, wp_call, wp_setAt, wp_opd, wp_dat, wp_shr, wp_ownL, wp_popAt, wp_popLast, wp_app, wp_ins, wp_bindTup, wp_bindTs0, wp_bindTs, wp_bindNm, wp_blk, w_var, w_con, w_tup, w_lst, w_shr, w_bin, w_cmp, w_idx, w_cmp2, w_and2, w_or2, w_not1, w_ife, w_sli, w_call, w_blt, w_isi, w_lc, w_popk, w_popl, w_isN, w_neg, Z.w_rev, w_part0, w_part1, w_ds0, w_ds, w_os0, w_os, w_cs0, w_cs, line, w_asg, w_asgT, w_aug, w_setI, w_app, w_ins, w_ext, w_expr, w_ret, w_retN, w_if, w_forE, w_whil, w_brk, w_cont, w_pass, w_ss0, w_ss, fw_nx, fw_brk, fw_cont, fw_ret, nn_none, nn_int, nn_bl, nn_str, nn_tup, nn_lst, ol_lst, op_some, op_none, op_ite, ob_bl, oi_int, sl_pu, sl_ow, al_ow, al_obj, so_lst, opdV, retV, endQ, letgo, ite_self, ixN_3_0, ixN_3_1, ixN_3_2, atI_0, atI_1, atI_2, atI_3, List.getElem?_cons_zero, List.getElem?_cons_succ, List.set_cons_zero, List.set_cons_succ, List.length_cons, List.length_nil, List.length_map, Option.bind_some, Option.map_some, Nat.zero_add, Nat.reduceAdd, Nat.reduceLT, Nat.reduceLeDiff, Nat.zero_le, if_false, if_true, Bool.false_eq_true, Bool.true_eq_false, Bool.not_true, Bool.not_false, reduceCtorEq, true_and, and_true, forall_const, false_and, and_false, false_implies, not_false_eq_true, not_true_eq_false, decide_eq_true_eq, decide_eq_false_iff_not, isi_none_int, isi_none_bool, isi_none_str, isi_none_tuple, isi_none_list, isi_none_list_tuple, isi_none_tuple_list, isi_bl_int, isi_bl_bool, isi_bl_str, isi_bl_tuple, isi_bl_list, isi_bl_list_tuple, isi_bl_tuple_list, isi_int_int, isi_int_bool, isi_int_str, isi_int_tuple, isi_int_list, isi_int_list_tuple, isi_int_tuple_list, isi_str_int, isi_str_bool, isi_str_str, isi_str_tuple, isi_str_list, isi_str_list_tuple, isi_str_tuple_list, isi_tup_int, isi_tup_bool, isi_tup_str, isi_tup_tuple, isi_tup_list, isi_tup_list_tuple, isi_tup_tuple_list, isi_lst_int, isi_lst_bool, isi_lst_str, isi_lst_tuple, isi_lst_list, isi_lst_list_tuple, isi_lst_tuple_list, cmp_eq_ii, cmp_ne_ii, cmp_eq_bb, cmp_ne_bb, cmp_lt, cmp_le, cmp_gt, cmp_ge, cmp_ni_ii, bltD, on1, lenD, seqD, listD, idxD]
          have e1 : n + k + 5 = (n + k + 2) + 1 + 2 := by omega
          show Rp (callF fns wf ((n + k + 2) + 1 + 2) 12 [.obj 1, .int ((1 : Nat) : Int)] st3) _
          refine any_spec T3 fun e st4 he T4 => ?_
          simp only [wp_bind, wp_pure, wp_bad, wp_getS, wp_asB, wp_slotOpd, wp_rdSlot, wp_rdVar, wp_rdRet, wp_resV, wp_resS, wp_ress0, wp_ress, wp_setR, wp_setρ, wp_call, wp_setAt, wp_opd, wp_dat, wp_shr, wp_ownL, wp_popAt, wp_popLast, wp_app, wp_ins, wp_bindTup, wp_bindTs0, wp_bindTs, wp_bindNm, wp_blk, w_var, w_con, w_tup, w_lst, w_shr, w_bin, w_cmp, w_idx, w_cmp2, w_and2, w_or2, w_not1, w_ife, w_sli, w_call, w_blt, w_isi, w_lc, w_popk, w_popl, w_isN, w_neg, Z.w_rev, w_part0, w_part1, w_ds0, w_ds, w_os0, w_os, w_cs0, w_cs, line, w_asg, w_asgT, w_aug, w_setI, w_app, w_ins, w_ext, w_expr, w_ret, w_retN, w_if, w_forE, w_whil, w_brk, w_cont, w_pass, w_ss0, w_ss, fw_nx, fw_brk, fw_cont, fw_ret, nn_none, nn_int, nn_bl, nn_str, nn_tup, nn_lst, ol_lst, op_some, op_none, op_ite, ob_bl, oi_int, sl_pu, sl_ow, al_ow, al_obj, so_lst, opdV, retV, endQ, letgo, ite_self, ixN_3_0, ixN_3_1, ixN_3_2, atI_0, atI_1, atI_2, atI_3, List.getElem?_cons_zero, List.getElem?_cons_succ, List.set_cons_zero, List.set_cons_succ, List.length_cons, List.length_nil, List.length_map, Option.bind_some, Option.map_some, Nat.zero_add, Nat.reduceAdd, Nat.reduceLT, Nat.reduceLeDiff, Nat.zero_le, if_false, if_true, Bool.false_eq_true, Bool.true_eq_false, Bool.not_true, Bool.not_false, reduceCtorEq, true_and, and_true, forall_const, false_and, and_false, false_implies, not_false_eq_true, not_true_eq_false, decide_eq_true_eq, decide_eq_false_iff_not, isi_none_int, isi_none_bool, isi_none_str, isi_none_tuple, isi_none_list, isi_none_list_tuple, isi_none_tuple_list, isi_bl_int, isi_bl_bool, isi_bl_str, isi_bl_tuple, isi_bl_list, isi_bl_list_tuple, isi_bl_tuple_list, isi_int_int, isi_int_bool, isi_int_str, isi_int_tuple, isi_int_list, isi_int_list_tuple, isi_int_tuple_list, isi_str_int, isi_str_bool, isi_str_str, isi_str_tuple, isi_str_list, isi_str_list_tuple, isi_str_tuple_list, isi_tup_int, isi_tup_bool, isi_tup_str, isi_tup_tuple, isi_tup_list, isi_tup_list_tuple, isi_tup_tuple_list, isi_lst_int, isi_lst_bool, isi_lst_str, isi_lst_tuple, isi_lst_list, isi_lst_list_tuple, isi_lst_tuple_list, cmp_eq_ii, cmp_ne_ii, cmp_eq_bb, cmp_ne_bb, cmp_lt, cmp_le, cmp_gt, cmp_ge, cmp_ni_ii, bltD, on1, lenD, seqD, listD, idxD, tupleD]
          exact ⟨⟨by omega, g0, by omega⟩, fin _ _ _ (by rw [len_ins]; omega) (fine_ins up (he.mono (by omega) (by omega)) _) T4⟩
      case' refine_1.refine_2 => have T := T1
      all_goals
        refine whole2_spec (fun b hb hb' => ?_) ⟨L, k + 1, hd⟩
        simp only [wp_bind, wp_pure, wp_bad, wp_getS, wp_asB, wp_slotOpd, wp_rdSlot, wp_rdVar, wp_rdRet, wp_resV, wp_resS, wp_ress0, wp_ress, wp_setR, wp_setρ, wp_call, wp_setAt, wp_opd, wp_dat, wp_shr, wp_ownL, wp_popAt, wp_popLast, wp_app, wp_ins, wp_bindTup, wp_bindTs0, wp_bindTs, wp_bindNm, wp_blk, w_var, w_con, w_tup, w_lst, w_shr, w_bin, w_cmp, w_idx, w_cmp2, w_and2, w_or2, w_not1, w_ife, w_sli, w_call, w_blt, w_isi, w_lc, w_popk, w_popl, w_isN, w_neg, Z.w_rev, w_part0, w_part1, w_ds0, w_ds, w_os0, w_os, w_cs0, w_cs, line, w_asg, w_asgT, w_aug, w_setI, w_app, w_ins, w_ext, w_expr, w_ret, w_retN, w_if, w_forE, w_whil, w_brk, w_cont, w_pass, w_ss0, w_ss, fw_nx, fw_brk, fw_cont, fw_ret, nn_none, nn_int, nn_bl, nn_str, nn_tup, nn_lst, ol_lst, op_some, op_none, op_ite, ob_bl, oi_int, sl_pu, sl_ow, al_ow, al_obj, so_lst, opdV, retV, endQ, letgo, ite_self, ixN_3_0, ixN_3_1, ixN_3_2, atI_0, atI_1, atI_2, atI_3, List.getElem?_cons_zero, List.getElem?_cons_succ, List.set_cons_zero, List.set_cons_succ, List.length_cons, List.length_nil, List.length_map, Option.bind_some, Option.map_some, Nat.zero_add, Nat.reduceAdd, Nat.reduceLT, Nat.reduceLeDiff, Nat.zero_le, if_false, if_true, Bool.false_eq_true, Bool.true_eq_false, Bool.not_true, Bool.not_false, reduceCtorEq, true_and, and_true, forall_const, false_and, and_false, false_implies, not_false_eq_true, not_true_eq_false, decide_eq_true_eq, decide_eq_false_iff_not, isi_none_int, isi_none_bool, isi_none_str, isi_none_tuple, isi_none_list, isi_none_list_tuple, isi_none_tuple_list, isi_bl_int, isi_bl_bool, isi_bl_str, isi_bl_tuple, isi_bl_list, isi_bl_list_tuple, isi_bl_tuple_list, isi_int_int, isi_int_bool, isi_int_str, isi_int_tuple, isi_int_list, isi_int_list_tuple, isi_int_tuple_list, isi_str_int, isi_str_bool, isi_str_str, isi_str_tuple, isi_str_list, isi_str_list_tuple, isi_str_tuple_list, isi_tup_int, isi_tup_bool, isi_tup_str, isi_tup_tuple, isi_tup_list, isi_tup_list_tuple, isi_tup_tuple_list, isi_lst_int, isi_lst_bool, isi_lst_str, isi_lst_tuple, isi_lst_list, isi_lst_list_tuple, isi_lst_tuple_list, cmp_eq_ii, cmp_ne_ii, cmp_eq_bb, cmp_ne_bb, cmp_lt, cmp_le, cmp_gt, cmp_ge, cmp_ni_ii]
        refine ⟨fun e => ?_, fun e => ?_⟩
        · obtain ⟨i, q⟩ := hb e; cases q
        · refine draw_spec T (by decide) (by decide) fun q st4 q0 q1 T4 => ?_
          simp only [wp_bind, wp_pure, wp_bad, wp_getS, wp_asB, wp_slotOpd, wp_rdSlot, wp_rdVar, wp_rdRet, wp_resV, wp_resS, wp_ress0, wp_ress, wp_setR, wp_setρ, wp_call, wp_setAt, wp_opd, wp_dat, wp_shr, wp_ownL, wp_popAt, wp_popLast, wp_app, wp_ins, wp_bindTup, wp_bindTs0, wp_bindTs, wp_bindNm, wp_blk, w_var, w_con, w_tup, w_lst, w_shr, w_bin, w_cmp, w_idx, w_cmp2, w_and2, w_or2, w_not1, w_ife, w_sli, w_call, w_blt, w_isi, w_lc, w_popk, w_popl, w_isN, w_neg, Z.w_rev, w_part0, w_part1, w_ds0, w_ds, w_os0, w_os, w_cs0, w_cs, line, w_asg, w_asgT, w_aug, w_setI, w_app, w_ins, w_ext, w_expr, w_ret, w_retN, w_if, w_forE, w_whil, w_brk, w_cont, w_pass, w_ss0, w_ss, fw_nx, fw_brk, fw_cont, fw_ret, nn_none, nn_int, nn_bl, nn_str, nn_tup, nn_lst, ol_lst, op_some, op_none, op_ite, ob_bl, oi_int, sl_pu, sl_ow, al_ow, al_obj, so_lst, opdV, retV, endQ, letgo, ite_self, ixN_3_0, ixN_3_1, ixN_3_2, atI_0, atI_1, atI_2, atI_3, List.getElem?_cons_zero, List.getElem?_cons_succ, List.set_cons_zero, List.set_cons_succ, List.length_cons, List.length_nil, List.length_map, Option.bind_some, Option.map_some, Nat.zero_add, Nat.reduceAdd, Nat.reduceLT, Nat.reduceLeDiff, Nat.zero_le, if_false, if_true, Bool.false_eq_true, Bool.true_eq_false, Bool.not_true, Bool.not_false, reduceCtorEq, true_and, and_true, forall_const, false_and, and_false, false_implies, not_false_eq_true, not_true_eq_false, decide_eq_true_eq, decide_eq_false_iff_not, isi_none_int, isi_none_bool, isi_none_str, isi_none_tuple, isi_none_list, isi_none_list_tuple, isi_none_tuple_list, isi_bl_int, isi_bl_bool, isi_bl_str, isi_bl_tuple, isi_bl_list, isi_bl_list_tuple, isi_bl_tuple_list, isi_int_int, isi_int_bool, isi_int_str, isi_int_tuple, isi_int_list, isi_int_list_tuple, isi_int_tuple_list, isi_str_int, isi_str_bool, isi_str_str, isi_str_tuple, isi_str_list, isi_str_list_tuple, isi_str_tuple_list, isi_tup_int, isi_tup_bool, isi_tup_str, isi_tup_tuple, isi_tup_list, isi_tup_list_tuple, isi_tup_tuple_list, isi_lst_int, isi_lst_bool, isi_lst_str, isi_lst_tuple, isi_lst_list, isi_lst_list_tuple, isi_lst_tuple_list, cmp_eq_ii, cmp_ne_ii, cmp_eq_bb, cmp_ne_bb, cmp_lt, cmp_le, cmp_gt, cmp_ge, cmp_ni_ii, bltD, on1, listD, tupleD]
          exact ⟨fun _ => h _ _ _ (Fine.tup (k := k + 3) (by omega) up) T4, fun _ => anyq _ T4⟩
end G

namespace G
open PySem PySem.Spec PyProof.Rows L2 Z
/-- formulas as trees, of depth at most k -/
inductive Fm : Nat → D → Prop where
  | pt {k : Nat} {p : Int} : 0 ≤ p → p < 8 → Fm (k + 1) (.tup [.str "point", .int p])
  | two {k : Nat} {w : Str} {x y : D} : w = "join" ∨ w = "meet" → Fm k x → Fm k y → Fm (k + 1) (.tup [.str w, x, y])
theorem Fm.mono {k : Nat} {d : D} (h : Fm k d) : ∀ {k' : Nat}, k ≤ k' → Fm k' d := by
  induction h with
  | pt a b =>
    intro k' hk
    cases k' with
    | zero => omega
    | succ k' => exact .pt a b
  | two a _ _ ih1 ih2 =>
    intro k' hk
    cases k' with
    | zero => omega
    | succ k' => exact .two a (ih1 (by omega)) (ih2 (by omega))
theorem Fm.fine {k : Nat} {d : D} (h : Fm k d) : Fine 5 (k + 1) d := by
  induction h with
  | pt a b => exact Fine.tup2 (by omega) (Fine.str (by decide +kernel) (by decide +kernel)) (Fine.int _)
  | two a h1 h2 ih1 ih2 =>
    refine Fine.tup3 (by omega) ?_ ih1 ih2
    rcases a with rfl | rfl <;> exact Fine.str (by decide +kernel) (by decide +kernel)
theorem meas_cases {big : Int} {k : Nat} {d : D} {v : Int × Int × Int} (h : meas big (k + 1) d = some v) : (∃ w x, d = .tup [.str w, x] ∧ point w x = some v) ∨ ∃ w x y, d = .tup [.str w, x, y] ∧ two w big (meas big k x) (meas big k y) = some v := by
  by_cases e : ∃ w x, d = .tup [.str w, x]
  · obtain ⟨w, x, rfl⟩ := e
    exact .inl ⟨w, x, rfl, h⟩
  · by_cases e' : ∃ w x y, d = .tup [.str w, x, y]
    · obtain ⟨w, x, y, rfl⟩ := e'
      exact .inr ⟨w, x, y, rfl, h⟩
    · rw [meas_nt (fun w x z => e ⟨w, x, z⟩) (fun w x y z => e' ⟨w, x, y, z⟩)] at h
      cases h
theorem meas_mono {big : Int} : ∀ {k j : Nat} {d : D} {v : Int × Int × Int}, meas big k d = some v → k ≤ j → meas big j d = some v
  | 0, j, d, v, h, hk => by cases h
  | k + 1, 0, d, v, h, hk => by omega
  | k + 1, j + 1, d, v, h, hk => by
    rcases meas_cases h with ⟨w, x, rfl, e⟩ | ⟨w, x, y, rfl, e⟩
    · exact e
    · show two w big (meas big j x) (meas big j y) = some v
      cases q1 : meas big k x with
      | none => rw [q1] at e; cases e
      | some u1 =>
        cases q2 : meas big k y with
        | none => rw [q1, q2] at e; cases e
        | some u2 =>
          rw [q1, q2] at e
          rw [meas_mono q1 (by omega), meas_mono q2 (by omega)]
          exact e
theorem lits : (eqD (.str "join") (.str "join") || eqD (.str "meet") (.str "join")) = true ∧ (eqD (.str "join") (.str "meet") || eqD (.str "meet") (.str "meet")) = true ∧ eqD (.str "join") (.str "meet") = false ∧ eqD (.str "meet") (.str "meet") = true ∧ eqD (.str "point") (.str "point") = true ∧ eqD (.str "join") (.str "point") = false ∧ eqD (.str "meet") (.str "point") = false := by
  decide +kernel
theorem both_meas {big : Int} {k : Nat} {f g : D} {d1 m1 s d2 m2 t r : Int} {w : Str} (h1 : meas big k f = some (d1, m1, s)) (h2 : meas big k g = some (d2, m2, t)) (hd1 : d1 ≤ k) (hd2 : d2 ≤ k) (hk : k ≤ 11) (hm : m1 + m2 ≤ 4 * big)
    (hs : 0 ≤ s ∧ s ≤ big) (ht : 0 ≤ t ∧ t ≤ big) (hw : (w = "join" ∧ s + t ≤ big ∧ r = s + t) ∨ (w = "meet" ∧ big ≤ s + t ∧ r = s + t - big)) : ∃ d3, meas big (k + 1) (.tup [.str w, f, g]) = some (d3, m1 + m2, r) ∧ d3 ≤ k + 1 ∧ 0 ≤ r ∧ r ≤ big := by
  obtain ⟨l1, l2, l3, l4, _⟩ := lits
  refine ⟨1 + mx d1 d2, ?_, ?_, ?_, ?_⟩
  · show two w big (meas big k f) (meas big k g) = _
    rw [h1, h2]
    unfold two put mx
    dsimp only
    rcases hw with ⟨rfl, a, rfl⟩ | ⟨rfl, a, rfl⟩
    · rw [if_pos l1, l3]
      simp only [Bool.false_eq_true, if_false]
      rw [if_pos]
      refine ⟨by omega, by omega, ?_, by omega⟩
      split <;> omega
    · rw [if_pos l2, l4]
      simp only [if_true]
      rw [if_pos]
      refine ⟨by omega, by omega, ?_, by omega⟩
      split <;> omega
  · unfold mx
    split <;> omega
  · rcases hw with ⟨_, a, rfl⟩ | ⟨_, a, rfl⟩ <;> omega
  · rcases hw with ⟨_, a, rfl⟩ | ⟨_, a, rfl⟩ <;> omega
theorem both_spec {n : Nat} {st : List SO} {f g : D} {s t big : Int} {Q : Rs → List SO → Prop} (T : Tape st) (h : ∀ (w : Str) (r : Int) st', (w = "join" ∧ s + t ≤ big ∧ r = s + t) ∨ (w = "meet" ∧ big ≤ s + t ∧ r = s + t - big) → Tape st' → Q (.tup [.tup [.str w, f, g], .int r], false) st') :
    Rp (callF fns wf (n + 2) 14 [.obj 1, .tup [f, .int s], .tup [g, .int t], .int big] st) Q := by
  refine c__law_both_steps ?_
  unfold b__law_both_steps
  try simp only [wp_bind, wp_pure, wp_bad, wp_getS, wp_asB, wp_slotOpd, wp_rdSlot, wp_rdVar, wp_rdRet, wp_resV, wp_resS, wp_ress0, wp_ress, wp_setR, wp_setρ, wp_call, wp_setAt, wp_opd, wp_dat, wp_shr, wp_ownL, wp_popAt, wp_popLast, wp_app, wp_ins, wp_bindTup, wp_bindTs0, wp_bindTs, wp_bindNm, wp_blk, w_var, w_con, w_tup, w_lst, w_shr, w_bin, w_cmp, w_idx, w_cmp2, w_and2, w_or2, w_not1, w_ife, w_sli, w_call, w_blt, w_isi, w_lc, w_popk, w_popl, w_isN, w_neg, Z.w_rev, w_part0, w_part1, w_ds0, w_ds, w_os0, w_os, w_cs0, w_cs, line, w_asg, w_asgT, w_aug, w_setI, w_app, w_ins, w_ext, w_expr, w_ret, w_retN, w_if, w_forE, w_whil, w_brk, w_cont, w_pass, w_ss0, w_ss, fw_nx, fw_brk, fw_cont, fw_ret, nn_none, nn_int, nn_bl, nn_str, nn_tup, nn_lst, ol_lst, op_some, op_none, op_ite, ob_bl, oi_int, sl_pu, sl_ow, al_ow, al_obj, so_lst, opdV, retV, endQ, letgo, ite_self, ixN_3_0, ixN_3_1, ixN_3_2, atI_0, atI_1, atI_2, atI_3, List.getElem?_cons_zero, List.getElem?_cons_succ, List.set_cons_zero, List.set_cons_succ, List.length_cons, List.length_nil, List.length_map, Option.bind_some, Option.map_some, Nat.zero_add, Nat.reduceAdd, Nat.reduceLT, Nat.reduceLeDiff, Nat.zero_le, if_false, if_true, Bool.false_eq_true, Bool.true_eq_false, Bool.not_true, Bool.not_false, reduceCtorEq, true_and, and_true, forall_const, false_and, and_false, false_implies, not_false_eq_true, not_true_eq_false, decide_eq_true_eq, decide_eq_false_iff_not, isi_none_int, isi_none_bool, isi_none_str, isi_none_tuple, isi_none_list, isi_none_list_tuple, isi_none_tuple_list, isi_bl_int, isi_bl_bool, isi_bl_str, isi_bl_tuple, isi_bl_list, isi_bl_list_tuple, isi_bl_tuple_list, isi_int_int, isi_int_bool, isi_int_str, isi_int_tuple, isi_int_list, isi_int_list_tuple, isi_int_tuple_list, isi_str_int, isi_str_bool, isi_str_str, isi_str_tuple, isi_str_list, isi_str_list_tuple, isi_str_tuple_list, isi_tup_int, isi_tup_bool, isi_tup_str, isi_tup_tuple, isi_tup_list, isi_tup_list_tuple, isi_tup_tuple_list, isi_lst_int, isi_lst_bool, isi_lst_str, isi_lst_tuple, isi_lst_list, isi_lst_list_tuple, isi_lst_tuple_list, cmp_eq_ii, cmp_ne_ii, cmp_eq_bb, cmp_ne_bb, cmp_lt, cmp_le, cmp_gt, cmp_ge, cmp_ni_ii, binD, idxD, seqD]
  refine ⟨fun a => h _ _ _ (.inl ⟨rfl, by omega, rfl⟩) T, fun a => ⟨fun b => ?_, fun b => h _ _ _ (.inr ⟨rfl, by omega, rfl⟩) T⟩⟩
  refine draw_spec T (by decide) (by decide) fun q st1 q0 q1 T1 => ?_
  try simp only [wp_bind, wp_pure, wp_bad, wp_getS, wp_asB, wp_slotOpd, wp_rdSlot, wp_rdVar, wp_rdRet, wp_resV, wp_resS, wp_ress0, wp_ress, wp_setR, wp_setρ, wp_call, wp_setAt, wp_opd, wp_dat, wp_shr, wp_ownL, wp_popAt, wp_popLast, wp_app, wp_ins, wp_bindTup, wp_bindTs0, wp_bindTs, wp_bindNm, wp_blk, w_var, w_con, w_tup, w_lst, w_shr, w_bin, w_cmp, w_idx, w_cmp2, w_and2, w_or2, w_not1, w_ife, w_sli, w_call, w_blt, w_isi, w_lc, w_popk, w_popl, w_isN, w_neg, Z.w_rev, w_part0, w_part1, w_ds0, w_ds, w_os0, w_os, w_cs0, w_cs, line, w_asg, w_asgT, w_aug, w_setI, w_app, w_ins, w_ext, w_expr, w_ret, w_retN, w_if, w_forE, w_whil, w_brk, w_cont, w_pass, w_ss0, w_ss, fw_nx, fw_brk, fw_cont, fw_ret, nn_none, nn_int, nn_bl, nn_str, nn_tup, nn_lst, ol_lst, op_some, op_none, op_ite, ob_bl, oi_int, sl_pu, sl_ow, al_ow, al_obj, so_lst, opdV, retV, endQ, letgo, ite_self, ixN_3_0, ixN_3_1, ixN_3_2, atI_0, atI_1, atI_2, atI_3, List.getElem?_cons_zero, List.getElem?_cons_succ, List.set_cons_zero, List.set_cons_succ, List.length_cons, List.length_nil, List.length_map, Option.bind_some, Option.map_some, Nat.zero_add, Nat.reduceAdd, Nat.reduceLT, Nat.reduceLeDiff, Nat.zero_le, if_false, if_true, Bool.false_eq_true, Bool.true_eq_false, Bool.not_true, Bool.not_false, reduceCtorEq, true_and, and_true, forall_const, false_and, and_false, false_implies, not_false_eq_true, not_true_eq_false, decide_eq_true_eq, decide_eq_false_iff_not, isi_none_int, isi_none_bool, isi_none_str, isi_none_tuple, isi_none_list, isi_none_list_tuple, isi_none_tuple_list, isi_bl_int, isi_bl_bool, isi_bl_str, isi_bl_tuple, isi_bl_list, isi_bl_list_tuple, isi_bl_tuple_list, isi_int_int, isi_int_bool, isi_int_str, isi_int_tuple, isi_int_list, isi_int_list_tuple, isi_int_tuple_list, isi_str_int, isi_str_bool, isi_str_str, isi_str_tuple, isi_str_list, isi_str_list_tuple, isi_str_tuple_list, isi_tup_int, isi_tup_bool, isi_tup_str, isi_tup_tuple, isi_tup_list, isi_tup_list_tuple, isi_tup_tuple_list, isi_lst_int, isi_lst_bool, isi_lst_str, isi_lst_tuple, isi_lst_list, isi_lst_list_tuple, isi_lst_tuple_list, cmp_eq_ii, cmp_ne_ii, cmp_eq_bb, cmp_ne_bb, cmp_lt, cmp_le, cmp_gt, cmp_ge, cmp_ni_ii, binD, idxD, seqD]
  exact ⟨fun c => h _ _ _ (.inl ⟨rfl, by omega, rfl⟩) T1, fun c => h _ _ _ (.inr ⟨rfl, by omega, rfl⟩) T1⟩
theorem leaf {n : Nat} {st : List SO} {big : Int} {ρ : List Slot} {Q : Z.Flow → S → Prop} (T : Tape st) (h : ∀ (p : Int) s', 0 ≤ p → p < 8 → s'.ρ = [.pu (.obj 1), .pu (.int big)] ++ ρ → Tape s'.st → Q (.ret (.tup [.tup [.str "point", .int p], .int 1], false)) s') :
    Wp (Z.execs (callF fns wf (n + 1)) wf [.ret (.tup [(.tup [(.con (.str "point")), (.call 7 [(.var 0), (.idx (.lst [(.con (.int 8)), (.con (.int 4))]) (.bin .fdiv (.call 7 [(.var 0), (.con (.int 3))]) (.con (.int 2))))])]), (.con (.int 1))])]) ⟨[.pu (.obj 1), .pu (.int big)] ++ ρ, st⟩ Q := by
  simp only [List.cons_append, List.nil_append] at h ⊢
  try simp only [wp_bind, wp_pure, wp_bad, wp_getS, wp_asB, wp_slotOpd, wp_rdSlot, wp_rdVar, wp_rdRet, wp_resV, wp_resS, wp_ress0, wp_ress, wp_setR, wp_setρ, wp_call, wp_setAt, wp_opd, wp_dat, wp_shr, wp_ownL, wp_popAt, wp_popLast, wp_app, wp_ins, wp_bindTup, wp_bindTs0, wp_bindTs, wp_bindNm, wp_blk, w_var, w_con, w_tup, w_lst, w_shr, w_bin, w_cmp, w_idx, w_cmp2, w_and2, w_or2, w_not1, w_ife, w_sli, w_call, w_blt, w_isi, w_lc, w_popk, w_popl, w_isN, w_neg, Z.w_rev, w_part0, w_part1, w_ds0, w_ds, w_os0, w_os, w_cs0, w_cs, line, w_asg, w_asgT, w_aug, w_setI, w_app, w_ins, w_ext, w_expr, w_ret, w_retN, w_if, w_forE, w_whil, w_brk, w_cont, w_pass, w_ss0, w_ss, fw_nx, fw_brk, fw_cont, fw_ret, nn_none, nn_int, nn_bl, nn_str, nn_tup, nn_lst, ol_lst, op_some, op_none, op_ite, ob_bl, oi_int, sl_pu, sl_ow, al_ow, al_obj, so_lst, opdV, retV, endQ, letgo, ite_self, ixN_3_0, ixN_3_1, ixN_3_2, atI_0, atI_1, atI_2, atI_3, List.getElem?_cons_zero, List.getElem?_cons_succ, List.set_cons_zero, List.set_cons_succ, List.length_cons, List.length_nil, List.length_map, Option.bind_some, Option.map_some, Nat.zero_add, Nat.reduceAdd, Nat.reduceLT, Nat.reduceLeDiff, Nat.zero_le, if_false, if_true, Bool.false_eq_true, Bool.true_eq_false, Bool.not_true, Bool.not_false, reduceCtorEq, true_and, and_true, forall_const, false_and, and_false, false_implies, not_false_eq_true, not_true_eq_false, decide_eq_true_eq, decide_eq_false_iff_not, isi_none_int, isi_none_bool, isi_none_str, isi_none_tuple, isi_none_list, isi_none_list_tuple, isi_none_tuple_list, isi_bl_int, isi_bl_bool, isi_bl_str, isi_bl_tuple, isi_bl_list, isi_bl_list_tuple, isi_bl_tuple_list, isi_int_int, isi_int_bool, isi_int_str, isi_int_tuple, isi_int_list, isi_int_list_tuple, isi_int_tuple_list, isi_str_int, isi_str_bool, isi_str_str, isi_str_tuple, isi_str_list, isi_str_list_tuple, isi_str_tuple_list, isi_tup_int, isi_tup_bool, isi_tup_str, isi_tup_tuple, isi_tup_list, isi_tup_list_tuple, isi_tup_tuple_list, isi_lst_int, isi_lst_bool, isi_lst_str, isi_lst_tuple, isi_lst_list, isi_lst_list_tuple, isi_lst_tuple_list, cmp_eq_ii, cmp_ne_ii, cmp_eq_bb, cmp_ne_bb, cmp_lt, cmp_le, cmp_gt, cmp_ge, cmp_ni_ii, binD, idxD, seqD]
  refine draw_spec T (by decide) (by decide) fun q st1 q0 q1 T1 => ?_
  try simp only [wp_bind, wp_pure, wp_bad, wp_getS, wp_asB, wp_slotOpd, wp_rdSlot, wp_rdVar, wp_rdRet, wp_resV, wp_resS, wp_ress0, wp_ress, wp_setR, wp_setρ, wp_call, wp_setAt, wp_opd, wp_dat, wp_shr, wp_ownL, wp_popAt, wp_popLast, wp_app, wp_ins, wp_bindTup, wp_bindTs0, wp_bindTs, wp_bindNm, wp_blk, w_var, w_con, w_tup, w_lst, w_shr, w_bin, w_cmp, w_idx, w_cmp2, w_and2, w_or2, w_not1, w_ife, w_sli, w_call, w_blt, w_isi, w_lc, w_popk, w_popl, w_isN, w_neg, Z.w_rev, w_part0, w_part1, w_ds0, w_ds, w_os0, w_os, w_cs0, w_cs, line, w_asg, w_asgT, w_aug, w_setI, w_app, w_ins, w_ext, w_expr, w_ret, w_retN, w_if, w_forE, w_whil, w_brk, w_cont, w_pass, w_ss0, w_ss, fw_nx, fw_brk, fw_cont, fw_ret, nn_none, nn_int, nn_bl, nn_str, nn_tup, nn_lst, ol_lst, op_some, op_none, op_ite, ob_bl, oi_int, sl_pu, sl_ow, al_ow, al_obj, so_lst, opdV, retV, endQ, letgo, ite_self, ixN_3_0, ixN_3_1, ixN_3_2, atI_0, atI_1, atI_2, atI_3, List.getElem?_cons_zero, List.getElem?_cons_succ, List.set_cons_zero, List.set_cons_succ, List.length_cons, List.length_nil, List.length_map, Option.bind_some, Option.map_some, Nat.zero_add, Nat.reduceAdd, Nat.reduceLT, Nat.reduceLeDiff, Nat.zero_le, if_false, if_true, Bool.false_eq_true, Bool.true_eq_false, Bool.not_true, Bool.not_false, reduceCtorEq, true_and, and_true, forall_const, false_and, and_false, false_implies, not_false_eq_true, not_true_eq_false, decide_eq_true_eq, decide_eq_false_iff_not, isi_none_int, isi_none_bool, isi_none_str, isi_none_tuple, isi_none_list, isi_none_list_tuple, isi_none_tuple_list, isi_bl_int, isi_bl_bool, isi_bl_str, isi_bl_tuple, isi_bl_list, isi_bl_list_tuple, isi_bl_tuple_list, isi_int_int, isi_int_bool, isi_int_str, isi_int_tuple, isi_int_list, isi_int_list_tuple, isi_int_tuple_list, isi_str_int, isi_str_bool, isi_str_str, isi_str_tuple, isi_str_list, isi_str_list_tuple, isi_str_tuple_list, isi_tup_int, isi_tup_bool, isi_tup_str, isi_tup_tuple, isi_tup_list, isi_tup_list_tuple, isi_tup_tuple_list, isi_lst_int, isi_lst_bool, isi_lst_str, isi_lst_tuple, isi_lst_list, isi_lst_list_tuple, isi_lst_tuple_list, cmp_eq_ii, cmp_ne_ii, cmp_eq_bb, cmp_ne_bb, cmp_lt, cmp_le, cmp_gt, cmp_ge, cmp_ni_ii, binD, idxD, seqD]
  refine ⟨by decide, ?_⟩
  refine op_atI (by omega) (by simp; omega) fun a ha => ?_
  simp only [List.mem_cons, List.not_mem_nil, or_false] at ha
  rcases ha with rfl | rfl
  · try simp only [wp_bind, wp_pure, wp_bad, wp_getS, wp_asB, wp_slotOpd, wp_rdSlot, wp_rdVar, wp_rdRet, wp_resV, wp_resS, wp_ress0, wp_ress, wp_setR, wp_setρ, wp_call, wp_setAt, wp_opd, wp_dat, wp_shr, wp_ownL, wp_popAt, wp_popLast, wp_app, wp_ins, wp_bindTup, wp_bindTs0, wp_bindTs, wp_bindNm, wp_blk, w_var, w_con, w_tup, w_lst, w_shr, w_bin, w_cmp, w_idx, w_cmp2, w_and2, w_or2, w_not1, w_ife, w_sli, w_call, w_blt, w_isi, w_lc, w_popk, w_popl, w_isN, w_neg, Z.w_rev, w_part0, w_part1, w_ds0, w_ds, w_os0, w_os, w_cs0, w_cs, line, w_asg, w_asgT, w_aug, w_setI, w_app, w_ins, w_ext, w_expr, w_ret, w_retN, w_if, w_forE, w_whil, w_brk, w_cont, w_pass, w_ss0, w_ss, fw_nx, fw_brk, fw_cont, fw_ret, nn_none, nn_int, nn_bl, nn_str, nn_tup, nn_lst, ol_lst, op_some, op_none, op_ite, ob_bl, oi_int, sl_pu, sl_ow, al_ow, al_obj, so_lst, opdV, retV, endQ, letgo, ite_self, ixN_3_0, ixN_3_1, ixN_3_2, atI_0, atI_1, atI_2, atI_3, List.getElem?_cons_zero, List.getElem?_cons_succ, List.set_cons_zero, List.set_cons_succ, List.length_cons, List.length_nil, List.length_map, Option.bind_some, Option.map_some, Nat.zero_add, Nat.reduceAdd, Nat.reduceLT, Nat.reduceLeDiff, Nat.zero_le, if_false, if_true, Bool.false_eq_true, Bool.true_eq_false, Bool.not_true, Bool.not_false, reduceCtorEq, true_and, and_true, forall_const, false_and, and_false, false_implies, not_false_eq_true, not_true_eq_false, decide_eq_true_eq, decide_eq_false_iff_not, isi_none_int, isi_none_bool, isi_none_str, isi_none_tuple, isi_none_list, isi_none_list_tuple, isi_none_tuple_list, isi_bl_int, isi_bl_bool, isi_bl_str, isi_bl_tuple, isi_bl_list, isi_bl_list_tuple, isi_bl_tuple_list, isi_int_int, isi_int_bool, isi_int_str, isi_int_tuple, isi_int_list, isi_int_list_tuple, isi_int_tuple_list, isi_str_int, isi_str_bool, isi_str_str, isi_str_tuple, isi_str_list, isi_str_list_tuple, isi_str_tuple_list, isi_tup_int, isi_tup_bool, isi_tup_str, isi_tup_tuple, isi_tup_list, isi_tup_list_tuple, isi_tup_tuple_list, isi_lst_int, isi_lst_bool, isi_lst_str, isi_lst_tuple, isi_lst_list, isi_lst_list_tuple, isi_lst_tuple_list, cmp_eq_ii, cmp_ne_ii, cmp_eq_bb, cmp_ne_bb, cmp_lt, cmp_le, cmp_gt, cmp_ge, cmp_ni_ii]
    refine draw_spec T1 (by decide) (by decide) fun p st2 p0 p1 T2 => ?_
    try simp only [wp_bind, wp_pure, wp_bad, wp_getS, wp_asB, wp_slotOpd, wp_rdSlot, wp_rdVar, wp_rdRet, wp_resV, wp_resS, wp_ress0, wp_ress, wp_setR, wp_setρ, wp_call, wp_setAt, wp_opd, wp_dat, wp_shr, wp_ownL, wp_popAt, wp_popLast, wp_app, wp_ins, wp_bindTup, wp_bindTs0, wp_bindTs, wp_bindNm, wp_blk, w_var, w_con, w_tup, w_lst, w_shr, w_bin, w_cmp, w_idx, w_cmp2, w_and2, w_or2, w_not1, w_ife, w_sli, w_call, w_blt, w_isi, w_lc, w_popk, w_popl, w_isN, w_neg, Z.w_rev, w_part0, w_part1, w_ds0, w_ds, w_os0, w_os, w_cs0, w_cs, line, w_asg, w_asgT, w_aug, w_setI, w_app, w_ins, w_ext, w_expr, w_ret, w_retN, w_if, w_forE, w_whil, w_brk, w_cont, w_pass, w_ss0, w_ss, fw_nx, fw_brk, fw_cont, fw_ret, nn_none, nn_int, nn_bl, nn_str, nn_tup, nn_lst, ol_lst, op_some, op_none, op_ite, ob_bl, oi_int, sl_pu, sl_ow, al_ow, al_obj, so_lst, opdV, retV, endQ, letgo, ite_self, ixN_3_0, ixN_3_1, ixN_3_2, atI_0, atI_1, atI_2, atI_3, List.getElem?_cons_zero, List.getElem?_cons_succ, List.set_cons_zero, List.set_cons_succ, List.length_cons, List.length_nil, List.length_map, Option.bind_some, Option.map_some, Nat.zero_add, Nat.reduceAdd, Nat.reduceLT, Nat.reduceLeDiff, Nat.zero_le, if_false, if_true, Bool.false_eq_true, Bool.true_eq_false, Bool.not_true, Bool.not_false, reduceCtorEq, true_and, and_true, forall_const, false_and, and_false, false_implies, not_false_eq_true, not_true_eq_false, decide_eq_true_eq, decide_eq_false_iff_not, isi_none_int, isi_none_bool, isi_none_str, isi_none_tuple, isi_none_list, isi_none_list_tuple, isi_none_tuple_list, isi_bl_int, isi_bl_bool, isi_bl_str, isi_bl_tuple, isi_bl_list, isi_bl_list_tuple, isi_bl_tuple_list, isi_int_int, isi_int_bool, isi_int_str, isi_int_tuple, isi_int_list, isi_int_list_tuple, isi_int_tuple_list, isi_str_int, isi_str_bool, isi_str_str, isi_str_tuple, isi_str_list, isi_str_list_tuple, isi_str_tuple_list, isi_tup_int, isi_tup_bool, isi_tup_str, isi_tup_tuple, isi_tup_list, isi_tup_list_tuple, isi_tup_tuple_list, isi_lst_int, isi_lst_bool, isi_lst_str, isi_lst_tuple, isi_lst_list, isi_lst_list_tuple, isi_lst_tuple_list, cmp_eq_ii, cmp_ne_ii, cmp_eq_bb, cmp_ne_bb, cmp_lt, cmp_le, cmp_gt, cmp_ge, cmp_ni_ii]
    exact h _ ⟨_, st2⟩ p0 p1 rfl T2
  · try simp only [wp_bind, wp_pure, wp_bad, wp_getS, wp_asB, wp_slotOpd, wp_rdSlot, wp_rdVar, wp_rdRet, wp_resV, wp_resS, wp_ress0, wp_ress, wp_setR, wp_setρ, wp_call, wp_setAt, wp_opd, wp_dat, wp_shr, wp_ownL, wp_popAt, wp_popLast, wp_app, wp_ins, wp_bindTup, wp_bindTs0, wp_bindTs, wp_bindNm, wp_blk, w_var, w_con, w_tup, w_lst, w_shr, w_bin, w_cmp, w_idx, w_cmp2, w_and2, w_or2, w_not1, w_ife, w_sli, w_call, w_blt, w_isi, w_lc, w_popk, w_popl, w_isN, w_neg, Z.w_rev, w_part0, w_part1, w_ds0, w_ds, w_os0, w_os, w_cs0, w_cs, line, w_asg, w_asgT, w_aug, w_setI, w_app, w_ins, w_ext, w_expr, w_ret, w_retN, w_if, w_forE, w_whil, w_brk, w_cont, w_pass, w_ss0, w_ss, fw_nx, fw_brk, fw_cont, fw_ret, nn_none, nn_int, nn_bl, nn_str, nn_tup, nn_lst, ol_lst, op_some, op_none, op_ite, ob_bl, oi_int, sl_pu, sl_ow, al_ow, al_obj, so_lst, opdV, retV, endQ, letgo, ite_self, ixN_3_0, ixN_3_1, ixN_3_2, atI_0, atI_1, atI_2, atI_3, List.getElem?_cons_zero, List.getElem?_cons_succ, List.set_cons_zero, List.set_cons_succ, List.length_cons, List.length_nil, List.length_map, Option.bind_some, Option.map_some, Nat.zero_add, Nat.reduceAdd, Nat.reduceLT, Nat.reduceLeDiff, Nat.zero_le, if_false, if_true, Bool.false_eq_true, Bool.true_eq_false, Bool.not_true, Bool.not_false, reduceCtorEq, true_and, and_true, forall_const, false_and, and_false, false_implies, not_false_eq_true, not_true_eq_false, decide_eq_true_eq, decide_eq_false_iff_not, isi_none_int, isi_none_bool, isi_none_str, isi_none_tuple, isi_none_list, isi_none_list_tuple, isi_none_tuple_list, isi_bl_int, isi_bl_bool, isi_bl_str, isi_bl_tuple, isi_bl_list, isi_bl_list_tuple, isi_bl_tuple_list, isi_int_int, isi_int_bool, isi_int_str, isi_int_tuple, isi_int_list, isi_int_list_tuple, isi_int_tuple_list, isi_str_int, isi_str_bool, isi_str_str, isi_str_tuple, isi_str_list, isi_str_list_tuple, isi_str_tuple_list, isi_tup_int, isi_tup_bool, isi_tup_str, isi_tup_tuple, isi_tup_list, isi_tup_list_tuple, isi_tup_tuple_list, isi_lst_int, isi_lst_bool, isi_lst_str, isi_lst_tuple, isi_lst_list, isi_lst_list_tuple, isi_lst_tuple_list, cmp_eq_ii, cmp_ne_ii, cmp_eq_bb, cmp_ne_bb, cmp_lt, cmp_le, cmp_gt, cmp_ge, cmp_ni_ii]
    refine draw_spec T1 (by decide) (by decide) fun p st2 p0 p1 T2 => ?_
    try simp only [wp_bind, wp_pure, wp_bad, wp_getS, wp_asB, wp_slotOpd, wp_rdSlot, wp_rdVar, wp_rdRet, wp_resV, wp_resS, wp_ress0, wp_ress, wp_setR, wp_setρ, wp_call, wp_setAt, wp_opd, wp_dat, wp_shr, wp_ownL, wp_popAt, wp_popLast, wp_app, wp_ins, wp_bindTup, wp_bindTs0, wp_bindTs, wp_bindNm, wp_blk, w_var, w_con, w_tup, w_lst, w_shr, w_bin, w_cmp, w_idx, w_cmp2, w_and2, w_or2, w_not1, w_ife, w_sli, w_call, w_blt, w_isi, w_lc, w_popk, w_popl, w_isN, w_neg, Z.w_rev, w_part0, w_part1, w_ds0, w_ds, w_os0, w_os, w_cs0, w_cs, line, w_asg, w_asgT, w_aug, w_setI, w_app, w_ins, w_ext, w_expr, w_ret, w_retN, w_if, w_forE, w_whil, w_brk, w_cont, w_pass, w_ss0, w_ss, fw_nx, fw_brk, fw_cont, fw_ret, nn_none, nn_int, nn_bl, nn_str, nn_tup, nn_lst, ol_lst, op_some, op_none, op_ite, ob_bl, oi_int, sl_pu, sl_ow, al_ow, al_obj, so_lst, opdV, retV, endQ, letgo, ite_self, ixN_3_0, ixN_3_1, ixN_3_2, atI_0, atI_1, atI_2, atI_3, List.getElem?_cons_zero, List.getElem?_cons_succ, List.set_cons_zero, List.set_cons_succ, List.length_cons, List.length_nil, List.length_map, Option.bind_some, Option.map_some, Nat.zero_add, Nat.reduceAdd, Nat.reduceLT, Nat.reduceLeDiff, Nat.zero_le, if_false, if_true, Bool.false_eq_true, Bool.true_eq_false, Bool.not_true, Bool.not_false, reduceCtorEq, true_and, and_true, forall_const, false_and, and_false, false_implies, not_false_eq_true, not_true_eq_false, decide_eq_true_eq, decide_eq_false_iff_not, isi_none_int, isi_none_bool, isi_none_str, isi_none_tuple, isi_none_list, isi_none_list_tuple, isi_none_tuple_list, isi_bl_int, isi_bl_bool, isi_bl_str, isi_bl_tuple, isi_bl_list, isi_bl_list_tuple, isi_bl_tuple_list, isi_int_int, isi_int_bool, isi_int_str, isi_int_tuple, isi_int_list, isi_int_list_tuple, isi_int_tuple_list, isi_str_int, isi_str_bool, isi_str_str, isi_str_tuple, isi_str_list, isi_str_list_tuple, isi_str_tuple_list, isi_tup_int, isi_tup_bool, isi_tup_str, isi_tup_tuple, isi_tup_list, isi_tup_list_tuple, isi_tup_tuple_list, isi_lst_int, isi_lst_bool, isi_lst_str, isi_lst_tuple, isi_lst_list, isi_lst_list_tuple, isi_lst_tuple_list, cmp_eq_ii, cmp_ne_ii, cmp_eq_bb, cmp_ne_bb, cmp_lt, cmp_le, cmp_gt, cmp_ge, cmp_ni_ii]
    exact h _ ⟨_, st2⟩ p0 (by omega) rfl T2
end G

namespace G
open PySem PySem.Spec PyProof.Rows L2 Z
/-- a point -/
theorem tree0_spec {n : Nat} {st : List SO} {big : Int} {Q : Rs → List SO → Prop} (T : Tape st) (h : ∀ (p : Int) st', 0 ≤ p → p < 8 → Tape st' → Q (.tup [.tup [.str "point", .int p], .int 1], false) st') : Rp (callF fns wf (n + 2) 15 [.obj 1, .int big, .int 0] st) Q := by
  refine c__law_tree ?_
  unfold b__law_tree
  try simp only [wp_bind, wp_pure, wp_bad, wp_getS, wp_asB, wp_slotOpd, wp_rdSlot, wp_rdVar, wp_rdRet, wp_resV, wp_resS, wp_ress0, wp_ress, wp_setR, wp_setρ, wp_call, wp_setAt, wp_opd, wp_dat, wp_shr, wp_ownL, wp_popAt, wp_popLast, wp_app, wp_ins, wp_bindTup, wp_bindTs0, wp_bindTs, wp_bindNm, wp_blk, w_var, w_con, w_tup, w_lst, w_shr, w_bin, w_cmp, w_idx, w_cmp2, w_and2, w_or2, w_not1, w_ife, w_sli, w_call, w_blt, w_isi, w_lc, w_popk, w_popl, w_isN, w_neg, Z.w_rev, w_part0, w_part1, w_ds0, w_ds, w_os0, w_os, w_cs0, w_cs, line, w_asg, w_asgT, w_aug, w_setI, w_app, w_ins, w_ext, w_expr, w_ret, w_retN, w_if, w_forE, w_whil, w_brk, w_cont, w_pass, w_ss0, w_ss, fw_nx, fw_brk, fw_cont, fw_ret, nn_none, nn_int, nn_bl, nn_str, nn_tup, nn_lst, ol_lst, op_some, op_none, op_ite, ob_bl, oi_int, sl_pu, sl_ow, al_ow, al_obj, so_lst, opdV, retV, endQ, letgo, ite_self, ixN_3_0, ixN_3_1, ixN_3_2, atI_0, atI_1, atI_2, atI_3, List.getElem?_cons_zero, List.getElem?_cons_succ, List.set_cons_zero, List.set_cons_succ, List.length_cons, List.length_nil, List.length_map, Option.bind_some, Option.map_some, Nat.zero_add, Nat.reduceAdd, Nat.reduceLT, Nat.reduceLeDiff, Nat.zero_le, if_false, if_true, Bool.false_eq_true, Bool.true_eq_false, Bool.not_true, Bool.not_false, reduceCtorEq, true_and, and_true, forall_const, false_and, and_false, false_implies, not_false_eq_true, not_true_eq_false, decide_eq_true_eq, decide_eq_false_iff_not, isi_none_int, isi_none_bool, isi_none_str, isi_none_tuple, isi_none_list, isi_none_list_tuple, isi_none_tuple_list, isi_bl_int, isi_bl_bool, isi_bl_str, isi_bl_tuple, isi_bl_list, isi_bl_list_tuple, isi_bl_tuple_list, isi_int_int, isi_int_bool, isi_int_str, isi_int_tuple, isi_int_list, isi_int_list_tuple, isi_int_tuple_list, isi_str_int, isi_str_bool, isi_str_str, isi_str_tuple, isi_str_list, isi_str_list_tuple, isi_str_tuple_list, isi_tup_int, isi_tup_bool, isi_tup_str, isi_tup_tuple, isi_tup_list, isi_tup_list_tuple, isi_tup_tuple_list, isi_lst_int, isi_lst_bool, isi_lst_str, isi_lst_tuple, isi_lst_list, isi_lst_list_tuple, isi_lst_tuple_list, cmp_eq_ii, cmp_ne_ii, cmp_eq_bb, cmp_ne_bb, cmp_lt, cmp_le, cmp_gt, cmp_ge, cmp_ni_ii, binD, idxD, seqD]
  refine draw_spec T (by decide) (by decide) fun q st1 q0 q1 T1 => ?_
  try simp only [wp_bind, wp_pure, wp_bad, wp_getS, wp_asB, wp_slotOpd, wp_rdSlot, wp_rdVar, wp_rdRet, wp_resV, wp_resS, wp_ress0, wp_ress, wp_setR, wp_setρ, wp_call, wp_setAt, wp_opd, wp_dat, wp_shr, wp_ownL, wp_popAt, wp_popLast, wp_app, wp_ins, wp_bindTup, wp_bindTs0, wp_bindTs, wp_bindNm, wp_blk, w_var, w_con, w_tup, w_lst, w_shr, w_bin, w_cmp, w_idx, w_cmp2, w_and2, w_or2, w_not1, w_ife, w_sli, w_call, w_blt, w_isi, w_lc, w_popk, w_popl, w_isN, w_neg, Z.w_rev, w_part0, w_part1, w_ds0, w_ds, w_os0, w_os, w_cs0, w_cs, line, w_asg, w_asgT, w_aug, w_setI, w_app, w_ins, w_ext, w_expr, w_ret, w_retN, w_if, w_forE, w_whil, w_brk, w_cont, w_pass, w_ss0, w_ss, fw_nx, fw_brk, fw_cont, fw_ret, nn_none, nn_int, nn_bl, nn_str, nn_tup, nn_lst, ol_lst, op_some, op_none, op_ite, ob_bl, oi_int, sl_pu, sl_ow, al_ow, al_obj, so_lst, opdV, retV, endQ, letgo, ite_self, ixN_3_0, ixN_3_1, ixN_3_2, atI_0, atI_1, atI_2, atI_3, List.getElem?_cons_zero, List.getElem?_cons_succ, List.set_cons_zero, List.set_cons_succ, List.length_cons, List.length_nil, List.length_map, Option.bind_some, Option.map_some, Nat.zero_add, Nat.reduceAdd, Nat.reduceLT, Nat.reduceLeDiff, Nat.zero_le, if_false, if_true, Bool.false_eq_true, Bool.true_eq_false, Bool.not_true, Bool.not_false, reduceCtorEq, true_and, and_true, forall_const, false_and, and_false, false_implies, not_false_eq_true, not_true_eq_false, decide_eq_true_eq, decide_eq_false_iff_not, isi_none_int, isi_none_bool, isi_none_str, isi_none_tuple, isi_none_list, isi_none_list_tuple, isi_none_tuple_list, isi_bl_int, isi_bl_bool, isi_bl_str, isi_bl_tuple, isi_bl_list, isi_bl_list_tuple, isi_bl_tuple_list, isi_int_int, isi_int_bool, isi_int_str, isi_int_tuple, isi_int_list, isi_int_list_tuple, isi_int_tuple_list, isi_str_int, isi_str_bool, isi_str_str, isi_str_tuple, isi_str_list, isi_str_list_tuple, isi_str_tuple_list, isi_tup_int, isi_tup_bool, isi_tup_str, isi_tup_tuple, isi_tup_list, isi_tup_list_tuple, isi_tup_tuple_list, isi_lst_int, isi_lst_bool, isi_lst_str, isi_lst_tuple, isi_lst_list, isi_lst_list_tuple, isi_lst_tuple_list, cmp_eq_ii, cmp_ne_ii, cmp_eq_bb, cmp_ne_bb, cmp_lt, cmp_le, cmp_gt, cmp_ge, cmp_ni_ii, binD, idxD, seqD]
  refine ⟨by decide, ?_⟩
  refine op_atI (by omega) (by simp; omega) fun a ha => ?_
  simp only [List.mem_cons, List.not_mem_nil, or_false] at ha
  rcases ha with rfl | rfl
  · try simp only [wp_bind, wp_pure, wp_bad, wp_getS, wp_asB, wp_slotOpd, wp_rdSlot, wp_rdVar, wp_rdRet, wp_resV, wp_resS, wp_ress0, wp_ress, wp_setR, wp_setρ, wp_call, wp_setAt, wp_opd, wp_dat, wp_shr, wp_ownL, wp_popAt, wp_popLast, wp_app, wp_ins, wp_bindTup, wp_bindTs0, wp_bindTs, wp_bindNm, wp_blk, w_var, w_con, w_tup, w_lst, w_shr, w_bin, w_cmp, w_idx, w_cmp2, w_and2, w_or2, w_not1, w_ife, w_sli, w_call, w_blt, w_isi, w_lc, w_popk, w_popl, w_isN, w_neg, Z.w_rev, w_part0, w_part1, w_ds0, w_ds, w_os0, w_os, w_cs0, w_cs, line, w_asg, w_asgT, w_aug, w_setI, w_app, w_ins, w_ext, w_expr, w_ret, w_retN, w_if, w_forE, w_whil, w_brk, w_cont, w_pass, w_ss0, w_ss, fw_nx, fw_brk, fw_cont, fw_ret, nn_none, nn_int, nn_bl, nn_str, nn_tup, nn_lst, ol_lst, op_some, op_none, op_ite, ob_bl, oi_int, sl_pu, sl_ow, al_ow, al_obj, so_lst, opdV, retV, endQ, letgo, ite_self, ixN_3_0, ixN_3_1, ixN_3_2, atI_0, atI_1, atI_2, atI_3, List.getElem?_cons_zero, List.getElem?_cons_succ, List.set_cons_zero, List.set_cons_succ, List.length_cons, List.length_nil, List.length_map, Option.bind_some, Option.map_some, Nat.zero_add, Nat.reduceAdd, Nat.reduceLT, Nat.reduceLeDiff, Nat.zero_le, if_false, if_true, Bool.false_eq_true, Bool.true_eq_false, Bool.not_true, Bool.not_false, reduceCtorEq, true_and, and_true, forall_const, false_and, and_false, false_implies, not_false_eq_true, not_true_eq_false, decide_eq_true_eq, decide_eq_false_iff_not, isi_none_int, isi_none_bool, isi_none_str, isi_none_tuple, isi_none_list, isi_none_list_tuple, isi_none_tuple_list, isi_bl_int, isi_bl_bool, isi_bl_str, isi_bl_tuple, isi_bl_list, isi_bl_list_tuple, isi_bl_tuple_list, isi_int_int, isi_int_bool, isi_int_str, isi_int_tuple, isi_int_list, isi_int_list_tuple, isi_int_tuple_list, isi_str_int, isi_str_bool, isi_str_str, isi_str_tuple, isi_str_list, isi_str_list_tuple, isi_str_tuple_list, isi_tup_int, isi_tup_bool, isi_tup_str, isi_tup_tuple, isi_tup_list, isi_tup_list_tuple, isi_tup_tuple_list, isi_lst_int, isi_lst_bool, isi_lst_str, isi_lst_tuple, isi_lst_list, isi_lst_list_tuple, isi_lst_tuple_list, cmp_eq_ii, cmp_ne_ii, cmp_eq_bb, cmp_ne_bb, cmp_lt, cmp_le, cmp_gt, cmp_ge, cmp_ni_ii]
    refine draw_spec T1 (by decide) (by decide) fun p st2 p0 p1 T2 => ?_
    try simp only [wp_bind, wp_pure, wp_bad, wp_getS, wp_asB, wp_slotOpd, wp_rdSlot, wp_rdVar, wp_rdRet, wp_resV, wp_resS, wp_ress0, wp_ress, wp_setR, wp_setρ, wp_call, wp_setAt, wp_opd, wp_dat, wp_shr, wp_ownL, wp_popAt, wp_popLast, wp_app, wp_ins, wp_bindTup, wp_bindTs0, wp_bindTs, wp_bindNm, wp_blk, w_var, w_con, w_tup, w_lst, w_shr, w_bin, w_cmp, w_idx, w_cmp2, w_and2, w_or2, w_not1, w_ife, w_sli, w_call, w_blt, w_isi, w_lc, w_popk, w_popl, w_isN, w_neg, Z.w_rev, w_part0, w_part1, w_ds0, w_ds, w_os0, w_os, w_cs0, w_cs, line, w_asg, w_asgT, w_aug, w_setI, w_app, w_ins, w_ext, w_expr, w_ret, w_retN, w_if, w_forE, w_whil, w_brk, w_cont, w_pass, w_ss0, w_ss, fw_nx, fw_brk, fw_cont, fw_ret, nn_none, nn_int, nn_bl, nn_str, nn_tup, nn_lst, ol_lst, op_some, op_none, op_ite, ob_bl, oi_int, sl_pu, sl_ow, al_ow, al_obj, so_lst, opdV, retV, endQ, letgo, ite_self, ixN_3_0, ixN_3_1, ixN_3_2, atI_0, atI_1, atI_2, atI_3, List.getElem?_cons_zero, List.getElem?_cons_succ, List.set_cons_zero, List.set_cons_succ, List.length_cons, List.length_nil, List.length_map, Option.bind_some, Option.map_some, Nat.zero_add, Nat.reduceAdd, Nat.reduceLT, Nat.reduceLeDiff, Nat.zero_le, if_false, if_true, Bool.false_eq_true, Bool.true_eq_false, Bool.not_true, Bool.not_false, reduceCtorEq, true_and, and_true, forall_const, false_and, and_false, false_implies, not_false_eq_true, not_true_eq_false, decide_eq_true_eq, decide_eq_false_iff_not, isi_none_int, isi_none_bool, isi_none_str, isi_none_tuple, isi_none_list, isi_none_list_tuple, isi_none_tuple_list, isi_bl_int, isi_bl_bool, isi_bl_str, isi_bl_tuple, isi_bl_list, isi_bl_list_tuple, isi_bl_tuple_list, isi_int_int, isi_int_bool, isi_int_str, isi_int_tuple, isi_int_list, isi_int_list_tuple, isi_int_tuple_list, isi_str_int, isi_str_bool, isi_str_str, isi_str_tuple, isi_str_list, isi_str_list_tuple, isi_str_tuple_list, isi_tup_int, isi_tup_bool, isi_tup_str, isi_tup_tuple, isi_tup_list, isi_tup_list_tuple, isi_tup_tuple_list, isi_lst_int, isi_lst_bool, isi_lst_str, isi_lst_tuple, isi_lst_list, isi_lst_list_tuple, isi_lst_tuple_list, cmp_eq_ii, cmp_ne_ii, cmp_eq_bb, cmp_ne_bb, cmp_lt, cmp_le, cmp_gt, cmp_ge, cmp_ni_ii]
    exact h _ _ p0 p1 T2
  · try simp only [wp_bind, wp_pure, wp_bad, wp_getS, wp_asB, wp_slotOpd, wp_rdSlot, wp_rdVar, wp_rdRet, wp_resV, wp_resS, wp_ress0, wp_ress, wp_setR, wp_setρ, wp_call, wp_setAt, wp_opd, wp_dat, wp_shr, wp_ownL, wp_popAt, wp_popLast, wp_app, wp_ins, wp_bindTup, wp_bindTs0, wp_bindTs, wp_bindNm, wp_blk, w_var, w_con, w_tup, w_lst, w_shr, w_bin, w_cmp, w_idx, w_cmp2, w_and2, w_or2, w_not1, w_ife, w_sli, w_call, w_blt, w_isi, w_lc, w_popk, w_popl, w_isN, w_neg, Z.w_rev, w_part0, w_part1, w_ds0, w_ds, w_os0, w_os, w_cs0, w_cs, line, w_asg, w_asgT, w_aug, w_setI, w_app, w_ins, w_ext, w_expr, w_ret, w_retN, w_if, w_forE, w_whil, w_brk, w_cont, w_pass, w_ss0, w_ss, fw_nx, fw_brk, fw_cont, fw_ret, nn_none, nn_int, nn_bl, nn_str, nn_tup, nn_lst, ol_lst, op_some, op_none, op_ite, ob_bl, oi_int, sl_pu, sl_ow, al_ow, al_obj, so_lst, opdV, retV, endQ, letgo, ite_self, ixN_3_0, ixN_3_1, ixN_3_2, atI_0, atI_1, atI_2, atI_3, List.getElem?_cons_zero, List.getElem?_cons_succ, List.set_cons_zero, List.set_cons_succ, List.length_cons, List.length_nil, List.length_map, Option.bind_some, Option.map_some, Nat.zero_add, Nat.reduceAdd, Nat.reduceLT, Nat.reduceLeDiff, Nat.zero_le, if_false, if_true, Bool.false_eq_true, Bool.true_eq_false, Bool.not_true, Bool.not_false, reduceCtorEq, true_and, and_true, forall_const, false_and, and_false, false_implies, not_false_eq_true, not_true_eq_false, decide_eq_true_eq, decide_eq_false_iff_not, isi_none_int, isi_none_bool, isi_none_str, isi_none_tuple, isi_none_list, isi_none_list_tuple, isi_none_tuple_list, isi_bl_int, isi_bl_bool, isi_bl_str, isi_bl_tuple, isi_bl_list, isi_bl_list_tuple, isi_bl_tuple_list, isi_int_int, isi_int_bool, isi_int_str, isi_int_tuple, isi_int_list, isi_int_list_tuple, isi_int_tuple_list, isi_str_int, isi_str_bool, isi_str_str, isi_str_tuple, isi_str_list, isi_str_list_tuple, isi_str_tuple_list, isi_tup_int, isi_tup_bool, isi_tup_str, isi_tup_tuple, isi_tup_list, isi_tup_list_tuple, isi_tup_tuple_list, isi_lst_int, isi_lst_bool, isi_lst_str, isi_lst_tuple, isi_lst_list, isi_lst_list_tuple, isi_lst_tuple_list, cmp_eq_ii, cmp_ne_ii, cmp_eq_bb, cmp_ne_bb, cmp_lt, cmp_le, cmp_gt, cmp_ge, cmp_ni_ii]
    refine draw_spec T1 (by decide) (by decide) fun p st2 p0 p1 T2 => ?_
    try simp only [wp_bind, wp_pure, wp_bad, wp_getS, wp_asB, wp_slotOpd, wp_rdSlot, wp_rdVar, wp_rdRet, wp_resV, wp_resS, wp_ress0, wp_ress, wp_setR, wp_setρ, wp_call, wp_setAt, wp_opd, wp_dat, wp_shr, wp_ownL, wp_popAt, wp_popLast, wp_app, wp_ins, wp_bindTup, wp_bindTs0, wp_bindTs, wp_bindNm, wp_blk, w_var, w_con, w_tup, w_lst, w_shr, w_bin, w_cmp, w_idx, w_cmp2, w_and2, w_or2, w_not1, w_ife, w_sli, w_call, w_blt, w_isi, w_lc, w_popk, w_popl, w_isN, w_neg, Z.w_rev, w_part0, w_part1, w_ds0, w_ds, w_os0, w_os, w_cs0, w_cs, line, w_asg, w_asgT, w_aug, w_setI, w_app, w_ins, w_ext, w_expr, w_ret, w_retN, w_if, w_forE, w_whil, w_brk, w_cont, w_pass, w_ss0, w_ss, fw_nx, fw_brk, fw_cont, fw_ret, nn_none, nn_int, nn_bl, nn_str, nn_tup, nn_lst, ol_lst, op_some, op_none, op_ite, ob_bl, oi_int, sl_pu, sl_ow, al_ow, al_obj, so_lst, opdV, retV, endQ, letgo, ite_self, ixN_3_0, ixN_3_1, ixN_3_2, atI_0, atI_1, atI_2, atI_3, List.getElem?_cons_zero, List.getElem?_cons_succ, List.set_cons_zero, List.set_cons_succ, List.length_cons, List.length_nil, List.length_map, Option.bind_some, Option.map_some, Nat.zero_add, Nat.reduceAdd, Nat.reduceLT, Nat.reduceLeDiff, Nat.zero_le, if_false, if_true, Bool.false_eq_true, Bool.true_eq_false, Bool.not_true, Bool.not_false, reduceCtorEq, true_and, and_true, forall_const, false_and, and_false, false_implies, not_false_eq_true, not_true_eq_false, decide_eq_true_eq, decide_eq_false_iff_not, isi_none_int, isi_none_bool, isi_none_str, isi_none_tuple, isi_none_list, isi_none_list_tuple, isi_none_tuple_list, isi_bl_int, isi_bl_bool, isi_bl_str, isi_bl_tuple, isi_bl_list, isi_bl_list_tuple, isi_bl_tuple_list, isi_int_int, isi_int_bool, isi_int_str, isi_int_tuple, isi_int_list, isi_int_list_tuple, isi_int_tuple_list, isi_str_int, isi_str_bool, isi_str_str, isi_str_tuple, isi_str_list, isi_str_list_tuple, isi_str_tuple_list, isi_tup_int, isi_tup_bool, isi_tup_str, isi_tup_tuple, isi_tup_list, isi_tup_list_tuple, isi_tup_tuple_list, isi_lst_int, isi_lst_bool, isi_lst_str, isi_lst_tuple, isi_lst_list, isi_lst_list_tuple, isi_lst_tuple_list, cmp_eq_ii, cmp_ne_ii, cmp_eq_bb, cmp_ne_bb, cmp_lt, cmp_le, cmp_gt, cmp_ge, cmp_ni_ii]
    exact h _ _ p0 (by omega) T2
theorem tree_spec {big : Int} : ∀ {k n : Nat} {st : List SO} {Q : Rs → List SO → Prop}, Tape st → (∀ f s st', Fm (k + 1) f → Tape st' → Q (.tup [f, .int s], false) st') → Rp (callF fns wf (n + k + 3) 15 [.obj 1, .int big, .int k] st) Q
  | 0, n, st, Q, T, h => by
    show Rp (callF fns wf ((n + 1) + 2) 15 [.obj 1, .int big, .int 0] st) Q
    exact tree0_spec T fun p st' p0 p1 T' => h _ _ _ (.pt p0 p1) T'
  | k + 1, n, st, Q, T, h => by
    show Rp (callF fns wf ((n + k + 3) + 1) 15 [.obj 1, .int big, .int ((k + 1 : Nat) : Int)] st) Q
    refine c__law_tree ?_
    unfold b__law_tree
    have e : (((k + 1 : Nat) : Int) - 1) = (k : Int) := by omega
    have e0 : ¬ (((k + 1 : Nat) : Int) = 0) := by omega
    try simp only [wp_bind, wp_pure, wp_bad, wp_getS, wp_asB, wp_slotOpd, wp_rdSlot, wp_rdVar, wp_rdRet, wp_resV, wp_resS, wp_ress0, wp_ress, wp_setR, wp_setρ, wp_call, wp_setAt, wp_opd, wp_dat, wp_shr, wp_ownL, wp_popAt, wp_popLast, wp_app, wp_ins, wp_bindTup, wp_bindTs0, wp_bindTs, wp_bindNm, wp_blk, w_var, w_con, w_tup, w_lst, w_shr, w_bin, w_cmp, w_idx, w_cmp2, w_and2, w_or2, w_not1, w_ife, w_sli, w_call, w_blt, w_isi, w_lc, w_popk, w_popl, w_isN, w_neg, Z.w_rev, w_part0, w_part1, w_ds0, w_ds, w_os0, w_os, w_cs0, w_cs, line, w_asg, w_asgT, w_aug, w_setI, w_app, w_ins, w_ext, w_expr, w_ret, w_retN, w_if, w_forE, w_whil, w_brk, w_cont, w_pass, w_ss0, w_ss, fw_nx, fw_brk, fw_cont, fw_ret, nn_none, nn_int, nn_bl, nn_str, nn_tup, nn_lst, ol_lst, op_some, op_none, op_ite, ob_bl, oi_int, sl_pu, sl_ow, al_ow, al_obj, so_lst, opdV, retV, endQ, letgo, ite_self, ixN_3_0, ixN_3_1, ixN_3_2, atI_0, atI_1, atI_2, atI_3, List.getElem?_cons_zero, List.getElem?_cons_succ, List.set_cons_zero, List.set_cons_succ, List.length_cons, List.length_nil, List.length_map, Option.bind_some, Option.map_some, Nat.zero_add, Nat.reduceAdd, Nat.reduceLT, Nat.reduceLeDiff, Nat.zero_le, if_false, if_true, Bool.false_eq_true, Bool.true_eq_false, Bool.not_true, Bool.not_false, reduceCtorEq, true_and, and_true, forall_const, false_and, and_false, false_implies, not_false_eq_true, not_true_eq_false, decide_eq_true_eq, decide_eq_false_iff_not, isi_none_int, isi_none_bool, isi_none_str, isi_none_tuple, isi_none_list, isi_none_list_tuple, isi_none_tuple_list, isi_bl_int, isi_bl_bool, isi_bl_str, isi_bl_tuple, isi_bl_list, isi_bl_list_tuple, isi_bl_tuple_list, isi_int_int, isi_int_bool, isi_int_str, isi_int_tuple, isi_int_list, isi_int_list_tuple, isi_int_tuple_list, isi_str_int, isi_str_bool, isi_str_str, isi_str_tuple, isi_str_list, isi_str_list_tuple, isi_str_tuple_list, isi_tup_int, isi_tup_bool, isi_tup_str, isi_tup_tuple, isi_tup_list, isi_tup_list_tuple, isi_tup_tuple_list, isi_lst_int, isi_lst_bool, isi_lst_str, isi_lst_tuple, isi_lst_list, isi_lst_list_tuple, isi_lst_tuple_list, cmp_eq_ii, cmp_ne_ii, cmp_eq_bb, cmp_ne_bb, cmp_lt, cmp_le, cmp_gt, cmp_ge, cmp_ni_ii, binD, idxD, seqD, e0]
    refine draw_spec T (by decide) (by decide) fun q st1 q0 q1 T1 => ?_
    try simp only [wp_bind, wp_pure, wp_bad, wp_getS, wp_asB, wp_slotOpd, wp_rdSlot, wp_rdVar, wp_rdRet, wp_resV, wp_resS, wp_ress0, wp_ress, wp_setR, wp_setρ, wp_call, wp_setAt, wp_opd, wp_dat, wp_shr, wp_ownL, wp_popAt, wp_popLast, wp_app, wp_ins, wp_bindTup, wp_bindTs0, wp_bindTs, wp_bindNm, wp_blk, w_var, w_con, w_tup, w_lst, w_shr, w_bin, w_cmp, w_idx, w_cmp2, w_and2, w_or2, w_not1, w_ife, w_sli, w_call, w_blt, w_isi, w_lc, w_popk, w_popl, w_isN, w_neg, Z.w_rev, w_part0, w_part1, w_ds0, w_ds, w_os0, w_os, w_cs0, w_cs, line, w_asg, w_asgT, w_aug, w_setI, w_app, w_ins, w_ext, w_expr, w_ret, w_retN, w_if, w_forE, w_whil, w_brk, w_cont, w_pass, w_ss0, w_ss, fw_nx, fw_brk, fw_cont, fw_ret, nn_none, nn_int, nn_bl, nn_str, nn_tup, nn_lst, ol_lst, op_some, op_none, op_ite, ob_bl, oi_int, sl_pu, sl_ow, al_ow, al_obj, so_lst, opdV, retV, endQ, letgo, ite_self, ixN_3_0, ixN_3_1, ixN_3_2, atI_0, atI_1, atI_2, atI_3, List.getElem?_cons_zero, List.getElem?_cons_succ, List.set_cons_zero, List.set_cons_succ, List.length_cons, List.length_nil, List.length_map, Option.bind_some, Option.map_some, Nat.zero_add, Nat.reduceAdd, Nat.reduceLT, Nat.reduceLeDiff, Nat.zero_le, if_false, if_true, Bool.false_eq_true, Bool.true_eq_false, Bool.not_true, Bool.not_false, reduceCtorEq, true_and, and_true, forall_const, false_and, and_false, false_implies, not_false_eq_true, not_true_eq_false, decide_eq_true_eq, decide_eq_false_iff_not, isi_none_int, isi_none_bool, isi_none_str, isi_none_tuple, isi_none_list, isi_none_list_tuple, isi_none_tuple_list, isi_bl_int, isi_bl_bool, isi_bl_str, isi_bl_tuple, isi_bl_list, isi_bl_list_tuple, isi_bl_tuple_list, isi_int_int, isi_int_bool, isi_int_str, isi_int_tuple, isi_int_list, isi_int_list_tuple, isi_int_tuple_list, isi_str_int, isi_str_bool, isi_str_str, isi_str_tuple, isi_str_list, isi_str_list_tuple, isi_str_tuple_list, isi_tup_int, isi_tup_bool, isi_tup_str, isi_tup_tuple, isi_tup_list, isi_tup_list_tuple, isi_tup_tuple_list, isi_lst_int, isi_lst_bool, isi_lst_str, isi_lst_tuple, isi_lst_list, isi_lst_list_tuple, isi_lst_tuple_list, cmp_eq_ii, cmp_ne_ii, cmp_eq_bb, cmp_ne_bb, cmp_lt, cmp_le, cmp_gt, cmp_ge, cmp_ni_ii, binD, idxD, seqD, e]
    refine ⟨fun _ => ?_, fun _ => ?_⟩
    · refine draw_spec T1 (by decide) (by decide) fun q st1 q0 q1 T1 => ?_
      try simp only [wp_bind, wp_pure, wp_bad, wp_getS, wp_asB, wp_slotOpd, wp_rdSlot, wp_rdVar, wp_rdRet, wp_resV, wp_resS, wp_ress0, wp_ress, wp_setR, wp_setρ, wp_call, wp_setAt, wp_opd, wp_dat, wp_shr, wp_ownL, wp_popAt, wp_popLast, wp_app, wp_ins, wp_bindTup, wp_bindTs0, wp_bindTs, wp_bindNm, wp_blk, w_var, w_con, w_tup, w_lst, w_shr, w_bin, w_cmp, w_idx, w_cmp2, w_and2, w_or2, w_not1, w_ife, w_sli, w_call, w_blt, w_isi, w_lc, w_popk, w_popl, w_isN, w_neg, Z.w_rev, w_part0, w_part1, w_ds0, w_ds, w_os0, w_os, w_cs0, w_cs, line, w_asg, w_asgT, w_aug, w_setI, w_app, w_ins, w_ext, w_expr, w_ret, w_retN, w_if, w_forE, w_whil, w_brk, w_cont, w_pass, w_ss0, w_ss, fw_nx, fw_brk, fw_cont, fw_ret, nn_none, nn_int, nn_bl, nn_str, nn_tup, nn_lst, ol_lst, op_some, op_none, op_ite, ob_bl, oi_int, sl_pu, sl_ow, al_ow, al_obj, so_lst, opdV, retV, endQ, letgo, ite_self, ixN_3_0, ixN_3_1, ixN_3_2, atI_0, atI_1, atI_2, atI_3, List.getElem?_cons_zero, List.getElem?_cons_succ, List.set_cons_zero, List.set_cons_succ, List.length_cons, List.length_nil, List.length_map, Option.bind_some, Option.map_some, Nat.zero_add, Nat.reduceAdd, Nat.reduceLT, Nat.reduceLeDiff, Nat.zero_le, if_false, if_true, Bool.false_eq_true, Bool.true_eq_false, Bool.not_true, Bool.not_false, reduceCtorEq, true_and, and_true, forall_const, false_and, and_false, false_implies, not_false_eq_true, not_true_eq_false, decide_eq_true_eq, decide_eq_false_iff_not, isi_none_int, isi_none_bool, isi_none_str, isi_none_tuple, isi_none_list, isi_none_list_tuple, isi_none_tuple_list, isi_bl_int, isi_bl_bool, isi_bl_str, isi_bl_tuple, isi_bl_list, isi_bl_list_tuple, isi_bl_tuple_list, isi_int_int, isi_int_bool, isi_int_str, isi_int_tuple, isi_int_list, isi_int_list_tuple, isi_int_tuple_list, isi_str_int, isi_str_bool, isi_str_str, isi_str_tuple, isi_str_list, isi_str_list_tuple, isi_str_tuple_list, isi_tup_int, isi_tup_bool, isi_tup_str, isi_tup_tuple, isi_tup_list, isi_tup_list_tuple, isi_tup_tuple_list, isi_lst_int, isi_lst_bool, isi_lst_str, isi_lst_tuple, isi_lst_list, isi_lst_list_tuple, isi_lst_tuple_list, cmp_eq_ii, cmp_ne_ii, cmp_eq_bb, cmp_ne_bb, cmp_lt, cmp_le, cmp_gt, cmp_ge, cmp_ni_ii, binD, idxD, seqD]
      refine ⟨by decide, ?_⟩
      refine op_atI (by omega) (by simp; omega) fun a ha => ?_
      simp only [List.mem_cons, List.not_mem_nil, or_false] at ha
      rcases ha with rfl | rfl
      · try simp only [wp_bind, wp_pure, wp_bad, wp_getS, wp_asB, wp_slotOpd, wp_rdSlot, wp_rdVar, wp_rdRet, wp_resV, wp_resS, wp_ress0, wp_ress, wp_setR, wp_setρ, wp_call, wp_setAt, wp_opd, wp_dat, wp_shr, wp_ownL, wp_popAt, wp_popLast, wp_app, wp_ins, wp_bindTup, wp_bindTs0, wp_bindTs, wp_bindNm, wp_blk, w_var, w_con, w_tup, w_lst, w_shr, w_bin, w_cmp, w_idx, w_cmp2, w_and2, w_or2, w_not1, w_ife, w_sli, w_call, w_blt, w_isi, w_lc, w_popk, w_popl, w_isN, w_neg, Z.w_rev, w_part0, w_part1, w_ds0, w_ds, w_os0, w_os, w_cs0, w_cs, line, w_asg, w_asgT, w_aug, w_setI, w_app, w_ins, w_ext, w_expr, w_ret, w_retN, w_if, w_forE, w_whil, w_brk, w_cont, w_pass, w_ss0, w_ss, fw_nx, fw_brk, fw_cont, fw_ret, nn_none, nn_int, nn_bl, nn_str, nn_tup, nn_lst, ol_lst, op_some, op_none, op_ite, ob_bl, oi_int, sl_pu, sl_ow, al_ow, al_obj, so_lst, opdV, retV, endQ, letgo, ite_self, ixN_3_0, ixN_3_1, ixN_3_2, atI_0, atI_1, atI_2, atI_3, List.getElem?_cons_zero, List.getElem?_cons_succ, List.set_cons_zero, List.set_cons_succ, List.length_cons, List.length_nil, List.length_map, Option.bind_some, Option.map_some, Nat.zero_add, Nat.reduceAdd, Nat.reduceLT, Nat.reduceLeDiff, Nat.zero_le, if_false, if_true, Bool.false_eq_true, Bool.true_eq_false, Bool.not_true, Bool.not_false, reduceCtorEq, true_and, and_true, forall_const, false_and, and_false, false_implies, not_false_eq_true, not_true_eq_false, decide_eq_true_eq, decide_eq_false_iff_not, isi_none_int, isi_none_bool, isi_none_str, isi_none_tuple, isi_none_list, isi_none_list_tuple, isi_none_tuple_list, isi_bl_int, isi_bl_bool, isi_bl_str, isi_bl_tuple, isi_bl_list, isi_bl_list_tuple, isi_bl_tuple_list, isi_int_int, isi_int_bool, isi_int_str, isi_int_tuple, isi_int_list, isi_int_list_tuple, isi_int_tuple_list, isi_str_int, isi_str_bool, isi_str_str, isi_str_tuple, isi_str_list, isi_str_list_tuple, isi_str_tuple_list, isi_tup_int, isi_tup_bool, isi_tup_str, isi_tup_tuple, isi_tup_list, isi_tup_list_tuple, isi_tup_tuple_list, isi_lst_int, isi_lst_bool, isi_lst_str, isi_lst_tuple, isi_lst_list, isi_lst_list_tuple, isi_lst_tuple_list, cmp_eq_ii, cmp_ne_ii, cmp_eq_bb, cmp_ne_bb, cmp_lt, cmp_le, cmp_gt, cmp_ge, cmp_ni_ii]
        refine draw_spec T1 (by decide) (by decide) fun p st2 p0 p1 T2 => ?_
        try simp only [wp_bind, wp_pure, wp_bad, wp_getS, wp_asB, wp_slotOpd, wp_rdSlot, wp_rdVar, wp_rdRet, wp_resV, wp_resS, wp_ress0, wp_ress, wp_setR, wp_setρ, wp_call, wp_setAt, wp_opd, wp_dat, wp_shr, wp_ownL, wp_popAt, wp_popLast, wp_app, wp_ins, wp_bindTup, wp_bindTs0, wp_bindTs, wp_bindNm, wp_blk, w_var, w_con, w_tup, w_lst, w_shr, w_bin, w_cmp, w_idx, w_cmp2, w_and2, w_or2, w_not1, w_ife, w_sli, w_call, w_blt, w_isi, w_lc, w_popk, w_popl, w_isN, w_neg, Z.w_rev, w_part0, w_part1, w_ds0, w_ds, w_os0, w_os, w_cs0, w_cs, line, w_asg, w_asgT, w_aug, w_setI, w_app, w_ins, w_ext, w_expr, w_ret, w_retN, w_if, w_forE, w_whil, w_brk, w_cont, w_pass, w_ss0, w_ss, fw_nx, fw_brk, fw_cont, fw_ret, nn_none, nn_int, nn_bl, nn_str, nn_tup, nn_lst, ol_lst, op_some, op_none, op_ite, ob_bl, oi_int, sl_pu, sl_ow, al_ow, al_obj, so_lst, opdV, retV, endQ, letgo, ite_self, ixN_3_0, ixN_3_1, ixN_3_2, atI_0, atI_1, atI_2, atI_3, List.getElem?_cons_zero, List.getElem?_cons_succ, List.set_cons_zero, List.set_cons_succ, List.length_cons, List.length_nil, List.length_map, Option.bind_some, Option.map_some, Nat.zero_add, Nat.reduceAdd, Nat.reduceLT, Nat.reduceLeDiff, Nat.zero_le, if_false, if_true, Bool.false_eq_true, Bool.true_eq_false, Bool.not_true, Bool.not_false, reduceCtorEq, true_and, and_true, forall_const, false_and, and_false, false_implies, not_false_eq_true, not_true_eq_false, decide_eq_true_eq, decide_eq_false_iff_not, isi_none_int, isi_none_bool, isi_none_str, isi_none_tuple, isi_none_list, isi_none_list_tuple, isi_none_tuple_list, isi_bl_int, isi_bl_bool, isi_bl_str, isi_bl_tuple, isi_bl_list, isi_bl_list_tuple, isi_bl_tuple_list, isi_int_int, isi_int_bool, isi_int_str, isi_int_tuple, isi_int_list, isi_int_list_tuple, isi_int_tuple_list, isi_str_int, isi_str_bool, isi_str_str, isi_str_tuple, isi_str_list, isi_str_list_tuple, isi_str_tuple_list, isi_tup_int, isi_tup_bool, isi_tup_str, isi_tup_tuple, isi_tup_list, isi_tup_list_tuple, isi_tup_tuple_list, isi_lst_int, isi_lst_bool, isi_lst_str, isi_lst_tuple, isi_lst_list, isi_lst_list_tuple, isi_lst_tuple_list, cmp_eq_ii, cmp_ne_ii, cmp_eq_bb, cmp_ne_bb, cmp_lt, cmp_le, cmp_gt, cmp_ge, cmp_ni_ii]
        exact h _ _ _ (.pt p0 p1) T2
      · try simp only [wp_bind, wp_pure, wp_bad, wp_getS, wp_asB, wp_slotOpd, wp_rdSlot, wp_rdVar, wp_rdRet, wp_resV, wp_resS, wp_ress0, wp_ress, wp_setR, wp_setρ, wp_call, wp_setAt, wp_opd, wp_dat, wp_shr, wp_ownL, wp_popAt, wp_popLast, wp_app, wp_ins, wp_bindTup, wp_bindTs0, wp_bindTs, wp_bindNm, wp_blk, w_var, w_con, w_tup, w_lst, w_shr, w_bin, w_cmp, w_idx, w_cmp2, w_and2, w_or2, w_not1, w_ife, w_sli, w_call, w_blt, w_isi, w_lc, w_popk, w_popl, w_isN, w_neg, Z.w_rev, w_part0, w_part1, w_ds0, w_ds, w_os0, w_os, w_cs0, w_cs, line, w_asg, w_asgT, w_aug, w_setI, w_app, w_ins, w_ext, w_expr, w_ret, w_retN, w_if, w_forE, w_whil, w_brk, w_cont, w_pass, w_ss0, w_ss, fw_nx, fw_brk, fw_cont, fw_ret, nn_none, nn_int, nn_bl, nn_str, nn_tup, nn_lst, ol_lst, op_some, op_none, op_ite, ob_bl, oi_int, sl_pu, sl_ow, al_ow, al_obj, so_lst, opdV, retV, endQ, letgo, ite_self, ixN_3_0, ixN_3_1, ixN_3_2, atI_0, atI_1, atI_2, atI_3, List.getElem?_cons_zero, List.getElem?_cons_succ, List.set_cons_zero, List.set_cons_succ, List.length_cons, List.length_nil, List.length_map, Option.bind_some, Option.map_some, Nat.zero_add, Nat.reduceAdd, Nat.reduceLT, Nat.reduceLeDiff, Nat.zero_le, if_false, if_true, Bool.false_eq_true, Bool.true_eq_false, Bool.not_true, Bool.not_false, reduceCtorEq, true_and, and_true, forall_const, false_and, and_false, false_implies, not_false_eq_true, not_true_eq_false, decide_eq_true_eq, decide_eq_false_iff_not, isi_none_int, isi_none_bool, isi_none_str, isi_none_tuple, isi_none_list, isi_none_list_tuple, isi_none_tuple_list, isi_bl_int, isi_bl_bool, isi_bl_str, isi_bl_tuple, isi_bl_list, isi_bl_list_tuple, isi_bl_tuple_list, isi_int_int, isi_int_bool, isi_int_str, isi_int_tuple, isi_int_list, isi_int_list_tuple, isi_int_tuple_list, isi_str_int, isi_str_bool, isi_str_str, isi_str_tuple, isi_str_list, isi_str_list_tuple, isi_str_tuple_list, isi_tup_int, isi_tup_bool, isi_tup_str, isi_tup_tuple, isi_tup_list, isi_tup_list_tuple, isi_tup_tuple_list, isi_lst_int, isi_lst_bool, isi_lst_str, isi_lst_tuple, isi_lst_list, isi_lst_list_tuple, isi_lst_tuple_list, cmp_eq_ii, cmp_ne_ii, cmp_eq_bb, cmp_ne_bb, cmp_lt, cmp_le, cmp_gt, cmp_ge, cmp_ni_ii]
        refine draw_spec T1 (by decide) (by decide) fun p st2 p0 p1 T2 => ?_
        try simp only [wp_bind, wp_pure, wp_bad, wp_getS, wp_asB, wp_slotOpd, wp_rdSlot, wp_rdVar, wp_rdRet, wp_resV, wp_resS, wp_ress0, wp_ress, wp_setR, wp_setρ, wp_call, wp_setAt, wp_opd, wp_dat, wp_shr, wp_ownL, wp_popAt, wp_popLast, wp_app, wp_ins, wp_bindTup, wp_bindTs0, wp_bindTs, wp_bindNm, wp_blk, w_var, w_con, w_tup, w_lst, w_shr, w_bin, w_cmp, w_idx, w_cmp2, w_and2, w_or2, w_not1, w_ife, w_sli, w_call, w_blt, w_isi, w_lc, w_popk, w_popl, w_isN, w_neg, Z.w_rev, w_part0, w_part1, w_ds0, w_ds, w_os0, w_os, w_cs0, w_cs, line, w_asg, w_asgT, w_aug, w_setI, w_app, w_ins, w_ext, w_expr, w_ret, w_retN, w_if, w_forE, w_whil, w_brk, w_cont, w_pass, w_ss0, w_ss, fw_nx, fw_brk, fw_cont, fw_ret, nn_none, nn_int, nn_bl, nn_str, nn_tup, nn_lst, ol_lst, op_some, op_none, op_ite, ob_bl, oi_int, sl_pu, sl_ow, al_ow, al_obj, so_lst, opdV, retV, endQ, letgo, ite_self, ixN_3_0, ixN_3_1, ixN_3_2, atI_0, atI_1, atI_2, atI_3, List.getElem?_cons_zero, List.getElem?_cons_succ, List.set_cons_zero, List.set_cons_succ, List.length_cons, List.length_nil, List.length_map, Option.bind_some, Option.map_some, Nat.zero_add, Nat.reduceAdd, Nat.reduceLT, Nat.reduceLeDiff, Nat.zero_le, if_false, if_true, Bool.false_eq_true, Bool.true_eq_false, Bool.not_true, Bool.not_false, reduceCtorEq, true_and, and_true, forall_const, false_and, and_false, false_implies, not_false_eq_true, not_true_eq_false, decide_eq_true_eq, decide_eq_false_iff_not, isi_none_int, isi_none_bool, isi_none_str, isi_none_tuple, isi_none_list, isi_none_list_tuple, isi_none_tuple_list, isi_bl_int, isi_bl_bool, isi_bl_str, isi_bl_tuple, isi_bl_list, isi_bl_list_tuple, isi_bl_tuple_list, isi_int_int, isi_int_bool, isi_int_str, isi_int_tuple, isi_int_list, isi_int_list_tuple, isi_int_tuple_list, isi_str_int, isi_str_bool, isi_str_str, isi_str_tuple, isi_str_list, isi_str_list_tuple, isi_str_tuple_list, isi_tup_int, isi_tup_bool, isi_tup_str, isi_tup_tuple, isi_tup_list, isi_tup_list_tuple, isi_tup_tuple_list, isi_lst_int, isi_lst_bool, isi_lst_str, isi_lst_tuple, isi_lst_list, isi_lst_list_tuple, isi_lst_tuple_list, cmp_eq_ii, cmp_ne_ii, cmp_eq_bb, cmp_ne_bb, cmp_lt, cmp_le, cmp_gt, cmp_ge, cmp_ni_ii]
        exact h _ _ _ (.pt p0 (by omega)) T2
    · refine tree_spec T1 fun f s st2 hf T2 => ?_
      try simp only [wp_bind, wp_pure, wp_bad, wp_getS, wp_asB, wp_slotOpd, wp_rdSlot, wp_rdVar, wp_rdRet, wp_resV, wp_resS, wp_ress0, wp_ress, wp_setR, wp_setρ, wp_call, wp_setAt, wp_opd, wp_dat, wp_shr, wp_ownL, wp_popAt, wp_popLast, wp_app, wp_ins, wp_bindTup, wp_bindTs0, wp_bindTs, wp_bindNm, wp_blk, w_var, w_con, w_tup, w_lst, w_shr, w_bin, w_cmp, w_idx, w_cmp2, w_and2, w_or2, w_not1, w_ife, w_sli, w_call, w_blt, w_isi, w_lc, w_popk, w_popl, w_isN, w_neg, Z.w_rev, w_part0, w_part1, w_ds0, w_ds, w_os0, w_os, w_cs0, w_cs, line, w_asg, w_asgT, w_aug, w_setI, w_app, w_ins, w_ext, w_expr, w_ret, w_retN, w_if, w_forE, w_whil, w_brk, w_cont, w_pass, w_ss0, w_ss, fw_nx, fw_brk, fw_cont, fw_ret, nn_none, nn_int, nn_bl, nn_str, nn_tup, nn_lst, ol_lst, op_some, op_none, op_ite, ob_bl, oi_int, sl_pu, sl_ow, al_ow, al_obj, so_lst, opdV, retV, endQ, letgo, ite_self, ixN_3_0, ixN_3_1, ixN_3_2, atI_0, atI_1, atI_2, atI_3, List.getElem?_cons_zero, List.getElem?_cons_succ, List.set_cons_zero, List.set_cons_succ, List.length_cons, List.length_nil, List.length_map, Option.bind_some, Option.map_some, Nat.zero_add, Nat.reduceAdd, Nat.reduceLT, Nat.reduceLeDiff, Nat.zero_le, if_false, if_true, Bool.false_eq_true, Bool.true_eq_false, Bool.not_true, Bool.not_false, reduceCtorEq, true_and, and_true, forall_const, false_and, and_false, false_implies, not_false_eq_true, not_true_eq_false, decide_eq_true_eq, decide_eq_false_iff_not, isi_none_int, isi_none_bool, isi_none_str, isi_none_tuple, isi_none_list, isi_none_list_tuple, isi_none_tuple_list, isi_bl_int, isi_bl_bool, isi_bl_str, isi_bl_tuple, isi_bl_list, isi_bl_list_tuple, isi_bl_tuple_list, isi_int_int, isi_int_bool, isi_int_str, isi_int_tuple, isi_int_list, isi_int_list_tuple, isi_int_tuple_list, isi_str_int, isi_str_bool, isi_str_str, isi_str_tuple, isi_str_list, isi_str_list_tuple, isi_str_tuple_list, isi_tup_int, isi_tup_bool, isi_tup_str, isi_tup_tuple, isi_tup_list, isi_tup_list_tuple, isi_tup_tuple_list, isi_lst_int, isi_lst_bool, isi_lst_str, isi_lst_tuple, isi_lst_list, isi_lst_list_tuple, isi_lst_tuple_list, cmp_eq_ii, cmp_ne_ii, cmp_eq_bb, cmp_ne_bb, cmp_lt, cmp_le, cmp_gt, cmp_ge, cmp_ni_ii, binD, idxD, seqD, e]
      refine tree_spec T2 fun g t st3 hg T3 => ?_
      try simp only [wp_bind, wp_pure, wp_bad, wp_getS, wp_asB, wp_slotOpd, wp_rdSlot, wp_rdVar, wp_rdRet, wp_resV, wp_resS, wp_ress0, wp_ress, wp_setR, wp_setρ, wp_call, wp_setAt, wp_opd, wp_dat, wp_shr, wp_ownL, wp_popAt, wp_popLast, wp_app, wp_ins, wp_bindTup, wp_bindTs0, wp_bindTs, wp_bindNm, wp_blk, w_var, w_con, w_tup, w_lst, w_shr, w_bin, w_cmp, w_idx, w_cmp2, w_and2, w_or2, w_not1, w_ife, w_sli, w_call, w_blt, w_isi, w_lc, w_popk, w_popl, w_isN, w_neg, Z.w_rev, w_part0, w_part1, w_ds0, w_ds, w_os0, w_os, w_cs0, w_cs, line, w_asg, w_asgT, w_aug, w_setI, w_app, w_ins, w_ext, w_expr, w_ret, w_retN, w_if, w_forE, w_whil, w_brk, w_cont, w_pass, w_ss0, w_ss, fw_nx, fw_brk, fw_cont, fw_ret, nn_none, nn_int, nn_bl, nn_str, nn_tup, nn_lst, ol_lst, op_some, op_none, op_ite, ob_bl, oi_int, sl_pu, sl_ow, al_ow, al_obj, so_lst, opdV, retV, endQ, letgo, ite_self, ixN_3_0, ixN_3_1, ixN_3_2, atI_0, atI_1, atI_2, atI_3, List.getElem?_cons_zero, List.getElem?_cons_succ, List.set_cons_zero, List.set_cons_succ, List.length_cons, List.length_nil, List.length_map, Option.bind_some, Option.map_some, Nat.zero_add, Nat.reduceAdd, Nat.reduceLT, Nat.reduceLeDiff, Nat.zero_le, if_false, if_true, Bool.false_eq_true, Bool.true_eq_false, Bool.not_true, Bool.not_false, reduceCtorEq, true_and, and_true, forall_const, false_and, and_false, false_implies, not_false_eq_true, not_true_eq_false, decide_eq_true_eq, decide_eq_false_iff_not, isi_none_int, isi_none_bool, isi_none_str, isi_none_tuple, isi_none_list, isi_none_list_tuple, isi_none_tuple_list, isi_bl_int, isi_bl_bool, isi_bl_str, isi_bl_tuple, isi_bl_list, isi_bl_list_tuple, isi_bl_tuple_list, isi_int_int, isi_int_bool, isi_int_str, isi_int_tuple, isi_int_list, isi_int_list_tuple, isi_int_tuple_list, isi_str_int, isi_str_bool, isi_str_str, isi_str_tuple, isi_str_list, isi_str_list_tuple, isi_str_tuple_list, isi_tup_int, isi_tup_bool, isi_tup_str, isi_tup_tuple, isi_tup_list, isi_tup_list_tuple, isi_tup_tuple_list, isi_lst_int, isi_lst_bool, isi_lst_str, isi_lst_tuple, isi_lst_list, isi_lst_list_tuple, isi_lst_tuple_list, cmp_eq_ii, cmp_ne_ii, cmp_eq_bb, cmp_ne_bb, cmp_lt, cmp_le, cmp_gt, cmp_ge, cmp_ni_ii, binD, idxD, seqD, e]
      refine both_spec T3 fun w r st4 hw T4 => ?_
      try simp only [wp_bind, wp_pure, wp_bad, wp_getS, wp_asB, wp_slotOpd, wp_rdSlot, wp_rdVar, wp_rdRet, wp_resV, wp_resS, wp_ress0, wp_ress, wp_setR, wp_setρ, wp_call, wp_setAt, wp_opd, wp_dat, wp_shr, wp_ownL, wp_popAt, wp_popLast, wp_app, wp_ins, wp_bindTup, wp_bindTs0, wp_bindTs, wp_bindNm, wp_blk, w_var, w_con, w_tup, w_lst, w_shr, w_bin, w_cmp, w_idx, w_cmp2, w_and2, w_or2, w_not1, w_ife, w_sli, w_call, w_blt, w_isi, w_lc, w_popk, w_popl, w_isN, w_neg, Z.w_rev, w_part0, w_part1, w_ds0, w_ds, w_os0, w_os, w_cs0, w_cs, line, w_asg, w_asgT, w_aug, w_setI, w_app, w_ins, w_ext, w_expr, w_ret, w_retN, w_if, w_forE, w_whil, w_brk, w_cont, w_pass, w_ss0, w_ss, fw_nx, fw_brk, fw_cont, fw_ret, nn_none, nn_int, nn_bl, nn_str, nn_tup, nn_lst, ol_lst, op_some, op_none, op_ite, ob_bl, oi_int, sl_pu, sl_ow, al_ow, al_obj, so_lst, opdV, retV, endQ, letgo, ite_self, ixN_3_0, ixN_3_1, ixN_3_2, atI_0, atI_1, atI_2, atI_3, List.getElem?_cons_zero, List.getElem?_cons_succ, List.set_cons_zero, List.set_cons_succ, List.length_cons, List.length_nil, List.length_map, Option.bind_some, Option.map_some, Nat.zero_add, Nat.reduceAdd, Nat.reduceLT, Nat.reduceLeDiff, Nat.zero_le, if_false, if_true, Bool.false_eq_true, Bool.true_eq_false, Bool.not_true, Bool.not_false, reduceCtorEq, true_and, and_true, forall_const, false_and, and_false, false_implies, not_false_eq_true, not_true_eq_false, decide_eq_true_eq, decide_eq_false_iff_not, isi_none_int, isi_none_bool, isi_none_str, isi_none_tuple, isi_none_list, isi_none_list_tuple, isi_none_tuple_list, isi_bl_int, isi_bl_bool, isi_bl_str, isi_bl_tuple, isi_bl_list, isi_bl_list_tuple, isi_bl_tuple_list, isi_int_int, isi_int_bool, isi_int_str, isi_int_tuple, isi_int_list, isi_int_list_tuple, isi_int_tuple_list, isi_str_int, isi_str_bool, isi_str_str, isi_str_tuple, isi_str_list, isi_str_list_tuple, isi_str_tuple_list, isi_tup_int, isi_tup_bool, isi_tup_str, isi_tup_tuple, isi_tup_list, isi_tup_list_tuple, isi_tup_tuple_list, isi_lst_int, isi_lst_bool, isi_lst_str, isi_lst_tuple, isi_lst_list, isi_lst_list_tuple, isi_lst_tuple_list, cmp_eq_ii, cmp_ne_ii, cmp_eq_bb, cmp_ne_bb, cmp_lt, cmp_le, cmp_gt, cmp_ge, cmp_ni_ii]
      refine h _ _ _ (.two ?_ hf hg) T4
      rcases hw with hw | hw
      · exact .inl hw.1
      · exact .inr hw.1
theorem meas_pt {big p : Int} {k : Nat} (h0 : 0 ≤ p) (h1 : p < 8) : meas big (k + 1) (.tup [.str "point", .int p]) = some (1, 1, 1) := by
  show point "point" (.int p) = _
  rw [point_int, if_pos ⟨lits.2.2.2.2.1, h0, h1⟩]
theorem chain_spec {big : Int} {m n : Nat} {st : List SO} {Q : Rs → List SO → Prop} (hb : big = 2 ∨ big = 3) (h0 : 1 ≤ m) (hm : (m : Int) ≤ 4 * big) (T : Tape st)
    (h : ∀ f d s st', Fm m f → meas big m f = some (d, (m : Int), s) → Tape st' → Q (.tup [f, .int s], false) st') : Rp (callF fns wf (n + 4) 16 [.obj 1, .int big, .int m] st) Q := by
  refine c__law_chain ?_
  unfold b__law_chain
  try simp only [wp_bind, wp_pure, wp_bad, wp_getS, wp_asB, wp_slotOpd, wp_rdSlot, wp_rdVar, wp_rdRet, wp_resV, wp_resS, wp_ress0, wp_ress, wp_setR, wp_setρ, wp_call, wp_setAt, wp_opd, wp_dat, wp_shr, wp_ownL, wp_popAt, wp_popLast, wp_app, wp_ins, wp_bindTup, wp_bindTs0, wp_bindTs, wp_bindNm, wp_blk, w_var, w_con, w_tup, w_lst, w_shr, w_bin, w_cmp, w_idx, w_cmp2, w_and2, w_or2, w_not1, w_ife, w_sli, w_call, w_blt, w_isi, w_lc, w_popk, w_popl, w_isN, w_neg, Z.w_rev, w_part0, w_part1, w_ds0, w_ds, w_os0, w_os, w_cs0, w_cs, line, w_asg, w_asgT, w_aug, w_setI, w_app, w_ins, w_ext, w_expr, w_ret, w_retN, w_if, w_forE, w_whil, w_brk, w_cont, w_pass, w_ss0, w_ss, fw_nx, fw_brk, fw_cont, fw_ret, nn_none, nn_int, nn_bl, nn_str, nn_tup, nn_lst, ol_lst, op_some, op_none, op_ite, ob_bl, oi_int, sl_pu, sl_ow, al_ow, al_obj, so_lst, opdV, retV, endQ, letgo, ite_self, ixN_3_0, ixN_3_1, ixN_3_2, atI_0, atI_1, atI_2, atI_3, List.getElem?_cons_zero, List.getElem?_cons_succ, List.set_cons_zero, List.set_cons_succ, List.length_cons, List.length_nil, List.length_map, Option.bind_some, Option.map_some, Nat.zero_add, Nat.reduceAdd, Nat.reduceLT, Nat.reduceLeDiff, Nat.zero_le, if_false, if_true, Bool.false_eq_true, Bool.true_eq_false, Bool.not_true, Bool.not_false, reduceCtorEq, true_and, and_true, forall_const, false_and, and_false, false_implies, not_false_eq_true, not_true_eq_false, decide_eq_true_eq, decide_eq_false_iff_not, isi_none_int, isi_none_bool, isi_none_str, isi_none_tuple, isi_none_list, isi_none_list_tuple, isi_none_tuple_list, isi_bl_int, isi_bl_bool, isi_bl_str, isi_bl_tuple, isi_bl_list, isi_bl_list_tuple, isi_bl_tuple_list, isi_int_int, isi_int_bool, isi_int_str, isi_int_tuple, isi_int_list, isi_int_list_tuple, isi_int_tuple_list, isi_str_int, isi_str_bool, isi_str_str, isi_str_tuple, isi_str_list, isi_str_list_tuple, isi_str_tuple_list, isi_tup_int, isi_tup_bool, isi_tup_str, isi_tup_tuple, isi_tup_list, isi_tup_list_tuple, isi_tup_tuple_list, isi_lst_int, isi_lst_bool, isi_lst_str, isi_lst_tuple, isi_lst_list, isi_lst_list_tuple, isi_lst_tuple_list, cmp_eq_ii, cmp_ne_ii, cmp_eq_bb, cmp_ne_bb, cmp_lt, cmp_le, cmp_gt, cmp_ge, cmp_ni_ii, binD]
  refine tree0_spec T fun p st1 p0 p1 T1 => ?_
  try simp only [wp_bind, wp_pure, wp_bad, wp_getS, wp_asB, wp_slotOpd, wp_rdSlot, wp_rdVar, wp_rdRet, wp_resV, wp_resS, wp_ress0, wp_ress, wp_setR, wp_setρ, wp_call, wp_setAt, wp_opd, wp_dat, wp_shr, wp_ownL, wp_popAt, wp_popLast, wp_app, wp_ins, wp_bindTup, wp_bindTs0, wp_bindTs, wp_bindNm, wp_blk, w_var, w_con, w_tup, w_lst, w_shr, w_bin, w_cmp, w_idx, w_cmp2, w_and2, w_or2, w_not1, w_ife, w_sli, w_call, w_blt, w_isi, w_lc, w_popk, w_popl, w_isN, w_neg, Z.w_rev, w_part0, w_part1, w_ds0, w_ds, w_os0, w_os, w_cs0, w_cs, line, w_asg, w_asgT, w_aug, w_setI, w_app, w_ins, w_ext, w_expr, w_ret, w_retN, w_if, w_forE, w_whil, w_brk, w_cont, w_pass, w_ss0, w_ss, fw_nx, fw_brk, fw_cont, fw_ret, nn_none, nn_int, nn_bl, nn_str, nn_tup, nn_lst, ol_lst, op_some, op_none, op_ite, ob_bl, oi_int, sl_pu, sl_ow, al_ow, al_obj, so_lst, opdV, retV, endQ, letgo, ite_self, ixN_3_0, ixN_3_1, ixN_3_2, atI_0, atI_1, atI_2, atI_3, List.getElem?_cons_zero, List.getElem?_cons_succ, List.set_cons_zero, List.set_cons_succ, List.length_cons, List.length_nil, List.length_map, Option.bind_some, Option.map_some, Nat.zero_add, Nat.reduceAdd, Nat.reduceLT, Nat.reduceLeDiff, Nat.zero_le, if_false, if_true, Bool.false_eq_true, Bool.true_eq_false, Bool.not_true, Bool.not_false, reduceCtorEq, true_and, and_true, forall_const, false_and, and_false, false_implies, not_false_eq_true, not_true_eq_false, decide_eq_true_eq, decide_eq_false_iff_not, isi_none_int, isi_none_bool, isi_none_str, isi_none_tuple, isi_none_list, isi_none_list_tuple, isi_none_tuple_list, isi_bl_int, isi_bl_bool, isi_bl_str, isi_bl_tuple, isi_bl_list, isi_bl_list_tuple, isi_bl_tuple_list, isi_int_int, isi_int_bool, isi_int_str, isi_int_tuple, isi_int_list, isi_int_list_tuple, isi_int_tuple_list, isi_str_int, isi_str_bool, isi_str_str, isi_str_tuple, isi_str_list, isi_str_list_tuple, isi_str_tuple_list, isi_tup_int, isi_tup_bool, isi_tup_str, isi_tup_tuple, isi_tup_list, isi_tup_list_tuple, isi_tup_tuple_list, isi_lst_int, isi_lst_bool, isi_lst_str, isi_lst_tuple, isi_lst_list, isi_lst_list_tuple, isi_lst_tuple_list, cmp_eq_ii, cmp_ne_ii, cmp_eq_bb, cmp_ne_bb, cmp_lt, cmp_le, cmp_gt, cmp_ge, cmp_ni_ii, binD, itemsD, it1, rng1I]
  refine ⟨by omega, ?_⟩
  refine wp_for_cnt (fun j s => ∃ (i : Nat) (f : D) (st' : List SO) (x4 x5 : Slot) (d q : Int), j + (i + 1) = m ∧ s = ⟨[.pu (.obj 1), .pu (.int big), .pu (.int m), .pu (.tup [f, .int q]), x4, x5], st'⟩ ∧ Tape st' ∧ Fm (i + 1) f ∧ meas big (i + 1) f = some (d, ((i + 1 : Nat) : Int), q) ∧ d ≤ ((i + 1 : Nat) : Int) ∧ 0 ≤ q ∧ q ≤ big) ?_ ?_ ?_
  · refine ⟨0, _, st1, _, _, 1, 1, ?_, rfl, T1, .pt p0 p1, meas_pt p0 p1, by omega, by omega, by omega⟩
    simp
    omega
  · rintro x hx j s hj ⟨i, f, st2, x4, x5, d, q, hi, rfl, T2, hf, hmf, hd, q0, q1⟩
    try simp only [wp_bind, wp_pure, wp_bad, wp_getS, wp_asB, wp_slotOpd, wp_rdSlot, wp_rdVar, wp_rdRet, wp_resV, wp_resS, wp_ress0, wp_ress, wp_setR, wp_setρ, wp_call, wp_setAt, wp_opd, wp_dat, wp_shr, wp_ownL, wp_popAt, wp_popLast, wp_app, wp_ins, wp_bindTup, wp_bindTs0, wp_bindTs, wp_bindNm, wp_blk, w_var, w_con, w_tup, w_lst, w_shr, w_bin, w_cmp, w_idx, w_cmp2, w_and2, w_or2, w_not1, w_ife, w_sli, w_call, w_blt, w_isi, w_lc, w_popk, w_popl, w_isN, w_neg, Z.w_rev, w_part0, w_part1, w_ds0, w_ds, w_os0, w_os, w_cs0, w_cs, line, w_asg, w_asgT, w_aug, w_setI, w_app, w_ins, w_ext, w_expr, w_ret, w_retN, w_if, w_forE, w_whil, w_brk, w_cont, w_pass, w_ss0, w_ss, fw_nx, fw_brk, fw_cont, fw_ret, nn_none, nn_int, nn_bl, nn_str, nn_tup, nn_lst, ol_lst, op_some, op_none, op_ite, ob_bl, oi_int, sl_pu, sl_ow, al_ow, al_obj, so_lst, opdV, retV, endQ, letgo, ite_self, ixN_3_0, ixN_3_1, ixN_3_2, atI_0, atI_1, atI_2, atI_3, List.getElem?_cons_zero, List.getElem?_cons_succ, List.set_cons_zero, List.set_cons_succ, List.length_cons, List.length_nil, List.length_map, Option.bind_some, Option.map_some, Nat.zero_add, Nat.reduceAdd, Nat.reduceLT, Nat.reduceLeDiff, Nat.zero_le, if_false, if_true, Bool.false_eq_true, Bool.true_eq_false, Bool.not_true, Bool.not_false, reduceCtorEq, true_and, and_true, forall_const, false_and, and_false, false_implies, not_false_eq_true, not_true_eq_false, decide_eq_true_eq, decide_eq_false_iff_not, isi_none_int, isi_none_bool, isi_none_str, isi_none_tuple, isi_none_list, isi_none_list_tuple, isi_none_tuple_list, isi_bl_int, isi_bl_bool, isi_bl_str, isi_bl_tuple, isi_bl_list, isi_bl_list_tuple, isi_bl_tuple_list, isi_int_int, isi_int_bool, isi_int_str, isi_int_tuple, isi_int_list, isi_int_list_tuple, isi_int_tuple_list, isi_str_int, isi_str_bool, isi_str_str, isi_str_tuple, isi_str_list, isi_str_list_tuple, isi_str_tuple_list, isi_tup_int, isi_tup_bool, isi_tup_str, isi_tup_tuple, isi_tup_list, isi_tup_list_tuple, isi_tup_tuple_list, isi_lst_int, isi_lst_bool, isi_lst_str, isi_lst_tuple, isi_lst_list, isi_lst_list_tuple, isi_lst_tuple_list, cmp_eq_ii, cmp_ne_ii, cmp_eq_bb, cmp_ne_bb, cmp_lt, cmp_le, cmp_gt, cmp_ge, cmp_ni_ii]
    refine tree0_spec T2 fun p st3 p0 p1 T3 => ?_
    try simp only [wp_bind, wp_pure, wp_bad, wp_getS, wp_asB, wp_slotOpd, wp_rdSlot, wp_rdVar, wp_rdRet, wp_resV, wp_resS, wp_ress0, wp_ress, wp_setR, wp_setρ, wp_call, wp_setAt, wp_opd, wp_dat, wp_shr, wp_ownL, wp_popAt, wp_popLast, wp_app, wp_ins, wp_bindTup, wp_bindTs0, wp_bindTs, wp_bindNm, wp_blk, w_var, w_con, w_tup, w_lst, w_shr, w_bin, w_cmp, w_idx, w_cmp2, w_and2, w_or2, w_not1, w_ife, w_sli, w_call, w_blt, w_isi, w_lc, w_popk, w_popl, w_isN, w_neg, Z.w_rev, w_part0, w_part1, w_ds0, w_ds, w_os0, w_os, w_cs0, w_cs, line, w_asg, w_asgT, w_aug, w_setI, w_app, w_ins, w_ext, w_expr, w_ret, w_retN, w_if, w_forE, w_whil, w_brk, w_cont, w_pass, w_ss0, w_ss, fw_nx, fw_brk, fw_cont, fw_ret, nn_none, nn_int, nn_bl, nn_str, nn_tup, nn_lst, ol_lst, op_some, op_none, op_ite, ob_bl, oi_int, sl_pu, sl_ow, al_ow, al_obj, so_lst, opdV, retV, endQ, letgo, ite_self, ixN_3_0, ixN_3_1, ixN_3_2, atI_0, atI_1, atI_2, atI_3, List.getElem?_cons_zero, List.getElem?_cons_succ, List.set_cons_zero, List.set_cons_succ, List.length_cons, List.length_nil, List.length_map, Option.bind_some, Option.map_some, Nat.zero_add, Nat.reduceAdd, Nat.reduceLT, Nat.reduceLeDiff, Nat.zero_le, if_false, if_true, Bool.false_eq_true, Bool.true_eq_false, Bool.not_true, Bool.not_false, reduceCtorEq, true_and, and_true, forall_const, false_and, and_false, false_implies, not_false_eq_true, not_true_eq_false, decide_eq_true_eq, decide_eq_false_iff_not, isi_none_int, isi_none_bool, isi_none_str, isi_none_tuple, isi_none_list, isi_none_list_tuple, isi_none_tuple_list, isi_bl_int, isi_bl_bool, isi_bl_str, isi_bl_tuple, isi_bl_list, isi_bl_list_tuple, isi_bl_tuple_list, isi_int_int, isi_int_bool, isi_int_str, isi_int_tuple, isi_int_list, isi_int_list_tuple, isi_int_tuple_list, isi_str_int, isi_str_bool, isi_str_str, isi_str_tuple, isi_str_list, isi_str_list_tuple, isi_str_tuple_list, isi_tup_int, isi_tup_bool, isi_tup_str, isi_tup_tuple, isi_tup_list, isi_tup_list_tuple, isi_tup_tuple_list, isi_lst_int, isi_lst_bool, isi_lst_str, isi_lst_tuple, isi_lst_list, isi_lst_list_tuple, isi_lst_tuple_list, cmp_eq_ii, cmp_ne_ii, cmp_eq_bb, cmp_ne_bb, cmp_lt, cmp_le, cmp_gt, cmp_ge, cmp_ni_ii]
    refine draw_spec T3 (by decide) (by decide) fun u st4 u0 u1 T4 => ?_
    try simp only [wp_bind, wp_pure, wp_bad, wp_getS, wp_asB, wp_slotOpd, wp_rdSlot, wp_rdVar, wp_rdRet, wp_resV, wp_resS, wp_ress0, wp_ress, wp_setR, wp_setρ, wp_call, wp_setAt, wp_opd, wp_dat, wp_shr, wp_ownL, wp_popAt, wp_popLast, wp_app, wp_ins, wp_bindTup, wp_bindTs0, wp_bindTs, wp_bindNm, wp_blk, w_var, w_con, w_tup, w_lst, w_shr, w_bin, w_cmp, w_idx, w_cmp2, w_and2, w_or2, w_not1, w_ife, w_sli, w_call, w_blt, w_isi, w_lc, w_popk, w_popl, w_isN, w_neg, Z.w_rev, w_part0, w_part1, w_ds0, w_ds, w_os0, w_os, w_cs0, w_cs, line, w_asg, w_asgT, w_aug, w_setI, w_app, w_ins, w_ext, w_expr, w_ret, w_retN, w_if, w_forE, w_whil, w_brk, w_cont, w_pass, w_ss0, w_ss, fw_nx, fw_brk, fw_cont, fw_ret, nn_none, nn_int, nn_bl, nn_str, nn_tup, nn_lst, ol_lst, op_some, op_none, op_ite, ob_bl, oi_int, sl_pu, sl_ow, al_ow, al_obj, so_lst, opdV, retV, endQ, letgo, ite_self, ixN_3_0, ixN_3_1, ixN_3_2, atI_0, atI_1, atI_2, atI_3, List.getElem?_cons_zero, List.getElem?_cons_succ, List.set_cons_zero, List.set_cons_succ, List.length_cons, List.length_nil, List.length_map, Option.bind_some, Option.map_some, Nat.zero_add, Nat.reduceAdd, Nat.reduceLT, Nat.reduceLeDiff, Nat.zero_le, if_false, if_true, Bool.false_eq_true, Bool.true_eq_false, Bool.not_true, Bool.not_false, reduceCtorEq, true_and, and_true, forall_const, false_and, and_false, false_implies, not_false_eq_true, not_true_eq_false, decide_eq_true_eq, decide_eq_false_iff_not, isi_none_int, isi_none_bool, isi_none_str, isi_none_tuple, isi_none_list, isi_none_list_tuple, isi_none_tuple_list, isi_bl_int, isi_bl_bool, isi_bl_str, isi_bl_tuple, isi_bl_list, isi_bl_list_tuple, isi_bl_tuple_list, isi_int_int, isi_int_bool, isi_int_str, isi_int_tuple, isi_int_list, isi_int_list_tuple, isi_int_tuple_list, isi_str_int, isi_str_bool, isi_str_str, isi_str_tuple, isi_str_list, isi_str_list_tuple, isi_str_tuple_list, isi_tup_int, isi_tup_bool, isi_tup_str, isi_tup_tuple, isi_tup_list, isi_tup_list_tuple, isi_tup_tuple_list, isi_lst_int, isi_lst_bool, isi_lst_str, isi_lst_tuple, isi_lst_list, isi_lst_list_tuple, isi_lst_tuple_list, cmp_eq_ii, cmp_ne_ii, cmp_eq_bb, cmp_ne_bb, cmp_lt, cmp_le, cmp_gt, cmp_ge, cmp_ni_ii]
    have hk : i + 1 ≤ 11 := by
      rcases hb with rfl | rfl <;> omega
    refine ⟨fun _ => ?_, fun _ => ?_⟩
    · refine both_spec T4 fun w r st5 hw T5 => ?_
      try simp only [wp_bind, wp_pure, wp_bad, wp_getS, wp_asB, wp_slotOpd, wp_rdSlot, wp_rdVar, wp_rdRet, wp_resV, wp_resS, wp_ress0, wp_ress, wp_setR, wp_setρ, wp_call, wp_setAt, wp_opd, wp_dat, wp_shr, wp_ownL, wp_popAt, wp_popLast, wp_app, wp_ins, wp_bindTup, wp_bindTs0, wp_bindTs, wp_bindNm, wp_blk, w_var, w_con, w_tup, w_lst, w_shr, w_bin, w_cmp, w_idx, w_cmp2, w_and2, w_or2, w_not1, w_ife, w_sli, w_call, w_blt, w_isi, w_lc, w_popk, w_popl, w_isN, w_neg, Z.w_rev, w_part0, w_part1, w_ds0, w_ds, w_os0, w_os, w_cs0, w_cs, line, w_asg, w_asgT, w_aug, w_setI, w_app, w_ins, w_ext, w_expr, w_ret, w_retN, w_if, w_forE, w_whil, w_brk, w_cont, w_pass, w_ss0, w_ss, fw_nx, fw_brk, fw_cont, fw_ret, nn_none, nn_int, nn_bl, nn_str, nn_tup, nn_lst, ol_lst, op_some, op_none, op_ite, ob_bl, oi_int, sl_pu, sl_ow, al_ow, al_obj, so_lst, opdV, retV, endQ, letgo, ite_self, ixN_3_0, ixN_3_1, ixN_3_2, atI_0, atI_1, atI_2, atI_3, List.getElem?_cons_zero, List.getElem?_cons_succ, List.set_cons_zero, List.set_cons_succ, List.length_cons, List.length_nil, List.length_map, Option.bind_some, Option.map_some, Nat.zero_add, Nat.reduceAdd, Nat.reduceLT, Nat.reduceLeDiff, Nat.zero_le, if_false, if_true, Bool.false_eq_true, Bool.true_eq_false, Bool.not_true, Bool.not_false, reduceCtorEq, true_and, and_true, forall_const, false_and, and_false, false_implies, not_false_eq_true, not_true_eq_false, decide_eq_true_eq, decide_eq_false_iff_not, isi_none_int, isi_none_bool, isi_none_str, isi_none_tuple, isi_none_list, isi_none_list_tuple, isi_none_tuple_list, isi_bl_int, isi_bl_bool, isi_bl_str, isi_bl_tuple, isi_bl_list, isi_bl_list_tuple, isi_bl_tuple_list, isi_int_int, isi_int_bool, isi_int_str, isi_int_tuple, isi_int_list, isi_int_list_tuple, isi_int_tuple_list, isi_str_int, isi_str_bool, isi_str_str, isi_str_tuple, isi_str_list, isi_str_list_tuple, isi_str_tuple_list, isi_tup_int, isi_tup_bool, isi_tup_str, isi_tup_tuple, isi_tup_list, isi_tup_list_tuple, isi_tup_tuple_list, isi_lst_int, isi_lst_bool, isi_lst_str, isi_lst_tuple, isi_lst_list, isi_lst_list_tuple, isi_lst_tuple_list, cmp_eq_ii, cmp_ne_ii, cmp_eq_bb, cmp_ne_bb, cmp_lt, cmp_le, cmp_gt, cmp_ge, cmp_ni_ii]
      obtain ⟨d3, a1, a2, a3, a4⟩ := both_meas hmf (meas_pt p0 p1) hd (by omega) hk (by omega) ⟨q0, q1⟩ ⟨by omega, by omega⟩ hw
      refine ⟨i + 1, _, st5, _, _, d3, r, by omega, rfl, T5, .two ?_ hf (.pt p0 p1), a1, a2, a3, a4⟩
      rcases hw with hw | hw
      · exact .inl hw.1
      · exact .inr hw.1
    · refine both_spec T4 fun w r st5 hw T5 => ?_
      try simp only [wp_bind, wp_pure, wp_bad, wp_getS, wp_asB, wp_slotOpd, wp_rdSlot, wp_rdVar, wp_rdRet, wp_resV, wp_resS, wp_ress0, wp_ress, wp_setR, wp_setρ, wp_call, wp_setAt, wp_opd, wp_dat, wp_shr, wp_ownL, wp_popAt, wp_popLast, wp_app, wp_ins, wp_bindTup, wp_bindTs0, wp_bindTs, wp_bindNm, wp_blk, w_var, w_con, w_tup, w_lst, w_shr, w_bin, w_cmp, w_idx, w_cmp2, w_and2, w_or2, w_not1, w_ife, w_sli, w_call, w_blt, w_isi, w_lc, w_popk, w_popl, w_isN, w_neg, Z.w_rev, w_part0, w_part1, w_ds0, w_ds, w_os0, w_os, w_cs0, w_cs, line, w_asg, w_asgT, w_aug, w_setI, w_app, w_ins, w_ext, w_expr, w_ret, w_retN, w_if, w_forE, w_whil, w_brk, w_cont, w_pass, w_ss0, w_ss, fw_nx, fw_brk, fw_cont, fw_ret, nn_none, nn_int, nn_bl, nn_str, nn_tup, nn_lst, ol_lst, op_some, op_none, op_ite, ob_bl, oi_int, sl_pu, sl_ow, al_ow, al_obj, so_lst, opdV, retV, endQ, letgo, ite_self, ixN_3_0, ixN_3_1, ixN_3_2, atI_0, atI_1, atI_2, atI_3, List.getElem?_cons_zero, List.getElem?_cons_succ, List.set_cons_zero, List.set_cons_succ, List.length_cons, List.length_nil, List.length_map, Option.bind_some, Option.map_some, Nat.zero_add, Nat.reduceAdd, Nat.reduceLT, Nat.reduceLeDiff, Nat.zero_le, if_false, if_true, Bool.false_eq_true, Bool.true_eq_false, Bool.not_true, Bool.not_false, reduceCtorEq, true_and, and_true, forall_const, false_and, and_false, false_implies, not_false_eq_true, not_true_eq_false, decide_eq_true_eq, decide_eq_false_iff_not, isi_none_int, isi_none_bool, isi_none_str, isi_none_tuple, isi_none_list, isi_none_list_tuple, isi_none_tuple_list, isi_bl_int, isi_bl_bool, isi_bl_str, isi_bl_tuple, isi_bl_list, isi_bl_list_tuple, isi_bl_tuple_list, isi_int_int, isi_int_bool, isi_int_str, isi_int_tuple, isi_int_list, isi_int_list_tuple, isi_int_tuple_list, isi_str_int, isi_str_bool, isi_str_str, isi_str_tuple, isi_str_list, isi_str_list_tuple, isi_str_tuple_list, isi_tup_int, isi_tup_bool, isi_tup_str, isi_tup_tuple, isi_tup_list, isi_tup_list_tuple, isi_tup_tuple_list, isi_lst_int, isi_lst_bool, isi_lst_str, isi_lst_tuple, isi_lst_list, isi_lst_list_tuple, isi_lst_tuple_list, cmp_eq_ii, cmp_ne_ii, cmp_eq_bb, cmp_ne_bb, cmp_lt, cmp_le, cmp_gt, cmp_ge, cmp_ni_ii]
      obtain ⟨d3, a1, a2, a3, a4⟩ := both_meas (meas_pt p0 p1) hmf (by omega) hd hk (by omega) ⟨by omega, by omega⟩ ⟨q0, q1⟩ hw
      refine ⟨i + 1, _, st5, _, _, d3, r, by omega, rfl, T5, .two ?_ (.pt p0 p1) hf, ?_, a2, a3, a4⟩
      · rcases hw with hw | hw
        · exact .inl hw.1
        · exact .inr hw.1
      · rw [a1]
        have e : (1 : Int) + ((i + 1 : Nat) : Int) = ((i + 1 + 1 : Nat) : Int) := by omega
        rw [e]
  · rintro s ⟨i, f, st2, x4, x5, d, q, hi, rfl, T2, hf, hmf, hd, q0, q1⟩
    have e : i + 1 = m := by omega
    subst e
    try simp only [wp_bind, wp_pure, wp_bad, wp_getS, wp_asB, wp_slotOpd, wp_rdSlot, wp_rdVar, wp_rdRet, wp_resV, wp_resS, wp_ress0, wp_ress, wp_setR, wp_setρ, wp_call, wp_setAt, wp_opd, wp_dat, wp_shr, wp_ownL, wp_popAt, wp_popLast, wp_app, wp_ins, wp_bindTup, wp_bindTs0, wp_bindTs, wp_bindNm, wp_blk, w_var, w_con, w_tup, w_lst, w_shr, w_bin, w_cmp, w_idx, w_cmp2, w_and2, w_or2, w_not1, w_ife, w_sli, w_call, w_blt, w_isi, w_lc, w_popk, w_popl, w_isN, w_neg, Z.w_rev, w_part0, w_part1, w_ds0, w_ds, w_os0, w_os, w_cs0, w_cs, line, w_asg, w_asgT, w_aug, w_setI, w_app, w_ins, w_ext, w_expr, w_ret, w_retN, w_if, w_forE, w_whil, w_brk, w_cont, w_pass, w_ss0, w_ss, fw_nx, fw_brk, fw_cont, fw_ret, nn_none, nn_int, nn_bl, nn_str, nn_tup, nn_lst, ol_lst, op_some, op_none, op_ite, ob_bl, oi_int, sl_pu, sl_ow, al_ow, al_obj, so_lst, opdV, retV, endQ, letgo, ite_self, ixN_3_0, ixN_3_1, ixN_3_2, atI_0, atI_1, atI_2, atI_3, List.getElem?_cons_zero, List.getElem?_cons_succ, List.set_cons_zero, List.set_cons_succ, List.length_cons, List.length_nil, List.length_map, Option.bind_some, Option.map_some, Nat.zero_add, Nat.reduceAdd, Nat.reduceLT, Nat.reduceLeDiff, Nat.zero_le, if_false, if_true, Bool.false_eq_true, Bool.true_eq_false, Bool.not_true, Bool.not_false, reduceCtorEq, true_and, and_true, forall_const, false_and, and_false, false_implies, not_false_eq_true, not_true_eq_false, decide_eq_true_eq, decide_eq_false_iff_not, isi_none_int, isi_none_bool, isi_none_str, isi_none_tuple, isi_none_list, isi_none_list_tuple, isi_none_tuple_list, isi_bl_int, isi_bl_bool, isi_bl_str, isi_bl_tuple, isi_bl_list, isi_bl_list_tuple, isi_bl_tuple_list, isi_int_int, isi_int_bool, isi_int_str, isi_int_tuple, isi_int_list, isi_int_list_tuple, isi_int_tuple_list, isi_str_int, isi_str_bool, isi_str_str, isi_str_tuple, isi_str_list, isi_str_list_tuple, isi_str_tuple_list, isi_tup_int, isi_tup_bool, isi_tup_str, isi_tup_tuple, isi_tup_list, isi_tup_list_tuple, isi_tup_tuple_list, isi_lst_int, isi_lst_bool, isi_lst_str, isi_lst_tuple, isi_lst_list, isi_lst_list_tuple, isi_lst_tuple_list, cmp_eq_ii, cmp_ne_ii, cmp_eq_bb, cmp_ne_bb, cmp_lt, cmp_le, cmp_gt, cmp_ge, cmp_ni_ii]
    exact h f d q st2 hf hmf T2
theorem formula_spec {big : Int} {n : Nat} {st : List SO} {Q : Rs → List SO → Prop} (hb : big = 2 ∨ big = 3) (T : Tape st) (h : ∀ f s st', Fm 12 f → Tape st' → Q (.tup [f, .int s], false) st') : Rp (callF fns wf (n + 7) 17 [.obj 1, .int big] st) Q := by
  refine c__law_formula ?_
  unfold b__law_formula
  try simp only [wp_bind, wp_pure, wp_bad, wp_getS, wp_asB, wp_slotOpd, wp_rdSlot, wp_rdVar, wp_rdRet, wp_resV, wp_resS, wp_ress0, wp_ress, wp_setR, wp_setρ, wp_call, wp_setAt, wp_opd, wp_dat, wp_shr, wp_ownL, wp_popAt, wp_popLast, wp_app, wp_ins, wp_bindTup, wp_bindTs0, wp_bindTs, wp_bindNm, wp_blk, w_var, w_con, w_tup, w_lst, w_shr, w_bin, w_cmp, w_idx, w_cmp2, w_and2, w_or2, w_not1, w_ife, w_sli, w_call, w_blt, w_isi, w_lc, w_popk, w_popl, w_isN, w_neg, Z.w_rev, w_part0, w_part1, w_ds0, w_ds, w_os0, w_os, w_cs0, w_cs, line, w_asg, w_asgT, w_aug, w_setI, w_app, w_ins, w_ext, w_expr, w_ret, w_retN, w_if, w_forE, w_whil, w_brk, w_cont, w_pass, w_ss0, w_ss, fw_nx, fw_brk, fw_cont, fw_ret, nn_none, nn_int, nn_bl, nn_str, nn_tup, nn_lst, ol_lst, op_some, op_none, op_ite, ob_bl, oi_int, sl_pu, sl_ow, al_ow, al_obj, so_lst, opdV, retV, endQ, letgo, ite_self, ixN_3_0, ixN_3_1, ixN_3_2, atI_0, atI_1, atI_2, atI_3, List.getElem?_cons_zero, List.getElem?_cons_succ, List.set_cons_zero, List.set_cons_succ, List.length_cons, List.length_nil, List.length_map, Option.bind_some, Option.map_some, Nat.zero_add, Nat.reduceAdd, Nat.reduceLT, Nat.reduceLeDiff, Nat.zero_le, if_false, if_true, Bool.false_eq_true, Bool.true_eq_false, Bool.not_true, Bool.not_false, reduceCtorEq, true_and, and_true, forall_const, false_and, and_false, false_implies, not_false_eq_true, not_true_eq_false, decide_eq_true_eq, decide_eq_false_iff_not, isi_none_int, isi_none_bool, isi_none_str, isi_none_tuple, isi_none_list, isi_none_list_tuple, isi_none_tuple_list, isi_bl_int, isi_bl_bool, isi_bl_str, isi_bl_tuple, isi_bl_list, isi_bl_list_tuple, isi_bl_tuple_list, isi_int_int, isi_int_bool, isi_int_str, isi_int_tuple, isi_int_list, isi_int_list_tuple, isi_int_tuple_list, isi_str_int, isi_str_bool, isi_str_str, isi_str_tuple, isi_str_list, isi_str_list_tuple, isi_str_tuple_list, isi_tup_int, isi_tup_bool, isi_tup_str, isi_tup_tuple, isi_tup_list, isi_tup_list_tuple, isi_tup_tuple_list, isi_lst_int, isi_lst_bool, isi_lst_str, isi_lst_tuple, isi_lst_list, isi_lst_list_tuple, isi_lst_tuple_list, cmp_eq_ii, cmp_ne_ii, cmp_eq_bb, cmp_ne_bb, cmp_lt, cmp_le, cmp_gt, cmp_ge, cmp_ni_ii, binD]
  refine draw_spec T (by decide) (by decide) fun u st1 u0 u1 T1 => ?_
  try simp only [wp_bind, wp_pure, wp_bad, wp_getS, wp_asB, wp_slotOpd, wp_rdSlot, wp_rdVar, wp_rdRet, wp_resV, wp_resS, wp_ress0, wp_ress, wp_setR, wp_setρ, wp_call, wp_setAt, wp_opd, wp_dat, wp_shr, wp_ownL, wp_popAt, wp_popLast, wp_app, wp_ins, wp_bindTup, wp_bindTs0, wp_bindTs, wp_bindNm, wp_blk, w_var, w_con, w_tup, w_lst, w_shr, w_bin, w_cmp, w_idx, w_cmp2, w_and2, w_or2, w_not1, w_ife, w_sli, w_call, w_blt, w_isi, w_lc, w_popk, w_popl, w_isN, w_neg, Z.w_rev, w_part0, w_part1, w_ds0, w_ds, w_os0, w_os, w_cs0, w_cs, line, w_asg, w_asgT, w_aug, w_setI, w_app, w_ins, w_ext, w_expr, w_ret, w_retN, w_if, w_forE, w_whil, w_brk, w_cont, w_pass, w_ss0, w_ss, fw_nx, fw_brk, fw_cont, fw_ret, nn_none, nn_int, nn_bl, nn_str, nn_tup, nn_lst, ol_lst, op_some, op_none, op_ite, ob_bl, oi_int, sl_pu, sl_ow, al_ow, al_obj, so_lst, opdV, retV, endQ, letgo, ite_self, ixN_3_0, ixN_3_1, ixN_3_2, atI_0, atI_1, atI_2, atI_3, List.getElem?_cons_zero, List.getElem?_cons_succ, List.set_cons_zero, List.set_cons_succ, List.length_cons, List.length_nil, List.length_map, Option.bind_some, Option.map_some, Nat.zero_add, Nat.reduceAdd, Nat.reduceLT, Nat.reduceLeDiff, Nat.zero_le, if_false, if_true, Bool.false_eq_true, Bool.true_eq_false, Bool.not_true, Bool.not_false, reduceCtorEq, true_and, and_true, forall_const, false_and, and_false, false_implies, not_false_eq_true, not_true_eq_false, decide_eq_true_eq, decide_eq_false_iff_not, isi_none_int, isi_none_bool, isi_none_str, isi_none_tuple, isi_none_list, isi_none_list_tuple, isi_none_tuple_list, isi_bl_int, isi_bl_bool, isi_bl_str, isi_bl_tuple, isi_bl_list, isi_bl_list_tuple, isi_bl_tuple_list, isi_int_int, isi_int_bool, isi_int_str, isi_int_tuple, isi_int_list, isi_int_list_tuple, isi_int_tuple_list, isi_str_int, isi_str_bool, isi_str_str, isi_str_tuple, isi_str_list, isi_str_list_tuple, isi_str_tuple_list, isi_tup_int, isi_tup_bool, isi_tup_str, isi_tup_tuple, isi_tup_list, isi_tup_list_tuple, isi_tup_tuple_list, isi_lst_int, isi_lst_bool, isi_lst_str, isi_lst_tuple, isi_lst_list, isi_lst_list_tuple, isi_lst_tuple_list, cmp_eq_ii, cmp_ne_ii, cmp_eq_bb, cmp_ne_bb, cmp_lt, cmp_le, cmp_gt, cmp_ge, cmp_ni_ii, binD]
  refine ⟨fun _ => ?_, fun _ => ?_⟩
  · refine ⟨mulOk_l (by decide), ?_⟩
    refine draw_spec T1 (by omega) (log_small (by omega)) fun v st2 v0 v1 T2 => ?_
    try simp only [wp_bind, wp_pure, wp_bad, wp_getS, wp_asB, wp_slotOpd, wp_rdSlot, wp_rdVar, wp_rdRet, wp_resV, wp_resS, wp_ress0, wp_ress, wp_setR, wp_setρ, wp_call, wp_setAt, wp_opd, wp_dat, wp_shr, wp_ownL, wp_popAt, wp_popLast, wp_app, wp_ins, wp_bindTup, wp_bindTs0, wp_bindTs, wp_bindNm, wp_blk, w_var, w_con, w_tup, w_lst, w_shr, w_bin, w_cmp, w_idx, w_cmp2, w_and2, w_or2, w_not1, w_ife, w_sli, w_call, w_blt, w_isi, w_lc, w_popk, w_popl, w_isN, w_neg, Z.w_rev, w_part0, w_part1, w_ds0, w_ds, w_os0, w_os, w_cs0, w_cs, line, w_asg, w_asgT, w_aug, w_setI, w_app, w_ins, w_ext, w_expr, w_ret, w_retN, w_if, w_forE, w_whil, w_brk, w_cont, w_pass, w_ss0, w_ss, fw_nx, fw_brk, fw_cont, fw_ret, nn_none, nn_int, nn_bl, nn_str, nn_tup, nn_lst, ol_lst, op_some, op_none, op_ite, ob_bl, oi_int, sl_pu, sl_ow, al_ow, al_obj, so_lst, opdV, retV, endQ, letgo, ite_self, ixN_3_0, ixN_3_1, ixN_3_2, atI_0, atI_1, atI_2, atI_3, List.getElem?_cons_zero, List.getElem?_cons_succ, List.set_cons_zero, List.set_cons_succ, List.length_cons, List.length_nil, List.length_map, Option.bind_some, Option.map_some, Nat.zero_add, Nat.reduceAdd, Nat.reduceLT, Nat.reduceLeDiff, Nat.zero_le, if_false, if_true, Bool.false_eq_true, Bool.true_eq_false, Bool.not_true, Bool.not_false, reduceCtorEq, true_and, and_true, forall_const, false_and, and_false, false_implies, not_false_eq_true, not_true_eq_false, decide_eq_true_eq, decide_eq_false_iff_not, isi_none_int, isi_none_bool, isi_none_str, isi_none_tuple, isi_none_list, isi_none_list_tuple, isi_none_tuple_list, isi_bl_int, isi_bl_bool, isi_bl_str, isi_bl_tuple, isi_bl_list, isi_bl_list_tuple, isi_bl_tuple_list, isi_int_int, isi_int_bool, isi_int_str, isi_int_tuple, isi_int_list, isi_int_list_tuple, isi_int_tuple_list, isi_str_int, isi_str_bool, isi_str_str, isi_str_tuple, isi_str_list, isi_str_list_tuple, isi_str_tuple_list, isi_tup_int, isi_tup_bool, isi_tup_str, isi_tup_tuple, isi_tup_list, isi_tup_list_tuple, isi_tup_tuple_list, isi_lst_int, isi_lst_bool, isi_lst_str, isi_lst_tuple, isi_lst_list, isi_lst_list_tuple, isi_lst_tuple_list, cmp_eq_ii, cmp_ne_ii, cmp_eq_bb, cmp_ne_bb, cmp_lt, cmp_le, cmp_gt, cmp_ge, cmp_ni_ii, binD]
    have e : (1 + v) = (((1 + v).toNat : Nat) : Int) := by omega
    rw [e]
    refine chain_spec (n := n + 2) hb (by omega) (by omega) T2 fun f d s st3 hf _ T3 => ?_
    try simp only [wp_bind, wp_pure, wp_bad, wp_getS, wp_asB, wp_slotOpd, wp_rdSlot, wp_rdVar, wp_rdRet, wp_resV, wp_resS, wp_ress0, wp_ress, wp_setR, wp_setρ, wp_call, wp_setAt, wp_opd, wp_dat, wp_shr, wp_ownL, wp_popAt, wp_popLast, wp_app, wp_ins, wp_bindTup, wp_bindTs0, wp_bindTs, wp_bindNm, wp_blk, w_var, w_con, w_tup, w_lst, w_shr, w_bin, w_cmp, w_idx, w_cmp2, w_and2, w_or2, w_not1, w_ife, w_sli, w_call, w_blt, w_isi, w_lc, w_popk, w_popl, w_isN, w_neg, Z.w_rev, w_part0, w_part1, w_ds0, w_ds, w_os0, w_os, w_cs0, w_cs, line, w_asg, w_asgT, w_aug, w_setI, w_app, w_ins, w_ext, w_expr, w_ret, w_retN, w_if, w_forE, w_whil, w_brk, w_cont, w_pass, w_ss0, w_ss, fw_nx, fw_brk, fw_cont, fw_ret, nn_none, nn_int, nn_bl, nn_str, nn_tup, nn_lst, ol_lst, op_some, op_none, op_ite, ob_bl, oi_int, sl_pu, sl_ow, al_ow, al_obj, so_lst, opdV, retV, endQ, letgo, ite_self, ixN_3_0, ixN_3_1, ixN_3_2, atI_0, atI_1, atI_2, atI_3, List.getElem?_cons_zero, List.getElem?_cons_succ, List.set_cons_zero, List.set_cons_succ, List.length_cons, List.length_nil, List.length_map, Option.bind_some, Option.map_some, Nat.zero_add, Nat.reduceAdd, Nat.reduceLT, Nat.reduceLeDiff, Nat.zero_le, if_false, if_true, Bool.false_eq_true, Bool.true_eq_false, Bool.not_true, Bool.not_false, reduceCtorEq, true_and, and_true, forall_const, false_and, and_false, false_implies, not_false_eq_true, not_true_eq_false, decide_eq_true_eq, decide_eq_false_iff_not, isi_none_int, isi_none_bool, isi_none_str, isi_none_tuple, isi_none_list, isi_none_list_tuple, isi_none_tuple_list, isi_bl_int, isi_bl_bool, isi_bl_str, isi_bl_tuple, isi_bl_list, isi_bl_list_tuple, isi_bl_tuple_list, isi_int_int, isi_int_bool, isi_int_str, isi_int_tuple, isi_int_list, isi_int_list_tuple, isi_int_tuple_list, isi_str_int, isi_str_bool, isi_str_str, isi_str_tuple, isi_str_list, isi_str_list_tuple, isi_str_tuple_list, isi_tup_int, isi_tup_bool, isi_tup_str, isi_tup_tuple, isi_tup_list, isi_tup_list_tuple, isi_tup_tuple_list, isi_lst_int, isi_lst_bool, isi_lst_str, isi_lst_tuple, isi_lst_list, isi_lst_list_tuple, isi_lst_tuple_list, cmp_eq_ii, cmp_ne_ii, cmp_eq_bb, cmp_ne_bb, cmp_lt, cmp_le, cmp_gt, cmp_ge, cmp_ni_ii]
    exact h _ _ _ (hf.mono (by omega)) T3
  · refine draw_spec T1 (by omega) (log_small (by omega)) fun v st2 v0 v1 T2 => ?_
    try simp only [wp_bind, wp_pure, wp_bad, wp_getS, wp_asB, wp_slotOpd, wp_rdSlot, wp_rdVar, wp_rdRet, wp_resV, wp_resS, wp_ress0, wp_ress, wp_setR, wp_setρ, wp_call, wp_setAt, wp_opd, wp_dat, wp_shr, wp_ownL, wp_popAt, wp_popLast, wp_app, wp_ins, wp_bindTup, wp_bindTs0, wp_bindTs, wp_bindNm, wp_blk, w_var, w_con, w_tup, w_lst, w_shr, w_bin, w_cmp, w_idx, w_cmp2, w_and2, w_or2, w_not1, w_ife, w_sli, w_call, w_blt, w_isi, w_lc, w_popk, w_popl, w_isN, w_neg, Z.w_rev, w_part0, w_part1, w_ds0, w_ds, w_os0, w_os, w_cs0, w_cs, line, w_asg, w_asgT, w_aug, w_setI, w_app, w_ins, w_ext, w_expr, w_ret, w_retN, w_if, w_forE, w_whil, w_brk, w_cont, w_pass, w_ss0, w_ss, fw_nx, fw_brk, fw_cont, fw_ret, nn_none, nn_int, nn_bl, nn_str, nn_tup, nn_lst, ol_lst, op_some, op_none, op_ite, ob_bl, oi_int, sl_pu, sl_ow, al_ow, al_obj, so_lst, opdV, retV, endQ, letgo, ite_self, ixN_3_0, ixN_3_1, ixN_3_2, atI_0, atI_1, atI_2, atI_3, List.getElem?_cons_zero, List.getElem?_cons_succ, List.set_cons_zero, List.set_cons_succ, List.length_cons, List.length_nil, List.length_map, Option.bind_some, Option.map_some, Nat.zero_add, Nat.reduceAdd, Nat.reduceLT, Nat.reduceLeDiff, Nat.zero_le, if_false, if_true, Bool.false_eq_true, Bool.true_eq_false, Bool.not_true, Bool.not_false, reduceCtorEq, true_and, and_true, forall_const, false_and, and_false, false_implies, not_false_eq_true, not_true_eq_false, decide_eq_true_eq, decide_eq_false_iff_not, isi_none_int, isi_none_bool, isi_none_str, isi_none_tuple, isi_none_list, isi_none_list_tuple, isi_none_tuple_list, isi_bl_int, isi_bl_bool, isi_bl_str, isi_bl_tuple, isi_bl_list, isi_bl_list_tuple, isi_bl_tuple_list, isi_int_int, isi_int_bool, isi_int_str, isi_int_tuple, isi_int_list, isi_int_list_tuple, isi_int_tuple_list, isi_str_int, isi_str_bool, isi_str_str, isi_str_tuple, isi_str_list, isi_str_list_tuple, isi_str_tuple_list, isi_tup_int, isi_tup_bool, isi_tup_str, isi_tup_tuple, isi_tup_list, isi_tup_list_tuple, isi_tup_tuple_list, isi_lst_int, isi_lst_bool, isi_lst_str, isi_lst_tuple, isi_lst_list, isi_lst_list_tuple, isi_lst_tuple_list, cmp_eq_ii, cmp_ne_ii, cmp_eq_bb, cmp_ne_bb, cmp_lt, cmp_le, cmp_gt, cmp_ge, cmp_ni_ii, binD]
    have hv : v = 0 ∨ v = 1 ∨ v = 2 ∨ v = 3 := by omega
    rcases hv with rfl | rfl | rfl | rfl
    · refine tree_spec (k := 0) (n := n + 3) T2 fun f s st3 hf T3 => ?_
      try simp only [wp_bind, wp_pure, wp_bad, wp_getS, wp_asB, wp_slotOpd, wp_rdSlot, wp_rdVar, wp_rdRet, wp_resV, wp_resS, wp_ress0, wp_ress, wp_setR, wp_setρ, wp_call, wp_setAt, wp_opd, wp_dat, wp_shr, wp_ownL, wp_popAt, wp_popLast, wp_app, wp_ins, wp_bindTup, wp_bindTs0, wp_bindTs, wp_bindNm, wp_blk, w_var, w_con, w_tup, w_lst, w_shr, w_bin, w_cmp, w_idx, w_cmp2, w_and2, w_or2, w_not1, w_ife, w_sli, w_call, w_blt, w_isi, w_lc, w_popk, w_popl, w_isN, w_neg, Z.w_rev, w_part0, w_part1, w_ds0, w_ds, w_os0, w_os, w_cs0, w_cs, line, w_asg, w_asgT, w_aug, w_setI, w_app, w_ins, w_ext, w_expr, w_ret, w_retN, w_if, w_forE, w_whil, w_brk, w_cont, w_pass, w_ss0, w_ss, fw_nx, fw_brk, fw_cont, fw_ret, nn_none, nn_int, nn_bl, nn_str, nn_tup, nn_lst, ol_lst, op_some, op_none, op_ite, ob_bl, oi_int, sl_pu, sl_ow, al_ow, al_obj, so_lst, opdV, retV, endQ, letgo, ite_self, ixN_3_0, ixN_3_1, ixN_3_2, atI_0, atI_1, atI_2, atI_3, List.getElem?_cons_zero, List.getElem?_cons_succ, List.set_cons_zero, List.set_cons_succ, List.length_cons, List.length_nil, List.length_map, Option.bind_some, Option.map_some, Nat.zero_add, Nat.reduceAdd, Nat.reduceLT, Nat.reduceLeDiff, Nat.zero_le, if_false, if_true, Bool.false_eq_true, Bool.true_eq_false, Bool.not_true, Bool.not_false, reduceCtorEq, true_and, and_true, forall_const, false_and, and_false, false_implies, not_false_eq_true, not_true_eq_false, decide_eq_true_eq, decide_eq_false_iff_not, isi_none_int, isi_none_bool, isi_none_str, isi_none_tuple, isi_none_list, isi_none_list_tuple, isi_none_tuple_list, isi_bl_int, isi_bl_bool, isi_bl_str, isi_bl_tuple, isi_bl_list, isi_bl_list_tuple, isi_bl_tuple_list, isi_int_int, isi_int_bool, isi_int_str, isi_int_tuple, isi_int_list, isi_int_list_tuple, isi_int_tuple_list, isi_str_int, isi_str_bool, isi_str_str, isi_str_tuple, isi_str_list, isi_str_list_tuple, isi_str_tuple_list, isi_tup_int, isi_tup_bool, isi_tup_str, isi_tup_tuple, isi_tup_list, isi_tup_list_tuple, isi_tup_tuple_list, isi_lst_int, isi_lst_bool, isi_lst_str, isi_lst_tuple, isi_lst_list, isi_lst_list_tuple, isi_lst_tuple_list, cmp_eq_ii, cmp_ne_ii, cmp_eq_bb, cmp_ne_bb, cmp_lt, cmp_le, cmp_gt, cmp_ge, cmp_ni_ii]
      exact h _ _ _ (hf.mono (by omega)) T3
    · refine tree_spec (k := 1) (n := n + 2) T2 fun f s st3 hf T3 => ?_
      try simp only [wp_bind, wp_pure, wp_bad, wp_getS, wp_asB, wp_slotOpd, wp_rdSlot, wp_rdVar, wp_rdRet, wp_resV, wp_resS, wp_ress0, wp_ress, wp_setR, wp_setρ, wp_call, wp_setAt, wp_opd, wp_dat, wp_shr, wp_ownL, wp_popAt, wp_popLast, wp_app, wp_ins, wp_bindTup, wp_bindTs0, wp_bindTs, wp_bindNm, wp_blk, w_var, w_con, w_tup, w_lst, w_shr, w_bin, w_cmp, w_idx, w_cmp2, w_and2, w_or2, w_not1, w_ife, w_sli, w_call, w_blt, w_isi, w_lc, w_popk, w_popl, w_isN, w_neg, Z.w_rev, w_part0, w_part1, w_ds0, w_ds, w_os0, w_os, w_cs0, w_cs, line, w_asg, w_asgT, w_aug, w_setI, w_app, w_ins, w_ext, w_expr, w_ret, w_retN, w_if, w_forE, w_whil, w_brk, w_cont, w_pass, w_ss0, w_ss, fw_nx, fw_brk, fw_cont, fw_ret, nn_none, nn_int, nn_bl, nn_str, nn_tup, nn_lst, ol_lst, op_some, op_none, op_ite, ob_bl, oi_int, sl_pu, sl_ow, al_ow, al_obj, so_lst, opdV, retV, endQ, letgo, ite_self, ixN_3_0, ixN_3_1, ixN_3_2, atI_0, atI_1, atI_2, atI_3, List.getElem?_cons_zero, List.getElem?_cons_succ, List.set_cons_zero, List.set_cons_succ, List.length_cons, List.length_nil, List.length_map, Option.bind_some, Option.map_some, Nat.zero_add, Nat.reduceAdd, Nat.reduceLT, Nat.reduceLeDiff, Nat.zero_le, if_false, if_true, Bool.false_eq_true, Bool.true_eq_false, Bool.not_true, Bool.not_false, reduceCtorEq, true_and, and_true, forall_const, false_and, and_false, false_implies, not_false_eq_true, not_true_eq_false, decide_eq_true_eq, decide_eq_false_iff_not, isi_none_int, isi_none_bool, isi_none_str, isi_none_tuple, isi_none_list, isi_none_list_tuple, isi_none_tuple_list, isi_bl_int, isi_bl_bool, isi_bl_str, isi_bl_tuple, isi_bl_list, isi_bl_list_tuple, isi_bl_tuple_list, isi_int_int, isi_int_bool, isi_int_str, isi_int_tuple, isi_int_list, isi_int_list_tuple, isi_int_tuple_list, isi_str_int, isi_str_bool, isi_str_str, isi_str_tuple, isi_str_list, isi_str_list_tuple, isi_str_tuple_list, isi_tup_int, isi_tup_bool, isi_tup_str, isi_tup_tuple, isi_tup_list, isi_tup_list_tuple, isi_tup_tuple_list, isi_lst_int, isi_lst_bool, isi_lst_str, isi_lst_tuple, isi_lst_list, isi_lst_list_tuple, isi_lst_tuple_list, cmp_eq_ii, cmp_ne_ii, cmp_eq_bb, cmp_ne_bb, cmp_lt, cmp_le, cmp_gt, cmp_ge, cmp_ni_ii]
      exact h _ _ _ (hf.mono (by omega)) T3
    · refine tree_spec (k := 2) (n := n + 1) T2 fun f s st3 hf T3 => ?_
      try simp only [wp_bind, wp_pure, wp_bad, wp_getS, wp_asB, wp_slotOpd, wp_rdSlot, wp_rdVar, wp_rdRet, wp_resV, wp_resS, wp_ress0, wp_ress, wp_setR, wp_setρ, wp_call, wp_setAt, wp_opd, wp_dat, wp_shr, wp_ownL, wp_popAt, wp_popLast, wp_app, wp_ins, wp_bindTup, wp_bindTs0, wp_bindTs, wp_bindNm, wp_blk, w_var, w_con, w_tup, w_lst, w_shr, w_bin, w_cmp, w_idx, w_cmp2, w_and2, w_or2, w_not1, w_ife, w_sli, w_call, w_blt, w_isi, w_lc, w_popk, w_popl, w_isN, w_neg, Z.w_rev, w_part0, w_part1, w_ds0, w_ds, w_os0, w_os, w_cs0, w_cs, line, w_asg, w_asgT, w_aug, w_setI, w_app, w_ins, w_ext, w_expr, w_ret, w_retN, w_if, w_forE, w_whil, w_brk, w_cont, w_pass, w_ss0, w_ss, fw_nx, fw_brk, fw_cont, fw_ret, nn_none, nn_int, nn_bl, nn_str, nn_tup, nn_lst, ol_lst, op_some, op_none, op_ite, ob_bl, oi_int, sl_pu, sl_ow, al_ow, al_obj, so_lst, opdV, retV, endQ, letgo, ite_self, ixN_3_0, ixN_3_1, ixN_3_2, atI_0, atI_1, atI_2, atI_3, List.getElem?_cons_zero, List.getElem?_cons_succ, List.set_cons_zero, List.set_cons_succ, List.length_cons, List.length_nil, List.length_map, Option.bind_some, Option.map_some, Nat.zero_add, Nat.reduceAdd, Nat.reduceLT, Nat.reduceLeDiff, Nat.zero_le, if_false, if_true, Bool.false_eq_true, Bool.true_eq_false, Bool.not_true, Bool.not_false, reduceCtorEq, true_and, and_true, forall_const, false_and, and_false, false_implies, not_false_eq_true, not_true_eq_false, decide_eq_true_eq, decide_eq_false_iff_not, isi_none_int, isi_none_bool, isi_none_str, isi_none_tuple, isi_none_list, isi_none_list_tuple, isi_none_tuple_list, isi_bl_int, isi_bl_bool, isi_bl_str, isi_bl_tuple, isi_bl_list, isi_bl_list_tuple, isi_bl_tuple_list, isi_int_int, isi_int_bool, isi_int_str, isi_int_tuple, isi_int_list, isi_int_list_tuple, isi_int_tuple_list, isi_str_int, isi_str_bool, isi_str_str, isi_str_tuple, isi_str_list, isi_str_list_tuple, isi_str_tuple_list, isi_tup_int, isi_tup_bool, isi_tup_str, isi_tup_tuple, isi_tup_list, isi_tup_list_tuple, isi_tup_tuple_list, isi_lst_int, isi_lst_bool, isi_lst_str, isi_lst_tuple, isi_lst_list, isi_lst_list_tuple, isi_lst_tuple_list, cmp_eq_ii, cmp_ne_ii, cmp_eq_bb, cmp_ne_bb, cmp_lt, cmp_le, cmp_gt, cmp_ge, cmp_ni_ii]
      exact h _ _ _ (hf.mono (by omega)) T3
    · refine tree_spec (k := 3) (n := n) T2 fun f s st3 hf T3 => ?_
      try simp only [wp_bind, wp_pure, wp_bad, wp_getS, wp_asB, wp_slotOpd, wp_rdSlot, wp_rdVar, wp_rdRet, wp_resV, wp_resS, wp_ress0, wp_ress, wp_setR, wp_setρ, wp_call, wp_setAt, wp_opd, wp_dat, wp_shr, wp_ownL, wp_popAt, wp_popLast, wp_app, wp_ins, wp_bindTup, wp_bindTs0, wp_bindTs, wp_bindNm, wp_blk, w_var, w_con, w_tup, w_lst, w_shr, w_bin, w_cmp, w_idx, w_cmp2, w_and2, w_or2, w_not1, w_ife, w_sli, w_call, w_blt, w_isi, w_lc, w_popk, w_popl, w_isN, w_neg, Z.w_rev, w_part0, w_part1, w_ds0, w_ds, w_os0, w_os, w_cs0, w_cs, line, w_asg, w_asgT, w_aug, w_setI, w_app, w_ins, w_ext, w_expr, w_ret, w_retN, w_if, w_forE, w_whil, w_brk, w_cont, w_pass, w_ss0, w_ss, fw_nx, fw_brk, fw_cont, fw_ret, nn_none, nn_int, nn_bl, nn_str, nn_tup, nn_lst, ol_lst, op_some, op_none, op_ite, ob_bl, oi_int, sl_pu, sl_ow, al_ow, al_obj, so_lst, opdV, retV, endQ, letgo, ite_self, ixN_3_0, ixN_3_1, ixN_3_2, atI_0, atI_1, atI_2, atI_3, List.getElem?_cons_zero, List.getElem?_cons_succ, List.set_cons_zero, List.set_cons_succ, List.length_cons, List.length_nil, List.length_map, Option.bind_some, Option.map_some, Nat.zero_add, Nat.reduceAdd, Nat.reduceLT, Nat.reduceLeDiff, Nat.zero_le, if_false, if_true, Bool.false_eq_true, Bool.true_eq_false, Bool.not_true, Bool.not_false, reduceCtorEq, true_and, and_true, forall_const, false_and, and_false, false_implies, not_false_eq_true, not_true_eq_false, decide_eq_true_eq, decide_eq_false_iff_not, isi_none_int, isi_none_bool, isi_none_str, isi_none_tuple, isi_none_list, isi_none_list_tuple, isi_none_tuple_list, isi_bl_int, isi_bl_bool, isi_bl_str, isi_bl_tuple, isi_bl_list, isi_bl_list_tuple, isi_bl_tuple_list, isi_int_int, isi_int_bool, isi_int_str, isi_int_tuple, isi_int_list, isi_int_list_tuple, isi_int_tuple_list, isi_str_int, isi_str_bool, isi_str_str, isi_str_tuple, isi_str_list, isi_str_list_tuple, isi_str_tuple_list, isi_tup_int, isi_tup_bool, isi_tup_str, isi_tup_tuple, isi_tup_list, isi_tup_list_tuple, isi_tup_tuple_list, isi_lst_int, isi_lst_bool, isi_lst_str, isi_lst_tuple, isi_lst_list, isi_lst_list_tuple, isi_lst_tuple_list, cmp_eq_ii, cmp_ne_ii, cmp_eq_bb, cmp_ne_bb, cmp_lt, cmp_le, cmp_gt, cmp_ge, cmp_ni_ii]
      exact h _ _ _ (hf.mono (by omega)) T3
theorem bent_spec : ∀ {k n : Nat} {f : D} {st : List SO} {Q : Rs → List SO → Prop}, Fm k f → Tape st → (∀ g st', Fm k g → Tape st' → Q (g, false) st') → Rp (callF fns wf (n + k + 2) 20 [.obj 1, f] st) Q
  | 0, n, f, st, Q, hf, T, h => by cases hf
  | k + 1, n, f, st, Q, hf, T, h => by
    obtain ⟨h1, h2, h3⟩ := ok_lit
    obtain ⟨l1, l2, l3, l4, l5, l6, l7⟩ := lits
    show Rp (callF fns wf ((n + k + 2) + 1) 20 [.obj 1, f] st) Q
    refine c__law_bent ?_
    unfold b__law_bent
    cases hf with
    | pt p0 p1 =>
      try simp only [wp_bind, wp_pure, wp_bad, wp_getS, wp_asB, wp_slotOpd, wp_rdSlot, wp_rdVar, wp_rdRet, wp_resV, wp_resS, wp_ress0, wp_ress, wp_setR, wp_setρ, wp_call, wp_setAt, wp_opd, wp_dat, wp_shr, wp_ownL, wp_popAt, wp_popLast, wp_app, wp_ins, wp_bindTup, wp_bindTs0, wp_bindTs, wp_bindNm, wp_blk, w_var, w_con, w_tup, w_lst, w_shr, w_bin, w_cmp, w_idx, w_cmp2, w_and2, w_or2, w_not1, w_ife, w_sli, w_call, w_blt, w_isi, w_lc, w_popk, w_popl, w_isN, w_neg, Z.w_rev, w_part0, w_part1, w_ds0, w_ds, w_os0, w_os, w_cs0, w_cs, line, w_asg, w_asgT, w_aug, w_setI, w_app, w_ins, w_ext, w_expr, w_ret, w_retN, w_if, w_forE, w_whil, w_brk, w_cont, w_pass, w_ss0, w_ss, fw_nx, fw_brk, fw_cont, fw_ret, nn_none, nn_int, nn_bl, nn_str, nn_tup, nn_lst, ol_lst, op_some, op_none, op_ite, ob_bl, oi_int, sl_pu, sl_ow, al_ow, al_obj, so_lst, opdV, retV, endQ, letgo, ite_self, ixN_3_0, ixN_3_1, ixN_3_2, atI_0, atI_1, atI_2, atI_3, List.getElem?_cons_zero, List.getElem?_cons_succ, List.set_cons_zero, List.set_cons_succ, List.length_cons, List.length_nil, List.length_map, Option.bind_some, Option.map_some, Nat.zero_add, Nat.reduceAdd, Nat.reduceLT, Nat.reduceLeDiff, Nat.zero_le, if_false, if_true, Bool.false_eq_true, Bool.true_eq_false, Bool.not_true, Bool.not_false, reduceCtorEq, true_and, and_true, forall_const, false_and, and_false, false_implies, not_false_eq_true, not_true_eq_false, decide_eq_true_eq, decide_eq_false_iff_not, isi_none_int, isi_none_bool, isi_none_str, isi_none_tuple, isi_none_list, isi_none_list_tuple, isi_none_tuple_list, isi_bl_int, isi_bl_bool, isi_bl_str, isi_bl_tuple, isi_bl_list, isi_bl_list_tuple, isi_bl_tuple_list, isi_int_int, isi_int_bool, isi_int_str, isi_int_tuple, isi_int_list, isi_int_list_tuple, isi_int_tuple_list, isi_str_int, isi_str_bool, isi_str_str, isi_str_tuple, isi_str_list, isi_str_list_tuple, isi_str_tuple_list, isi_tup_int, isi_tup_bool, isi_tup_str, isi_tup_tuple, isi_tup_list, isi_tup_list_tuple, isi_tup_tuple_list, isi_lst_int, isi_lst_bool, isi_lst_str, isi_lst_tuple, isi_lst_list, isi_lst_list_tuple, isi_lst_tuple_list, cmp_eq_ii, cmp_ne_ii, cmp_eq_bb, cmp_ne_bb, cmp_lt, cmp_le, cmp_gt, cmp_ge, cmp_ni_ii, idxD, seqD, cmp_eq_ss h1 h1, l5]
      exact h _ _ (.pt p0 p1) T
    | two hw hx hy =>
      rename_i w x y
      have hwo : PyData.strOk w = true ∧ eqD (.str w) (.str "point") = false := by
        rcases hw with rfl | rfl
        · exact ⟨h2, l6⟩
        · exact ⟨h3, l7⟩
      try simp only [wp_bind, wp_pure, wp_bad, wp_getS, wp_asB, wp_slotOpd, wp_rdSlot, wp_rdVar, wp_rdRet, wp_resV, wp_resS, wp_ress0, wp_ress, wp_setR, wp_setρ, wp_call, wp_setAt, wp_opd, wp_dat, wp_shr, wp_ownL, wp_popAt, wp_popLast, wp_app, wp_ins, wp_bindTup, wp_bindTs0, wp_bindTs, wp_bindNm, wp_blk, w_var, w_con, w_tup, w_lst, w_shr, w_bin, w_cmp, w_idx, w_cmp2, w_and2, w_or2, w_not1, w_ife, w_sli, w_call, w_blt, w_isi, w_lc, w_popk, w_popl, w_isN, w_neg, Z.w_rev, w_part0, w_part1, w_ds0, w_ds, w_os0, w_os, w_cs0, w_cs, line, w_asg, w_asgT, w_aug, w_setI, w_app, w_ins, w_ext, w_expr, w_ret, w_retN, w_if, w_forE, w_whil, w_brk, w_cont, w_pass, w_ss0, w_ss, fw_nx, fw_brk, fw_cont, fw_ret, nn_none, nn_int, nn_bl, nn_str, nn_tup, nn_lst, ol_lst, op_some, op_none, op_ite, ob_bl, oi_int, sl_pu, sl_ow, al_ow, al_obj, so_lst, opdV, retV, endQ, letgo, ite_self, ixN_3_0, ixN_3_1, ixN_3_2, atI_0, atI_1, atI_2, atI_3, List.getElem?_cons_zero, List.getElem?_cons_succ, List.set_cons_zero, List.set_cons_succ, List.length_cons, List.length_nil, List.length_map, Option.bind_some, Option.map_some, Nat.zero_add, Nat.reduceAdd, Nat.reduceLT, Nat.reduceLeDiff, Nat.zero_le, if_false, if_true, Bool.false_eq_true, Bool.true_eq_false, Bool.not_true, Bool.not_false, reduceCtorEq, true_and, and_true, forall_const, false_and, and_false, false_implies, not_false_eq_true, not_true_eq_false, decide_eq_true_eq, decide_eq_false_iff_not, isi_none_int, isi_none_bool, isi_none_str, isi_none_tuple, isi_none_list, isi_none_list_tuple, isi_none_tuple_list, isi_bl_int, isi_bl_bool, isi_bl_str, isi_bl_tuple, isi_bl_list, isi_bl_list_tuple, isi_bl_tuple_list, isi_int_int, isi_int_bool, isi_int_str, isi_int_tuple, isi_int_list, isi_int_list_tuple, isi_int_tuple_list, isi_str_int, isi_str_bool, isi_str_str, isi_str_tuple, isi_str_list, isi_str_list_tuple, isi_str_tuple_list, isi_tup_int, isi_tup_bool, isi_tup_str, isi_tup_tuple, isi_tup_list, isi_tup_list_tuple, isi_tup_tuple_list, isi_lst_int, isi_lst_bool, isi_lst_str, isi_lst_tuple, isi_lst_list, isi_lst_list_tuple, isi_lst_tuple_list, cmp_eq_ii, cmp_ne_ii, cmp_eq_bb, cmp_ne_bb, cmp_lt, cmp_le, cmp_gt, cmp_ge, cmp_ni_ii, idxD, seqD, cmp_eq_ss hwo.1 h1, hwo.2]
      refine draw_spec T (by decide) (by decide) fun v st2 v0 v1 T2 => ?_
      try simp only [wp_bind, wp_pure, wp_bad, wp_getS, wp_asB, wp_slotOpd, wp_rdSlot, wp_rdVar, wp_rdRet, wp_resV, wp_resS, wp_ress0, wp_ress, wp_setR, wp_setρ, wp_call, wp_setAt, wp_opd, wp_dat, wp_shr, wp_ownL, wp_popAt, wp_popLast, wp_app, wp_ins, wp_bindTup, wp_bindTs0, wp_bindTs, wp_bindNm, wp_blk, w_var, w_con, w_tup, w_lst, w_shr, w_bin, w_cmp, w_idx, w_cmp2, w_and2, w_or2, w_not1, w_ife, w_sli, w_call, w_blt, w_isi, w_lc, w_popk, w_popl, w_isN, w_neg, Z.w_rev, w_part0, w_part1, w_ds0, w_ds, w_os0, w_os, w_cs0, w_cs, line, w_asg, w_asgT, w_aug, w_setI, w_app, w_ins, w_ext, w_expr, w_ret, w_retN, w_if, w_forE, w_whil, w_brk, w_cont, w_pass, w_ss0, w_ss, fw_nx, fw_brk, fw_cont, fw_ret, nn_none, nn_int, nn_bl, nn_str, nn_tup, nn_lst, ol_lst, op_some, op_none, op_ite, ob_bl, oi_int, sl_pu, sl_ow, al_ow, al_obj, so_lst, opdV, retV, endQ, letgo, ite_self, ixN_3_0, ixN_3_1, ixN_3_2, atI_0, atI_1, atI_2, atI_3, List.getElem?_cons_zero, List.getElem?_cons_succ, List.set_cons_zero, List.set_cons_succ, List.length_cons, List.length_nil, List.length_map, Option.bind_some, Option.map_some, Nat.zero_add, Nat.reduceAdd, Nat.reduceLT, Nat.reduceLeDiff, Nat.zero_le, if_false, if_true, Bool.false_eq_true, Bool.true_eq_false, Bool.not_true, Bool.not_false, reduceCtorEq, true_and, and_true, forall_const, false_and, and_false, false_implies, not_false_eq_true, not_true_eq_false, decide_eq_true_eq, decide_eq_false_iff_not, isi_none_int, isi_none_bool, isi_none_str, isi_none_tuple, isi_none_list, isi_none_list_tuple, isi_none_tuple_list, isi_bl_int, isi_bl_bool, isi_bl_str, isi_bl_tuple, isi_bl_list, isi_bl_list_tuple, isi_bl_tuple_list, isi_int_int, isi_int_bool, isi_int_str, isi_int_tuple, isi_int_list, isi_int_list_tuple, isi_int_tuple_list, isi_str_int, isi_str_bool, isi_str_str, isi_str_tuple, isi_str_list, isi_str_list_tuple, isi_str_tuple_list, isi_tup_int, isi_tup_bool, isi_tup_str, isi_tup_tuple, isi_tup_list, isi_tup_list_tuple, isi_tup_tuple_list, isi_lst_int, isi_lst_bool, isi_lst_str, isi_lst_tuple, isi_lst_list, isi_lst_list_tuple, isi_lst_tuple_list, cmp_eq_ii, cmp_ne_ii, cmp_eq_bb, cmp_ne_bb, cmp_lt, cmp_le, cmp_gt, cmp_ge, cmp_ni_ii, idxD, seqD]
      refine ⟨fun _ => ?_, fun _ => ?_⟩
      · refine bent_spec hx T2 fun g st3 hg T3 => ?_
        try simp only [wp_bind, wp_pure, wp_bad, wp_getS, wp_asB, wp_slotOpd, wp_rdSlot, wp_rdVar, wp_rdRet, wp_resV, wp_resS, wp_ress0, wp_ress, wp_setR, wp_setρ, wp_call, wp_setAt, wp_opd, wp_dat, wp_shr, wp_ownL, wp_popAt, wp_popLast, wp_app, wp_ins, wp_bindTup, wp_bindTs0, wp_bindTs, wp_bindNm, wp_blk, w_var, w_con, w_tup, w_lst, w_shr, w_bin, w_cmp, w_idx, w_cmp2, w_and2, w_or2, w_not1, w_ife, w_sli, w_call, w_blt, w_isi, w_lc, w_popk, w_popl, w_isN, w_neg, Z.w_rev, w_part0, w_part1, w_ds0, w_ds, w_os0, w_os, w_cs0, w_cs, line, w_asg, w_asgT, w_aug, w_setI, w_app, w_ins, w_ext, w_expr, w_ret, w_retN, w_if, w_forE, w_whil, w_brk, w_cont, w_pass, w_ss0, w_ss, fw_nx, fw_brk, fw_cont, fw_ret, nn_none, nn_int, nn_bl, nn_str, nn_tup, nn_lst, ol_lst, op_some, op_none, op_ite, ob_bl, oi_int, sl_pu, sl_ow, al_ow, al_obj, so_lst, opdV, retV, endQ, letgo, ite_self, ixN_3_0, ixN_3_1, ixN_3_2, atI_0, atI_1, atI_2, atI_3, List.getElem?_cons_zero, List.getElem?_cons_succ, List.set_cons_zero, List.set_cons_succ, List.length_cons, List.length_nil, List.length_map, Option.bind_some, Option.map_some, Nat.zero_add, Nat.reduceAdd, Nat.reduceLT, Nat.reduceLeDiff, Nat.zero_le, if_false, if_true, Bool.false_eq_true, Bool.true_eq_false, Bool.not_true, Bool.not_false, reduceCtorEq, true_and, and_true, forall_const, false_and, and_false, false_implies, not_false_eq_true, not_true_eq_false, decide_eq_true_eq, decide_eq_false_iff_not, isi_none_int, isi_none_bool, isi_none_str, isi_none_tuple, isi_none_list, isi_none_list_tuple, isi_none_tuple_list, isi_bl_int, isi_bl_bool, isi_bl_str, isi_bl_tuple, isi_bl_list, isi_bl_list_tuple, isi_bl_tuple_list, isi_int_int, isi_int_bool, isi_int_str, isi_int_tuple, isi_int_list, isi_int_list_tuple, isi_int_tuple_list, isi_str_int, isi_str_bool, isi_str_str, isi_str_tuple, isi_str_list, isi_str_list_tuple, isi_str_tuple_list, isi_tup_int, isi_tup_bool, isi_tup_str, isi_tup_tuple, isi_tup_list, isi_tup_list_tuple, isi_tup_tuple_list, isi_lst_int, isi_lst_bool, isi_lst_str, isi_lst_tuple, isi_lst_list, isi_lst_list_tuple, isi_lst_tuple_list, cmp_eq_ii, cmp_ne_ii, cmp_eq_bb, cmp_ne_bb, cmp_lt, cmp_le, cmp_gt, cmp_ge, cmp_ni_ii, idxD, seqD]
        refine bent_spec hy T3 fun g' st4 hg' T4 => ?_
        try simp only [wp_bind, wp_pure, wp_bad, wp_getS, wp_asB, wp_slotOpd, wp_rdSlot, wp_rdVar, wp_rdRet, wp_resV, wp_resS, wp_ress0, wp_ress, wp_setR, wp_setρ, wp_call, wp_setAt, wp_opd, wp_dat, wp_shr, wp_ownL, wp_popAt, wp_popLast, wp_app, wp_ins, wp_bindTup, wp_bindTs0, wp_bindTs, wp_bindNm, wp_blk, w_var, w_con, w_tup, w_lst, w_shr, w_bin, w_cmp, w_idx, w_cmp2, w_and2, w_or2, w_not1, w_ife, w_sli, w_call, w_blt, w_isi, w_lc, w_popk, w_popl, w_isN, w_neg, Z.w_rev, w_part0, w_part1, w_ds0, w_ds, w_os0, w_os, w_cs0, w_cs, line, w_asg, w_asgT, w_aug, w_setI, w_app, w_ins, w_ext, w_expr, w_ret, w_retN, w_if, w_forE, w_whil, w_brk, w_cont, w_pass, w_ss0, w_ss, fw_nx, fw_brk, fw_cont, fw_ret, nn_none, nn_int, nn_bl, nn_str, nn_tup, nn_lst, ol_lst, op_some, op_none, op_ite, ob_bl, oi_int, sl_pu, sl_ow, al_ow, al_obj, so_lst, opdV, retV, endQ, letgo, ite_self, ixN_3_0, ixN_3_1, ixN_3_2, atI_0, atI_1, atI_2, atI_3, List.getElem?_cons_zero, List.getElem?_cons_succ, List.set_cons_zero, List.set_cons_succ, List.length_cons, List.length_nil, List.length_map, Option.bind_some, Option.map_some, Nat.zero_add, Nat.reduceAdd, Nat.reduceLT, Nat.reduceLeDiff, Nat.zero_le, if_false, if_true, Bool.false_eq_true, Bool.true_eq_false, Bool.not_true, Bool.not_false, reduceCtorEq, true_and, and_true, forall_const, false_and, and_false, false_implies, not_false_eq_true, not_true_eq_false, decide_eq_true_eq, decide_eq_false_iff_not, isi_none_int, isi_none_bool, isi_none_str, isi_none_tuple, isi_none_list, isi_none_list_tuple, isi_none_tuple_list, isi_bl_int, isi_bl_bool, isi_bl_str, isi_bl_tuple, isi_bl_list, isi_bl_list_tuple, isi_bl_tuple_list, isi_int_int, isi_int_bool, isi_int_str, isi_int_tuple, isi_int_list, isi_int_list_tuple, isi_int_tuple_list, isi_str_int, isi_str_bool, isi_str_str, isi_str_tuple, isi_str_list, isi_str_list_tuple, isi_str_tuple_list, isi_tup_int, isi_tup_bool, isi_tup_str, isi_tup_tuple, isi_tup_list, isi_tup_list_tuple, isi_tup_tuple_list, isi_lst_int, isi_lst_bool, isi_lst_str, isi_lst_tuple, isi_lst_list, isi_lst_list_tuple, isi_lst_tuple_list, cmp_eq_ii, cmp_ne_ii, cmp_eq_bb, cmp_ne_bb, cmp_lt, cmp_le, cmp_gt, cmp_ge, cmp_ni_ii]
        exact h _ _ (.two hw hg hg') T4
      · refine draw_spec T2 (by decide) (by decide) fun v st3 v0 v1 T3 => ?_
        try simp only [wp_bind, wp_pure, wp_bad, wp_getS, wp_asB, wp_slotOpd, wp_rdSlot, wp_rdVar, wp_rdRet, wp_resV, wp_resS, wp_ress0, wp_ress, wp_setR, wp_setρ, wp_call, wp_setAt, wp_opd, wp_dat, wp_shr, wp_ownL, wp_popAt, wp_popLast, wp_app, wp_ins, wp_bindTup, wp_bindTs0, wp_bindTs, wp_bindNm, wp_blk, w_var, w_con, w_tup, w_lst, w_shr, w_bin, w_cmp, w_idx, w_cmp2, w_and2, w_or2, w_not1, w_ife, w_sli, w_call, w_blt, w_isi, w_lc, w_popk, w_popl, w_isN, w_neg, Z.w_rev, w_part0, w_part1, w_ds0, w_ds, w_os0, w_os, w_cs0, w_cs, line, w_asg, w_asgT, w_aug, w_setI, w_app, w_ins, w_ext, w_expr, w_ret, w_retN, w_if, w_forE, w_whil, w_brk, w_cont, w_pass, w_ss0, w_ss, fw_nx, fw_brk, fw_cont, fw_ret, nn_none, nn_int, nn_bl, nn_str, nn_tup, nn_lst, ol_lst, op_some, op_none, op_ite, ob_bl, oi_int, sl_pu, sl_ow, al_ow, al_obj, so_lst, opdV, retV, endQ, letgo, ite_self, ixN_3_0, ixN_3_1, ixN_3_2, atI_0, atI_1, atI_2, atI_3, List.getElem?_cons_zero, List.getElem?_cons_succ, List.set_cons_zero, List.set_cons_succ, List.length_cons, List.length_nil, List.length_map, Option.bind_some, Option.map_some, Nat.zero_add, Nat.reduceAdd, Nat.reduceLT, Nat.reduceLeDiff, Nat.zero_le, if_false, if_true, Bool.false_eq_true, Bool.true_eq_false, Bool.not_true, Bool.not_false, reduceCtorEq, true_and, and_true, forall_const, false_and, and_false, false_implies, not_false_eq_true, not_true_eq_false, decide_eq_true_eq, decide_eq_false_iff_not, isi_none_int, isi_none_bool, isi_none_str, isi_none_tuple, isi_none_list, isi_none_list_tuple, isi_none_tuple_list, isi_bl_int, isi_bl_bool, isi_bl_str, isi_bl_tuple, isi_bl_list, isi_bl_list_tuple, isi_bl_tuple_list, isi_int_int, isi_int_bool, isi_int_str, isi_int_tuple, isi_int_list, isi_int_list_tuple, isi_int_tuple_list, isi_str_int, isi_str_bool, isi_str_str, isi_str_tuple, isi_str_list, isi_str_list_tuple, isi_str_tuple_list, isi_tup_int, isi_tup_bool, isi_tup_str, isi_tup_tuple, isi_tup_list, isi_tup_list_tuple, isi_tup_tuple_list, isi_lst_int, isi_lst_bool, isi_lst_str, isi_lst_tuple, isi_lst_list, isi_lst_list_tuple, isi_lst_tuple_list, cmp_eq_ii, cmp_ne_ii, cmp_eq_bb, cmp_ne_bb, cmp_lt, cmp_le, cmp_gt, cmp_ge, cmp_ni_ii, idxD, seqD]
        refine op_atI v0 (by simp; omega) fun a ha => ?_
        have ha : ∃ u, a = .str u ∧ (u = ("join" : Str) ∨ u = ("meet" : Str)) := by
          simp only [List.mem_cons, List.not_mem_nil, or_false] at ha
          rcases ha with rfl | rfl
          · exact ⟨_, rfl, .inl rfl⟩
          · exact ⟨_, rfl, .inr rfl⟩
        obtain ⟨u, rfl, hu⟩ := ha
        try simp only [wp_bind, wp_pure, wp_bad, wp_getS, wp_asB, wp_slotOpd, wp_rdSlot, wp_rdVar, wp_rdRet, wp_resV, wp_resS, wp_ress0, wp_ress, wp_setR, wp_setρ, wp_call, wp_setAt, wp_opd, wp_dat, wp_shr, wp_ownL, wp_popAt, wp_popLast, wp_app, wp_ins, wp_bindTup, wp_bindTs0, wp_bindTs, wp_bindNm, wp_blk, w_var, w_con, w_tup, w_lst, w_shr, w_bin, w_cmp, w_idx, w_cmp2, w_and2, w_or2, w_not1, w_ife, w_sli, w_call, w_blt, w_isi, w_lc, w_popk, w_popl, w_isN, w_neg, Z.w_rev, w_part0, w_part1, w_ds0, w_ds, w_os0, w_os, w_cs0, w_cs, line, w_asg, w_asgT, w_aug, w_setI, w_app, w_ins, w_ext, w_expr, w_ret, w_retN, w_if, w_forE, w_whil, w_brk, w_cont, w_pass, w_ss0, w_ss, fw_nx, fw_brk, fw_cont, fw_ret, nn_none, nn_int, nn_bl, nn_str, nn_tup, nn_lst, ol_lst, op_some, op_none, op_ite, ob_bl, oi_int, sl_pu, sl_ow, al_ow, al_obj, so_lst, opdV, retV, endQ, letgo, ite_self, ixN_3_0, ixN_3_1, ixN_3_2, atI_0, atI_1, atI_2, atI_3, List.getElem?_cons_zero, List.getElem?_cons_succ, List.set_cons_zero, List.set_cons_succ, List.length_cons, List.length_nil, List.length_map, Option.bind_some, Option.map_some, Nat.zero_add, Nat.reduceAdd, Nat.reduceLT, Nat.reduceLeDiff, Nat.zero_le, if_false, if_true, Bool.false_eq_true, Bool.true_eq_false, Bool.not_true, Bool.not_false, reduceCtorEq, true_and, and_true, forall_const, false_and, and_false, false_implies, not_false_eq_true, not_true_eq_false, decide_eq_true_eq, decide_eq_false_iff_not, isi_none_int, isi_none_bool, isi_none_str, isi_none_tuple, isi_none_list, isi_none_list_tuple, isi_none_tuple_list, isi_bl_int, isi_bl_bool, isi_bl_str, isi_bl_tuple, isi_bl_list, isi_bl_list_tuple, isi_bl_tuple_list, isi_int_int, isi_int_bool, isi_int_str, isi_int_tuple, isi_int_list, isi_int_list_tuple, isi_int_tuple_list, isi_str_int, isi_str_bool, isi_str_str, isi_str_tuple, isi_str_list, isi_str_list_tuple, isi_str_tuple_list, isi_tup_int, isi_tup_bool, isi_tup_str, isi_tup_tuple, isi_tup_list, isi_tup_list_tuple, isi_tup_tuple_list, isi_lst_int, isi_lst_bool, isi_lst_str, isi_lst_tuple, isi_lst_list, isi_lst_list_tuple, isi_lst_tuple_list, cmp_eq_ii, cmp_ne_ii, cmp_eq_bb, cmp_ne_bb, cmp_lt, cmp_le, cmp_gt, cmp_ge, cmp_ni_ii, idxD, seqD]
        refine bent_spec hx T3 fun g st4 hg T4 => ?_
        try simp only [wp_bind, wp_pure, wp_bad, wp_getS, wp_asB, wp_slotOpd, wp_rdSlot, wp_rdVar, wp_rdRet, wp_resV, wp_resS, wp_ress0, wp_ress, wp_setR, wp_setρ, wp_call, wp_setAt, wp_opd, wp_dat, wp_shr, wp_ownL, wp_popAt, wp_popLast, wp_app, wp_ins, wp_bindTup, wp_bindTs0, wp_bindTs, wp_bindNm, wp_blk, w_var, w_con, w_tup, w_lst, w_shr, w_bin, w_cmp, w_idx, w_cmp2, w_and2, w_or2, w_not1, w_ife, w_sli, w_call, w_blt, w_isi, w_lc, w_popk, w_popl, w_isN, w_neg, Z.w_rev, w_part0, w_part1, w_ds0, w_ds, w_os0, w_os, w_cs0, w_cs, line, w_asg, w_asgT, w_aug, w_setI, w_app, w_ins, w_ext, w_expr, w_ret, w_retN, w_if, w_forE, w_whil, w_brk, w_cont, w_pass, w_ss0, w_ss, fw_nx, fw_brk, fw_cont, fw_ret, nn_none, nn_int, nn_bl, nn_str, nn_tup, nn_lst, ol_lst, op_some, op_none, op_ite, ob_bl, oi_int, sl_pu, sl_ow, al_ow, al_obj, so_lst, opdV, retV, endQ, letgo, ite_self, ixN_3_0, ixN_3_1, ixN_3_2, atI_0, atI_1, atI_2, atI_3, List.getElem?_cons_zero, List.getElem?_cons_succ, List.set_cons_zero, List.set_cons_succ, List.length_cons, List.length_nil, List.length_map, Option.bind_some, Option.map_some, Nat.zero_add, Nat.reduceAdd, Nat.reduceLT, Nat.reduceLeDiff, Nat.zero_le, if_false, if_true, Bool.false_eq_true, Bool.true_eq_false, Bool.not_true, Bool.not_false, reduceCtorEq, true_and, and_true, forall_const, false_and, and_false, false_implies, not_false_eq_true, not_true_eq_false, decide_eq_true_eq, decide_eq_false_iff_not, isi_none_int, isi_none_bool, isi_none_str, isi_none_tuple, isi_none_list, isi_none_list_tuple, isi_none_tuple_list, isi_bl_int, isi_bl_bool, isi_bl_str, isi_bl_tuple, isi_bl_list, isi_bl_list_tuple, isi_bl_tuple_list, isi_int_int, isi_int_bool, isi_int_str, isi_int_tuple, isi_int_list, isi_int_list_tuple, isi_int_tuple_list, isi_str_int, isi_str_bool, isi_str_str, isi_str_tuple, isi_str_list, isi_str_list_tuple, isi_str_tuple_list, isi_tup_int, isi_tup_bool, isi_tup_str, isi_tup_tuple, isi_tup_list, isi_tup_list_tuple, isi_tup_tuple_list, isi_lst_int, isi_lst_bool, isi_lst_str, isi_lst_tuple, isi_lst_list, isi_lst_list_tuple, isi_lst_tuple_list, cmp_eq_ii, cmp_ne_ii, cmp_eq_bb, cmp_ne_bb, cmp_lt, cmp_le, cmp_gt, cmp_ge, cmp_ni_ii, idxD, seqD]
        refine bent_spec hy T4 fun g' st5 hg' T5 => ?_
        try simp only [wp_bind, wp_pure, wp_bad, wp_getS, wp_asB, wp_slotOpd, wp_rdSlot, wp_rdVar, wp_rdRet, wp_resV, wp_resS, wp_ress0, wp_ress, wp_setR, wp_setρ, wp_call, wp_setAt, wp_opd, wp_dat, wp_shr, wp_ownL, wp_popAt, wp_popLast, wp_app, wp_ins, wp_bindTup, wp_bindTs0, wp_bindTs, wp_bindNm, wp_blk, w_var, w_con, w_tup, w_lst, w_shr, w_bin, w_cmp, w_idx, w_cmp2, w_and2, w_or2, w_not1, w_ife, w_sli, w_call, w_blt, w_isi, w_lc, w_popk, w_popl, w_isN, w_neg, Z.w_rev, w_part0, w_part1, w_ds0, w_ds, w_os0, w_os, w_cs0, w_cs, line, w_asg, w_asgT, w_aug, w_setI, w_app, w_ins, w_ext, w_expr, w_ret, w_retN, w_if, w_forE, w_whil, w_brk, w_cont, w_pass, w_ss0, w_ss, fw_nx, fw_brk, fw_cont, fw_ret, nn_none, nn_int, nn_bl, nn_str, nn_tup, nn_lst, ol_lst, op_some, op_none, op_ite, ob_bl, oi_int, sl_pu, sl_ow, al_ow, al_obj, so_lst, opdV, retV, endQ, letgo, ite_self, ixN_3_0, ixN_3_1, ixN_3_2, atI_0, atI_1, atI_2, atI_3, List.getElem?_cons_zero, List.getElem?_cons_succ, List.set_cons_zero, List.set_cons_succ, List.length_cons, List.length_nil, List.length_map, Option.bind_some, Option.map_some, Nat.zero_add, Nat.reduceAdd, Nat.reduceLT, Nat.reduceLeDiff, Nat.zero_le, if_false, if_true, Bool.false_eq_true, Bool.true_eq_false, Bool.not_true, Bool.not_false, reduceCtorEq, true_and, and_true, forall_const, false_and, and_false, false_implies, not_false_eq_true, not_true_eq_false, decide_eq_true_eq, decide_eq_false_iff_not, isi_none_int, isi_none_bool, isi_none_str, isi_none_tuple, isi_none_list, isi_none_list_tuple, isi_none_tuple_list, isi_bl_int, isi_bl_bool, isi_bl_str, isi_bl_tuple, isi_bl_list, isi_bl_list_tuple, isi_bl_tuple_list, isi_int_int, isi_int_bool, isi_int_str, isi_int_tuple, isi_int_list, isi_int_list_tuple, isi_int_tuple_list, isi_str_int, isi_str_bool, isi_str_str, isi_str_tuple, isi_str_list, isi_str_list_tuple, isi_str_tuple_list, isi_tup_int, isi_tup_bool, isi_tup_str, isi_tup_tuple, isi_tup_list, isi_tup_list_tuple, isi_tup_tuple_list, isi_lst_int, isi_lst_bool, isi_lst_str, isi_lst_tuple, isi_lst_list, isi_lst_list_tuple, isi_lst_tuple_list, cmp_eq_ii, cmp_ne_ii, cmp_eq_bb, cmp_ne_bb, cmp_lt, cmp_le, cmp_gt, cmp_ge, cmp_ni_ii]
        exact h _ _ (.two hu hg hg') T5
end G

namespace G
open PySem PySem.Spec PyProof.Rows L2 Z
theorem like_b {n : Nat} {st : List SO} {a b : Bool} {Q : Rs → List SO → Prop} (h : Q (.bl (decide (a = b)), false) st) : Rp (callF fns wf (n + 1) 10 [.bl a, .bl b] st) Q := by
  refine c__law_like ?_
  unfold b__law_like
  try simp only [wp_bind, wp_pure, wp_bad, wp_getS, wp_asB, wp_slotOpd, wp_rdSlot, wp_rdVar, wp_rdRet, wp_resV, wp_resS, wp_ress0, wp_ress, wp_setR, wp_setρ, wp_call, wp_setAt, wp_opd, wp_dat, wp_shr, wp_ownL, wp_popAt, wp_popLast, wp_app, wp_ins, wp_bindTup, wp_bindTs0, wp_bindTs, wp_bindNm, wp_blk, w_var, w_con, w_tup, w_lst, w_shr, w_bin, w_cmp, w_idx, w_cmp2, w_and2, w_or2, w_not1, w_ife, w_sli, w_call, w_blt, w_isi, w_lc, w_popk, w_popl, w_isN, w_neg, Z.w_rev, w_part0, w_part1, w_ds0, w_ds, w_os0, w_os, w_cs0, w_cs, line, w_asg, w_asgT, w_aug, w_setI, w_app, w_ins, w_ext, w_expr, w_ret, w_retN, w_if, w_forE, w_whil, w_brk, w_cont, w_pass, w_ss0, w_ss, fw_nx, fw_brk, fw_cont, fw_ret, nn_none, nn_int, nn_bl, nn_str, nn_tup, nn_lst, ol_lst, op_some, op_none, op_ite, ob_bl, oi_int, sl_pu, sl_ow, al_ow, al_obj, so_lst, opdV, retV, endQ, letgo, ite_self, ixN_3_0, ixN_3_1, ixN_3_2, atI_0, atI_1, atI_2, atI_3, List.getElem?_cons_zero, List.getElem?_cons_succ, List.set_cons_zero, List.set_cons_succ, List.length_cons, List.length_nil, List.length_map, Option.bind_some, Option.map_some, List.nil_append, List.cons_append, List.length_singleton, Nat.zero_add, Nat.reduceAdd, Nat.reduceLT, Nat.reduceLeDiff, Nat.zero_le, if_false, if_true, Bool.false_eq_true, Bool.true_eq_false, Bool.not_true, Bool.not_false, reduceCtorEq, true_and, and_true, forall_const, false_and, and_false, false_implies, not_false_eq_true, not_true_eq_false, decide_eq_true_eq, decide_eq_false_iff_not, isi_none_int, isi_none_bool, isi_none_str, isi_none_tuple, isi_none_list, isi_none_list_tuple, isi_none_tuple_list, isi_bl_int, isi_bl_bool, isi_bl_str, isi_bl_tuple, isi_bl_list, isi_bl_list_tuple, isi_bl_tuple_list, isi_int_int, isi_int_bool, isi_int_str, isi_int_tuple, isi_int_list, isi_int_list_tuple, isi_int_tuple_list, isi_str_int, isi_str_bool, isi_str_str, isi_str_tuple, isi_str_list, isi_str_list_tuple, isi_str_tuple_list, isi_tup_int, isi_tup_bool, isi_tup_str, isi_tup_tuple, isi_tup_list, isi_tup_list_tuple, isi_tup_tuple_list, isi_lst_int, isi_lst_bool, isi_lst_str, isi_lst_tuple, isi_lst_list, isi_lst_list_tuple, isi_lst_tuple_list, cmp_eq_ii, cmp_ne_ii, cmp_eq_bb, cmp_ne_bb, cmp_lt, cmp_le, cmp_gt, cmp_ge, cmp_ni_ii]
  exact h
theorem like_i {n : Nat} {st : List SO} {a b : Int} {Q : Rs → List SO → Prop} (h : Q (.bl (decide (a = b)), false) st) : Rp (callF fns wf (n + 1) 10 [.int a, .int b] st) Q := by
  refine c__law_like ?_
  unfold b__law_like
  try simp only [wp_bind, wp_pure, wp_bad, wp_getS, wp_asB, wp_slotOpd, wp_rdSlot, wp_rdVar, wp_rdRet, wp_resV, wp_resS, wp_ress0, wp_ress, wp_setR, wp_setρ, wp_call, wp_setAt, wp_opd, wp_dat, wp_shr, wp_ownL, wp_popAt, wp_popLast, wp_app, wp_ins, wp_bindTup, wp_bindTs0, wp_bindTs, wp_bindNm, wp_blk, w_var, w_con, w_tup, w_lst, w_shr, w_bin, w_cmp, w_idx, w_cmp2, w_and2, w_or2, w_not1, w_ife, w_sli, w_call, w_blt, w_isi, w_lc, w_popk, w_popl, w_isN, w_neg, Z.w_rev, w_part0, w_part1, w_ds0, w_ds, w_os0, w_os, w_cs0, w_cs, line, w_asg, w_asgT, w_aug, w_setI, w_app, w_ins, w_ext, w_expr, w_ret, w_retN, w_if, w_forE, w_whil, w_brk, w_cont, w_pass, w_ss0, w_ss, fw_nx, fw_brk, fw_cont, fw_ret, nn_none, nn_int, nn_bl, nn_str, nn_tup, nn_lst, ol_lst, op_some, op_none, op_ite, ob_bl, oi_int, sl_pu, sl_ow, al_ow, al_obj, so_lst, opdV, retV, endQ, letgo, ite_self, ixN_3_0, ixN_3_1, ixN_3_2, atI_0, atI_1, atI_2, atI_3, List.getElem?_cons_zero, List.getElem?_cons_succ, List.set_cons_zero, List.set_cons_succ, List.length_cons, List.length_nil, List.length_map, Option.bind_some, Option.map_some, List.nil_append, List.cons_append, List.length_singleton, Nat.zero_add, Nat.reduceAdd, Nat.reduceLT, Nat.reduceLeDiff, Nat.zero_le, if_false, if_true, Bool.false_eq_true, Bool.true_eq_false, Bool.not_true, Bool.not_false, reduceCtorEq, true_and, and_true, forall_const, false_and, and_false, false_implies, not_false_eq_true, not_true_eq_false, decide_eq_true_eq, decide_eq_false_iff_not, isi_none_int, isi_none_bool, isi_none_str, isi_none_tuple, isi_none_list, isi_none_list_tuple, isi_none_tuple_list, isi_bl_int, isi_bl_bool, isi_bl_str, isi_bl_tuple, isi_bl_list, isi_bl_list_tuple, isi_bl_tuple_list, isi_int_int, isi_int_bool, isi_int_str, isi_int_tuple, isi_int_list, isi_int_list_tuple, isi_int_tuple_list, isi_str_int, isi_str_bool, isi_str_str, isi_str_tuple, isi_str_list, isi_str_list_tuple, isi_str_tuple_list, isi_tup_int, isi_tup_bool, isi_tup_str, isi_tup_tuple, isi_tup_list, isi_tup_list_tuple, isi_tup_tuple_list, isi_lst_int, isi_lst_bool, isi_lst_str, isi_lst_tuple, isi_lst_list, isi_lst_list_tuple, isi_lst_tuple_list, cmp_eq_ii, cmp_ne_ii, cmp_eq_bb, cmp_ne_bb, cmp_lt, cmp_le, cmp_gt, cmp_ge, cmp_ni_ii]
  exact h
theorem code_nn (o : Option (Int × Int × Int)) (P Q : Prop) : Nn (code o) P Q = if o.isSome = true then Q else P := by
  match o with
  | none => rfl
  | some (a, b, c) => rfl
theorem is_formula_spec {L : Nat} {big : Int} {st : List SO} {k : Nat} {d : D} {n : Nat} {Q : Rs → List SO → Prop} (hd : Fine L k d) (h : Q (.bl (meas big k d).isSome, false) st) : Rp (callF fns wf (n + k + 4) 5 [d, .int big] st) Q := by
  show Rp (callF fns wf ((n + k + 3) + 1) 5 [d, .int big] st) Q
  refine c_is_formula ?_
  unfold b_is_formula
  try simp only [wp_bind, wp_pure, wp_bad, wp_getS, wp_asB, wp_slotOpd, wp_rdSlot, wp_rdVar, wp_rdRet, wp_resV, wp_resS, wp_ress0, wp_ress, wp_setR, wp_setρ, wp_call, wp_setAt, wp_opd, wp_dat, wp_shr, wp_ownL, wp_popAt, wp_popLast, wp_app, wp_ins, wp_bindTup, wp_bindTs0, wp_bindTs, wp_bindNm, wp_blk, w_var, w_con, w_tup, w_lst, w_shr, w_bin, w_cmp, w_idx, w_cmp2, w_and2, w_or2, w_not1, w_ife, w_sli, w_call, w_blt, w_isi, w_lc, w_popk, w_popl, w_isN, w_neg, Z.w_rev, w_part0, w_part1, w_ds0, w_ds, w_os0, w_os, w_cs0, w_cs, line, w_asg, w_asgT, w_aug, w_setI, w_app, w_ins, w_ext, w_expr, w_ret, w_retN, w_if, w_forE, w_whil, w_brk, w_cont, w_pass, w_ss0, w_ss, fw_nx, fw_brk, fw_cont, fw_ret, nn_none, nn_int, nn_bl, nn_str, nn_tup, nn_lst, ol_lst, op_some, op_none, op_ite, ob_bl, oi_int, sl_pu, sl_ow, al_ow, al_obj, so_lst, opdV, retV, endQ, letgo, ite_self, ixN_3_0, ixN_3_1, ixN_3_2, atI_0, atI_1, atI_2, atI_3, List.getElem?_cons_zero, List.getElem?_cons_succ, List.set_cons_zero, List.set_cons_succ, List.length_cons, List.length_nil, List.length_map, Option.bind_some, Option.map_some, List.nil_append, List.cons_append, List.length_singleton, Nat.zero_add, Nat.reduceAdd, Nat.reduceLT, Nat.reduceLeDiff, Nat.zero_le, if_false, if_true, Bool.false_eq_true, Bool.true_eq_false, Bool.not_true, Bool.not_false, reduceCtorEq, true_and, and_true, forall_const, false_and, and_false, false_implies, not_false_eq_true, not_true_eq_false, decide_eq_true_eq, decide_eq_false_iff_not, isi_none_int, isi_none_bool, isi_none_str, isi_none_tuple, isi_none_list, isi_none_list_tuple, isi_none_tuple_list, isi_bl_int, isi_bl_bool, isi_bl_str, isi_bl_tuple, isi_bl_list, isi_bl_list_tuple, isi_bl_tuple_list, isi_int_int, isi_int_bool, isi_int_str, isi_int_tuple, isi_int_list, isi_int_list_tuple, isi_int_tuple_list, isi_str_int, isi_str_bool, isi_str_str, isi_str_tuple, isi_str_list, isi_str_list_tuple, isi_str_tuple_list, isi_tup_int, isi_tup_bool, isi_tup_str, isi_tup_tuple, isi_tup_list, isi_tup_list_tuple, isi_tup_tuple_list, isi_lst_int, isi_lst_bool, isi_lst_str, isi_lst_tuple, isi_lst_list, isi_lst_list_tuple, isi_lst_tuple_list, cmp_eq_ii, cmp_ne_ii, cmp_eq_bb, cmp_ne_bb, cmp_lt, cmp_le, cmp_gt, cmp_ge, cmp_ni_ii]
  refine measured_spec hd ?_
  try simp only [wp_bind, wp_pure, wp_bad, wp_getS, wp_asB, wp_slotOpd, wp_rdSlot, wp_rdVar, wp_rdRet, wp_resV, wp_resS, wp_ress0, wp_ress, wp_setR, wp_setρ, wp_call, wp_setAt, wp_opd, wp_dat, wp_shr, wp_ownL, wp_popAt, wp_popLast, wp_app, wp_ins, wp_bindTup, wp_bindTs0, wp_bindTs, wp_bindNm, wp_blk, w_var, w_con, w_tup, w_lst, w_shr, w_bin, w_cmp, w_idx, w_cmp2, w_and2, w_or2, w_not1, w_ife, w_sli, w_call, w_blt, w_isi, w_lc, w_popk, w_popl, w_isN, w_neg, Z.w_rev, w_part0, w_part1, w_ds0, w_ds, w_os0, w_os, w_cs0, w_cs, line, w_asg, w_asgT, w_aug, w_setI, w_app, w_ins, w_ext, w_expr, w_ret, w_retN, w_if, w_forE, w_whil, w_brk, w_cont, w_pass, w_ss0, w_ss, fw_nx, fw_brk, fw_cont, fw_ret, nn_none, nn_int, nn_bl, nn_str, nn_tup, nn_lst, ol_lst, op_some, op_none, op_ite, ob_bl, oi_int, sl_pu, sl_ow, al_ow, al_obj, so_lst, opdV, retV, endQ, letgo, ite_self, ixN_3_0, ixN_3_1, ixN_3_2, atI_0, atI_1, atI_2, atI_3, List.getElem?_cons_zero, List.getElem?_cons_succ, List.set_cons_zero, List.set_cons_succ, List.length_cons, List.length_nil, List.length_map, Option.bind_some, Option.map_some, List.nil_append, List.cons_append, List.length_singleton, Nat.zero_add, Nat.reduceAdd, Nat.reduceLT, Nat.reduceLeDiff, Nat.zero_le, if_false, if_true, Bool.false_eq_true, Bool.true_eq_false, Bool.not_true, Bool.not_false, reduceCtorEq, true_and, and_true, forall_const, false_and, and_false, false_implies, not_false_eq_true, not_true_eq_false, decide_eq_true_eq, decide_eq_false_iff_not, isi_none_int, isi_none_bool, isi_none_str, isi_none_tuple, isi_none_list, isi_none_list_tuple, isi_none_tuple_list, isi_bl_int, isi_bl_bool, isi_bl_str, isi_bl_tuple, isi_bl_list, isi_bl_list_tuple, isi_bl_tuple_list, isi_int_int, isi_int_bool, isi_int_str, isi_int_tuple, isi_int_list, isi_int_list_tuple, isi_int_tuple_list, isi_str_int, isi_str_bool, isi_str_str, isi_str_tuple, isi_str_list, isi_str_list_tuple, isi_str_tuple_list, isi_tup_int, isi_tup_bool, isi_tup_str, isi_tup_tuple, isi_tup_list, isi_tup_list_tuple, isi_tup_tuple_list, isi_lst_int, isi_lst_bool, isi_lst_str, isi_lst_tuple, isi_lst_list, isi_lst_list_tuple, isi_lst_tuple_list, cmp_eq_ii, cmp_ne_ii, cmp_eq_bb, cmp_ne_bb, cmp_lt, cmp_le, cmp_gt, cmp_ge, cmp_ni_ii, code_nn]
  cases e : meas big k d with
  | none => rw [e] at h; exact h
  | some v => rw [e] at h; exact h
theorem step6_spec {L : Nat} {big : Int} {st : List SO} {k : Nat} {d : D} {n : Nat} {v : Int × Int × Int} {Q : Rs → List SO → Prop} (hd : Fine L k d) (e : meas big k d = some v) (h : Q (.int v.2.2, false) st) : Rp (callF fns wf (n + k + 4) 6 [d, .int big] st) Q := by
  show Rp (callF fns wf ((n + k + 3) + 1) 6 [d, .int big] st) Q
  refine c_step ?_
  unfold b_step
  try simp only [wp_bind, wp_pure, wp_bad, wp_getS, wp_asB, wp_slotOpd, wp_rdSlot, wp_rdVar, wp_rdRet, wp_resV, wp_resS, wp_ress0, wp_ress, wp_setR, wp_setρ, wp_call, wp_setAt, wp_opd, wp_dat, wp_shr, wp_ownL, wp_popAt, wp_popLast, wp_app, wp_ins, wp_bindTup, wp_bindTs0, wp_bindTs, wp_bindNm, wp_blk, w_var, w_con, w_tup, w_lst, w_shr, w_bin, w_cmp, w_idx, w_cmp2, w_and2, w_or2, w_not1, w_ife, w_sli, w_call, w_blt, w_isi, w_lc, w_popk, w_popl, w_isN, w_neg, Z.w_rev, w_part0, w_part1, w_ds0, w_ds, w_os0, w_os, w_cs0, w_cs, line, w_asg, w_asgT, w_aug, w_setI, w_app, w_ins, w_ext, w_expr, w_ret, w_retN, w_if, w_forE, w_whil, w_brk, w_cont, w_pass, w_ss0, w_ss, fw_nx, fw_brk, fw_cont, fw_ret, nn_none, nn_int, nn_bl, nn_str, nn_tup, nn_lst, ol_lst, op_some, op_none, op_ite, ob_bl, oi_int, sl_pu, sl_ow, al_ow, al_obj, so_lst, opdV, retV, endQ, letgo, ite_self, ixN_3_0, ixN_3_1, ixN_3_2, atI_0, atI_1, atI_2, atI_3, List.getElem?_cons_zero, List.getElem?_cons_succ, List.set_cons_zero, List.set_cons_succ, List.length_cons, List.length_nil, List.length_map, Option.bind_some, Option.map_some, List.nil_append, List.cons_append, List.length_singleton, Nat.zero_add, Nat.reduceAdd, Nat.reduceLT, Nat.reduceLeDiff, Nat.zero_le, if_false, if_true, Bool.false_eq_true, Bool.true_eq_false, Bool.not_true, Bool.not_false, reduceCtorEq, true_and, and_true, forall_const, false_and, and_false, false_implies, not_false_eq_true, not_true_eq_false, decide_eq_true_eq, decide_eq_false_iff_not, isi_none_int, isi_none_bool, isi_none_str, isi_none_tuple, isi_none_list, isi_none_list_tuple, isi_none_tuple_list, isi_bl_int, isi_bl_bool, isi_bl_str, isi_bl_tuple, isi_bl_list, isi_bl_list_tuple, isi_bl_tuple_list, isi_int_int, isi_int_bool, isi_int_str, isi_int_tuple, isi_int_list, isi_int_list_tuple, isi_int_tuple_list, isi_str_int, isi_str_bool, isi_str_str, isi_str_tuple, isi_str_list, isi_str_list_tuple, isi_str_tuple_list, isi_tup_int, isi_tup_bool, isi_tup_str, isi_tup_tuple, isi_tup_list, isi_tup_list_tuple, isi_tup_tuple_list, isi_lst_int, isi_lst_bool, isi_lst_str, isi_lst_tuple, isi_lst_list, isi_lst_list_tuple, isi_lst_tuple_list, cmp_eq_ii, cmp_ne_ii, cmp_eq_bb, cmp_ne_bb, cmp_lt, cmp_le, cmp_gt, cmp_ge, cmp_ni_ii]
  refine measured_spec hd ?_
  rw [e]
  obtain ⟨v1, v2, v3⟩ := v
  unfold code
  try simp only [wp_bind, wp_pure, wp_bad, wp_getS, wp_asB, wp_slotOpd, wp_rdSlot, wp_rdVar, wp_rdRet, wp_resV, wp_resS, wp_ress0, wp_ress, wp_setR, wp_setρ, wp_call, wp_setAt, wp_opd, wp_dat, wp_shr, wp_ownL, wp_popAt, wp_popLast, wp_app, wp_ins, wp_bindTup, wp_bindTs0, wp_bindTs, wp_bindNm, wp_blk, w_var, w_con, w_tup, w_lst, w_shr, w_bin, w_cmp, w_idx, w_cmp2, w_and2, w_or2, w_not1, w_ife, w_sli, w_call, w_blt, w_isi, w_lc, w_popk, w_popl, w_isN, w_neg, Z.w_rev, w_part0, w_part1, w_ds0, w_ds, w_os0, w_os, w_cs0, w_cs, line, w_asg, w_asgT, w_aug, w_setI, w_app, w_ins, w_ext, w_expr, w_ret, w_retN, w_if, w_forE, w_whil, w_brk, w_cont, w_pass, w_ss0, w_ss, fw_nx, fw_brk, fw_cont, fw_ret, nn_none, nn_int, nn_bl, nn_str, nn_tup, nn_lst, ol_lst, op_some, op_none, op_ite, ob_bl, oi_int, sl_pu, sl_ow, al_ow, al_obj, so_lst, opdV, retV, endQ, letgo, ite_self, ixN_3_0, ixN_3_1, ixN_3_2, atI_0, atI_1, atI_2, atI_3, List.getElem?_cons_zero, List.getElem?_cons_succ, List.set_cons_zero, List.set_cons_succ, List.length_cons, List.length_nil, List.length_map, Option.bind_some, Option.map_some, List.nil_append, List.cons_append, List.length_singleton, Nat.zero_add, Nat.reduceAdd, Nat.reduceLT, Nat.reduceLeDiff, Nat.zero_le, if_false, if_true, Bool.false_eq_true, Bool.true_eq_false, Bool.not_true, Bool.not_false, reduceCtorEq, true_and, and_true, forall_const, false_and, and_false, false_implies, not_false_eq_true, not_true_eq_false, decide_eq_true_eq, decide_eq_false_iff_not, isi_none_int, isi_none_bool, isi_none_str, isi_none_tuple, isi_none_list, isi_none_list_tuple, isi_none_tuple_list, isi_bl_int, isi_bl_bool, isi_bl_str, isi_bl_tuple, isi_bl_list, isi_bl_list_tuple, isi_bl_tuple_list, isi_int_int, isi_int_bool, isi_int_str, isi_int_tuple, isi_int_list, isi_int_list_tuple, isi_int_tuple_list, isi_str_int, isi_str_bool, isi_str_str, isi_str_tuple, isi_str_list, isi_str_list_tuple, isi_str_tuple_list, isi_tup_int, isi_tup_bool, isi_tup_str, isi_tup_tuple, isi_tup_list, isi_tup_list_tuple, isi_tup_tuple_list, isi_lst_int, isi_lst_bool, isi_lst_str, isi_lst_tuple, isi_lst_list, isi_lst_list_tuple, isi_lst_tuple_list, cmp_eq_ii, cmp_ne_ii, cmp_eq_bb, cmp_ne_bb, cmp_lt, cmp_le, cmp_gt, cmp_ge, cmp_ni_ii, idxD, seqD]
  exact h
theorem fine_list {L k : Nat} {ds : List D} (h : Fine L k (.tup ds)) : Fine L k (.lst ds) := by
  cases k with
  | zero => unfold Fine at h; exact h.elim
  | succ k => unfold Fine at h ⊢; exact h
theorem Fm.tup {k : Nat} {f : D} (h : Fm k f) : ∃ ds, f = .tup ds := by
  cases h with
  | pt _ _ => exact ⟨_, rfl⟩
  | two _ _ _ => exact ⟨_, rfl⟩
theorem bin_ll {x y : List D} (h : x.length + y.length ≤ 1000) : binD .add (.lst x) (.lst y) = some (.lst (x ++ y), true) := by
  show (if x.length + y.length ≤ line then some (D.lst (x ++ y), true) else none) = _
  rw [if_pos (by unfold line; omega)]
theorem law_holds (ns : List Int) : Rp (callF fns wf 120 21 [.scr ns] []) fun r _ => r = (.bl true, false) := by
  show Rp (callF fns wf (119 + 1) 21 [.scr ns] []) _
  refine c_law ?_
  unfold b_law
  try simp only [wp_bind, wp_pure, wp_bad, wp_getS, wp_asB, wp_slotOpd, wp_rdSlot, wp_rdVar, wp_rdRet, wp_resV, wp_resS, wp_ress0, wp_ress, wp_setR, wp_setρ, wp_call, wp_setAt, wp_opd, wp_dat, wp_shr, wp_ownL, wp_popAt, wp_popLast, wp_app, wp_ins, wp_bindTup, wp_bindTs0, wp_bindTs, wp_bindNm, wp_blk, w_var, w_con, w_tup, w_lst, w_shr, w_bin, w_cmp, w_idx, w_cmp2, w_and2, w_or2, w_not1, w_ife, w_sli, w_call, w_blt, w_isi, w_lc, w_popk, w_popl, w_isN, w_neg, Z.w_rev, w_part0, w_part1, w_ds0, w_ds, w_os0, w_os, w_cs0, w_cs, line, w_asg, w_asgT, w_aug, w_setI, w_app, w_ins, w_ext, w_expr, w_ret, w_retN, w_if, w_forE, w_whil, w_brk, w_cont, w_pass, w_ss0, w_ss, fw_nx, fw_brk, fw_cont, fw_ret, nn_none, nn_int, nn_bl, nn_str, nn_tup, nn_lst, ol_lst, op_some, op_none, op_ite, ob_bl, oi_int, sl_pu, sl_ow, al_ow, al_obj, so_lst, opdV, retV, endQ, letgo, ite_self, ixN_3_0, ixN_3_1, ixN_3_2, atI_0, atI_1, atI_2, atI_3, List.getElem?_cons_zero, List.getElem?_cons_succ, List.set_cons_zero, List.set_cons_succ, List.length_cons, List.length_nil, List.length_map, Option.bind_some, Option.map_some, List.nil_append, List.cons_append, List.length_singleton, Nat.zero_add, Nat.reduceAdd, Nat.reduceLT, Nat.reduceLeDiff, Nat.zero_le, if_false, if_true, Bool.false_eq_true, Bool.true_eq_false, Bool.not_true, Bool.not_false, reduceCtorEq, true_and, and_true, forall_const, false_and, and_false, false_implies, not_false_eq_true, not_true_eq_false, decide_eq_true_eq, decide_eq_false_iff_not, isi_none_int, isi_none_bool, isi_none_str, isi_none_tuple, isi_none_list, isi_none_list_tuple, isi_none_tuple_list, isi_bl_int, isi_bl_bool, isi_bl_str, isi_bl_tuple, isi_bl_list, isi_bl_list_tuple, isi_bl_tuple_list, isi_int_int, isi_int_bool, isi_int_str, isi_int_tuple, isi_int_list, isi_int_list_tuple, isi_int_tuple_list, isi_str_int, isi_str_bool, isi_str_str, isi_str_tuple, isi_str_list, isi_str_list_tuple, isi_str_tuple_list, isi_tup_int, isi_tup_bool, isi_tup_str, isi_tup_tuple, isi_tup_list, isi_tup_list_tuple, isi_tup_tuple_list, isi_lst_int, isi_lst_bool, isi_lst_str, isi_lst_tuple, isi_lst_list, isi_lst_list_tuple, isi_lst_tuple_list, cmp_eq_ii, cmp_ne_ii, cmp_eq_bb, cmp_ne_bb, cmp_lt, cmp_le, cmp_gt, cmp_ge, cmp_ni_ii, bltD, on1, listD]
  have T0 : Tape [.lst (ns.map .int), .lst [.obj 0, .int 0, .int 0]] := ⟨ns, 0, 0, rfl, by omega⟩
  refine size_spec (n := 117) T0 fun big st1 hb T1 => ?_
  try simp only [wp_bind, wp_pure, wp_bad, wp_getS, wp_asB, wp_slotOpd, wp_rdSlot, wp_rdVar, wp_rdRet, wp_resV, wp_resS, wp_ress0, wp_ress, wp_setR, wp_setρ, wp_call, wp_setAt, wp_opd, wp_dat, wp_shr, wp_ownL, wp_popAt, wp_popLast, wp_app, wp_ins, wp_bindTup, wp_bindTs0, wp_bindTs, wp_bindNm, wp_blk, w_var, w_con, w_tup, w_lst, w_shr, w_bin, w_cmp, w_idx, w_cmp2, w_and2, w_or2, w_not1, w_ife, w_sli, w_call, w_blt, w_isi, w_lc, w_popk, w_popl, w_isN, w_neg, Z.w_rev, w_part0, w_part1, w_ds0, w_ds, w_os0, w_os, w_cs0, w_cs, line, w_asg, w_asgT, w_aug, w_setI, w_app, w_ins, w_ext, w_expr, w_ret, w_retN, w_if, w_forE, w_whil, w_brk, w_cont, w_pass, w_ss0, w_ss, fw_nx, fw_brk, fw_cont, fw_ret, nn_none, nn_int, nn_bl, nn_str, nn_tup, nn_lst, ol_lst, op_some, op_none, op_ite, ob_bl, oi_int, sl_pu, sl_ow, al_ow, al_obj, so_lst, opdV, retV, endQ, letgo, ite_self, ixN_3_0, ixN_3_1, ixN_3_2, atI_0, atI_1, atI_2, atI_3, List.getElem?_cons_zero, List.getElem?_cons_succ, List.set_cons_zero, List.set_cons_succ, List.length_cons, List.length_nil, List.length_map, Option.bind_some, Option.map_some, List.nil_append, List.cons_append, List.length_singleton, Nat.zero_add, Nat.reduceAdd, Nat.reduceLT, Nat.reduceLeDiff, Nat.zero_le, if_false, if_true, Bool.false_eq_true, Bool.true_eq_false, Bool.not_true, Bool.not_false, reduceCtorEq, true_and, and_true, forall_const, false_and, and_false, false_implies, not_false_eq_true, not_true_eq_false, decide_eq_true_eq, decide_eq_false_iff_not, isi_none_int, isi_none_bool, isi_none_str, isi_none_tuple, isi_none_list, isi_none_list_tuple, isi_none_tuple_list, isi_bl_int, isi_bl_bool, isi_bl_str, isi_bl_tuple, isi_bl_list, isi_bl_list_tuple, isi_bl_tuple_list, isi_int_int, isi_int_bool, isi_int_str, isi_int_tuple, isi_int_list, isi_int_list_tuple, isi_int_tuple_list, isi_str_int, isi_str_bool, isi_str_str, isi_str_tuple, isi_str_list, isi_str_list_tuple, isi_str_tuple_list, isi_tup_int, isi_tup_bool, isi_tup_str, isi_tup_tuple, isi_tup_list, isi_tup_list_tuple, isi_tup_tuple_list, isi_lst_int, isi_lst_bool, isi_lst_str, isi_lst_tuple, isi_lst_list, isi_lst_list_tuple, isi_lst_tuple_list, cmp_eq_ii, cmp_ne_ii, cmp_eq_bb, cmp_ne_bb, cmp_lt, cmp_le, cmp_gt, cmp_ge, cmp_ni_ii, bltD, on1, listD]
  refine formula_spec (n := 112) hb T1 fun f fs st2 hf T2 => ?_
  try simp only [wp_bind, wp_pure, wp_bad, wp_getS, wp_asB, wp_slotOpd, wp_rdSlot, wp_rdVar, wp_rdRet, wp_resV, wp_resS, wp_ress0, wp_ress, wp_setR, wp_setρ, wp_call, wp_setAt, wp_opd, wp_dat, wp_shr, wp_ownL, wp_popAt, wp_popLast, wp_app, wp_ins, wp_bindTup, wp_bindTs0, wp_bindTs, wp_bindNm, wp_blk, w_var, w_con, w_tup, w_lst, w_shr, w_bin, w_cmp, w_idx, w_cmp2, w_and2, w_or2, w_not1, w_ife, w_sli, w_call, w_blt, w_isi, w_lc, w_popk, w_popl, w_isN, w_neg, Z.w_rev, w_part0, w_part1, w_ds0, w_ds, w_os0, w_os, w_cs0, w_cs, line, w_asg, w_asgT, w_aug, w_setI, w_app, w_ins, w_ext, w_expr, w_ret, w_retN, w_if, w_forE, w_whil, w_brk, w_cont, w_pass, w_ss0, w_ss, fw_nx, fw_brk, fw_cont, fw_ret, nn_none, nn_int, nn_bl, nn_str, nn_tup, nn_lst, ol_lst, op_some, op_none, op_ite, ob_bl, oi_int, sl_pu, sl_ow, al_ow, al_obj, so_lst, opdV, retV, endQ, letgo, ite_self, ixN_3_0, ixN_3_1, ixN_3_2, atI_0, atI_1, atI_2, atI_3, List.getElem?_cons_zero, List.getElem?_cons_succ, List.set_cons_zero, List.set_cons_succ, List.length_cons, List.length_nil, List.length_map, Option.bind_some, Option.map_some, List.nil_append, List.cons_append, List.length_singleton, Nat.zero_add, Nat.reduceAdd, Nat.reduceLT, Nat.reduceLeDiff, Nat.zero_le, if_false, if_true, Bool.false_eq_true, Bool.true_eq_false, Bool.not_true, Bool.not_false, reduceCtorEq, true_and, and_true, forall_const, false_and, and_false, false_implies, not_false_eq_true, not_true_eq_false, decide_eq_true_eq, decide_eq_false_iff_not, isi_none_int, isi_none_bool, isi_none_str, isi_none_tuple, isi_none_list, isi_none_list_tuple, isi_none_tuple_list, isi_bl_int, isi_bl_bool, isi_bl_str, isi_bl_tuple, isi_bl_list, isi_bl_list_tuple, isi_bl_tuple_list, isi_int_int, isi_int_bool, isi_int_str, isi_int_tuple, isi_int_list, isi_int_list_tuple, isi_int_tuple_list, isi_str_int, isi_str_bool, isi_str_str, isi_str_tuple, isi_str_list, isi_str_list_tuple, isi_str_tuple_list, isi_tup_int, isi_tup_bool, isi_tup_str, isi_tup_tuple, isi_tup_list, isi_tup_list_tuple, isi_tup_tuple_list, isi_lst_int, isi_lst_bool, isi_lst_str, isi_lst_tuple, isi_lst_list, isi_lst_list_tuple, isi_lst_tuple_list, cmp_eq_ii, cmp_ne_ii, cmp_eq_bb, cmp_ne_bb, cmp_lt, cmp_le, cmp_gt, cmp_ge, cmp_ni_ii, idxD, seqD, binD]
  refine ⟨mulOk_l (by decide), ?_⟩
  have e4 : 4 * big = (((4 * big).toNat : Nat) : Int) := by omega
  rw [e4]
  refine chain_spec (n := 115) hb (by omega) (by omega) T2 fun ch cd cs st3 hc mc T3 => ?_
  have hc := hc.mono (k' := 12) (by omega)
  have mc := meas_mono mc (j := 13) (by omega)
  try simp only [wp_bind, wp_pure, wp_bad, wp_getS, wp_asB, wp_slotOpd, wp_rdSlot, wp_rdVar, wp_rdRet, wp_resV, wp_resS, wp_ress0, wp_ress, wp_setR, wp_setρ, wp_call, wp_setAt, wp_opd, wp_dat, wp_shr, wp_ownL, wp_popAt, wp_popLast, wp_app, wp_ins, wp_bindTup, wp_bindTs0, wp_bindTs, wp_bindNm, wp_blk, w_var, w_con, w_tup, w_lst, w_shr, w_bin, w_cmp, w_idx, w_cmp2, w_and2, w_or2, w_not1, w_ife, w_sli, w_call, w_blt, w_isi, w_lc, w_popk, w_popl, w_isN, w_neg, Z.w_rev, w_part0, w_part1, w_ds0, w_ds, w_os0, w_os, w_cs0, w_cs, line, w_asg, w_asgT, w_aug, w_setI, w_app, w_ins, w_ext, w_expr, w_ret, w_retN, w_if, w_forE, w_whil, w_brk, w_cont, w_pass, w_ss0, w_ss, fw_nx, fw_brk, fw_cont, fw_ret, nn_none, nn_int, nn_bl, nn_str, nn_tup, nn_lst, ol_lst, op_some, op_none, op_ite, ob_bl, oi_int, sl_pu, sl_ow, al_ow, al_obj, so_lst, opdV, retV, endQ, letgo, ite_self, ixN_3_0, ixN_3_1, ixN_3_2, atI_0, atI_1, atI_2, atI_3, List.getElem?_cons_zero, List.getElem?_cons_succ, List.set_cons_zero, List.set_cons_succ, List.length_cons, List.length_nil, List.length_map, Option.bind_some, Option.map_some, List.nil_append, List.cons_append, List.length_singleton, Nat.zero_add, Nat.reduceAdd, Nat.reduceLT, Nat.reduceLeDiff, Nat.zero_le, if_false, if_true, Bool.false_eq_true, Bool.true_eq_false, Bool.not_true, Bool.not_false, reduceCtorEq, true_and, and_true, forall_const, false_and, and_false, false_implies, not_false_eq_true, not_true_eq_false, decide_eq_true_eq, decide_eq_false_iff_not, isi_none_int, isi_none_bool, isi_none_str, isi_none_tuple, isi_none_list, isi_none_list_tuple, isi_none_tuple_list, isi_bl_int, isi_bl_bool, isi_bl_str, isi_bl_tuple, isi_bl_list, isi_bl_list_tuple, isi_bl_tuple_list, isi_int_int, isi_int_bool, isi_int_str, isi_int_tuple, isi_int_list, isi_int_list_tuple, isi_int_tuple_list, isi_str_int, isi_str_bool, isi_str_str, isi_str_tuple, isi_str_list, isi_str_list_tuple, isi_str_tuple_list, isi_tup_int, isi_tup_bool, isi_tup_str, isi_tup_tuple, isi_tup_list, isi_tup_list_tuple, isi_tup_tuple_list, isi_lst_int, isi_lst_bool, isi_lst_str, isi_lst_tuple, isi_lst_list, isi_lst_list_tuple, isi_lst_tuple_list, cmp_eq_ii, cmp_ne_ii, cmp_eq_bb, cmp_ne_bb, cmp_lt, cmp_le, cmp_gt, cmp_ge, cmp_ni_ii, idxD, seqD, binD]
  refine lmeasure_spec (k := 13) (n := 103) hc.fine ?_
  rw [mc]
  unfold code
  try simp only [wp_bind, wp_pure, wp_bad, wp_getS, wp_asB, wp_slotOpd, wp_rdSlot, wp_rdVar, wp_rdRet, wp_resV, wp_resS, wp_ress0, wp_ress, wp_setR, wp_setρ, wp_call, wp_setAt, wp_opd, wp_dat, wp_shr, wp_ownL, wp_popAt, wp_popLast, wp_app, wp_ins, wp_bindTup, wp_bindTs0, wp_bindTs, wp_bindNm, wp_blk, w_var, w_con, w_tup, w_lst, w_shr, w_bin, w_cmp, w_idx, w_cmp2, w_and2, w_or2, w_not1, w_ife, w_sli, w_call, w_blt, w_isi, w_lc, w_popk, w_popl, w_isN, w_neg, Z.w_rev, w_part0, w_part1, w_ds0, w_ds, w_os0, w_os, w_cs0, w_cs, line, w_asg, w_asgT, w_aug, w_setI, w_app, w_ins, w_ext, w_expr, w_ret, w_retN, w_if, w_forE, w_whil, w_brk, w_cont, w_pass, w_ss0, w_ss, fw_nx, fw_brk, fw_cont, fw_ret, nn_none, nn_int, nn_bl, nn_str, nn_tup, nn_lst, ol_lst, op_some, op_none, op_ite, ob_bl, oi_int, sl_pu, sl_ow, al_ow, al_obj, so_lst, opdV, retV, endQ, letgo, ite_self, ixN_3_0, ixN_3_1, ixN_3_2, atI_0, atI_1, atI_2, atI_3, List.getElem?_cons_zero, List.getElem?_cons_succ, List.set_cons_zero, List.set_cons_succ, List.length_cons, List.length_nil, List.length_map, Option.bind_some, Option.map_some, List.nil_append, List.cons_append, List.length_singleton, Nat.zero_add, Nat.reduceAdd, Nat.reduceLT, Nat.reduceLeDiff, Nat.zero_le, if_false, if_true, Bool.false_eq_true, Bool.true_eq_false, Bool.not_true, Bool.not_false, reduceCtorEq, true_and, and_true, forall_const, false_and, and_false, false_implies, not_false_eq_true, not_true_eq_false, decide_eq_true_eq, decide_eq_false_iff_not, isi_none_int, isi_none_bool, isi_none_str, isi_none_tuple, isi_none_list, isi_none_list_tuple, isi_none_tuple_list, isi_bl_int, isi_bl_bool, isi_bl_str, isi_bl_tuple, isi_bl_list, isi_bl_list_tuple, isi_bl_tuple_list, isi_int_int, isi_int_bool, isi_int_str, isi_int_tuple, isi_int_list, isi_int_list_tuple, isi_int_tuple_list, isi_str_int, isi_str_bool, isi_str_str, isi_str_tuple, isi_str_list, isi_str_list_tuple, isi_str_tuple_list, isi_tup_int, isi_tup_bool, isi_tup_str, isi_tup_tuple, isi_tup_list, isi_tup_list_tuple, isi_tup_tuple_list, isi_lst_int, isi_lst_bool, isi_lst_str, isi_lst_tuple, isi_lst_list, isi_lst_list_tuple, isi_lst_tuple_list, cmp_eq_ii, cmp_ne_ii, cmp_eq_bb, cmp_ne_bb, cmp_lt, cmp_le, cmp_gt, cmp_ge, cmp_ni_ii, idxD, seqD, binD]
  refine both_spec (n := 117) T3 fun w r st4 hw T4 => ?_
  have hw : w = ("join" : Str) ∨ w = ("meet" : Str) := hw.elim (fun z => .inl z.1) (fun z => .inr z.1)
  have hlo : Fm 13 (.tup [.str w, ch, .tup [.str "point", .int 7]]) := .two hw hc (.pt (by decide) (by decide))
  generalize (D.tup [.str w, ch, .tup [.str "point", .int 7]]) = lo at hlo ⊢
  try simp only [wp_bind, wp_pure, wp_bad, wp_getS, wp_asB, wp_slotOpd, wp_rdSlot, wp_rdVar, wp_rdRet, wp_resV, wp_resS, wp_ress0, wp_ress, wp_setR, wp_setρ, wp_call, wp_setAt, wp_opd, wp_dat, wp_shr, wp_ownL, wp_popAt, wp_popLast, wp_app, wp_ins, wp_bindTup, wp_bindTs0, wp_bindTs, wp_bindNm, wp_blk, w_var, w_con, w_tup, w_lst, w_shr, w_bin, w_cmp, w_idx, w_cmp2, w_and2, w_or2, w_not1, w_ife, w_sli, w_call, w_blt, w_isi, w_lc, w_popk, w_popl, w_isN, w_neg, Z.w_rev, w_part0, w_part1, w_ds0, w_ds, w_os0, w_os, w_cs0, w_cs, line, w_asg, w_asgT, w_aug, w_setI, w_app, w_ins, w_ext, w_expr, w_ret, w_retN, w_if, w_forE, w_whil, w_brk, w_cont, w_pass, w_ss0, w_ss, fw_nx, fw_brk, fw_cont, fw_ret, nn_none, nn_int, nn_bl, nn_str, nn_tup, nn_lst, ol_lst, op_some, op_none, op_ite, ob_bl, oi_int, sl_pu, sl_ow, al_ow, al_obj, so_lst, opdV, retV, endQ, letgo, ite_self, ixN_3_0, ixN_3_1, ixN_3_2, atI_0, atI_1, atI_2, atI_3, List.getElem?_cons_zero, List.getElem?_cons_succ, List.set_cons_zero, List.set_cons_succ, List.length_cons, List.length_nil, List.length_map, Option.bind_some, Option.map_some, List.nil_append, List.cons_append, List.length_singleton, Nat.zero_add, Nat.reduceAdd, Nat.reduceLT, Nat.reduceLeDiff, Nat.zero_le, if_false, if_true, Bool.false_eq_true, Bool.true_eq_false, Bool.not_true, Bool.not_false, reduceCtorEq, true_and, and_true, forall_const, false_and, and_false, false_implies, not_false_eq_true, not_true_eq_false, decide_eq_true_eq, decide_eq_false_iff_not, isi_none_int, isi_none_bool, isi_none_str, isi_none_tuple, isi_none_list, isi_none_list_tuple, isi_none_tuple_list, isi_bl_int, isi_bl_bool, isi_bl_str, isi_bl_tuple, isi_bl_list, isi_bl_list_tuple, isi_bl_tuple_list, isi_int_int, isi_int_bool, isi_int_str, isi_int_tuple, isi_int_list, isi_int_list_tuple, isi_int_tuple_list, isi_str_int, isi_str_bool, isi_str_str, isi_str_tuple, isi_str_list, isi_str_list_tuple, isi_str_tuple_list, isi_tup_int, isi_tup_bool, isi_tup_str, isi_tup_tuple, isi_tup_list, isi_tup_list_tuple, isi_tup_tuple_list, isi_lst_int, isi_lst_bool, isi_lst_str, isi_lst_tuple, isi_lst_list, isi_lst_list_tuple, isi_lst_tuple_list, cmp_eq_ii, cmp_ne_ii, cmp_eq_bb, cmp_ne_bb, cmp_lt, cmp_le, cmp_gt, cmp_ge, cmp_ni_ii, idxD, seqD, binD]
  refine bent_spec (k := 12) (n := 105) hf T4 fun b1 st5 hb1 T5 => ?_
  try simp only [wp_bind, wp_pure, wp_bad, wp_getS, wp_asB, wp_slotOpd, wp_rdSlot, wp_rdVar, wp_rdRet, wp_resV, wp_resS, wp_ress0, wp_ress, wp_setR, wp_setρ, wp_call, wp_setAt, wp_opd, wp_dat, wp_shr, wp_ownL, wp_popAt, wp_popLast, wp_app, wp_ins, wp_bindTup, wp_bindTs0, wp_bindTs, wp_bindNm, wp_blk, w_var, w_con, w_tup, w_lst, w_shr, w_bin, w_cmp, w_idx, w_cmp2, w_and2, w_or2, w_not1, w_ife, w_sli, w_call, w_blt, w_isi, w_lc, w_popk, w_popl, w_isN, w_neg, Z.w_rev, w_part0, w_part1, w_ds0, w_ds, w_os0, w_os, w_cs0, w_cs, line, w_asg, w_asgT, w_aug, w_setI, w_app, w_ins, w_ext, w_expr, w_ret, w_retN, w_if, w_forE, w_whil, w_brk, w_cont, w_pass, w_ss0, w_ss, fw_nx, fw_brk, fw_cont, fw_ret, nn_none, nn_int, nn_bl, nn_str, nn_tup, nn_lst, ol_lst, op_some, op_none, op_ite, ob_bl, oi_int, sl_pu, sl_ow, al_ow, al_obj, so_lst, opdV, retV, endQ, letgo, ite_self, ixN_3_0, ixN_3_1, ixN_3_2, atI_0, atI_1, atI_2, atI_3, List.getElem?_cons_zero, List.getElem?_cons_succ, List.set_cons_zero, List.set_cons_succ, List.length_cons, List.length_nil, List.length_map, Option.bind_some, Option.map_some, List.nil_append, List.cons_append, List.length_singleton, Nat.zero_add, Nat.reduceAdd, Nat.reduceLT, Nat.reduceLeDiff, Nat.zero_le, if_false, if_true, Bool.false_eq_true, Bool.true_eq_false, Bool.not_true, Bool.not_false, reduceCtorEq, true_and, and_true, forall_const, false_and, and_false, false_implies, not_false_eq_true, not_true_eq_false, decide_eq_true_eq, decide_eq_false_iff_not, isi_none_int, isi_none_bool, isi_none_str, isi_none_tuple, isi_none_list, isi_none_list_tuple, isi_none_tuple_list, isi_bl_int, isi_bl_bool, isi_bl_str, isi_bl_tuple, isi_bl_list, isi_bl_list_tuple, isi_bl_tuple_list, isi_int_int, isi_int_bool, isi_int_str, isi_int_tuple, isi_int_list, isi_int_list_tuple, isi_int_tuple_list, isi_str_int, isi_str_bool, isi_str_str, isi_str_tuple, isi_str_list, isi_str_list_tuple, isi_str_tuple_list, isi_tup_int, isi_tup_bool, isi_tup_str, isi_tup_tuple, isi_tup_list, isi_tup_list_tuple, isi_tup_tuple_list, isi_lst_int, isi_lst_bool, isi_lst_str, isi_lst_tuple, isi_lst_list, isi_lst_list_tuple, isi_lst_tuple_list, cmp_eq_ii, cmp_ne_ii, cmp_eq_bb, cmp_ne_bb, cmp_lt, cmp_le, cmp_gt, cmp_ge, cmp_ni_ii, idxD, seqD, binD]
  refine bent_spec (k := 12) (n := 105) hc T5 fun b2 st6 hb2 T6 => ?_
  obtain ⟨fds, rfl⟩ := hf.tup
  try simp only [wp_bind, wp_pure, wp_bad, wp_getS, wp_asB, wp_slotOpd, wp_rdSlot, wp_rdVar, wp_rdRet, wp_resV, wp_resS, wp_ress0, wp_ress, wp_setR, wp_setρ, wp_call, wp_setAt, wp_opd, wp_dat, wp_shr, wp_ownL, wp_popAt, wp_popLast, wp_app, wp_ins, wp_bindTup, wp_bindTs0, wp_bindTs, wp_bindNm, wp_blk, w_var, w_con, w_tup, w_lst, w_shr, w_bin, w_cmp, w_idx, w_cmp2, w_and2, w_or2, w_not1, w_ife, w_sli, w_call, w_blt, w_isi, w_lc, w_popk, w_popl, w_isN, w_neg, Z.w_rev, w_part0, w_part1, w_ds0, w_ds, w_os0, w_os, w_cs0, w_cs, line, w_asg, w_asgT, w_aug, w_setI, w_app, w_ins, w_ext, w_expr, w_ret, w_retN, w_if, w_forE, w_whil, w_brk, w_cont, w_pass, w_ss0, w_ss, fw_nx, fw_brk, fw_cont, fw_ret, nn_none, nn_int, nn_bl, nn_str, nn_tup, nn_lst, ol_lst, op_some, op_none, op_ite, ob_bl, oi_int, sl_pu, sl_ow, al_ow, al_obj, so_lst, opdV, retV, endQ, letgo, ite_self, ixN_3_0, ixN_3_1, ixN_3_2, atI_0, atI_1, atI_2, atI_3, List.getElem?_cons_zero, List.getElem?_cons_succ, List.set_cons_zero, List.set_cons_succ, List.length_cons, List.length_nil, List.length_map, Option.bind_some, Option.map_some, List.nil_append, List.cons_append, List.length_singleton, Nat.zero_add, Nat.reduceAdd, Nat.reduceLT, Nat.reduceLeDiff, Nat.zero_le, if_false, if_true, Bool.false_eq_true, Bool.true_eq_false, Bool.not_true, Bool.not_false, reduceCtorEq, true_and, and_true, forall_const, false_and, and_false, false_implies, not_false_eq_true, not_true_eq_false, decide_eq_true_eq, decide_eq_false_iff_not, isi_none_int, isi_none_bool, isi_none_str, isi_none_tuple, isi_none_list, isi_none_list_tuple, isi_none_tuple_list, isi_bl_int, isi_bl_bool, isi_bl_str, isi_bl_tuple, isi_bl_list, isi_bl_list_tuple, isi_bl_tuple_list, isi_int_int, isi_int_bool, isi_int_str, isi_int_tuple, isi_int_list, isi_int_list_tuple, isi_int_tuple_list, isi_str_int, isi_str_bool, isi_str_str, isi_str_tuple, isi_str_list, isi_str_list_tuple, isi_str_tuple_list, isi_tup_int, isi_tup_bool, isi_tup_str, isi_tup_tuple, isi_tup_list, isi_tup_list_tuple, isi_tup_tuple_list, isi_lst_int, isi_lst_bool, isi_lst_str, isi_lst_tuple, isi_lst_list, isi_lst_list_tuple, isi_lst_tuple_list, cmp_eq_ii, cmp_ne_ii, cmp_eq_bb, cmp_ne_bb, cmp_lt, cmp_le, cmp_gt, cmp_ge, cmp_ni_ii, idxD, seqD, binD, bltD, on1, listD]
  have hthings : ∀ x ∈ [D.tup fds, ch, lo, b1, b2, .lst fds], Fine 10 15 x := by
    intro x hx
    simp only [List.mem_cons, List.not_mem_nil, or_false] at hx
    rcases hx with rfl | rfl | rfl | rfl | rfl | rfl
    · exact hf.fine.mono (by omega) (by omega)
    · exact hc.fine.mono (by omega) (by omega)
    · exact hlo.fine.mono (by omega) (by omega)
    · exact hb1.fine.mono (by omega) (by omega)
    · exact hb2.fine.mono (by omega) (by omega)
    · exact (fine_list hf.fine).mono (by omega) (by omega)
  have hlen : [D.tup fds, ch, lo, b1, b2, .lst fds].length = 6 := rfl
  generalize [D.tup fds, ch, lo, b1, b2, .lst fds] = things at hthings hlen ⊢
  try simp only [wp_bind, wp_pure, wp_bad, wp_getS, wp_asB, wp_slotOpd, wp_rdSlot, wp_rdVar, wp_rdRet, wp_resV, wp_resS, wp_ress0, wp_ress, wp_setR, wp_setρ, wp_call, wp_setAt, wp_opd, wp_dat, wp_shr, wp_ownL, wp_popAt, wp_popLast, wp_app, wp_ins, wp_bindTup, wp_bindTs0, wp_bindTs, wp_bindNm, wp_blk, w_var, w_con, w_tup, w_lst, w_shr, w_bin, w_cmp, w_idx, w_cmp2, w_and2, w_or2, w_not1, w_ife, w_sli, w_call, w_blt, w_isi, w_lc, w_popk, w_popl, w_isN, w_neg, Z.w_rev, w_part0, w_part1, w_ds0, w_ds, w_os0, w_os, w_cs0, w_cs, line, w_asg, w_asgT, w_aug, w_setI, w_app, w_ins, w_ext, w_expr, w_ret, w_retN, w_if, w_forE, w_whil, w_brk, w_cont, w_pass, w_ss0, w_ss, fw_nx, fw_brk, fw_cont, fw_ret, nn_none, nn_int, nn_bl, nn_str, nn_tup, nn_lst, ol_lst, op_some, op_none, op_ite, ob_bl, oi_int, sl_pu, sl_ow, al_ow, al_obj, so_lst, opdV, retV, endQ, letgo, ite_self, ixN_3_0, ixN_3_1, ixN_3_2, atI_0, atI_1, atI_2, atI_3, List.getElem?_cons_zero, List.getElem?_cons_succ, List.set_cons_zero, List.set_cons_succ, List.length_cons, List.length_nil, List.length_map, Option.bind_some, Option.map_some, List.nil_append, List.cons_append, List.length_singleton, Nat.zero_add, Nat.reduceAdd, Nat.reduceLT, Nat.reduceLeDiff, Nat.zero_le, if_false, if_true, Bool.false_eq_true, Bool.true_eq_false, Bool.not_true, Bool.not_false, reduceCtorEq, true_and, and_true, forall_const, false_and, and_false, false_implies, not_false_eq_true, not_true_eq_false, decide_eq_true_eq, decide_eq_false_iff_not, isi_none_int, isi_none_bool, isi_none_str, isi_none_tuple, isi_none_list, isi_none_list_tuple, isi_none_tuple_list, isi_bl_int, isi_bl_bool, isi_bl_str, isi_bl_tuple, isi_bl_list, isi_bl_list_tuple, isi_bl_tuple_list, isi_int_int, isi_int_bool, isi_int_str, isi_int_tuple, isi_int_list, isi_int_list_tuple, isi_int_tuple_list, isi_str_int, isi_str_bool, isi_str_str, isi_str_tuple, isi_str_list, isi_str_list_tuple, isi_str_tuple_list, isi_tup_int, isi_tup_bool, isi_tup_str, isi_tup_tuple, isi_tup_list, isi_tup_list_tuple, isi_tup_tuple_list, isi_lst_int, isi_lst_bool, isi_lst_str, isi_lst_tuple, isi_lst_list, isi_lst_list_tuple, isi_lst_tuple_list, cmp_eq_ii, cmp_ne_ii, cmp_eq_bb, cmp_ne_bb, cmp_lt, cmp_le, cmp_gt, cmp_ge, cmp_ni_ii, itemsD, it1, seqI]
  refine wp_lc_inv _ rfl (fun s => ∃ st' x, s = ⟨[.pu (.scr ns), .pu (.obj 1), .pu (.int big), .pu (.tup fds), .pu ch, .pu lo, .pu (.lst things), .un, x, .un, .un], st'⟩ ∧ Tape st') (Fine 11 18) 6 (by decide) ⟨st6, _, rfl, T6⟩ (fun y hy => by cases hy) (by rw [hlen]; decide) ?_ ?_
  · rintro x hx s ⟨st', y, rfl, T'⟩
    try simp only [wp_bind, wp_pure, wp_bad, wp_getS, wp_asB, wp_slotOpd, wp_rdSlot, wp_rdVar, wp_rdRet, wp_resV, wp_resS, wp_ress0, wp_ress, wp_setR, wp_setρ, wp_call, wp_setAt, wp_opd, wp_dat, wp_shr, wp_ownL, wp_popAt, wp_popLast, wp_app, wp_ins, wp_bindTup, wp_bindTs0, wp_bindTs, wp_bindNm, wp_blk, w_var, w_con, w_tup, w_lst, w_shr, w_bin, w_cmp, w_idx, w_cmp2, w_and2, w_or2, w_not1, w_ife, w_sli, w_call, w_blt, w_isi, w_lc, w_popk, w_popl, w_isN, w_neg, Z.w_rev, w_part0, w_part1, w_ds0, w_ds, w_os0, w_os, w_cs0, w_cs, line, w_asg, w_asgT, w_aug, w_setI, w_app, w_ins, w_ext, w_expr, w_ret, w_retN, w_if, w_forE, w_whil, w_brk, w_cont, w_pass, w_ss0, w_ss, fw_nx, fw_brk, fw_cont, fw_ret, nn_none, nn_int, nn_bl, nn_str, nn_tup, nn_lst, ol_lst, op_some, op_none, op_ite, ob_bl, oi_int, sl_pu, sl_ow, al_ow, al_obj, so_lst, opdV, retV, endQ, letgo, ite_self, ixN_3_0, ixN_3_1, ixN_3_2, atI_0, atI_1, atI_2, atI_3, List.getElem?_cons_zero, List.getElem?_cons_succ, List.set_cons_zero, List.set_cons_succ, List.length_cons, List.length_nil, List.length_map, Option.bind_some, Option.map_some, List.nil_append, List.cons_append, List.length_singleton, Nat.zero_add, Nat.reduceAdd, Nat.reduceLT, Nat.reduceLeDiff, Nat.zero_le, if_false, if_true, Bool.false_eq_true, Bool.true_eq_false, Bool.not_true, Bool.not_false, reduceCtorEq, true_and, and_true, forall_const, false_and, and_false, false_implies, not_false_eq_true, not_true_eq_false, decide_eq_true_eq, decide_eq_false_iff_not, isi_none_int, isi_none_bool, isi_none_str, isi_none_tuple, isi_none_list, isi_none_list_tuple, isi_none_tuple_list, isi_bl_int, isi_bl_bool, isi_bl_str, isi_bl_tuple, isi_bl_list, isi_bl_list_tuple, isi_bl_tuple_list, isi_int_int, isi_int_bool, isi_int_str, isi_int_tuple, isi_int_list, isi_int_list_tuple, isi_int_tuple_list, isi_str_int, isi_str_bool, isi_str_str, isi_str_tuple, isi_str_list, isi_str_list_tuple, isi_str_tuple_list, isi_tup_int, isi_tup_bool, isi_tup_str, isi_tup_tuple, isi_tup_list, isi_tup_list_tuple, isi_tup_tuple_list, isi_lst_int, isi_lst_bool, isi_lst_str, isi_lst_tuple, isi_lst_list, isi_lst_list_tuple, isi_lst_tuple_list, cmp_eq_ii, cmp_ne_ii, cmp_eq_bb, cmp_ne_bb, cmp_lt, cmp_le, cmp_gt, cmp_ge, cmp_ni_ii, wp_wipe, List.foldr_cons, List.foldr_nil]
    refine spoilt_spec (L := 10) (k := 15) (n := 99) (by decide) (by decide) (hthings x hx) T' fun e b st2 he T2 => ?_
    try simp only [wp_bind, wp_pure, wp_bad, wp_getS, wp_asB, wp_slotOpd, wp_rdSlot, wp_rdVar, wp_rdRet, wp_resV, wp_resS, wp_ress0, wp_ress, wp_setR, wp_setρ, wp_call, wp_setAt, wp_opd, wp_dat, wp_shr, wp_ownL, wp_popAt, wp_popLast, wp_app, wp_ins, wp_bindTup, wp_bindTs0, wp_bindTs, wp_bindNm, wp_blk, w_var, w_con, w_tup, w_lst, w_shr, w_bin, w_cmp, w_idx, w_cmp2, w_and2, w_or2, w_not1, w_ife, w_sli, w_call, w_blt, w_isi, w_lc, w_popk, w_popl, w_isN, w_neg, Z.w_rev, w_part0, w_part1, w_ds0, w_ds, w_os0, w_os, w_cs0, w_cs, line, w_asg, w_asgT, w_aug, w_setI, w_app, w_ins, w_ext, w_expr, w_ret, w_retN, w_if, w_forE, w_whil, w_brk, w_cont, w_pass, w_ss0, w_ss, fw_nx, fw_brk, fw_cont, fw_ret, nn_none, nn_int, nn_bl, nn_str, nn_tup, nn_lst, ol_lst, op_some, op_none, op_ite, ob_bl, oi_int, sl_pu, sl_ow, al_ow, al_obj, so_lst, opdV, retV, endQ, letgo, ite_self, ixN_3_0, ixN_3_1, ixN_3_2, atI_0, atI_1, atI_2, atI_3, List.getElem?_cons_zero, List.getElem?_cons_succ, List.set_cons_zero, List.set_cons_succ, List.length_cons, List.length_nil, List.length_map, Option.bind_some, Option.map_some, List.nil_append, List.cons_append, List.length_singleton, Nat.zero_add, Nat.reduceAdd, Nat.reduceLT, Nat.reduceLeDiff, Nat.zero_le, if_false, if_true, Bool.false_eq_true, Bool.true_eq_false, Bool.not_true, Bool.not_false, reduceCtorEq, true_and, and_true, forall_const, false_and, and_false, false_implies, not_false_eq_true, not_true_eq_false, decide_eq_true_eq, decide_eq_false_iff_not, isi_none_int, isi_none_bool, isi_none_str, isi_none_tuple, isi_none_list, isi_none_list_tuple, isi_none_tuple_list, isi_bl_int, isi_bl_bool, isi_bl_str, isi_bl_tuple, isi_bl_list, isi_bl_list_tuple, isi_bl_tuple_list, isi_int_int, isi_int_bool, isi_int_str, isi_int_tuple, isi_int_list, isi_int_list_tuple, isi_int_tuple_list, isi_str_int, isi_str_bool, isi_str_str, isi_str_tuple, isi_str_list, isi_str_list_tuple, isi_str_tuple_list, isi_tup_int, isi_tup_bool, isi_tup_str, isi_tup_tuple, isi_tup_list, isi_tup_list_tuple, isi_tup_tuple_list, isi_lst_int, isi_lst_bool, isi_lst_str, isi_lst_tuple, isi_lst_list, isi_lst_list_tuple, isi_lst_tuple_list, cmp_eq_ii, cmp_ne_ii, cmp_eq_bb, cmp_ne_bb, cmp_lt, cmp_le, cmp_gt, cmp_ge, cmp_ni_ii]
    exact ⟨he, st2, _, rfl, T2⟩
  rintro more s ⟨st7, y, rfl, T7⟩ hmore hmlen
  have hmlen : more.length = 6 := by rw [hmlen, hlen]; rfl
  try simp only [wp_bind, wp_pure, wp_bad, wp_getS, wp_asB, wp_slotOpd, wp_rdSlot, wp_rdVar, wp_rdRet, wp_resV, wp_resS, wp_ress0, wp_ress, wp_setR, wp_setρ, wp_call, wp_setAt, wp_opd, wp_dat, wp_shr, wp_ownL, wp_popAt, wp_popLast, wp_app, wp_ins, wp_bindTup, wp_bindTs0, wp_bindTs, wp_bindNm, wp_blk, w_var, w_con, w_tup, w_lst, w_shr, w_bin, w_cmp, w_idx, w_cmp2, w_and2, w_or2, w_not1, w_ife, w_sli, w_call, w_blt, w_isi, w_lc, w_popk, w_popl, w_isN, w_neg, Z.w_rev, w_part0, w_part1, w_ds0, w_ds, w_os0, w_os, w_cs0, w_cs, line, w_asg, w_asgT, w_aug, w_setI, w_app, w_ins, w_ext, w_expr, w_ret, w_retN, w_if, w_forE, w_whil, w_brk, w_cont, w_pass, w_ss0, w_ss, fw_nx, fw_brk, fw_cont, fw_ret, nn_none, nn_int, nn_bl, nn_str, nn_tup, nn_lst, ol_lst, op_some, op_none, op_ite, ob_bl, oi_int, sl_pu, sl_ow, al_ow, al_obj, so_lst, opdV, retV, endQ, letgo, ite_self, ixN_3_0, ixN_3_1, ixN_3_2, atI_0, atI_1, atI_2, atI_3, List.getElem?_cons_zero, List.getElem?_cons_succ, List.set_cons_zero, List.set_cons_succ, List.length_cons, List.length_nil, List.length_map, Option.bind_some, Option.map_some, List.nil_append, List.cons_append, List.length_singleton, Nat.zero_add, Nat.reduceAdd, Nat.reduceLT, Nat.reduceLeDiff, Nat.zero_le, if_false, if_true, Bool.false_eq_true, Bool.true_eq_false, Bool.not_true, Bool.not_false, reduceCtorEq, true_and, and_true, forall_const, false_and, and_false, false_implies, not_false_eq_true, not_true_eq_false, decide_eq_true_eq, decide_eq_false_iff_not, isi_none_int, isi_none_bool, isi_none_str, isi_none_tuple, isi_none_list, isi_none_list_tuple, isi_none_tuple_list, isi_bl_int, isi_bl_bool, isi_bl_str, isi_bl_tuple, isi_bl_list, isi_bl_list_tuple, isi_bl_tuple_list, isi_int_int, isi_int_bool, isi_int_str, isi_int_tuple, isi_int_list, isi_int_list_tuple, isi_int_tuple_list, isi_str_int, isi_str_bool, isi_str_str, isi_str_tuple, isi_str_list, isi_str_list_tuple, isi_str_tuple_list, isi_tup_int, isi_tup_bool, isi_tup_str, isi_tup_tuple, isi_tup_list, isi_tup_list_tuple, isi_tup_tuple_list, isi_lst_int, isi_lst_bool, isi_lst_str, isi_lst_tuple, isi_lst_list, isi_lst_list_tuple, isi_lst_tuple_list, cmp_eq_ii, cmp_ne_ii, cmp_eq_bb, cmp_ne_bb, cmp_lt, cmp_le, cmp_gt, cmp_ge, cmp_ni_ii, unwipe, List.foldr_cons, List.foldr_nil, bin_ll (x := things) (y := more) (by omega), idxD, seqD]
  refine op_atI (by decide) (by omega) fun m0 hm0 => ?_
  try simp only [wp_bind, wp_pure, wp_bad, wp_getS, wp_asB, wp_slotOpd, wp_rdSlot, wp_rdVar, wp_rdRet, wp_resV, wp_resS, wp_ress0, wp_ress, wp_setR, wp_setρ, wp_call, wp_setAt, wp_opd, wp_dat, wp_shr, wp_ownL, wp_popAt, wp_popLast, wp_app, wp_ins, wp_bindTup, wp_bindTs0, wp_bindTs, wp_bindNm, wp_blk, w_var, w_con, w_tup, w_lst, w_shr, w_bin, w_cmp, w_idx, w_cmp2, w_and2, w_or2, w_not1, w_ife, w_sli, w_call, w_blt, w_isi, w_lc, w_popk, w_popl, w_isN, w_neg, Z.w_rev, w_part0, w_part1, w_ds0, w_ds, w_os0, w_os, w_cs0, w_cs, line, w_asg, w_asgT, w_aug, w_setI, w_app, w_ins, w_ext, w_expr, w_ret, w_retN, w_if, w_forE, w_whil, w_brk, w_cont, w_pass, w_ss0, w_ss, fw_nx, fw_brk, fw_cont, fw_ret, nn_none, nn_int, nn_bl, nn_str, nn_tup, nn_lst, ol_lst, op_some, op_none, op_ite, ob_bl, oi_int, sl_pu, sl_ow, al_ow, al_obj, so_lst, opdV, retV, endQ, letgo, ite_self, ixN_3_0, ixN_3_1, ixN_3_2, atI_0, atI_1, atI_2, atI_3, List.getElem?_cons_zero, List.getElem?_cons_succ, List.set_cons_zero, List.set_cons_succ, List.length_cons, List.length_nil, List.length_map, Option.bind_some, Option.map_some, List.nil_append, List.cons_append, List.length_singleton, Nat.zero_add, Nat.reduceAdd, Nat.reduceLT, Nat.reduceLeDiff, Nat.zero_le, if_false, if_true, Bool.false_eq_true, Bool.true_eq_false, Bool.not_true, Bool.not_false, reduceCtorEq, true_and, and_true, forall_const, false_and, and_false, false_implies, not_false_eq_true, not_true_eq_false, decide_eq_true_eq, decide_eq_false_iff_not, isi_none_int, isi_none_bool, isi_none_str, isi_none_tuple, isi_none_list, isi_none_list_tuple, isi_none_tuple_list, isi_bl_int, isi_bl_bool, isi_bl_str, isi_bl_tuple, isi_bl_list, isi_bl_list_tuple, isi_bl_tuple_list, isi_int_int, isi_int_bool, isi_int_str, isi_int_tuple, isi_int_list, isi_int_list_tuple, isi_int_tuple_list, isi_str_int, isi_str_bool, isi_str_str, isi_str_tuple, isi_str_list, isi_str_list_tuple, isi_str_tuple_list, isi_tup_int, isi_tup_bool, isi_tup_str, isi_tup_tuple, isi_tup_list, isi_tup_list_tuple, isi_tup_tuple_list, isi_lst_int, isi_lst_bool, isi_lst_str, isi_lst_tuple, isi_lst_list, isi_lst_list_tuple, isi_lst_tuple_list, cmp_eq_ii, cmp_ne_ii, cmp_eq_bb, cmp_ne_bb, cmp_lt, cmp_le, cmp_gt, cmp_ge, cmp_ni_ii, idxD, seqD]
  refine spoilt_spec (L := 11) (k := 18) (n := 96) (by decide) (by decide) (hmore m0 hm0) T7 fun s0 _ st8 hs0 T8 => ?_
  try simp only [wp_bind, wp_pure, wp_bad, wp_getS, wp_asB, wp_slotOpd, wp_rdSlot, wp_rdVar, wp_rdRet, wp_resV, wp_resS, wp_ress0, wp_ress, wp_setR, wp_setρ, wp_call, wp_setAt, wp_opd, wp_dat, wp_shr, wp_ownL, wp_popAt, wp_popLast, wp_app, wp_ins, wp_bindTup, wp_bindTs0, wp_bindTs, wp_bindNm, wp_blk, w_var, w_con, w_tup, w_lst, w_shr, w_bin, w_cmp, w_idx, w_cmp2, w_and2, w_or2, w_not1, w_ife, w_sli, w_call, w_blt, w_isi, w_lc, w_popk, w_popl, w_isN, w_neg, Z.w_rev, w_part0, w_part1, w_ds0, w_ds, w_os0, w_os, w_cs0, w_cs, line, w_asg, w_asgT, w_aug, w_setI, w_app, w_ins, w_ext, w_expr, w_ret, w_retN, w_if, w_forE, w_whil, w_brk, w_cont, w_pass, w_ss0, w_ss, fw_nx, fw_brk, fw_cont, fw_ret, nn_none, nn_int, nn_bl, nn_str, nn_tup, nn_lst, ol_lst, op_some, op_none, op_ite, ob_bl, oi_int, sl_pu, sl_ow, al_ow, al_obj, so_lst, opdV, retV, endQ, letgo, ite_self, ixN_3_0, ixN_3_1, ixN_3_2, atI_0, atI_1, atI_2, atI_3, List.getElem?_cons_zero, List.getElem?_cons_succ, List.set_cons_zero, List.set_cons_succ, List.length_cons, List.length_nil, List.length_map, Option.bind_some, Option.map_some, List.nil_append, List.cons_append, List.length_singleton, Nat.zero_add, Nat.reduceAdd, Nat.reduceLT, Nat.reduceLeDiff, Nat.zero_le, if_false, if_true, Bool.false_eq_true, Bool.true_eq_false, Bool.not_true, Bool.not_false, reduceCtorEq, true_and, and_true, forall_const, false_and, and_false, false_implies, not_false_eq_true, not_true_eq_false, decide_eq_true_eq, decide_eq_false_iff_not, isi_none_int, isi_none_bool, isi_none_str, isi_none_tuple, isi_none_list, isi_none_list_tuple, isi_none_tuple_list, isi_bl_int, isi_bl_bool, isi_bl_str, isi_bl_tuple, isi_bl_list, isi_bl_list_tuple, isi_bl_tuple_list, isi_int_int, isi_int_bool, isi_int_str, isi_int_tuple, isi_int_list, isi_int_list_tuple, isi_int_tuple_list, isi_str_int, isi_str_bool, isi_str_str, isi_str_tuple, isi_str_list, isi_str_list_tuple, isi_str_tuple_list, isi_tup_int, isi_tup_bool, isi_tup_str, isi_tup_tuple, isi_tup_list, isi_tup_list_tuple, isi_tup_tuple_list, isi_lst_int, isi_lst_bool, isi_lst_str, isi_lst_tuple, isi_lst_list, isi_lst_list_tuple, isi_lst_tuple_list, cmp_eq_ii, cmp_ne_ii, cmp_eq_bb, cmp_ne_bb, cmp_lt, cmp_le, cmp_gt, cmp_ge, cmp_ni_ii, idxD, seqD]
  refine any_spec (k := 3) (n := 114) T8 fun a0 st9 ha0 T9 => ?_
  have hall : ∀ x ∈ (things ++ more) ++ [s0, a0, .tup [.str "point", .int 8], .tup [.str "point", .bl true]], Fine 12 21 x := by
    intro x hx
    rcases List.mem_append.mp hx with hx | hx
    · rcases List.mem_append.mp hx with hx | hx
      · exact (hthings x hx).mono (by omega) (by omega)
      · exact (hmore x hx).mono (by omega) (by omega)
    · simp only [List.mem_cons, List.not_mem_nil, or_false] at hx
      have hp : PyData.strOk "point" = true ∧ (("point" : Str)).length ≤ 12 := by decide +kernel
      rcases hx with rfl | rfl | rfl | rfl
      · exact hs0
      · exact ha0.mono (by omega) (by omega)
      · exact Fine.tup2 (by omega) (Fine.str hp.1 hp.2) (Fine.int _)
      · exact Fine.tup2 (by omega) (Fine.str hp.1 hp.2) (Fine.bl _)
  try simp only [wp_bind, wp_pure, wp_bad, wp_getS, wp_asB, wp_slotOpd, wp_rdSlot, wp_rdVar, wp_rdRet, wp_resV, wp_resS, wp_ress0, wp_ress, wp_setR, wp_setρ, wp_call, wp_setAt, wp_opd, wp_dat, wp_shr, wp_ownL, wp_popAt, wp_popLast, wp_app, wp_ins, wp_bindTup, wp_bindTs0, wp_bindTs, wp_bindNm, wp_blk, w_var, w_con, w_tup, w_lst, w_shr, w_bin, w_cmp, w_idx, w_cmp2, w_and2, w_or2, w_not1, w_ife, w_sli, w_call, w_blt, w_isi, w_lc, w_popk, w_popl, w_isN, w_neg, Z.w_rev, w_part0, w_part1, w_ds0, w_ds, w_os0, w_os, w_cs0, w_cs, line, w_asg, w_asgT, w_aug, w_setI, w_app, w_ins, w_ext, w_expr, w_ret, w_retN, w_if, w_forE, w_whil, w_brk, w_cont, w_pass, w_ss0, w_ss, fw_nx, fw_brk, fw_cont, fw_ret, nn_none, nn_int, nn_bl, nn_str, nn_tup, nn_lst, ol_lst, op_some, op_none, op_ite, ob_bl, oi_int, sl_pu, sl_ow, al_ow, al_obj, so_lst, opdV, retV, endQ, letgo, ite_self, ixN_3_0, ixN_3_1, ixN_3_2, atI_0, atI_1, atI_2, atI_3, List.getElem?_cons_zero, List.getElem?_cons_succ, List.set_cons_zero, List.set_cons_succ, List.length_cons, List.length_nil, List.length_map, Option.bind_some, Option.map_some, List.nil_append, List.cons_append, List.length_singleton, Nat.zero_add, Nat.reduceAdd, Nat.reduceLT, Nat.reduceLeDiff, Nat.zero_le, if_false, if_true, Bool.false_eq_true, Bool.true_eq_false, Bool.not_true, Bool.not_false, reduceCtorEq, true_and, and_true, forall_const, false_and, and_false, false_implies, not_false_eq_true, not_true_eq_false, decide_eq_true_eq, decide_eq_false_iff_not, isi_none_int, isi_none_bool, isi_none_str, isi_none_tuple, isi_none_list, isi_none_list_tuple, isi_none_tuple_list, isi_bl_int, isi_bl_bool, isi_bl_str, isi_bl_tuple, isi_bl_list, isi_bl_list_tuple, isi_bl_tuple_list, isi_int_int, isi_int_bool, isi_int_str, isi_int_tuple, isi_int_list, isi_int_list_tuple, isi_int_tuple_list, isi_str_int, isi_str_bool, isi_str_str, isi_str_tuple, isi_str_list, isi_str_list_tuple, isi_str_tuple_list, isi_tup_int, isi_tup_bool, isi_tup_str, isi_tup_tuple, isi_tup_list, isi_tup_list_tuple, isi_tup_tuple_list, isi_lst_int, isi_lst_bool, isi_lst_str, isi_lst_tuple, isi_lst_list, isi_lst_list_tuple, isi_lst_tuple_list, cmp_eq_ii, cmp_ne_ii, cmp_eq_bb, cmp_ne_bb, cmp_lt, cmp_le, cmp_gt, cmp_ge, cmp_ni_ii, idxD, seqD, bin_ll (x := things ++ more) (y := [s0, a0, .tup [.str "point", .int 8], .tup [.str "point", .bl true]]) (by rw [List.length_append, hlen, hmlen]; simp), itemsD, it1, seqI]
  generalize (things ++ more) ++ [s0, a0, .tup [.str "point", .int 8], .tup [.str "point", .bl true]] = all at hall ⊢
  refine wp_for_inv (fun s => ∃ st' x8 x9 x10 x6 x7, s = ⟨[.pu (.scr ns), .pu (.obj 1), .pu (.int big), .pu (.tup fds), .pu ch, .pu lo, x6, x7, x8, x9, x10], st'⟩) ⟨_, _, _, _, _, _, rfl⟩ ?_ ?_
  · rintro d hd s ⟨st', x8, x9, x10, x6, x7, rfl⟩
    have hd := hall d hd
    try simp only [wp_bind, wp_pure, wp_bad, wp_getS, wp_asB, wp_slotOpd, wp_rdSlot, wp_rdVar, wp_rdRet, wp_resV, wp_resS, wp_ress0, wp_ress, wp_setR, wp_setρ, wp_call, wp_setAt, wp_opd, wp_dat, wp_shr, wp_ownL, wp_popAt, wp_popLast, wp_app, wp_ins, wp_bindTup, wp_bindTs0, wp_bindTs, wp_bindNm, wp_blk, w_var, w_con, w_tup, w_lst, w_shr, w_bin, w_cmp, w_idx, w_cmp2, w_and2, w_or2, w_not1, w_ife, w_sli, w_call, w_blt, w_isi, w_lc, w_popk, w_popl, w_isN, w_neg, Z.w_rev, w_part0, w_part1, w_ds0, w_ds, w_os0, w_os, w_cs0, w_cs, line, w_asg, w_asgT, w_aug, w_setI, w_app, w_ins, w_ext, w_expr, w_ret, w_retN, w_if, w_forE, w_whil, w_brk, w_cont, w_pass, w_ss0, w_ss, fw_nx, fw_brk, fw_cont, fw_ret, nn_none, nn_int, nn_bl, nn_str, nn_tup, nn_lst, ol_lst, op_some, op_none, op_ite, ob_bl, oi_int, sl_pu, sl_ow, al_ow, al_obj, so_lst, opdV, retV, endQ, letgo, ite_self, ixN_3_0, ixN_3_1, ixN_3_2, atI_0, atI_1, atI_2, atI_3, List.getElem?_cons_zero, List.getElem?_cons_succ, List.set_cons_zero, List.set_cons_succ, List.length_cons, List.length_nil, List.length_map, Option.bind_some, Option.map_some, List.nil_append, List.cons_append, List.length_singleton, Nat.zero_add, Nat.reduceAdd, Nat.reduceLT, Nat.reduceLeDiff, Nat.zero_le, if_false, if_true, Bool.false_eq_true, Bool.true_eq_false, Bool.not_true, Bool.not_false, reduceCtorEq, true_and, and_true, forall_const, false_and, and_false, false_implies, not_false_eq_true, not_true_eq_false, decide_eq_true_eq, decide_eq_false_iff_not, isi_none_int, isi_none_bool, isi_none_str, isi_none_tuple, isi_none_list, isi_none_list_tuple, isi_none_tuple_list, isi_bl_int, isi_bl_bool, isi_bl_str, isi_bl_tuple, isi_bl_list, isi_bl_list_tuple, isi_bl_tuple_list, isi_int_int, isi_int_bool, isi_int_str, isi_int_tuple, isi_int_list, isi_int_list_tuple, isi_int_tuple_list, isi_str_int, isi_str_bool, isi_str_str, isi_str_tuple, isi_str_list, isi_str_list_tuple, isi_str_tuple_list, isi_tup_int, isi_tup_bool, isi_tup_str, isi_tup_tuple, isi_tup_list, isi_tup_list_tuple, isi_tup_tuple_list, isi_lst_int, isi_lst_bool, isi_lst_str, isi_lst_tuple, isi_lst_list, isi_lst_list_tuple, isi_lst_tuple_list, cmp_eq_ii, cmp_ne_ii, cmp_eq_bb, cmp_ne_bb, cmp_lt, cmp_le, cmp_gt, cmp_ge, cmp_ni_ii, itemsD, it1, seqI]
    refine wp_for_inv (fun s => ∃ st' x9 x10, s = ⟨[.pu (.scr ns), .pu (.obj 1), .pu (.int big), .pu (.tup fds), .pu ch, .pu lo, x6, x7, .pu d, x9, x10], st'⟩) ⟨_, _, _, rfl⟩ ?_ ?_
    · rintro x hx s ⟨st', x9, x10, rfl⟩
      have hb : ∃ b, x = .int b := by
        simp only [List.mem_cons, List.not_mem_nil, or_false] at hx
        rcases hx with rfl | rfl <;> exact ⟨_, rfl⟩
      obtain ⟨b, rfl⟩ := hb
      try simp only [wp_bind, wp_pure, wp_bad, wp_getS, wp_asB, wp_slotOpd, wp_rdSlot, wp_rdVar, wp_rdRet, wp_resV, wp_resS, wp_ress0, wp_ress, wp_setR, wp_setρ, wp_call, wp_setAt, wp_opd, wp_dat, wp_shr, wp_ownL, wp_popAt, wp_popLast, wp_app, wp_ins, wp_bindTup, wp_bindTs0, wp_bindTs, wp_bindNm, wp_blk, w_var, w_con, w_tup, w_lst, w_shr, w_bin, w_cmp, w_idx, w_cmp2, w_and2, w_or2, w_not1, w_ife, w_sli, w_call, w_blt, w_isi, w_lc, w_popk, w_popl, w_isN, w_neg, Z.w_rev, w_part0, w_part1, w_ds0, w_ds, w_os0, w_os, w_cs0, w_cs, line, w_asg, w_asgT, w_aug, w_setI, w_app, w_ins, w_ext, w_expr, w_ret, w_retN, w_if, w_forE, w_whil, w_brk, w_cont, w_pass, w_ss0, w_ss, fw_nx, fw_brk, fw_cont, fw_ret, nn_none, nn_int, nn_bl, nn_str, nn_tup, nn_lst, ol_lst, op_some, op_none, op_ite, ob_bl, oi_int, sl_pu, sl_ow, al_ow, al_obj, so_lst, opdV, retV, endQ, letgo, ite_self, ixN_3_0, ixN_3_1, ixN_3_2, atI_0, atI_1, atI_2, atI_3, List.getElem?_cons_zero, List.getElem?_cons_succ, List.set_cons_zero, List.set_cons_succ, List.length_cons, List.length_nil, List.length_map, Option.bind_some, Option.map_some, List.nil_append, List.cons_append, List.length_singleton, Nat.zero_add, Nat.reduceAdd, Nat.reduceLT, Nat.reduceLeDiff, Nat.zero_le, if_false, if_true, Bool.false_eq_true, Bool.true_eq_false, Bool.not_true, Bool.not_false, reduceCtorEq, true_and, and_true, forall_const, false_and, and_false, false_implies, not_false_eq_true, not_true_eq_false, decide_eq_true_eq, decide_eq_false_iff_not, isi_none_int, isi_none_bool, isi_none_str, isi_none_tuple, isi_none_list, isi_none_list_tuple, isi_none_tuple_list, isi_bl_int, isi_bl_bool, isi_bl_str, isi_bl_tuple, isi_bl_list, isi_bl_list_tuple, isi_bl_tuple_list, isi_int_int, isi_int_bool, isi_int_str, isi_int_tuple, isi_int_list, isi_int_list_tuple, isi_int_tuple_list, isi_str_int, isi_str_bool, isi_str_str, isi_str_tuple, isi_str_list, isi_str_list_tuple, isi_str_tuple_list, isi_tup_int, isi_tup_bool, isi_tup_str, isi_tup_tuple, isi_tup_list, isi_tup_list_tuple, isi_tup_tuple_list, isi_lst_int, isi_lst_bool, isi_lst_str, isi_lst_tuple, isi_lst_list, isi_lst_list_tuple, isi_lst_tuple_list, cmp_eq_ii, cmp_ne_ii, cmp_eq_bb, cmp_ne_bb, cmp_lt, cmp_le, cmp_gt, cmp_ge, cmp_ni_ii]
      refine lmeasure_spec (k := 21) (n := 95) hd ?_
      try simp only [wp_bind, wp_pure, wp_bad, wp_getS, wp_asB, wp_slotOpd, wp_rdSlot, wp_rdVar, wp_rdRet, wp_resV, wp_resS, wp_ress0, wp_ress, wp_setR, wp_setρ, wp_call, wp_setAt, wp_opd, wp_dat, wp_shr, wp_ownL, wp_popAt, wp_popLast, wp_app, wp_ins, wp_bindTup, wp_bindTs0, wp_bindTs, wp_bindNm, wp_blk, w_var, w_con, w_tup, w_lst, w_shr, w_bin, w_cmp, w_idx, w_cmp2, w_and2, w_or2, w_not1, w_ife, w_sli, w_call, w_blt, w_isi, w_lc, w_popk, w_popl, w_isN, w_neg, Z.w_rev, w_part0, w_part1, w_ds0, w_ds, w_os0, w_os, w_cs0, w_cs, line, w_asg, w_asgT, w_aug, w_setI, w_app, w_ins, w_ext, w_expr, w_ret, w_retN, w_if, w_forE, w_whil, w_brk, w_cont, w_pass, w_ss0, w_ss, fw_nx, fw_brk, fw_cont, fw_ret, nn_none, nn_int, nn_bl, nn_str, nn_tup, nn_lst, ol_lst, op_some, op_none, op_ite, ob_bl, oi_int, sl_pu, sl_ow, al_ow, al_obj, so_lst, opdV, retV, endQ, letgo, ite_self, ixN_3_0, ixN_3_1, ixN_3_2, atI_0, atI_1, atI_2, atI_3, List.getElem?_cons_zero, List.getElem?_cons_succ, List.set_cons_zero, List.set_cons_succ, List.length_cons, List.length_nil, List.length_map, Option.bind_some, Option.map_some, List.nil_append, List.cons_append, List.length_singleton, Nat.zero_add, Nat.reduceAdd, Nat.reduceLT, Nat.reduceLeDiff, Nat.zero_le, if_false, if_true, Bool.false_eq_true, Bool.true_eq_false, Bool.not_true, Bool.not_false, reduceCtorEq, true_and, and_true, forall_const, false_and, and_false, false_implies, not_false_eq_true, not_true_eq_false, decide_eq_true_eq, decide_eq_false_iff_not, isi_none_int, isi_none_bool, isi_none_str, isi_none_tuple, isi_none_list, isi_none_list_tuple, isi_none_tuple_list, isi_bl_int, isi_bl_bool, isi_bl_str, isi_bl_tuple, isi_bl_list, isi_bl_list_tuple, isi_bl_tuple_list, isi_int_int, isi_int_bool, isi_int_str, isi_int_tuple, isi_int_list, isi_int_list_tuple, isi_int_tuple_list, isi_str_int, isi_str_bool, isi_str_str, isi_str_tuple, isi_str_list, isi_str_list_tuple, isi_str_tuple_list, isi_tup_int, isi_tup_bool, isi_tup_str, isi_tup_tuple, isi_tup_list, isi_tup_list_tuple, isi_tup_tuple_list, isi_lst_int, isi_lst_bool, isi_lst_str, isi_lst_tuple, isi_lst_list, isi_lst_list_tuple, isi_lst_tuple_list, cmp_eq_ii, cmp_ne_ii, cmp_eq_bb, cmp_ne_bb, cmp_lt, cmp_le, cmp_gt, cmp_ge, cmp_ni_ii]
      refine is_formula_spec (k := 21) (n := 94) hd ?_
      cases e : meas b 21 d with
      | none =>
        unfold code
        try simp only [wp_bind, wp_pure, wp_bad, wp_getS, wp_asB, wp_slotOpd, wp_rdSlot, wp_rdVar, wp_rdRet, wp_resV, wp_resS, wp_ress0, wp_ress, wp_setR, wp_setρ, wp_call, wp_setAt, wp_opd, wp_dat, wp_shr, wp_ownL, wp_popAt, wp_popLast, wp_app, wp_ins, wp_bindTup, wp_bindTs0, wp_bindTs, wp_bindNm, wp_blk, w_var, w_con, w_tup, w_lst, w_shr, w_bin, w_cmp, w_idx, w_cmp2, w_and2, w_or2, w_not1, w_ife, w_sli, w_call, w_blt, w_isi, w_lc, w_popk, w_popl, w_isN, w_neg, Z.w_rev, w_part0, w_part1, w_ds0, w_ds, w_os0, w_os, w_cs0, w_cs, line, w_asg, w_asgT, w_aug, w_setI, w_app, w_ins, w_ext, w_expr, w_ret, w_retN, w_if, w_forE, w_whil, w_brk, w_cont, w_pass, w_ss0, w_ss, fw_nx, fw_brk, fw_cont, fw_ret, nn_none, nn_int, nn_bl, nn_str, nn_tup, nn_lst, ol_lst, op_some, op_none, op_ite, ob_bl, oi_int, sl_pu, sl_ow, al_ow, al_obj, so_lst, opdV, retV, endQ, letgo, ite_self, ixN_3_0, ixN_3_1, ixN_3_2, atI_0, atI_1, atI_2, atI_3, List.getElem?_cons_zero, List.getElem?_cons_succ, List.set_cons_zero, List.set_cons_succ, List.length_cons, List.length_nil, List.length_map, Option.bind_some, Option.map_some, List.nil_append, List.cons_append, List.length_singleton, Nat.zero_add, Nat.reduceAdd, Nat.reduceLT, Nat.reduceLeDiff, Nat.zero_le, if_false, if_true, Bool.false_eq_true, Bool.true_eq_false, Bool.not_true, Bool.not_false, reduceCtorEq, true_and, and_true, forall_const, false_and, and_false, false_implies, not_false_eq_true, not_true_eq_false, decide_eq_true_eq, decide_eq_false_iff_not, isi_none_int, isi_none_bool, isi_none_str, isi_none_tuple, isi_none_list, isi_none_list_tuple, isi_none_tuple_list, isi_bl_int, isi_bl_bool, isi_bl_str, isi_bl_tuple, isi_bl_list, isi_bl_list_tuple, isi_bl_tuple_list, isi_int_int, isi_int_bool, isi_int_str, isi_int_tuple, isi_int_list, isi_int_list_tuple, isi_int_tuple_list, isi_str_int, isi_str_bool, isi_str_str, isi_str_tuple, isi_str_list, isi_str_list_tuple, isi_str_tuple_list, isi_tup_int, isi_tup_bool, isi_tup_str, isi_tup_tuple, isi_tup_list, isi_tup_list_tuple, isi_tup_tuple_list, isi_lst_int, isi_lst_bool, isi_lst_str, isi_lst_tuple, isi_lst_list, isi_lst_list_tuple, isi_lst_tuple_list, cmp_eq_ii, cmp_ne_ii, cmp_eq_bb, cmp_ne_bb, cmp_lt, cmp_le, cmp_gt, cmp_ge, cmp_ni_ii]
        refine like_b (n := 118) ?_
        try simp only [wp_bind, wp_pure, wp_bad, wp_getS, wp_asB, wp_slotOpd, wp_rdSlot, wp_rdVar, wp_rdRet, wp_resV, wp_resS, wp_ress0, wp_ress, wp_setR, wp_setρ, wp_call, wp_setAt, wp_opd, wp_dat, wp_shr, wp_ownL, wp_popAt, wp_popLast, wp_app, wp_ins, wp_bindTup, wp_bindTs0, wp_bindTs, wp_bindNm, wp_blk, w_var, w_con, w_tup, w_lst, w_shr, w_bin, w_cmp, w_idx, w_cmp2, w_and2, w_or2, w_not1, w_ife, w_sli, w_call, w_blt, w_isi, w_lc, w_popk, w_popl, w_isN, w_neg, Z.w_rev, w_part0, w_part1, w_ds0, w_ds, w_os0, w_os, w_cs0, w_cs, line, w_asg, w_asgT, w_aug, w_setI, w_app, w_ins, w_ext, w_expr, w_ret, w_retN, w_if, w_forE, w_whil, w_brk, w_cont, w_pass, w_ss0, w_ss, fw_nx, fw_brk, fw_cont, fw_ret, nn_none, nn_int, nn_bl, nn_str, nn_tup, nn_lst, ol_lst, op_some, op_none, op_ite, ob_bl, oi_int, sl_pu, sl_ow, al_ow, al_obj, so_lst, opdV, retV, endQ, letgo, ite_self, ixN_3_0, ixN_3_1, ixN_3_2, atI_0, atI_1, atI_2, atI_3, List.getElem?_cons_zero, List.getElem?_cons_succ, List.set_cons_zero, List.set_cons_succ, List.length_cons, List.length_nil, List.length_map, Option.bind_some, Option.map_some, List.nil_append, List.cons_append, List.length_singleton, Nat.zero_add, Nat.reduceAdd, Nat.reduceLT, Nat.reduceLeDiff, Nat.zero_le, if_false, if_true, Bool.false_eq_true, Bool.true_eq_false, Bool.not_true, Bool.not_false, reduceCtorEq, true_and, and_true, forall_const, false_and, and_false, false_implies, not_false_eq_true, not_true_eq_false, decide_eq_true_eq, decide_eq_false_iff_not, isi_none_int, isi_none_bool, isi_none_str, isi_none_tuple, isi_none_list, isi_none_list_tuple, isi_none_tuple_list, isi_bl_int, isi_bl_bool, isi_bl_str, isi_bl_tuple, isi_bl_list, isi_bl_list_tuple, isi_bl_tuple_list, isi_int_int, isi_int_bool, isi_int_str, isi_int_tuple, isi_int_list, isi_int_list_tuple, isi_int_tuple_list, isi_str_int, isi_str_bool, isi_str_str, isi_str_tuple, isi_str_list, isi_str_list_tuple, isi_str_tuple_list, isi_tup_int, isi_tup_bool, isi_tup_str, isi_tup_tuple, isi_tup_list, isi_tup_list_tuple, isi_tup_tuple_list, isi_lst_int, isi_lst_bool, isi_lst_str, isi_lst_tuple, isi_lst_list, isi_lst_list_tuple, isi_lst_tuple_list, cmp_eq_ii, cmp_ne_ii, cmp_eq_bb, cmp_ne_bb, cmp_lt, cmp_le, cmp_gt, cmp_ge, cmp_ni_ii, Option.isSome_none, decide_true]
        exact ⟨by simp, _, _, _, rfl⟩
      | some v =>
        try simp only [wp_bind, wp_pure, wp_bad, wp_getS, wp_asB, wp_slotOpd, wp_rdSlot, wp_rdVar, wp_rdRet, wp_resV, wp_resS, wp_ress0, wp_ress, wp_setR, wp_setρ, wp_call, wp_setAt, wp_opd, wp_dat, wp_shr, wp_ownL, wp_popAt, wp_popLast, wp_app, wp_ins, wp_bindTup, wp_bindTs0, wp_bindTs, wp_bindNm, wp_blk, w_var, w_con, w_tup, w_lst, w_shr, w_bin, w_cmp, w_idx, w_cmp2, w_and2, w_or2, w_not1, w_ife, w_sli, w_call, w_blt, w_isi, w_lc, w_popk, w_popl, w_isN, w_neg, Z.w_rev, w_part0, w_part1, w_ds0, w_ds, w_os0, w_os, w_cs0, w_cs, line, w_asg, w_asgT, w_aug, w_setI, w_app, w_ins, w_ext, w_expr, w_ret, w_retN, w_if, w_forE, w_whil, w_brk, w_cont, w_pass, w_ss0, w_ss, fw_nx, fw_brk, fw_cont, fw_ret, nn_none, nn_int, nn_bl, nn_str, nn_tup, nn_lst, ol_lst, op_some, op_none, op_ite, ob_bl, oi_int, sl_pu, sl_ow, al_ow, al_obj, so_lst, opdV, retV, endQ, letgo, ite_self, ixN_3_0, ixN_3_1, ixN_3_2, atI_0, atI_1, atI_2, atI_3, List.getElem?_cons_zero, List.getElem?_cons_succ, List.set_cons_zero, List.set_cons_succ, List.length_cons, List.length_nil, List.length_map, Option.bind_some, Option.map_some, List.nil_append, List.cons_append, List.length_singleton, Nat.zero_add, Nat.reduceAdd, Nat.reduceLT, Nat.reduceLeDiff, Nat.zero_le, if_false, if_true, Bool.false_eq_true, Bool.true_eq_false, Bool.not_true, Bool.not_false, reduceCtorEq, true_and, and_true, forall_const, false_and, and_false, false_implies, not_false_eq_true, not_true_eq_false, decide_eq_true_eq, decide_eq_false_iff_not, isi_none_int, isi_none_bool, isi_none_str, isi_none_tuple, isi_none_list, isi_none_list_tuple, isi_none_tuple_list, isi_bl_int, isi_bl_bool, isi_bl_str, isi_bl_tuple, isi_bl_list, isi_bl_list_tuple, isi_bl_tuple_list, isi_int_int, isi_int_bool, isi_int_str, isi_int_tuple, isi_int_list, isi_int_list_tuple, isi_int_tuple_list, isi_str_int, isi_str_bool, isi_str_str, isi_str_tuple, isi_str_list, isi_str_list_tuple, isi_str_tuple_list, isi_tup_int, isi_tup_bool, isi_tup_str, isi_tup_tuple, isi_tup_list, isi_tup_list_tuple, isi_tup_tuple_list, isi_lst_int, isi_lst_bool, isi_lst_str, isi_lst_tuple, isi_lst_list, isi_lst_list_tuple, isi_lst_tuple_list, cmp_eq_ii, cmp_ne_ii, cmp_eq_bb, cmp_ne_bb, cmp_lt, cmp_le, cmp_gt, cmp_ge, cmp_ni_ii, code_nn, Option.isSome_some]
        refine like_b (n := 118) ?_
        try simp only [wp_bind, wp_pure, wp_bad, wp_getS, wp_asB, wp_slotOpd, wp_rdSlot, wp_rdVar, wp_rdRet, wp_resV, wp_resS, wp_ress0, wp_ress, wp_setR, wp_setρ, wp_call, wp_setAt, wp_opd, wp_dat, wp_shr, wp_ownL, wp_popAt, wp_popLast, wp_app, wp_ins, wp_bindTup, wp_bindTs0, wp_bindTs, wp_bindNm, wp_blk, w_var, w_con, w_tup, w_lst, w_shr, w_bin, w_cmp, w_idx, w_cmp2, w_and2, w_or2, w_not1, w_ife, w_sli, w_call, w_blt, w_isi, w_lc, w_popk, w_popl, w_isN, w_neg, Z.w_rev, w_part0, w_part1, w_ds0, w_ds, w_os0, w_os, w_cs0, w_cs, line, w_asg, w_asgT, w_aug, w_setI, w_app, w_ins, w_ext, w_expr, w_ret, w_retN, w_if, w_forE, w_whil, w_brk, w_cont, w_pass, w_ss0, w_ss, fw_nx, fw_brk, fw_cont, fw_ret, nn_none, nn_int, nn_bl, nn_str, nn_tup, nn_lst, ol_lst, op_some, op_none, op_ite, ob_bl, oi_int, sl_pu, sl_ow, al_ow, al_obj, so_lst, opdV, retV, endQ, letgo, ite_self, ixN_3_0, ixN_3_1, ixN_3_2, atI_0, atI_1, atI_2, atI_3, List.getElem?_cons_zero, List.getElem?_cons_succ, List.set_cons_zero, List.set_cons_succ, List.length_cons, List.length_nil, List.length_map, Option.bind_some, Option.map_some, List.nil_append, List.cons_append, List.length_singleton, Nat.zero_add, Nat.reduceAdd, Nat.reduceLT, Nat.reduceLeDiff, Nat.zero_le, if_false, if_true, Bool.false_eq_true, Bool.true_eq_false, Bool.not_true, Bool.not_false, reduceCtorEq, true_and, and_true, forall_const, false_and, and_false, false_implies, not_false_eq_true, not_true_eq_false, decide_eq_true_eq, decide_eq_false_iff_not, isi_none_int, isi_none_bool, isi_none_str, isi_none_tuple, isi_none_list, isi_none_list_tuple, isi_none_tuple_list, isi_bl_int, isi_bl_bool, isi_bl_str, isi_bl_tuple, isi_bl_list, isi_bl_list_tuple, isi_bl_tuple_list, isi_int_int, isi_int_bool, isi_int_str, isi_int_tuple, isi_int_list, isi_int_list_tuple, isi_int_tuple_list, isi_str_int, isi_str_bool, isi_str_str, isi_str_tuple, isi_str_list, isi_str_list_tuple, isi_str_tuple_list, isi_tup_int, isi_tup_bool, isi_tup_str, isi_tup_tuple, isi_tup_list, isi_tup_list_tuple, isi_tup_tuple_list, isi_lst_int, isi_lst_bool, isi_lst_str, isi_lst_tuple, isi_lst_list, isi_lst_list_tuple, isi_lst_tuple_list, cmp_eq_ii, cmp_ne_ii, cmp_eq_bb, cmp_ne_bb, cmp_lt, cmp_le, cmp_gt, cmp_ge, cmp_ni_ii, Option.isSome_some, decide_true, code_nn]
        refine step6_spec (k := 21) (n := 94) hd e ?_
        obtain ⟨v1, v2, v3⟩ := v
        unfold code
        try simp only [wp_bind, wp_pure, wp_bad, wp_getS, wp_asB, wp_slotOpd, wp_rdSlot, wp_rdVar, wp_rdRet, wp_resV, wp_resS, wp_ress0, wp_ress, wp_setR, wp_setρ, wp_call, wp_setAt, wp_opd, wp_dat, wp_shr, wp_ownL, wp_popAt, wp_popLast, wp_app, wp_ins, wp_bindTup, wp_bindTs0, wp_bindTs, wp_bindNm, wp_blk, w_var, w_con, w_tup, w_lst, w_shr, w_bin, w_cmp, w_idx, w_cmp2, w_and2, w_or2, w_not1, w_ife, w_sli, w_call, w_blt, w_isi, w_lc, w_popk, w_popl, w_isN, w_neg, Z.w_rev, w_part0, w_part1, w_ds0, w_ds, w_os0, w_os, w_cs0, w_cs, line, w_asg, w_asgT, w_aug, w_setI, w_app, w_ins, w_ext, w_expr, w_ret, w_retN, w_if, w_forE, w_whil, w_brk, w_cont, w_pass, w_ss0, w_ss, fw_nx, fw_brk, fw_cont, fw_ret, nn_none, nn_int, nn_bl, nn_str, nn_tup, nn_lst, ol_lst, op_some, op_none, op_ite, ob_bl, oi_int, sl_pu, sl_ow, al_ow, al_obj, so_lst, opdV, retV, endQ, letgo, ite_self, ixN_3_0, ixN_3_1, ixN_3_2, atI_0, atI_1, atI_2, atI_3, List.getElem?_cons_zero, List.getElem?_cons_succ, List.set_cons_zero, List.set_cons_succ, List.length_cons, List.length_nil, List.length_map, Option.bind_some, Option.map_some, List.nil_append, List.cons_append, List.length_singleton, Nat.zero_add, Nat.reduceAdd, Nat.reduceLT, Nat.reduceLeDiff, Nat.zero_le, if_false, if_true, Bool.false_eq_true, Bool.true_eq_false, Bool.not_true, Bool.not_false, reduceCtorEq, true_and, and_true, forall_const, false_and, and_false, false_implies, not_false_eq_true, not_true_eq_false, decide_eq_true_eq, decide_eq_false_iff_not, isi_none_int, isi_none_bool, isi_none_str, isi_none_tuple, isi_none_list, isi_none_list_tuple, isi_none_tuple_list, isi_bl_int, isi_bl_bool, isi_bl_str, isi_bl_tuple, isi_bl_list, isi_bl_list_tuple, isi_bl_tuple_list, isi_int_int, isi_int_bool, isi_int_str, isi_int_tuple, isi_int_list, isi_int_list_tuple, isi_int_tuple_list, isi_str_int, isi_str_bool, isi_str_str, isi_str_tuple, isi_str_list, isi_str_list_tuple, isi_str_tuple_list, isi_tup_int, isi_tup_bool, isi_tup_str, isi_tup_tuple, isi_tup_list, isi_tup_list_tuple, isi_tup_tuple_list, isi_lst_int, isi_lst_bool, isi_lst_str, isi_lst_tuple, isi_lst_list, isi_lst_list_tuple, isi_lst_tuple_list, cmp_eq_ii, cmp_ne_ii, cmp_eq_bb, cmp_ne_bb, cmp_lt, cmp_le, cmp_gt, cmp_ge, cmp_ni_ii, idxD, seqD]
        refine like_i (n := 118) ?_
        try simp only [wp_bind, wp_pure, wp_bad, wp_getS, wp_asB, wp_slotOpd, wp_rdSlot, wp_rdVar, wp_rdRet, wp_resV, wp_resS, wp_ress0, wp_ress, wp_setR, wp_setρ, wp_call, wp_setAt, wp_opd, wp_dat, wp_shr, wp_ownL, wp_popAt, wp_popLast, wp_app, wp_ins, wp_bindTup, wp_bindTs0, wp_bindTs, wp_bindNm, wp_blk, w_var, w_con, w_tup, w_lst, w_shr, w_bin, w_cmp, w_idx, w_cmp2, w_and2, w_or2, w_not1, w_ife, w_sli, w_call, w_blt, w_isi, w_lc, w_popk, w_popl, w_isN, w_neg, Z.w_rev, w_part0, w_part1, w_ds0, w_ds, w_os0, w_os, w_cs0, w_cs, line, w_asg, w_asgT, w_aug, w_setI, w_app, w_ins, w_ext, w_expr, w_ret, w_retN, w_if, w_forE, w_whil, w_brk, w_cont, w_pass, w_ss0, w_ss, fw_nx, fw_brk, fw_cont, fw_ret, nn_none, nn_int, nn_bl, nn_str, nn_tup, nn_lst, ol_lst, op_some, op_none, op_ite, ob_bl, oi_int, sl_pu, sl_ow, al_ow, al_obj, so_lst, opdV, retV, endQ, letgo, ite_self, ixN_3_0, ixN_3_1, ixN_3_2, atI_0, atI_1, atI_2, atI_3, List.getElem?_cons_zero, List.getElem?_cons_succ, List.set_cons_zero, List.set_cons_succ, List.length_cons, List.length_nil, List.length_map, Option.bind_some, Option.map_some, List.nil_append, List.cons_append, List.length_singleton, Nat.zero_add, Nat.reduceAdd, Nat.reduceLT, Nat.reduceLeDiff, Nat.zero_le, if_false, if_true, Bool.false_eq_true, Bool.true_eq_false, Bool.not_true, Bool.not_false, reduceCtorEq, true_and, and_true, forall_const, false_and, and_false, false_implies, not_false_eq_true, not_true_eq_false, decide_eq_true_eq, decide_eq_false_iff_not, isi_none_int, isi_none_bool, isi_none_str, isi_none_tuple, isi_none_list, isi_none_list_tuple, isi_none_tuple_list, isi_bl_int, isi_bl_bool, isi_bl_str, isi_bl_tuple, isi_bl_list, isi_bl_list_tuple, isi_bl_tuple_list, isi_int_int, isi_int_bool, isi_int_str, isi_int_tuple, isi_int_list, isi_int_list_tuple, isi_int_tuple_list, isi_str_int, isi_str_bool, isi_str_str, isi_str_tuple, isi_str_list, isi_str_list_tuple, isi_str_tuple_list, isi_tup_int, isi_tup_bool, isi_tup_str, isi_tup_tuple, isi_tup_list, isi_tup_list_tuple, isi_tup_tuple_list, isi_lst_int, isi_lst_bool, isi_lst_str, isi_lst_tuple, isi_lst_list, isi_lst_list_tuple, isi_lst_tuple_list, cmp_eq_ii, cmp_ne_ii, cmp_eq_bb, cmp_ne_bb, cmp_lt, cmp_le, cmp_gt, cmp_ge, cmp_ni_ii, decide_true]
        exact ⟨by simp, _, _, _, rfl⟩
    · rintro s ⟨st', x9, x10, rfl⟩
      exact ⟨.inl rfl, _, _, _, _, _, _, rfl⟩
  · rintro s ⟨st', x8, x9, x10, x6, x7, rfl⟩
    try simp only [wp_bind, wp_pure, wp_bad, wp_getS, wp_asB, wp_slotOpd, wp_rdSlot, wp_rdVar, wp_rdRet, wp_resV, wp_resS, wp_ress0, wp_ress, wp_setR, wp_setρ, wp_call, wp_setAt, wp_opd, wp_dat, wp_shr, wp_ownL, wp_popAt, wp_popLast, wp_app, wp_ins, wp_bindTup, wp_bindTs0, wp_bindTs, wp_bindNm, wp_blk, w_var, w_con, w_tup, w_lst, w_shr, w_bin, w_cmp, w_idx, w_cmp2, w_and2, w_or2, w_not1, w_ife, w_sli, w_call, w_blt, w_isi, w_lc, w_popk, w_popl, w_isN, w_neg, Z.w_rev, w_part0, w_part1, w_ds0, w_ds, w_os0, w_os, w_cs0, w_cs, line, w_asg, w_asgT, w_aug, w_setI, w_app, w_ins, w_ext, w_expr, w_ret, w_retN, w_if, w_forE, w_whil, w_brk, w_cont, w_pass, w_ss0, w_ss, fw_nx, fw_brk, fw_cont, fw_ret, nn_none, nn_int, nn_bl, nn_str, nn_tup, nn_lst, ol_lst, op_some, op_none, op_ite, ob_bl, oi_int, sl_pu, sl_ow, al_ow, al_obj, so_lst, opdV, retV, endQ, letgo, ite_self, ixN_3_0, ixN_3_1, ixN_3_2, atI_0, atI_1, atI_2, atI_3, List.getElem?_cons_zero, List.getElem?_cons_succ, List.set_cons_zero, List.set_cons_succ, List.length_cons, List.length_nil, List.length_map, Option.bind_some, Option.map_some, List.nil_append, List.cons_append, List.length_singleton, Nat.zero_add, Nat.reduceAdd, Nat.reduceLT, Nat.reduceLeDiff, Nat.zero_le, if_false, if_true, Bool.false_eq_true, Bool.true_eq_false, Bool.not_true, Bool.not_false, reduceCtorEq, true_and, and_true, forall_const, false_and, and_false, false_implies, not_false_eq_true, not_true_eq_false, decide_eq_true_eq, decide_eq_false_iff_not, isi_none_int, isi_none_bool, isi_none_str, isi_none_tuple, isi_none_list, isi_none_list_tuple, isi_none_tuple_list, isi_bl_int, isi_bl_bool, isi_bl_str, isi_bl_tuple, isi_bl_list, isi_bl_list_tuple, isi_bl_tuple_list, isi_int_int, isi_int_bool, isi_int_str, isi_int_tuple, isi_int_list, isi_int_list_tuple, isi_int_tuple_list, isi_str_int, isi_str_bool, isi_str_str, isi_str_tuple, isi_str_list, isi_str_list_tuple, isi_str_tuple_list, isi_tup_int, isi_tup_bool, isi_tup_str, isi_tup_tuple, isi_tup_list, isi_tup_list_tuple, isi_tup_tuple_list, isi_lst_int, isi_lst_bool, isi_lst_str, isi_lst_tuple, isi_lst_list, isi_lst_list_tuple, isi_lst_tuple_list, cmp_eq_ii, cmp_ne_ii, cmp_eq_bb, cmp_ne_bb, cmp_lt, cmp_le, cmp_gt, cmp_ge, cmp_ni_ii]
theorem law_true (ns : List Int) (_ : ns.length ≤ 63) : ∃ st, callF fns wf 120 21 [.scr ns] [] = .ok (.bl true, false) st := by
  obtain ⟨a, st, e, rfl⟩ := (law_holds ns).get
  exact ⟨st, e⟩
end G

namespace G
open PySem PySem.Spec PyProof.Rows L2 Z
def fa : List He.Fa := [.glo "is_whole", .glo "is_point", .glo "step_together", .glo "put_together", .glo "measured", .glo "is_formula", .glo "step", .glo "_law_draw", .glo "_law_whole", .glo "_law_within", .glo "_law_like", .glo "_law_size", .glo "_law_any", .glo "_law_spoilt", .glo "_law_both_steps", .glo "_law_tree", .glo "_law_chain", .glo "_law_formula", .glo "_law_measure", .glo "_law_measured", .glo "_law_bent", .glo "law", .free "bool", .free "int", .free "isinstance", .free "len", .free "list", .free "max", .free "range", .free "str", .free "tuple", .int "DEEPEST" 12, .int "MOST" 4, .int "POINTS" 8]
def d_is_whole : He.DefD := ⟨("is_whole", none), "is_whole", "is_whole", defArgs s_is_whole, defBody s_is_whole, defScope s_is_whole, [], []⟩
def d_is_point : He.DefD := ⟨("is_point", none), "is_point", "is_point", defArgs s_is_point, defBody s_is_point, defScope s_is_point, [], []⟩
def d_step_together : He.DefD := ⟨("step_together", none), "step_together", "step_together", defArgs s_step_together, defBody s_step_together, defScope s_step_together, [], []⟩
def d_put_together : He.DefD := ⟨("put_together", none), "put_together", "put_together", defArgs s_put_together, defBody s_put_together, defScope s_put_together, [], []⟩
def d_measured : He.DefD := ⟨("measured", none), "measured", "measured", defArgs s_measured, defBody s_measured, defScope s_measured, [], []⟩
def d_is_formula : He.DefD := ⟨("is_formula", none), "is_formula", "is_formula", defArgs s_is_formula, defBody s_is_formula, defScope s_is_formula, [], [("size", .int 3)]⟩
def d_step : He.DefD := ⟨("step", none), "step", "step", defArgs s_step, defBody s_step, defScope s_step, [], [("size", .int 3)]⟩
def d__law_draw : He.DefD := ⟨("_law_draw", none), "_law_draw", "_law_draw", defArgs s__law_draw, defBody s__law_draw, defScope s__law_draw, [], []⟩
def d__law_whole : He.DefD := ⟨("_law_whole", none), "_law_whole", "_law_whole", defArgs s__law_whole, defBody s__law_whole, defScope s__law_whole, [], []⟩
def d__law_within : He.DefD := ⟨("_law_within", none), "_law_within", "_law_within", defArgs s__law_within, defBody s__law_within, defScope s__law_within, [], []⟩
def d__law_like : He.DefD := ⟨("_law_like", none), "_law_like", "_law_like", defArgs s__law_like, defBody s__law_like, defScope s__law_like, [], []⟩
def d__law_size : He.DefD := ⟨("_law_size", none), "_law_size", "_law_size", defArgs s__law_size, defBody s__law_size, defScope s__law_size, [], []⟩
def d__law_any : He.DefD := ⟨("_law_any", none), "_law_any", "_law_any", defArgs s__law_any, defBody s__law_any, defScope s__law_any, [], []⟩
def d__law_spoilt : He.DefD := ⟨("_law_spoilt", none), "_law_spoilt", "_law_spoilt", defArgs s__law_spoilt, defBody s__law_spoilt, defScope s__law_spoilt, [], []⟩
def d__law_both_steps : He.DefD := ⟨("_law_both_steps", none), "_law_both_steps", "_law_both_steps", defArgs s__law_both_steps, defBody s__law_both_steps, defScope s__law_both_steps, [], []⟩
def d__law_tree : He.DefD := ⟨("_law_tree", none), "_law_tree", "_law_tree", defArgs s__law_tree, defBody s__law_tree, defScope s__law_tree, [], []⟩
def d__law_chain : He.DefD := ⟨("_law_chain", none), "_law_chain", "_law_chain", defArgs s__law_chain, defBody s__law_chain, defScope s__law_chain, [], []⟩
def d__law_formula : He.DefD := ⟨("_law_formula", none), "_law_formula", "_law_formula", defArgs s__law_formula, defBody s__law_formula, defScope s__law_formula, [], []⟩
def d__law_measure : He.DefD := ⟨("_law_measure", none), "_law_measure", "_law_measure", defArgs s__law_measure, defBody s__law_measure, defScope s__law_measure, [], []⟩
def d__law_measured : He.DefD := ⟨("_law_measured", none), "_law_measured", "_law_measured", defArgs s__law_measured, defBody s__law_measured, defScope s__law_measured, [], []⟩
def d__law_bent : He.DefD := ⟨("_law_bent", none), "_law_bent", "_law_bent", defArgs s__law_bent, defBody s__law_bent, defScope s__law_bent, [], []⟩
def d_law : He.DefD := ⟨("law", none), "law", "law", defArgs s_law, defBody s_law, defScope s_law, [], []⟩
def fn : List He.DefD := [d_is_whole, d_is_point, d_step_together, d_put_together, d_measured, d_is_formula, d_step, d__law_draw, d__law_whole, d__law_within, d__law_like, d__law_size, d__law_any, d__law_spoilt, d__law_both_steps, d__law_tree, d__law_chain, d__law_formula, d__law_measure, d__law_measured, d__law_bent, d_law]
theorem sc_is_whole : FnScope ["thing"] ["thing"] (defScope s_is_whole) := ⟨rfl, rfl, rfl, by decide +kernel, rfl, by decide +kernel, by decide +kernel⟩
theorem sc_is_point : FnScope ["thing"] ["thing"] (defScope s_is_point) := ⟨rfl, rfl, rfl, by decide +kernel, rfl, by decide +kernel, by decide +kernel⟩
theorem sc_step_together : FnScope ["word", "one", "two", "size", "step"] ["word", "one", "two", "size"] (defScope s_step_together) := ⟨rfl, rfl, rfl, by decide +kernel, rfl, by decide +kernel, by decide +kernel⟩
theorem sc_put_together : FnScope ["word", "one", "two", "size", "depth", "many", "step"] ["word", "one", "two", "size"] (defScope s_put_together) := ⟨rfl, rfl, rfl, by decide +kernel, rfl, by decide +kernel, by decide +kernel⟩
theorem sc_measured : FnScope ["thing", "size", "one", "two"] ["thing", "size"] (defScope s_measured) := ⟨rfl, rfl, rfl, by decide +kernel, rfl, by decide +kernel, by decide +kernel⟩
theorem sc_is_formula : FnScope ["thing", "size"] ["thing", "size"] (defScope s_is_formula) := ⟨rfl, rfl, rfl, by decide +kernel, rfl, by decide +kernel, by decide +kernel⟩
theorem sc_step : FnScope ["formula", "size"] ["formula", "size"] (defScope s_step) := ⟨rfl, rfl, rfl, by decide +kernel, rfl, by decide +kernel, by decide +kernel⟩
theorem sc__law_draw : FnScope ["tape", "many", "prime", "cell", "found"] ["tape", "many"] (defScope s__law_draw) := ⟨rfl, rfl, rfl, by decide +kernel, rfl, by decide +kernel, by decide +kernel⟩
theorem sc__law_whole : FnScope ["item"] ["item"] (defScope s__law_whole) := ⟨rfl, rfl, rfl, by decide +kernel, rfl, by decide +kernel, by decide +kernel⟩
theorem sc__law_within : FnScope ["item", "low", "high"] ["item", "low", "high"] (defScope s__law_within) := ⟨rfl, rfl, rfl, by decide +kernel, rfl, by decide +kernel, by decide +kernel⟩
theorem sc__law_like : FnScope ["one", "two", "k"] ["one", "two"] (defScope s__law_like) := ⟨rfl, rfl, rfl, by decide +kernel, rfl, by decide +kernel, by decide +kernel⟩
theorem sc__law_size : FnScope ["tape"] ["tape"] (defScope s__law_size) := ⟨rfl, rfl, rfl, by decide +kernel, rfl, by decide +kernel, by decide +kernel⟩
theorem sc__law_any : FnScope ["tape", "deep", "way", "some", "k"] ["tape", "deep"] (defScope s__law_any) := ⟨rfl, rfl, rfl, by decide +kernel, rfl, by decide +kernel, by decide +kernel⟩
theorem sc__law_spoilt : FnScope ["tape", "item", "k", "rest", "way", "some"] ["tape", "item"] (defScope s__law_spoilt) := ⟨rfl, rfl, rfl, by decide +kernel, rfl, by decide +kernel, by decide +kernel⟩
theorem sc__law_both_steps : FnScope ["tape", "one", "two", "big"] ["tape", "one", "two", "big"] (defScope s__law_both_steps) := ⟨rfl, rfl, rfl, by decide +kernel, rfl, by decide +kernel, by decide +kernel⟩
theorem sc__law_tree : FnScope ["tape", "big", "deep", "one"] ["tape", "big", "deep"] (defScope s__law_tree) := ⟨rfl, rfl, rfl, by decide +kernel, rfl, by decide +kernel, by decide +kernel⟩
theorem sc__law_chain : FnScope ["tape", "big", "many", "found", "turn", "point"] ["tape", "big", "many"] (defScope s__law_chain) := ⟨rfl, rfl, rfl, by decide +kernel, rfl, by decide +kernel, by decide +kernel⟩
theorem sc__law_formula : FnScope ["tape", "big"] ["tape", "big"] (defScope s__law_formula) := ⟨rfl, rfl, rfl, by decide +kernel, rfl, by decide +kernel, by decide +kernel⟩
theorem sc__law_measure : FnScope ["item", "big", "one", "two"] ["item", "big"] (defScope s__law_measure) := ⟨rfl, rfl, rfl, by decide +kernel, rfl, by decide +kernel, by decide +kernel⟩
theorem sc__law_measured : FnScope ["word", "one", "two", "big", "here", "depth"] ["word", "one", "two", "big"] (defScope s__law_measured) := ⟨rfl, rfl, rfl, by decide +kernel, rfl, by decide +kernel, by decide +kernel⟩
theorem sc__law_bent : FnScope ["tape", "formula", "word"] ["tape", "formula"] (defScope s__law_bent) := ⟨rfl, rfl, rfl, by decide +kernel, rfl, by decide +kernel, by decide +kernel⟩
theorem sc_law : FnScope ["script", "tape", "here", "formula", "chain", "longer", "things", "more", "thing", "many", "due"] ["script"] (defScope s_law) := ⟨rfl, rfl, rfl, by decide +kernel, rfl, by decide +kernel, by decide +kernel⟩
def cls : Nat → Value := fun _ => .none
section
variable {P : Program} {w : World} {K : PySem.W.Frag} {mg : Str → Option Value} {base : Heap}
theorem ok_is_whole {f : Addr} {fd : FuncData} (n : Nat) (F : FunD K "is_whole" "is_whole" (defArgs s_is_whole) (defBody s_is_whole) (defScope s_is_whole) (d_is_whole.dvs K) (d_is_whole.kws K) f fd) (m_bool : mg "bool" = none) (m_int : mg "int" = none) (m_isinstance : mg "isinstance" = none) :
    FnOk P w K mg base CX0 (n + 1) f fd ["thing"] (spz K cls (callF fns wf (n + 1)) 0 1) := by
  refine fn_ok (fnd := ⟨1, 1, b_is_whole⟩) F sc_is_whole rfl rfl rfl fun cdv A outer s H E hr => PSs.nox ?_
  have hu := hu_room hr
  exact (psz_cons (psz_ret (prz_of (by intro _; rfl) (pz_and (pz_isi rfl m_isinstance (po_var 0) (pty rfl m_int)) (pz_one (pz_not (pz_isi rfl m_isinstance (po_var 0) (pty rfl m_bool)))))))
  psz_nil)
theorem ok_is_point {f : Addr} {fd : FuncData} (n : Nat) (F : FunD K "is_point" "is_point" (defArgs s_is_point) (defBody s_is_point) (defScope s_is_point) (d_is_point.dvs K) (d_is_point.kws K) f fd) (m_len : mg "len" = none) {t_POINTS : Tok} (k_POINTS : mg "POINTS" = some (.int 8 t_POINTS)) (C0 : CallOkP P w K mg base CX0 cls (callF fns wf n) n 0 "is_whole" 1 1 []) :
    FnOk P w K mg base CX0 (n + 1) f fd ["thing"] (spz K cls (callF fns wf (n + 1)) 1 1) := by
  refine fn_ok (fnd := ⟨1, 1, b_is_point⟩) F sc_is_point rfl rfl rfl fun cdv A outer s H E hr => PSs.nox ?_
  have hu := hu_room hr
  exact (psz_cons (psz_ret (prz_of (by intro _; rfl) (pz_and (pz_cmp hu rfl (Tr.opd (pz_len rfl m_len (pos_cons (po_var 0) pos_nil))) (Tr.opd pz_int)) (pz_and (pz_cmp hu rfl (Tr.opd (pz_idx (po_var 0) (Tr.opd pz_int))) (Tr.opd pz_str)) (pz_and (pz_call C0 rfl hr rfl pass0E (wE_E) (pos_cons (Tr.opd (pz_idx (po_var 0) (Tr.opd pz_int))) pos_nil)) (pz_one (pz_cmp2 hu rfl rfl pz_int (pz_idx (po_var 0) (Tr.opd pz_int)) (pz_globI rfl k_POINTS))))))))
  psz_nil)
theorem ok_step_together {f : Addr} {fd : FuncData} (n : Nat) (F : FunD K "step_together" "step_together" (defArgs s_step_together) (defBody s_step_together) (defScope s_step_together) (d_step_together.dvs K) (d_step_together.kws K) f fd)  :
    FnOk P w K mg base CX0 (n + 1) f fd ["word", "one", "two", "size"] (spz K cls (callF fns wf (n + 1)) 2 4) := by
  refine fn_ok (fnd := ⟨5, 4, b_step_together⟩) F sc_step_together rfl rfl rfl fun cdv A outer s H E hr => PSs.nox ?_
  have hu := hu_room hr
  exact (psz_cons (psz_asg (i := 4) sc_step_together.nd rfl (Or.inl rfl) (pz_bin rfl (po_var 1) (po_var 2)))
  (psz_cons (psz_if (pt_cmpz hu rfl (po_var 0) (Tr.opd pz_str))
  (psz_cons (psz_asg (i := 4) sc_step_together.nd rfl (Or.inl rfl) (pz_bin rfl (Tr.opd (pz_bin rfl (po_var 1) (po_var 2))) (po_var 3)))
  psz_nil)
  psz_nil)
  (psz_cons (psz_ret (prz_of (by intro _; rfl) (pz_ife (pt_cmp2 hu rfl rfl pz_int (pz_var 4) (pz_var 3)) (pz_var 4) pz_non)))
  psz_nil)))
theorem ok_put_together {f : Addr} {fd : FuncData} (n : Nat) (F : FunD K "put_together" "put_together" (defArgs s_put_together) (defBody s_put_together) (defScope s_put_together) (d_put_together.dvs K) (d_put_together.kws K) f fd) (m_max : mg "max" = none) {t_DEEPEST : Tok} (k_DEEPEST : mg "DEEPEST" = some (.int 12 t_DEEPEST)) {t_MOST : Tok} (k_MOST : mg "MOST" = some (.int 4 t_MOST)) (C1 : CallOkP P w K mg base CX0 cls (callF fns wf n) n 2 "step_together" 4 4 []) :
    FnOk P w K mg base CX0 (n + 1) f fd ["word", "one", "two", "size"] (spz K cls (callF fns wf (n + 1)) 3 4) := by
  refine fn_ok (fnd := ⟨7, 4, b_put_together⟩) F sc_put_together rfl rfl rfl fun cdv A outer s H E hr => PSs.nox ?_
  have hu := hu_room hr
  exact (psz_cons (psz_asg (i := 4) sc_put_together.nd rfl (Or.inl rfl) (pz_bin rfl (Tr.opd pz_int) (Tr.opd (pz_max2 rfl rfl m_max (pos_cons (Tr.opd (pz_idx (po_var 1) (Tr.opd pz_int))) (pos_cons (Tr.opd (pz_idx (po_var 2) (Tr.opd pz_int))) pos_nil))))))
  (psz_cons (psz_asg (i := 5) sc_put_together.nd rfl (Or.inl rfl) (pz_bin rfl (Tr.opd (pz_idx (po_var 1) (Tr.opd pz_int))) (Tr.opd (pz_idx (po_var 2) (Tr.opd pz_int)))))
  (psz_cons (psz_asg (i := 6) sc_put_together.nd rfl (Or.inl rfl) (pz_call C1 rfl hr rfl pass0E (wE_E) (pos_cons (po_var 0) (pos_cons (Tr.opd (pz_idx (po_var 1) (Tr.opd pz_int))) (pos_cons (Tr.opd (pz_idx (po_var 2) (Tr.opd pz_int))) (pos_cons (po_var 3) pos_nil))))))
  (psz_cons (psz_if (PW.pt (pw_orz (pt_isN (po_var 6)) (pw_orz (pt_cmpz hu rfl (po_var 4) (Tr.opd (pz_globI rfl k_DEEPEST))) (pw_one_or (pt_cmpz hu rfl (po_var 5) (Tr.opd (pz_bin rfl (Tr.opd (pz_globI rfl k_MOST)) (po_var 3))))))))
  (psz_cons (psz_ret (prz_of (by intro _; rfl) pz_non))
  psz_nil)
  psz_nil)
  (psz_cons (psz_ret (prz_of (by intro _; rfl) (pz_tup (pd_cons (pz_var 4) (pd_cons (pz_var 5) (pd_cons (pz_var 6) pd_nil))))))
  psz_nil)))))
theorem ok_measured {f : Addr} {fd : FuncData} (n : Nat) (F : FunD K "measured" "measured" (defArgs s_measured) (defBody s_measured) (defScope s_measured) (d_measured.dvs K) (d_measured.kws K) f fd) (m_isinstance : mg "isinstance" = none) (m_len : mg "len" = none) (m_str : mg "str" = none) (m_tuple : mg "tuple" = none) (C2 : CallOkP P w K mg base CX0 cls (callF fns wf n) n 1 "is_point" 1 1 []) (C3 : CallOkP P w K mg base CX0 cls (callF fns wf n) n 4 "measured" 2 2 []) (C4 : CallOkP P w K mg base CX0 cls (callF fns wf n) n 3 "put_together" 4 4 []) :
    FnOk P w K mg base CX0 (n + 1) f fd ["thing", "size"] (spz K cls (callF fns wf (n + 1)) 4 2) := by
  refine fn_ok (fnd := ⟨4, 2, b_measured⟩) F sc_measured rfl rfl rfl fun cdv A outer s H E hr => PSs.nox ?_
  have hu := hu_room hr
  exact (psz_cons (psz_if (PW.pt (pw_orz (pt_notz (pt_of (pz_isi rfl m_isinstance (po_var 0) (pty rfl m_tuple)))) (pw_orz (pt_cmpz hu rfl (Tr.opd (pz_len rfl m_len (pos_cons (po_var 0) pos_nil))) (Tr.opd (pz_tup (pd_cons pz_int (pd_cons pz_int pd_nil))))) (pw_one_or (pt_notz (pt_of (pz_isi rfl m_isinstance (Tr.opd (pz_idx (po_var 0) (Tr.opd pz_int))) (pty rfl m_str))))))))
  (psz_cons (psz_ret (prz_of (by intro _; rfl) pz_non))
  psz_nil)
  psz_nil)
  (psz_cons (psz_if (pt_of (pz_call C2 rfl hr rfl pass0E (wE_E) (pos_cons (po_var 0) pos_nil)))
  (psz_cons (psz_ret (prz_of (by intro _; rfl) (pz_tup (pd_cons pz_int (pd_cons pz_int (pd_cons pz_int pd_nil))))))
  psz_nil)
  psz_nil)
  (psz_cons (psz_if (PW.pt (pw_orz (pt_cmpz hu rfl (Tr.opd (pz_len rfl m_len (pos_cons (po_var 0) pos_nil))) (Tr.opd pz_int)) (pw_one_or (pt_cmpz hu rfl (Tr.opd (pz_idx (po_var 0) (Tr.opd pz_int))) (Tr.opd (pz_tup (pd_cons pz_str (pd_cons pz_str pd_nil))))))))
  (psz_cons (psz_ret (prz_of (by intro _; rfl) pz_non))
  psz_nil)
  psz_nil)
  (psz_cons (psz_asg (i := 2) sc_measured.nd rfl (Or.inl rfl) (pz_call C3 rfl hr rfl pass0E (wE_E) (pos_cons (Tr.opd (pz_idx (po_var 0) (Tr.opd pz_int))) (pos_cons (po_var 1) pos_nil))))
  (psz_cons (psz_asg (i := 3) sc_measured.nd rfl (Or.inl rfl) (pz_call C3 rfl hr rfl pass0E (wE_E) (pos_cons (Tr.opd (pz_idx (po_var 0) (Tr.opd pz_int))) (pos_cons (po_var 1) pos_nil))))
  (psz_cons (psz_if (PW.pt (pw_orz (pt_isN (po_var 2)) (pw_one_or (pt_isN (po_var 3)))))
  (psz_cons (psz_ret (prz_of (by intro _; rfl) pz_non))
  psz_nil)
  psz_nil)
  (psz_cons (psz_ret (prz_of (by intro _; rfl) (pz_call C4 rfl hr rfl pass0E (wE_E) (pos_cons (Tr.opd (pz_idx (po_var 0) (Tr.opd pz_int))) (pos_cons (po_var 2) (pos_cons (po_var 3) (pos_cons (po_var 1) pos_nil)))))))
  psz_nil)))))))
theorem ok_is_formula {f : Addr} {fd : FuncData} (n : Nat) (F : FunD K "is_formula" "is_formula" (defArgs s_is_formula) (defBody s_is_formula) (defScope s_is_formula) (d_is_formula.dvs K) (d_is_formula.kws K) f fd) (C3 : CallOkP P w K mg base CX0 cls (callF fns wf n) n 4 "measured" 2 2 []) :
    FnOk P w K mg base CX0 (n + 1) f fd ["thing", "size"] (spz K cls (callF fns wf (n + 1)) 5 2) := by
  refine fn_ok (fnd := ⟨2, 2, b_is_formula⟩) F sc_is_formula rfl rfl rfl fun cdv A outer s H E hr => PSs.nox ?_
  have hu := hu_room hr
  exact (psz_cons (psz_ret (prz_of (by intro _; rfl) (pz_notN (Tr.opd (pz_call C3 rfl hr rfl pass0E (wE_E) (pos_cons (po_var 0) (pos_cons (po_var 1) pos_nil)))))))
  psz_nil)
theorem ok_step {f : Addr} {fd : FuncData} (n : Nat) (F : FunD K "step" "step" (defArgs s_step) (defBody s_step) (defScope s_step) (d_step.dvs K) (d_step.kws K) f fd) (C3 : CallOkP P w K mg base CX0 cls (callF fns wf n) n 4 "measured" 2 2 []) :
    FnOk P w K mg base CX0 (n + 1) f fd ["formula", "size"] (spz K cls (callF fns wf (n + 1)) 6 2) := by
  refine fn_ok (fnd := ⟨2, 2, b_step⟩) F sc_step rfl rfl rfl fun cdv A outer s H E hr => PSs.nox ?_
  have hu := hu_room hr
  exact (psz_cons (psz_ret (prz_of (by intro _; rfl) (pz_idx (Tr.opd (pz_call C3 rfl hr rfl pass0E (wE_E) (pos_cons (po_var 0) (pos_cons (po_var 1) pos_nil)))) (Tr.opd pz_int))))
  psz_nil)
theorem ok__law_draw {f : Addr} {fd : FuncData} (n : Nat) (F : FunD K "_law_draw" "_law_draw" (defArgs s__law_draw) (defBody s__law_draw) (defScope s__law_draw) (d__law_draw.dvs K) (d__law_draw.kws K) f fd) (m_len : mg "len" = none) :
    FnOk P w K mg base CX0 (n + 1) f fd ["tape", "many"] (spz K cls (callF fns wf (n + 1)) 7 2) := by
  refine fn_ok (fnd := ⟨5, 2, b__law_draw⟩) F sc__law_draw rfl rfl rfl fun cdv A outer s H E hr => PSs.nox ?_
  have hu := hu_room hr
  exact (psz_cons (psz_asg (i := 2) sc__law_draw.nd rfl (Or.inl rfl) pz_int)
  (psz_cons (psz_if (pt_cmpz hu rfl (Tr.opd (pz_idx (po_var 0) (Tr.opd pz_int))) (po_var 1))
  (psz_cons (psz_asg (i := 3) sc__law_draw.nd rfl (Or.inl rfl) pz_int)
  (psz_cons (psz_if (pt_cmpz hu rfl (Tr.opd (pz_len rfl m_len (pos_cons (Tr.opd (pz_idx (po_var 0) (Tr.opd pz_int))) pos_nil))) (Tr.opd pz_int))
  (psz_cons (psz_asg (i := 3) sc__law_draw.nd rfl (Or.inl rfl) (pz_idx (Tr.opd (pz_idx (po_var 0) (Tr.opd pz_int))) (Tr.opd (pz_bin rfl (Tr.opd (pz_idx (po_var 0) (Tr.opd pz_int))) (Tr.opd (pz_len rfl m_len (pos_cons (Tr.opd (pz_idx (po_var 0) (Tr.opd pz_int))) pos_nil)))))))
  psz_nil)
  psz_nil)
  (psz_cons (psz_if (PW.pt (pw_orz (pt_cmpz hu rfl (Tr.opd (pz_idx (po_var 0) (Tr.opd pz_int))) (Tr.opd (pz_len rfl m_len (pos_cons (Tr.opd (pz_idx (po_var 0) (Tr.opd pz_int))) pos_nil)))) (pw_one_or (pt_cmpz hu rfl (po_var 3) (Tr.opd (pz_bin rfl (Tr.opd pz_int) (Tr.opd pz_int)))))))
  (psz_cons (psz_asg (i := 3) sc__law_draw.nd rfl (Or.inl rfl) (pz_bin rfl (Tr.opd (pz_bin rfl (po_var 3) (Tr.opd (pz_bin rfl (Tr.opd pz_int) (Tr.opd (pz_idx (po_var 0) (Tr.opd pz_int))))))) (po_var 2)))
  (psz_cons (psz_asg (i := 3) sc__law_draw.nd rfl (Or.inl rfl) (pz_bin rfl (Tr.opd (pz_bin rfl (Tr.opd (pz_bin rfl (Tr.opd (pz_bin rfl (po_var 3) (po_var 3))) (Tr.opd (pz_bin rfl (Tr.opd pz_int) (po_var 3))))) (Tr.opd pz_int))) (po_var 2)))
  (psz_cons (psz_asg (i := 3) sc__law_draw.nd rfl (Or.inl rfl) (pz_bin rfl (Tr.opd (pz_bin rfl (Tr.opd (pz_bin rfl (po_var 3) (po_var 3))) (Tr.opd pz_int))) (po_var 2)))
  psz_nil)))
  psz_nil)
  (psz_cons (psz_setI (pz_bin rfl (Tr.opd (pz_idx (po_var 0) (Tr.opd pz_int))) (Tr.opd pz_int)) (po_var 0) pz_int)
  (psz_cons (psz_setI (pz_var 3) (po_var 0) pz_int)
  psz_nil)))))
  psz_nil)
  (psz_cons (psz_asg (i := 4) sc__law_draw.nd rfl (Or.inl rfl) (pz_bin rfl (Tr.opd (pz_idx (po_var 0) (Tr.opd pz_int))) (po_var 1)))
  (psz_cons (psz_setI (pz_bin rfl (Tr.opd (pz_idx (po_var 0) (Tr.opd pz_int))) (po_var 1)) (po_var 0) pz_int)
  (psz_cons (psz_ret (prz_var 4))
  psz_nil)))))
theorem ok__law_whole {f : Addr} {fd : FuncData} (n : Nat) (F : FunD K "_law_whole" "_law_whole" (defArgs s__law_whole) (defBody s__law_whole) (defScope s__law_whole) (d__law_whole.dvs K) (d__law_whole.kws K) f fd) (m_bool : mg "bool" = none) (m_int : mg "int" = none) (m_isinstance : mg "isinstance" = none) :
    FnOk P w K mg base CX0 (n + 1) f fd ["item"] (spz K cls (callF fns wf (n + 1)) 8 1) := by
  refine fn_ok (fnd := ⟨1, 1, b__law_whole⟩) F sc__law_whole rfl rfl rfl fun cdv A outer s H E hr => PSs.nox ?_
  have hu := hu_room hr
  exact (psz_cons (psz_ret (prz_of (by intro _; rfl) (pz_and (pz_isi rfl m_isinstance (po_var 0) (pty rfl m_int)) (pz_one (pz_not (pz_isi rfl m_isinstance (po_var 0) (pty rfl m_bool)))))))
  psz_nil)
theorem ok__law_within {f : Addr} {fd : FuncData} (n : Nat) (F : FunD K "_law_within" "_law_within" (defArgs s__law_within) (defBody s__law_within) (defScope s__law_within) (d__law_within.dvs K) (d__law_within.kws K) f fd) (C5 : CallOkP P w K mg base CX0 cls (callF fns wf n) n 8 "_law_whole" 1 1 []) :
    FnOk P w K mg base CX0 (n + 1) f fd ["item", "low", "high"] (spz K cls (callF fns wf (n + 1)) 9 3) := by
  refine fn_ok (fnd := ⟨3, 3, b__law_within⟩) F sc__law_within rfl rfl rfl fun cdv A outer s H E hr => PSs.nox ?_
  have hu := hu_room hr
  exact (psz_cons (psz_ret (prz_of (by intro _; rfl) (pz_and (pz_call C5 rfl hr rfl pass0E (wE_E) (pos_cons (po_var 0) pos_nil)) (pz_one (pz_cmp2 hu rfl rfl (pz_var 1) (pz_var 0) (pz_var 2))))))
  psz_nil)
theorem ok__law_like {f : Addr} {fd : FuncData} (n : Nat) (F : FunD K "_law_like" "_law_like" (defArgs s__law_like) (defBody s__law_like) (defScope s__law_like) (d__law_like.dvs K) (d__law_like.kws K) f fd) (m_bool : mg "bool" = none) (m_isinstance : mg "isinstance" = none) (m_len : mg "len" = none) (m_list : mg "list" = none) (m_range : mg "range" = none) (m_tuple : mg "tuple" = none) (C6 : CallOkP P w K mg base CX0 cls (callF fns wf n) n 10 "_law_like" 2 2 []) :
    FnOk P w K mg base CX0 (n + 1) f fd ["one", "two"] (spz K cls (callF fns wf (n + 1)) 10 2) := by
  refine fn_ok (fnd := ⟨3, 2, b__law_like⟩) F sc__law_like rfl rfl rfl fun cdv A outer s H E hr => PSs.nox ?_
  have hu := hu_room hr
  exact (psz_cons (psz_if (pt_of (pz_isiT rfl m_isinstance (po_var 0) (.cons (pty rfl m_list) (.cons (pty rfl m_tuple) .nil rfl) rfl)))
  (psz_cons (psz_if (PW.pt (pw_orz (pt_cmpz hu rfl (Tr.opd (pz_isi rfl m_isinstance (po_var 0) (pty rfl m_list))) (Tr.opd (pz_isi rfl m_isinstance (po_var 1) (pty rfl m_list)))) (pw_one_or (pt_cmpz hu rfl (Tr.opd (pz_isi rfl m_isinstance (po_var 0) (pty rfl m_tuple))) (Tr.opd (pz_isi rfl m_isinstance (po_var 1) (pty rfl m_tuple)))))))
  (psz_cons (psz_ret (prz_of (by intro _; rfl) pz_bl))
  psz_nil)
  psz_nil)
  (psz_cons (psz_if (pt_cmpz hu rfl (Tr.opd (pz_len rfl m_len (pos_cons (po_var 0) pos_nil))) (Tr.opd (pz_len rfl m_len (pos_cons (po_var 1) pos_nil))))
  (psz_cons (psz_ret (prz_of (by intro _; rfl) pz_bl))
  psz_nil)
  psz_nil)
  (psz_cons (psz_ret (prz_of (by intro _; rfl) (pz_cmp hu rfl (Tr.opd (pz_lc (own := [("k", 2)]) rfl sc__law_like.nd (piz_rng1 rfl m_range (pd_cons (pz_len rfl m_len (pos_cons (po_var 0) pos_nil)) pd_nil)) (blkOk_by (N := ["one", "two", "k"]) (sc := defScope s__law_like) (by decide +kernel)) (fun _ _ _ _ _ => (pgz_nm 2 sc__law_like.nd)) (fun _ _ _ _ _ => (ptz_one (pt_notz (pt_of (pz_call C6 rfl hr rfl pass0E (wN_E (E := E0)) (pos_cons (Tr.opd (pz_idx (po_var 0) (po_var 2))) (pos_cons (Tr.opd (pz_idx (po_var 1) (po_var 2))) pos_nil))))))) (fun _ _ _ _ _ => (pz_var 2)))) (Tr.opd (pz_lst pd_nil)))))
  psz_nil)))
  psz_nil)
  (psz_cons (psz_if (pt_of (pz_isiT rfl m_isinstance (po_var 1) (.cons (pty rfl m_list) (.cons (pty rfl m_tuple) .nil rfl) rfl)))
  (psz_cons (psz_ret (prz_of (by intro _; rfl) pz_bl))
  psz_nil)
  psz_nil)
  (psz_cons (psz_ret (prz_of (by intro _; rfl) (pz_and (pz_cmp hu rfl (Tr.opd (pz_isi rfl m_isinstance (po_var 0) (pty rfl m_bool))) (Tr.opd (pz_isi rfl m_isinstance (po_var 1) (pty rfl m_bool)))) (pz_one (pz_cmp hu rfl (po_var 0) (po_var 1))))))
  psz_nil)))
theorem ok__law_size {f : Addr} {fd : FuncData} (n : Nat) (F : FunD K "_law_size" "_law_size" (defArgs s__law_size) (defBody s__law_size) (defScope s__law_size) (d__law_size.dvs K) (d__law_size.kws K) f fd) (C7 : CallOkP P w K mg base CX0 cls (callF fns wf n) n 7 "_law_draw" 2 2 []) :
    FnOk P w K mg base CX0 (n + 1) f fd ["tape"] (spz K cls (callF fns wf (n + 1)) 11 1) := by
  refine fn_ok (fnd := ⟨1, 1, b__law_size⟩) F sc__law_size rfl rfl rfl fun cdv A outer s H E hr => PSs.nox ?_
  have hu := hu_room hr
  exact (psz_cons (psz_ret (prz_of (by intro _; rfl) (pz_bin rfl (Tr.opd pz_int) (Tr.opd (pz_call C7 rfl hr rfl pass0E (wE_E) (pos_cons (po_var 0) (pos_cons (Tr.opd pz_int) pos_nil)))))))
  psz_nil)
theorem ok__law_any {f : Addr} {fd : FuncData} (n : Nat) (F : FunD K "_law_any" "_law_any" (defArgs s__law_any) (defBody s__law_any) (defScope s__law_any) (d__law_any.dvs K) (d__law_any.kws K) f fd) (m_max : mg "max" = none) (m_range : mg "range" = none) (m_tuple : mg "tuple" = none) (C7 : CallOkP P w K mg base CX0 cls (callF fns wf n) n 7 "_law_draw" 2 2 []) (C8 : CallOkP P w K mg base CX0 cls (callF fns wf n) n 12 "_law_any" 2 2 []) :
    FnOk P w K mg base CX0 (n + 1) f fd ["tape", "deep"] (spz K cls (callF fns wf (n + 1)) 12 2) := by
  refine fn_ok (fnd := ⟨5, 2, b__law_any⟩) F sc__law_any rfl rfl rfl fun cdv A outer s H E hr => PSs.nox ?_
  have hu := hu_room hr
  exact (psz_cons (psz_asg (i := 2) sc__law_any.nd rfl (Or.inl rfl) (pz_call C7 rfl hr rfl pass0E (wE_E) (pos_cons (po_var 0) (pos_cons (Tr.opd pz_int) pos_nil))))
  (psz_cons (psz_if (PW.pt (pw_andz (pt_cmpz hu rfl (po_var 2) (Tr.opd pz_int)) (pw_one_and (pt_cmpz hu rfl (po_var 1) (Tr.opd pz_int)))))
  (psz_cons (psz_asgLc (own := [("k", 4)]) rfl sc__law_any.nd rfl rfl (sw_true rfl rfl rfl (by decide +kernel)) (piz_rng1 rfl m_range (pd_cons (pz_call C7 rfl hr rfl pass0E (wE_E) (pos_cons (po_var 0) (pos_cons (Tr.opd pz_int) pos_nil))) pd_nil)) (blkOk_by (N := ["tape", "deep", "way", "some", "k"]) (sc := defScope s__law_any) (by decide +kernel)) (fun _ _ _ _ _ => (pgz_nm 4 sc__law_any.nd)) (fun _ _ _ _ _ => ptz_nil) (fun _ _ _ _ _ => (pz_call C8 rfl hr rfl pass0E (wN_E (E := E0)) (pos_cons (po_var 0) (pos_cons (Tr.opd (pz_bin rfl (po_var 1) (Tr.opd pz_int))) pos_nil)))))
  (psz_cons (psz_ret (prz_of (by intro _; rfl) (pz_idx (Tr.opd (pz_lst (pd_cons (pz_var 3) (pd_cons (pz_tuple rfl m_tuple (pos_cons (po_var 3) pos_nil)) (pd_cons (pz_tuple rfl m_tuple (pos_cons (po_var 3) pos_nil)) (pd_cons (pz_tuple rfl m_tuple (pos_cons (po_var 3) pos_nil)) pd_nil)))))) (po_var 2))))
  psz_nil))
  psz_nil)
  (psz_cons (psz_if (pt_cmpz hu rfl (po_var 2) (Tr.opd pz_int))
  (psz_cons (psz_ret (prz_of (by intro _; rfl) (pz_idx (Tr.opd (pz_lst (pd_cons (pz_bin rfl (Tr.opd (pz_call C7 rfl hr rfl pass0E (wE_E) (pos_cons (po_var 0) (pos_cons (Tr.opd pz_int) pos_nil)))) (Tr.opd pz_int)) (pd_cons (pz_call C7 rfl hr rfl pass0E (wE_E) (pos_cons (po_var 0) (pos_cons (Tr.opd (pz_bin rfl (Tr.opd pz_int) (Tr.opd pz_int))) pos_nil))) (pd_cons pz_int (pd_cons pz_int pd_nil)))))) (Tr.opd (pz_max2 rfl rfl m_max (pos_cons (Tr.opd pz_int) (pos_cons (Tr.opd (pz_bin rfl (po_var 2) (Tr.opd pz_int))) pos_nil)))))))
  psz_nil)
  psz_nil)
  (psz_cons (psz_asg (i := 3) sc__law_any.nd rfl (Or.inl rfl) (pz_lst (pd_cons pz_str (pd_cons pz_str (pd_cons pz_str (pd_cons pz_str (pd_cons pz_str (pd_cons pz_str (pd_cons pz_str (pd_cons pz_str (pd_cons pz_str (pd_cons pz_str (pd_cons pz_str (pd_cons pz_str (pd_cons pz_str (pd_cons pz_str (pd_cons pz_str pd_nil)))))))))))))))))
  (psz_cons (psz_ret (prz_of (by intro _; rfl) (pz_idx (Tr.opd (pz_lst (pd_cons pz_bl (pd_cons pz_bl (pd_cons pz_non (pd_cons (pz_idx (po_var 3) (Tr.opd (pz_call C7 rfl hr rfl pass0E (wE_E) (pos_cons (po_var 0) (pos_cons (Tr.opd pz_int) pos_nil))))) (pd_cons (pz_tup pd_nil) pd_nil))))))) (Tr.opd (pz_bin rfl (po_var 2) (Tr.opd pz_int))))))
  psz_nil)))))
theorem ok__law_spoilt {f : Addr} {fd : FuncData} (n : Nat) (F : FunD K "_law_spoilt" "_law_spoilt" (defArgs s__law_spoilt) (defBody s__law_spoilt) (defScope s__law_spoilt) (d__law_spoilt.dvs K) (d__law_spoilt.kws K) f fd) (m_isinstance : mg "isinstance" = none) (m_len : mg "len" = none) (m_list : mg "list" = none) (m_str : mg "str" = none) (m_tuple : mg "tuple" = none) (C7 : CallOkP P w K mg base CX0 cls (callF fns wf n) n 7 "_law_draw" 2 2 []) (C9 : CallOkP P w K mg base CX0 cls (callF fns wf n) n 13 "_law_spoilt" 2 2 []) (C8 : CallOkP P w K mg base CX0 cls (callF fns wf n) n 12 "_law_any" 2 2 []) (C5 : CallOkP P w K mg base CX0 cls (callF fns wf n) n 8 "_law_whole" 1 1 []) :
    FnOk P w K mg base CX0 (n + 1) f fd ["tape", "item"] (spz K cls (callF fns wf (n + 1)) 13 2) := by
  refine fn_ok (fnd := ⟨6, 2, b__law_spoilt⟩) F sc__law_spoilt rfl rfl rfl fun cdv A outer s H E hr => PSs.nox ?_
  have hu := hu_room hr
  exact (psz_cons (psz_if (PW.pt (pw_andz (pt_of (pz_isiT rfl m_isinstance (po_var 1) (.cons (pty rfl m_tuple) (.cons (pty rfl m_list) .nil rfl) rfl))) (pw_andz (pt_cmpz hu rfl (Tr.opd (pz_len rfl m_len (pos_cons (po_var 1) pos_nil))) (Tr.opd pz_int)) (pw_one_and (pt_cmpz hu rfl (Tr.opd (pz_call C7 rfl hr rfl pass0E (wE_E) (pos_cons (po_var 0) (pos_cons (Tr.opd pz_int) pos_nil)))) (Tr.opd pz_int))))))
  (psz_cons (psz_asg (i := 2) sc__law_spoilt.nd rfl (Or.inl rfl) (pz_call C7 rfl hr rfl pass0E (wE_E) (pos_cons (po_var 0) (pos_cons (Tr.opd (pz_len rfl m_len (pos_cons (po_var 1) pos_nil))) pos_nil))))
  (psz_cons (psz_asg (i := 3) sc__law_spoilt.nd rfl (Or.inl rfl) (pz_list rfl m_list (pos_cons (po_var 1) pos_nil)))
  (psz_cons (psz_asg (i := 4) sc__law_spoilt.nd rfl (Or.inl rfl) (pz_call C7 rfl hr rfl pass0E (wE_E) (pos_cons (po_var 0) (pos_cons (Tr.opd pz_int) pos_nil))))
  (psz_cons (psz_if (pt_cmpz hu rfl (po_var 4) (Tr.opd pz_int))
  (psz_cons (psz_setI (pz_call C9 rfl hr rfl pass0E (wE_E) (pos_cons (po_var 0) (pos_cons (Tr.opd (pz_idx (po_var 3) (po_var 2))) pos_nil))) (po_var 3) (pz_var 2))
  psz_nil)
  (psz_cons (psz_if (pt_cmpz hu rfl (po_var 4) (Tr.opd pz_int))
  (psz_cons (psz_expr (pz_popk (pv 3) (pz_var 2)))
  psz_nil)
  (psz_cons (psz_if (pt_cmpz hu rfl (po_var 4) (Tr.opd pz_int))
  (psz_cons (psz_ins (pv 3) (pz_var 2) (pz_idx (po_var 3) (Tr.opd (pz_call C7 rfl hr rfl pass0E (wE_E) (pos_cons (po_var 0) (pos_cons (Tr.opd (pz_len rfl m_len (pos_cons (po_var 3) pos_nil))) pos_nil))))))
  psz_nil)
  (psz_cons (psz_if (pt_cmpz hu rfl (po_var 4) (Tr.opd pz_int))
  (psz_cons (psz_asg (i := 3) sc__law_spoilt.nd rfl (Or.inl rfl) (pz_rev (po_var 3)))
  psz_nil)
  (psz_cons (psz_ins (pv 3) (pz_var 2) (pz_call C8 rfl hr rfl pass0E (wE_E) (pos_cons (po_var 0) (pos_cons (Tr.opd pz_int) pos_nil))))
  psz_nil))
  psz_nil))
  psz_nil))
  psz_nil))
  (psz_cons (psz_ret (prz_of (by intro _; rfl) (pz_ife (pt_of (pz_isi rfl m_isinstance (po_var 1) (pty rfl m_tuple))) (pz_tuple rfl m_tuple (pos_cons (po_var 3) pos_nil)) (pz_var 3))))
  psz_nil)))))
  psz_nil)
  (psz_cons (psz_if (PW.pt (pw_andz (pt_of (pz_call C5 rfl hr rfl pass0E (wE_E) (pos_cons (po_var 1) pos_nil))) (pw_one_and (pt_cmpz hu rfl (Tr.opd (pz_call C7 rfl hr rfl pass0E (wE_E) (pos_cons (po_var 0) (pos_cons (Tr.opd pz_int) pos_nil)))) (Tr.opd pz_int)))))
  (psz_cons (psz_ret (prz_of (by intro _; rfl) (pz_bin rfl (po_var 1) (Tr.opd (pz_idx (Tr.opd (pz_lst (pd_cons pz_int (pd_cons (pz_neg pz_int) (pd_cons pz_int (pd_cons (pz_neg (pz_var 1)) (pd_cons (pz_bin rfl (Tr.opd (pz_neg pz_int)) (po_var 1)) (pd_cons (pz_bin rfl (Tr.opd pz_int) (Tr.opd pz_int)) pd_nil)))))))) (Tr.opd (pz_call C7 rfl hr rfl pass0E (wE_E) (pos_cons (po_var 0) (pos_cons (Tr.opd pz_int) pos_nil)))))))))
  psz_nil)
  psz_nil)
  (psz_cons (psz_if (PW.pt (pw_andz (pt_of (pz_isi rfl m_isinstance (po_var 1) (pty rfl m_str))) (pw_one_and (pt_cmpz hu rfl (Tr.opd (pz_call C7 rfl hr rfl pass0E (wE_E) (pos_cons (po_var 0) (pos_cons (Tr.opd pz_int) pos_nil)))) (Tr.opd pz_int)))))
  (psz_cons (psz_asg (i := 5) sc__law_spoilt.nd rfl (Or.inl rfl) (pz_lst (pd_cons pz_str (pd_cons pz_str (pd_cons pz_str (pd_cons pz_str (pd_cons pz_str (pd_cons pz_str (pd_cons pz_str (pd_cons pz_str (pd_cons pz_str (pd_cons pz_str (pd_cons (pz_bin rfl (po_var 1) (Tr.opd pz_str)) (pd_cons pz_str pd_nil))))))))))))))
  (psz_cons (psz_ret (prz_of (by intro _; rfl) (pz_idx (po_var 5) (Tr.opd (pz_call C7 rfl hr rfl pass0E (wE_E) (pos_cons (po_var 0) (pos_cons (Tr.opd pz_int) pos_nil)))))))
  psz_nil))
  psz_nil)
  (psz_cons (psz_if (PW.pt (pw_andz (pt_of (pz_isiT rfl m_isinstance (po_var 1) (.cons (pty rfl m_tuple) (.cons (pty rfl m_list) .nil rfl) rfl))) (pw_one_and (pt_cmpz hu rfl (Tr.opd (pz_call C7 rfl hr rfl pass0E (wE_E) (pos_cons (po_var 0) (pos_cons (Tr.opd pz_int) pos_nil)))) (Tr.opd pz_int)))))
  (psz_cons (psz_ret (prz_of (by intro _; rfl) (pz_ife (pt_of (pz_isi rfl m_isinstance (po_var 1) (pty rfl m_tuple))) (pz_list rfl m_list (pos_cons (po_var 1) pos_nil)) (pz_tuple rfl m_tuple (pos_cons (po_var 1) pos_nil)))))
  psz_nil)
  psz_nil)
  (psz_cons (psz_ret (prz_of (by intro _; rfl) (pz_call C8 rfl hr rfl pass0E (wE_E) (pos_cons (po_var 0) (pos_cons (Tr.opd pz_int) pos_nil)))))
  psz_nil)))))
theorem ok__law_both_steps {f : Addr} {fd : FuncData} (n : Nat) (F : FunD K "_law_both_steps" "_law_both_steps" (defArgs s__law_both_steps) (defBody s__law_both_steps) (defScope s__law_both_steps) (d__law_both_steps.dvs K) (d__law_both_steps.kws K) f fd) (C7 : CallOkP P w K mg base CX0 cls (callF fns wf n) n 7 "_law_draw" 2 2 []) :
    FnOk P w K mg base CX0 (n + 1) f fd ["tape", "one", "two", "big"] (spz K cls (callF fns wf (n + 1)) 14 4) := by
  refine fn_ok (fnd := ⟨4, 4, b__law_both_steps⟩) F sc__law_both_steps rfl rfl rfl fun cdv A outer s H E hr => PSs.nox ?_
  have hu := hu_room hr
  exact (psz_cons (psz_if (PW.pt (pw_orz (pt_cmpz hu rfl (Tr.opd (pz_bin rfl (Tr.opd (pz_idx (po_var 1) (Tr.opd pz_int))) (Tr.opd (pz_idx (po_var 2) (Tr.opd pz_int))))) (po_var 3)) (pw_one_or (PW.pt (pw_andz (pt_cmpz hu rfl (Tr.opd (pz_bin rfl (Tr.opd (pz_idx (po_var 1) (Tr.opd pz_int))) (Tr.opd (pz_idx (po_var 2) (Tr.opd pz_int))))) (po_var 3)) (pw_one_and (pt_cmpz hu rfl (Tr.opd (pz_call C7 rfl hr rfl pass0E (wE_E) (pos_cons (po_var 0) (pos_cons (Tr.opd pz_int) pos_nil)))) (Tr.opd pz_int))))))))
  (psz_cons (psz_ret (prz_of (by intro _; rfl) (pz_tup (pd_cons (pz_tup (pd_cons pz_str (pd_cons (pz_idx (po_var 1) (Tr.opd pz_int)) (pd_cons (pz_idx (po_var 2) (Tr.opd pz_int)) pd_nil)))) (pd_cons (pz_bin rfl (Tr.opd (pz_idx (po_var 1) (Tr.opd pz_int))) (Tr.opd (pz_idx (po_var 2) (Tr.opd pz_int)))) pd_nil)))))
  psz_nil)
  psz_nil)
  (psz_cons (psz_ret (prz_of (by intro _; rfl) (pz_tup (pd_cons (pz_tup (pd_cons pz_str (pd_cons (pz_idx (po_var 1) (Tr.opd pz_int)) (pd_cons (pz_idx (po_var 2) (Tr.opd pz_int)) pd_nil)))) (pd_cons (pz_bin rfl (Tr.opd (pz_bin rfl (Tr.opd (pz_idx (po_var 1) (Tr.opd pz_int))) (Tr.opd (pz_idx (po_var 2) (Tr.opd pz_int))))) (po_var 3)) pd_nil)))))
  psz_nil))
theorem ok__law_tree {f : Addr} {fd : FuncData} (n : Nat) (F : FunD K "_law_tree" "_law_tree" (defArgs s__law_tree) (defBody s__law_tree) (defScope s__law_tree) (d__law_tree.dvs K) (d__law_tree.kws K) f fd) (C7 : CallOkP P w K mg base CX0 cls (callF fns wf n) n 7 "_law_draw" 2 2 []) (C10 : CallOkP P w K mg base CX0 cls (callF fns wf n) n 15 "_law_tree" 3 3 []) (C11 : CallOkP P w K mg base CX0 cls (callF fns wf n) n 14 "_law_both_steps" 4 4 []) :
    FnOk P w K mg base CX0 (n + 1) f fd ["tape", "big", "deep"] (spz K cls (callF fns wf (n + 1)) 15 3) := by
  refine fn_ok (fnd := ⟨4, 3, b__law_tree⟩) F sc__law_tree rfl rfl rfl fun cdv A outer s H E hr => PSs.nox ?_
  have hu := hu_room hr
  exact (psz_cons (psz_if (PW.pt (pw_orz (pt_cmpz hu rfl (po_var 2) (Tr.opd pz_int)) (pw_one_or (pt_cmpz hu rfl (Tr.opd (pz_call C7 rfl hr rfl pass0E (wE_E) (pos_cons (po_var 0) (pos_cons (Tr.opd pz_int) pos_nil)))) (Tr.opd pz_int)))))
  (psz_cons (psz_ret (prz_of (by intro _; rfl) (pz_tup (pd_cons (pz_tup (pd_cons pz_str (pd_cons (pz_call C7 rfl hr rfl pass0E (wE_E) (pos_cons (po_var 0) (pos_cons (Tr.opd (pz_idx (Tr.opd (pz_lst (pd_cons pz_int (pd_cons pz_int pd_nil)))) (Tr.opd (pz_bin rfl (Tr.opd (pz_call C7 rfl hr rfl pass0E (wE_E) (pos_cons (po_var 0) (pos_cons (Tr.opd pz_int) pos_nil)))) (Tr.opd pz_int))))) pos_nil))) pd_nil))) (pd_cons pz_int pd_nil)))))
  psz_nil)
  psz_nil)
  (psz_cons (psz_asg (i := 3) sc__law_tree.nd rfl (Or.inl rfl) (pz_call C10 rfl hr rfl pass0E (wE_E) (pos_cons (po_var 0) (pos_cons (po_var 1) (pos_cons (Tr.opd (pz_bin rfl (po_var 2) (Tr.opd pz_int))) pos_nil)))))
  (psz_cons (psz_ret (prz_of (by intro _; rfl) (pz_call C11 rfl hr rfl pass0E (wE_E) (pos_cons (po_var 0) (pos_cons (po_var 3) (pos_cons (Tr.opd (pz_call C10 rfl hr rfl pass0E (wE_E) (pos_cons (po_var 0) (pos_cons (po_var 1) (pos_cons (Tr.opd (pz_bin rfl (po_var 2) (Tr.opd pz_int))) pos_nil))))) (pos_cons (po_var 1) pos_nil)))))))
  psz_nil)))
theorem ok__law_chain {f : Addr} {fd : FuncData} (n : Nat) (F : FunD K "_law_chain" "_law_chain" (defArgs s__law_chain) (defBody s__law_chain) (defScope s__law_chain) (d__law_chain.dvs K) (d__law_chain.kws K) f fd) (m_range : mg "range" = none) (C10 : CallOkP P w K mg base CX0 cls (callF fns wf n) n 15 "_law_tree" 3 3 []) (C7 : CallOkP P w K mg base CX0 cls (callF fns wf n) n 7 "_law_draw" 2 2 []) (C11 : CallOkP P w K mg base CX0 cls (callF fns wf n) n 14 "_law_both_steps" 4 4 []) :
    FnOk P w K mg base CX0 (n + 1) f fd ["tape", "big", "many"] (spz K cls (callF fns wf (n + 1)) 16 3) := by
  refine fn_ok (fnd := ⟨6, 3, b__law_chain⟩) F sc__law_chain rfl rfl rfl fun cdv A outer s H E hr => PSs.nox ?_
  have hu := hu_room hr
  exact (psz_cons (psz_asg (i := 3) sc__law_chain.nd rfl (Or.inl rfl) (pz_call C10 rfl hr rfl pass0E (wE_E) (pos_cons (po_var 0) (pos_cons (po_var 1) (pos_cons (Tr.opd pz_int) pos_nil)))))
  (psz_cons (psz_for PassesOwn.never rfl (piz_rng1 rfl m_range (pd_cons (pz_bin rfl (po_var 2) (Tr.opd pz_int)) pd_nil)) (pgz_nm 4 sc__law_chain.nd)
  (psz_cons (psz_asg (i := 5) sc__law_chain.nd rfl (Or.inl rfl) (pz_call C10 rfl hr rfl pass0E (wE_E) (pos_cons (po_var 0) (pos_cons (po_var 1) (pos_cons (Tr.opd pz_int) pos_nil)))))
  (psz_cons (psz_if (pt_cmpz hu rfl (Tr.opd (pz_call C7 rfl hr rfl pass0E (wE_E) (pos_cons (po_var 0) (pos_cons (Tr.opd pz_int) pos_nil)))) (Tr.opd pz_int))
  (psz_cons (psz_asg (i := 3) sc__law_chain.nd rfl (Or.inl rfl) (pz_call C11 rfl hr rfl pass0E (wE_E) (pos_cons (po_var 0) (pos_cons (po_var 3) (pos_cons (po_var 5) (pos_cons (po_var 1) pos_nil))))))
  psz_nil)
  (psz_cons (psz_asg (i := 3) sc__law_chain.nd rfl (Or.inl rfl) (pz_call C11 rfl hr rfl pass0E (wE_E) (pos_cons (po_var 0) (pos_cons (po_var 5) (pos_cons (po_var 3) (pos_cons (po_var 1) pos_nil))))))
  psz_nil))
  psz_nil)))
  (psz_cons (psz_ret (prz_var 3))
  psz_nil)))
theorem ok__law_formula {f : Addr} {fd : FuncData} (n : Nat) (F : FunD K "_law_formula" "_law_formula" (defArgs s__law_formula) (defBody s__law_formula) (defScope s__law_formula) (d__law_formula.dvs K) (d__law_formula.kws K) f fd) (C7 : CallOkP P w K mg base CX0 cls (callF fns wf n) n 7 "_law_draw" 2 2 []) (C12 : CallOkP P w K mg base CX0 cls (callF fns wf n) n 16 "_law_chain" 3 3 []) (C10 : CallOkP P w K mg base CX0 cls (callF fns wf n) n 15 "_law_tree" 3 3 []) :
    FnOk P w K mg base CX0 (n + 1) f fd ["tape", "big"] (spz K cls (callF fns wf (n + 1)) 17 2) := by
  refine fn_ok (fnd := ⟨2, 2, b__law_formula⟩) F sc__law_formula rfl rfl rfl fun cdv A outer s H E hr => PSs.nox ?_
  have hu := hu_room hr
  exact (psz_cons (psz_if (pt_cmpz hu rfl (Tr.opd (pz_call C7 rfl hr rfl pass0E (wE_E) (pos_cons (po_var 0) (pos_cons (Tr.opd pz_int) pos_nil)))) (Tr.opd pz_int))
  (psz_cons (psz_ret (prz_of (by intro _; rfl) (pz_call C12 rfl hr rfl pass0E (wE_E) (pos_cons (po_var 0) (pos_cons (po_var 1) (pos_cons (Tr.opd (pz_bin rfl (Tr.opd pz_int) (Tr.opd (pz_call C7 rfl hr rfl pass0E (wE_E) (pos_cons (po_var 0) (pos_cons (Tr.opd (pz_bin rfl (Tr.opd pz_int) (po_var 1))) pos_nil)))))) pos_nil))))))
  psz_nil)
  psz_nil)
  (psz_cons (psz_ret (prz_of (by intro _; rfl) (pz_call C10 rfl hr rfl pass0E (wE_E) (pos_cons (po_var 0) (pos_cons (po_var 1) (pos_cons (Tr.opd (pz_call C7 rfl hr rfl pass0E (wE_E) (pos_cons (po_var 0) (pos_cons (Tr.opd (pz_bin rfl (po_var 1) (Tr.opd pz_int))) pos_nil)))) pos_nil))))))
  psz_nil))
theorem ok__law_measure {f : Addr} {fd : FuncData} (n : Nat) (F : FunD K "_law_measure" "_law_measure" (defArgs s__law_measure) (defBody s__law_measure) (defScope s__law_measure) (d__law_measure.dvs K) (d__law_measure.kws K) f fd) (m_isinstance : mg "isinstance" = none) (m_len : mg "len" = none) (m_str : mg "str" = none) (m_tuple : mg "tuple" = none) (C13 : CallOkP P w K mg base CX0 cls (callF fns wf n) n 9 "_law_within" 3 3 []) (C14 : CallOkP P w K mg base CX0 cls (callF fns wf n) n 18 "_law_measure" 2 2 []) (C15 : CallOkP P w K mg base CX0 cls (callF fns wf n) n 19 "_law_measured" 4 4 []) :
    FnOk P w K mg base CX0 (n + 1) f fd ["item", "big"] (spz K cls (callF fns wf (n + 1)) 18 2) := by
  refine fn_ok (fnd := ⟨4, 2, b__law_measure⟩) F sc__law_measure rfl rfl rfl fun cdv A outer s H E hr => PSs.nox ?_
  have hu := hu_room hr
  exact (psz_cons (psz_if (PW.pt (pw_orz (pt_notz (pt_of (pz_isi rfl m_isinstance (po_var 0) (pty rfl m_tuple)))) (pw_orz (pt_cmpz hu rfl (Tr.opd (pz_len rfl m_len (pos_cons (po_var 0) pos_nil))) (Tr.opd (pz_tup (pd_cons pz_int (pd_cons pz_int pd_nil))))) (pw_one_or (pt_notz (pt_of (pz_isi rfl m_isinstance (Tr.opd (pz_idx (po_var 0) (Tr.opd pz_int))) (pty rfl m_str))))))))
  (psz_cons (psz_ret (prz_of (by intro _; rfl) pz_non))
  psz_nil)
  psz_nil)
  (psz_cons (psz_if (pt_cmpz hu rfl (Tr.opd (pz_len rfl m_len (pos_cons (po_var 0) pos_nil))) (Tr.opd pz_int))
  (psz_cons (psz_ret (prz_of (by intro _; rfl) (pz_ife (PW.pt (pw_andz (pt_cmpz hu rfl (Tr.opd (pz_idx (po_var 0) (Tr.opd pz_int))) (Tr.opd pz_str)) (pw_one_and (pt_of (pz_call C13 rfl hr rfl pass0E (wE_E) (pos_cons (Tr.opd (pz_idx (po_var 0) (Tr.opd pz_int))) (pos_cons (Tr.opd pz_int) (pos_cons (Tr.opd pz_int) pos_nil)))))))) (pz_tup (pd_cons pz_int (pd_cons pz_int (pd_cons pz_int pd_nil)))) pz_non)))
  psz_nil)
  psz_nil)
  (psz_cons (psz_asg (i := 2) sc__law_measure.nd rfl (Or.inl rfl) (pz_call C14 rfl hr rfl pass0E (wE_E) (pos_cons (Tr.opd (pz_idx (po_var 0) (Tr.opd pz_int))) (pos_cons (po_var 1) pos_nil))))
  (psz_cons (psz_asg (i := 3) sc__law_measure.nd rfl (Or.inl rfl) (pz_call C14 rfl hr rfl pass0E (wE_E) (pos_cons (Tr.opd (pz_idx (po_var 0) (Tr.opd pz_int))) (pos_cons (po_var 1) pos_nil))))
  (psz_cons (psz_if (PW.pt (pw_orz (pt_isN (po_var 2)) (pw_orz (pt_isN (po_var 3)) (pw_one_or (pt_cmpz hu rfl (Tr.opd (pz_idx (po_var 0) (Tr.opd pz_int))) (Tr.opd (pz_tup (pd_cons pz_str (pd_cons pz_str pd_nil)))))))))
  (psz_cons (psz_ret (prz_of (by intro _; rfl) pz_non))
  psz_nil)
  psz_nil)
  (psz_cons (psz_ret (prz_of (by intro _; rfl) (pz_call C15 rfl hr rfl pass0E (wE_E) (pos_cons (Tr.opd (pz_idx (po_var 0) (Tr.opd pz_int))) (pos_cons (po_var 2) (pos_cons (po_var 3) (pos_cons (po_var 1) pos_nil)))))))
  psz_nil))))))
theorem ok__law_measured {f : Addr} {fd : FuncData} (n : Nat) (F : FunD K "_law_measured" "_law_measured" (defArgs s__law_measured) (defBody s__law_measured) (defScope s__law_measured) (d__law_measured.dvs K) (d__law_measured.kws K) f fd) (m_max : mg "max" = none) :
    FnOk P w K mg base CX0 (n + 1) f fd ["word", "one", "two", "big"] (spz K cls (callF fns wf (n + 1)) 19 4) := by
  refine fn_ok (fnd := ⟨6, 4, b__law_measured⟩) F sc__law_measured rfl rfl rfl fun cdv A outer s H E hr => PSs.nox ?_
  have hu := hu_room hr
  exact (psz_cons (psz_asg (i := 4) sc__law_measured.nd rfl (Or.inl rfl) (pz_bin rfl (Tr.opd (pz_idx (po_var 1) (Tr.opd pz_int))) (Tr.opd (pz_idx (po_var 2) (Tr.opd pz_int)))))
  (psz_cons (psz_if (pt_cmpz hu rfl (po_var 0) (Tr.opd pz_str))
  (psz_cons (psz_asg (i := 4) sc__law_measured.nd rfl (Or.inl rfl) (pz_bin rfl (po_var 4) (po_var 3)))
  psz_nil)
  psz_nil)
  (psz_cons (psz_asg (i := 5) sc__law_measured.nd rfl (Or.inl rfl) (pz_bin rfl (Tr.opd pz_int) (Tr.opd (pz_max2 rfl rfl m_max (pos_cons (Tr.opd (pz_idx (po_var 1) (Tr.opd pz_int))) (pos_cons (Tr.opd (pz_idx (po_var 2) (Tr.opd pz_int))) pos_nil))))))
  (psz_cons (psz_if (PW.pt (pw_orz (pt_cmpz hu rfl (po_var 4) (Tr.opd pz_int)) (pw_orz (pt_cmpz hu rfl (po_var 4) (po_var 3)) (pw_orz (pt_cmpz hu rfl (po_var 5) (Tr.opd pz_int)) (pw_one_or (pt_cmpz hu rfl (Tr.opd (pz_bin rfl (Tr.opd (pz_idx (po_var 1) (Tr.opd pz_int))) (Tr.opd (pz_idx (po_var 2) (Tr.opd pz_int))))) (Tr.opd (pz_bin rfl (Tr.opd pz_int) (po_var 3)))))))))
  (psz_cons (psz_ret (prz_of (by intro _; rfl) pz_non))
  psz_nil)
  psz_nil)
  (psz_cons (psz_ret (prz_of (by intro _; rfl) (pz_tup (pd_cons (pz_var 5) (pd_cons (pz_bin rfl (Tr.opd (pz_idx (po_var 1) (Tr.opd pz_int))) (Tr.opd (pz_idx (po_var 2) (Tr.opd pz_int)))) (pd_cons (pz_var 4) pd_nil))))))
  psz_nil)))))
theorem ok__law_bent {f : Addr} {fd : FuncData} (n : Nat) (F : FunD K "_law_bent" "_law_bent" (defArgs s__law_bent) (defBody s__law_bent) (defScope s__law_bent) (d__law_bent.dvs K) (d__law_bent.kws K) f fd) (C7 : CallOkP P w K mg base CX0 cls (callF fns wf n) n 7 "_law_draw" 2 2 []) (C16 : CallOkP P w K mg base CX0 cls (callF fns wf n) n 20 "_law_bent" 2 2 []) :
    FnOk P w K mg base CX0 (n + 1) f fd ["tape", "formula"] (spz K cls (callF fns wf (n + 1)) 20 2) := by
  refine fn_ok (fnd := ⟨3, 2, b__law_bent⟩) F sc__law_bent rfl rfl rfl fun cdv A outer s H E hr => PSs.nox ?_
  have hu := hu_room hr
  exact (psz_cons (psz_if (pt_cmpz hu rfl (Tr.opd (pz_idx (po_var 1) (Tr.opd pz_int))) (Tr.opd pz_str))
  (psz_cons (psz_ret (prz_var 1))
  psz_nil)
  psz_nil)
  (psz_cons (psz_asg (i := 2) sc__law_bent.nd rfl (Or.inl rfl) (pz_ife (pt_cmpz hu rfl (Tr.opd (pz_call C7 rfl hr rfl pass0E (wE_E) (pos_cons (po_var 0) (pos_cons (Tr.opd pz_int) pos_nil)))) (Tr.opd pz_int)) (pz_idx (po_var 1) (Tr.opd pz_int)) (pz_idx (Tr.opd (pz_lst (pd_cons pz_str (pd_cons pz_str pd_nil)))) (Tr.opd (pz_call C7 rfl hr rfl pass0E (wE_E) (pos_cons (po_var 0) (pos_cons (Tr.opd pz_int) pos_nil)))))))
  (psz_cons (psz_ret (prz_of (by intro _; rfl) (pz_tup (pd_cons (pz_var 2) (pd_cons (pz_call C16 rfl hr rfl pass0E (wE_E) (pos_cons (po_var 0) (pos_cons (Tr.opd (pz_idx (po_var 1) (Tr.opd pz_int))) pos_nil))) (pd_cons (pz_call C16 rfl hr rfl pass0E (wE_E) (pos_cons (po_var 0) (pos_cons (Tr.opd (pz_idx (po_var 1) (Tr.opd pz_int))) pos_nil))) pd_nil))))))
  psz_nil)))
theorem ok_law {f : Addr} {fd : FuncData} (n : Nat) (F : FunD K "law" "law" (defArgs s_law) (defBody s_law) (defScope s_law) (d_law.dvs K) (d_law.kws K) f fd) (m_list : mg "list" = none) (C17 : CallOkP P w K mg base CX0 cls (callF fns wf n) n 11 "_law_size" 1 1 []) (C18 : CallOkP P w K mg base CX0 cls (callF fns wf n) n 17 "_law_formula" 2 2 []) (C12 : CallOkP P w K mg base CX0 cls (callF fns wf n) n 16 "_law_chain" 3 3 []) (C11 : CallOkP P w K mg base CX0 cls (callF fns wf n) n 14 "_law_both_steps" 4 4 []) (C14 : CallOkP P w K mg base CX0 cls (callF fns wf n) n 18 "_law_measure" 2 2 []) (C16 : CallOkP P w K mg base CX0 cls (callF fns wf n) n 20 "_law_bent" 2 2 []) (C9 : CallOkP P w K mg base CX0 cls (callF fns wf n) n 13 "_law_spoilt" 2 2 []) (C8 : CallOkP P w K mg base CX0 cls (callF fns wf n) n 12 "_law_any" 2 2 []) (C6 : CallOkP P w K mg base CX0 cls (callF fns wf n) n 10 "_law_like" 2 2 []) (C19 : CallOkP P w K mg base CX0 cls (callF fns wf n) n 5 "is_formula" 2 1 ["size"]) (C20 : CallOkP P w K mg base CX0 cls (callF fns wf n) n 6 "step" 2 1 ["size"]) :
    FnOk P w K mg base CX0 (n + 1) f fd ["script"] (spz K cls (callF fns wf (n + 1)) 21 1) := by
  refine fn_ok (fnd := ⟨11, 1, b_law⟩) F sc_law rfl rfl rfl fun cdv A outer s H E hr => PSs.nox ?_
  have hu := hu_room hr
  exact (psz_cons (psz_asg (i := 1) sc_law.nd rfl (Or.inr rfl) (pz_shr (pz_lst (pd_cons (pz_shr (pz_list rfl m_list (pos_cons (po_var 0) pos_nil))) (pd_cons pz_int (pd_cons pz_int pd_nil))))))
  (psz_cons (psz_asg (i := 2) sc_law.nd rfl (Or.inl rfl) (pz_call C17 rfl hr rfl pass0E (wE_E) (pos_cons (po_var 1) pos_nil)))
  (psz_cons (psz_asg (i := 3) sc_law.nd rfl (Or.inl rfl) (pz_idx (Tr.opd (pz_call C18 rfl hr rfl pass0E (wE_E) (pos_cons (po_var 1) (pos_cons (po_var 2) pos_nil)))) (Tr.opd pz_int)))
  (psz_cons (psz_asg (i := 4) sc_law.nd rfl (Or.inl rfl) (pz_idx (Tr.opd (pz_call C12 rfl hr rfl pass0E (wE_E) (pos_cons (po_var 1) (pos_cons (po_var 2) (pos_cons (Tr.opd (pz_bin rfl (Tr.opd pz_int) (po_var 2))) pos_nil))))) (Tr.opd pz_int)))
  (psz_cons (psz_asg (i := 5) sc_law.nd rfl (Or.inl rfl) (pz_idx (Tr.opd (pz_call C11 rfl hr rfl pass0E (wE_E) (pos_cons (po_var 1) (pos_cons (Tr.opd (pz_tup (pd_cons (pz_var 4) (pd_cons (pz_idx (Tr.opd (pz_call C14 rfl hr rfl pass0E (wE_E) (pos_cons (po_var 4) (pos_cons (po_var 2) pos_nil)))) (Tr.opd pz_int)) pd_nil)))) (pos_cons (Tr.opd (pz_tup (pd_cons (pz_tup (pd_cons pz_str (pd_cons pz_int pd_nil))) (pd_cons pz_int pd_nil)))) (pos_cons (po_var 2) pos_nil)))))) (Tr.opd pz_int)))
  (psz_cons (psz_asg (i := 6) sc_law.nd rfl (Or.inl rfl) (pz_lst (pd_cons (pz_var 3) (pd_cons (pz_var 4) (pd_cons (pz_var 5) (pd_cons (pz_call C16 rfl hr rfl pass0E (wE_E) (pos_cons (po_var 1) (pos_cons (po_var 3) pos_nil))) (pd_cons (pz_call C16 rfl hr rfl pass0E (wE_E) (pos_cons (po_var 1) (pos_cons (po_var 4) pos_nil))) (pd_cons (pz_list rfl m_list (pos_cons (po_var 3) pos_nil)) pd_nil))))))))
  (psz_cons (psz_asgLc (own := [("thing", 8)]) rfl sc_law.nd rfl rfl (sw_true rfl rfl rfl (by decide +kernel)) (piz_seq (pz_var 6)) (blkOk_by (N := ["script", "tape", "here", "formula", "chain", "longer", "things", "more", "thing", "many", "due"]) (sc := defScope s_law) (by decide +kernel)) (fun _ _ _ _ _ => (pgz_nm 8 sc_law.nd)) (fun _ _ _ _ _ => ptz_nil) (fun _ _ _ _ _ => (pz_call C9 rfl hr rfl pass0E (wN_E (E := E0)) (pos_cons (po_var 1) (pos_cons (po_var 8) pos_nil)))))
  (psz_cons (psz_for PassesOwn.never rfl (piz_seq (pz_bin rfl (Tr.opd (pz_bin rfl (po_var 6) (po_var 7))) (Tr.opd (pz_lst (pd_cons (pz_call C9 rfl hr rfl pass0E (wE_E) (pos_cons (po_var 1) (pos_cons (Tr.opd (pz_idx (po_var 7) (Tr.opd pz_int))) pos_nil))) (pd_cons (pz_call C8 rfl hr rfl pass0E (wE_E) (pos_cons (po_var 1) (pos_cons (Tr.opd pz_int) pos_nil))) (pd_cons (pz_tup (pd_cons pz_str (pd_cons pz_int pd_nil))) (pd_cons (pz_tup (pd_cons pz_str (pd_cons pz_bl pd_nil))) pd_nil)))))))) (pgz_nm 8 sc_law.nd)
  (psz_cons (psz_for PassesOwn.never rfl (piz_seq (pz_lst (pd_cons pz_int (pd_cons pz_int pd_nil)))) (pgz_nm 9 sc_law.nd)
  (psz_cons (psz_asg (i := 10) sc_law.nd rfl (Or.inl rfl) (pz_call C14 rfl hr rfl pass0E (wE_E) (pos_cons (po_var 8) (pos_cons (po_var 9) pos_nil))))
  (psz_cons (psz_if (pt_notz (pt_of (pz_call C6 rfl hr rfl pass0E (wE_E) (pos_cons (Tr.opd (pz_callK C19 rfl rfl rfl hr rfl pass0E (wE_E) (pos_cons (po_var 8) pos_nil) (pkz_cons (po_var 9) pkz_nil))) (pos_cons (Tr.opd (pz_notN (po_var 10))) pos_nil)))))
  (psz_cons (psz_ret (prz_of (by intro _; rfl) pz_bl))
  psz_nil)
  psz_nil)
  (psz_cons (psz_if (PW.pt (pw_andz (pt_notN (po_var 10)) (pw_one_and (pt_notz (pt_of (pz_call C6 rfl hr rfl pass0E (wE_E) (pos_cons (Tr.opd (pz_callK C20 rfl rfl rfl hr rfl pass0E (wE_E) (pos_cons (po_var 8) pos_nil) (pkz_cons (po_var 9) pkz_nil))) (pos_cons (Tr.opd (pz_idx (po_var 10) (Tr.opd pz_int))) pos_nil))))))))
  (psz_cons (psz_ret (prz_of (by intro _; rfl) pz_bl))
  psz_nil)
  psz_nil)
  psz_nil))))
  psz_nil))
  (psz_cons (psz_ret (prz_of (by intro _; rfl) pz_bl))
  psz_nil)))))))))
end
/-- all defs keep what the interpreter says, calls at most so deep -/
structure All (P : Program) (w : World) (K : PySem.W.Frag) (mg : Str → Option Value) (base : Heap) (n : Nat) : Prop where
  c0 : CallOkP P w K mg base CX0 cls (callF fns wf n) n 0 "is_whole" 1 1 []
  c1 : CallOkP P w K mg base CX0 cls (callF fns wf n) n 2 "step_together" 4 4 []
  c2 : CallOkP P w K mg base CX0 cls (callF fns wf n) n 1 "is_point" 1 1 []
  c3 : CallOkP P w K mg base CX0 cls (callF fns wf n) n 4 "measured" 2 2 []
  c4 : CallOkP P w K mg base CX0 cls (callF fns wf n) n 3 "put_together" 4 4 []
  c5 : CallOkP P w K mg base CX0 cls (callF fns wf n) n 8 "_law_whole" 1 1 []
  c6 : CallOkP P w K mg base CX0 cls (callF fns wf n) n 10 "_law_like" 2 2 []
  c7 : CallOkP P w K mg base CX0 cls (callF fns wf n) n 7 "_law_draw" 2 2 []
  c8 : CallOkP P w K mg base CX0 cls (callF fns wf n) n 12 "_law_any" 2 2 []
  c9 : CallOkP P w K mg base CX0 cls (callF fns wf n) n 13 "_law_spoilt" 2 2 []
  c10 : CallOkP P w K mg base CX0 cls (callF fns wf n) n 15 "_law_tree" 3 3 []
  c11 : CallOkP P w K mg base CX0 cls (callF fns wf n) n 14 "_law_both_steps" 4 4 []
  c12 : CallOkP P w K mg base CX0 cls (callF fns wf n) n 16 "_law_chain" 3 3 []
  c13 : CallOkP P w K mg base CX0 cls (callF fns wf n) n 9 "_law_within" 3 3 []
  c14 : CallOkP P w K mg base CX0 cls (callF fns wf n) n 18 "_law_measure" 2 2 []
  c15 : CallOkP P w K mg base CX0 cls (callF fns wf n) n 19 "_law_measured" 4 4 []
  c16 : CallOkP P w K mg base CX0 cls (callF fns wf n) n 20 "_law_bent" 2 2 []
  c17 : CallOkP P w K mg base CX0 cls (callF fns wf n) n 11 "_law_size" 1 1 []
  c18 : CallOkP P w K mg base CX0 cls (callF fns wf n) n 17 "_law_formula" 2 2 []
  c19 : CallOkP P w K mg base CX0 cls (callF fns wf n) n 5 "is_formula" 2 1 ["size"]
  c20 : CallOkP P w K mg base CX0 cls (callF fns wf n) n 6 "step" 2 1 ["size"]
  c21 : CallOkP P w K mg base CX0 cls (callF fns wf n) n 21 "law" 1 1 []
theorem spz0 {P : Program} {w : World} {K : PySem.W.Frag} {mg : Str → Option Value} {base : Heap} {f : Addr} {fd : FuncData} {ps : List Str} {j np : Nat} (h : np = ps.length) : FnOk P w K mg base CX0 0 f fd ps (spz K cls (callF fns wf 0) j np) :=
  ⟨fun vs H Q E q => q.1.trans h, fun A outer s H args us vs Q E _ _ _ _ q => by obtain ⟨_, _, _, _, _, q⟩ := q; exact q.elim⟩
theorem all {P : Program} {w : World} {K : PySem.W.Frag} {mg : Str → Option Value} {base : Heap} (X : K.In base) (G0 : base.Ns mainGlobals mg) (c : He.SaysD fa fn K) : ∀ n, All P w K mg base n := by
  obtain ⟨fd_is_whole, F_is_whole⟩ := c.def_ 0 (d := d_is_whole) rfl
  have g_is_whole := He.glo_ok X G0 (c.fact 0 (f := .glo "is_whole") rfl)
  obtain ⟨fd_is_point, F_is_point⟩ := c.def_ 1 (d := d_is_point) rfl
  have g_is_point := He.glo_ok X G0 (c.fact 1 (f := .glo "is_point") rfl)
  obtain ⟨fd_step_together, F_step_together⟩ := c.def_ 2 (d := d_step_together) rfl
  have g_step_together := He.glo_ok X G0 (c.fact 2 (f := .glo "step_together") rfl)
  obtain ⟨fd_put_together, F_put_together⟩ := c.def_ 3 (d := d_put_together) rfl
  have g_put_together := He.glo_ok X G0 (c.fact 3 (f := .glo "put_together") rfl)
  obtain ⟨fd_measured, F_measured⟩ := c.def_ 4 (d := d_measured) rfl
  have g_measured := He.glo_ok X G0 (c.fact 4 (f := .glo "measured") rfl)
  obtain ⟨fd_is_formula, F_is_formula⟩ := c.def_ 5 (d := d_is_formula) rfl
  have g_is_formula := He.glo_ok X G0 (c.fact 5 (f := .glo "is_formula") rfl)
  obtain ⟨fd_step, F_step⟩ := c.def_ 6 (d := d_step) rfl
  have g_step := He.glo_ok X G0 (c.fact 6 (f := .glo "step") rfl)
  obtain ⟨fd__law_draw, F__law_draw⟩ := c.def_ 7 (d := d__law_draw) rfl
  have g__law_draw := He.glo_ok X G0 (c.fact 7 (f := .glo "_law_draw") rfl)
  obtain ⟨fd__law_whole, F__law_whole⟩ := c.def_ 8 (d := d__law_whole) rfl
  have g__law_whole := He.glo_ok X G0 (c.fact 8 (f := .glo "_law_whole") rfl)
  obtain ⟨fd__law_within, F__law_within⟩ := c.def_ 9 (d := d__law_within) rfl
  have g__law_within := He.glo_ok X G0 (c.fact 9 (f := .glo "_law_within") rfl)
  obtain ⟨fd__law_like, F__law_like⟩ := c.def_ 10 (d := d__law_like) rfl
  have g__law_like := He.glo_ok X G0 (c.fact 10 (f := .glo "_law_like") rfl)
  obtain ⟨fd__law_size, F__law_size⟩ := c.def_ 11 (d := d__law_size) rfl
  have g__law_size := He.glo_ok X G0 (c.fact 11 (f := .glo "_law_size") rfl)
  obtain ⟨fd__law_any, F__law_any⟩ := c.def_ 12 (d := d__law_any) rfl
  have g__law_any := He.glo_ok X G0 (c.fact 12 (f := .glo "_law_any") rfl)
  obtain ⟨fd__law_spoilt, F__law_spoilt⟩ := c.def_ 13 (d := d__law_spoilt) rfl
  have g__law_spoilt := He.glo_ok X G0 (c.fact 13 (f := .glo "_law_spoilt") rfl)
  obtain ⟨fd__law_both_steps, F__law_both_steps⟩ := c.def_ 14 (d := d__law_both_steps) rfl
  have g__law_both_steps := He.glo_ok X G0 (c.fact 14 (f := .glo "_law_both_steps") rfl)
  obtain ⟨fd__law_tree, F__law_tree⟩ := c.def_ 15 (d := d__law_tree) rfl
  have g__law_tree := He.glo_ok X G0 (c.fact 15 (f := .glo "_law_tree") rfl)
  obtain ⟨fd__law_chain, F__law_chain⟩ := c.def_ 16 (d := d__law_chain) rfl
  have g__law_chain := He.glo_ok X G0 (c.fact 16 (f := .glo "_law_chain") rfl)
  obtain ⟨fd__law_formula, F__law_formula⟩ := c.def_ 17 (d := d__law_formula) rfl
  have g__law_formula := He.glo_ok X G0 (c.fact 17 (f := .glo "_law_formula") rfl)
  obtain ⟨fd__law_measure, F__law_measure⟩ := c.def_ 18 (d := d__law_measure) rfl
  have g__law_measure := He.glo_ok X G0 (c.fact 18 (f := .glo "_law_measure") rfl)
  obtain ⟨fd__law_measured, F__law_measured⟩ := c.def_ 19 (d := d__law_measured) rfl
  have g__law_measured := He.glo_ok X G0 (c.fact 19 (f := .glo "_law_measured") rfl)
  obtain ⟨fd__law_bent, F__law_bent⟩ := c.def_ 20 (d := d__law_bent) rfl
  have g__law_bent := He.glo_ok X G0 (c.fact 20 (f := .glo "_law_bent") rfl)
  obtain ⟨fd_law, F_law⟩ := c.def_ 21 (d := d_law) rfl
  have g_law := He.glo_ok X G0 (c.fact 21 (f := .glo "law") rfl)
  have m_bool := He.free_ok X G0 (c.fact 22 (f := .free "bool") rfl)
  have m_int := He.free_ok X G0 (c.fact 23 (f := .free "int") rfl)
  have m_isinstance := He.free_ok X G0 (c.fact 24 (f := .free "isinstance") rfl)
  have m_len := He.free_ok X G0 (c.fact 25 (f := .free "len") rfl)
  have m_list := He.free_ok X G0 (c.fact 26 (f := .free "list") rfl)
  have m_max := He.free_ok X G0 (c.fact 27 (f := .free "max") rfl)
  have m_range := He.free_ok X G0 (c.fact 28 (f := .free "range") rfl)
  have m_str := He.free_ok X G0 (c.fact 29 (f := .free "str") rfl)
  have m_tuple := He.free_ok X G0 (c.fact 30 (f := .free "tuple") rfl)
  obtain ⟨t_DEEPEST, k_DEEPEST⟩ := He.int_ok X G0 (c.fact 31 (f := .int "DEEPEST" 12) rfl)
  obtain ⟨t_MOST, k_MOST⟩ := He.int_ok X G0 (c.fact 32 (f := .int "MOST" 4) rfl)
  obtain ⟨t_POINTS, k_POINTS⟩ := He.int_ok X G0 (c.fact 33 (f := .int "POINTS" 8) rfl)
  have b0 : BindK K fd_is_whole ["thing"] 1 [] := bindK_of F_is_whole 1 [] fun _ _ _ _ _ _ us ws hu hw => match us, ws, hu, hw with | [_], [], _, _ => rfl
  have b1 : BindK K fd_step_together ["word", "one", "two", "size"] 4 [] := bindK_of F_step_together 4 [] fun _ _ _ _ _ _ us ws hu hw => match us, ws, hu, hw with | [_, _, _, _], [], _, _ => rfl
  have b2 : BindK K fd_is_point ["thing"] 1 [] := bindK_of F_is_point 1 [] fun _ _ _ _ _ _ us ws hu hw => match us, ws, hu, hw with | [_], [], _, _ => rfl
  have b3 : BindK K fd_measured ["thing", "size"] 2 [] := bindK_of F_measured 2 [] fun _ _ _ _ _ _ us ws hu hw => match us, ws, hu, hw with | [_, _], [], _, _ => rfl
  have b4 : BindK K fd_put_together ["word", "one", "two", "size"] 4 [] := bindK_of F_put_together 4 [] fun _ _ _ _ _ _ us ws hu hw => match us, ws, hu, hw with | [_, _, _, _], [], _, _ => rfl
  have b5 : BindK K fd__law_whole ["item"] 1 [] := bindK_of F__law_whole 1 [] fun _ _ _ _ _ _ us ws hu hw => match us, ws, hu, hw with | [_], [], _, _ => rfl
  have b6 : BindK K fd__law_like ["one", "two"] 2 [] := bindK_of F__law_like 2 [] fun _ _ _ _ _ _ us ws hu hw => match us, ws, hu, hw with | [_, _], [], _, _ => rfl
  have b7 : BindK K fd__law_draw ["tape", "many"] 2 [] := bindK_of F__law_draw 2 [] fun _ _ _ _ _ _ us ws hu hw => match us, ws, hu, hw with | [_, _], [], _, _ => rfl
  have b8 : BindK K fd__law_any ["tape", "deep"] 2 [] := bindK_of F__law_any 2 [] fun _ _ _ _ _ _ us ws hu hw => match us, ws, hu, hw with | [_, _], [], _, _ => rfl
  have b9 : BindK K fd__law_spoilt ["tape", "item"] 2 [] := bindK_of F__law_spoilt 2 [] fun _ _ _ _ _ _ us ws hu hw => match us, ws, hu, hw with | [_, _], [], _, _ => rfl
  have b10 : BindK K fd__law_tree ["tape", "big", "deep"] 3 [] := bindK_of F__law_tree 3 [] fun _ _ _ _ _ _ us ws hu hw => match us, ws, hu, hw with | [_, _, _], [], _, _ => rfl
  have b11 : BindK K fd__law_both_steps ["tape", "one", "two", "big"] 4 [] := bindK_of F__law_both_steps 4 [] fun _ _ _ _ _ _ us ws hu hw => match us, ws, hu, hw with | [_, _, _, _], [], _, _ => rfl
  have b12 : BindK K fd__law_chain ["tape", "big", "many"] 3 [] := bindK_of F__law_chain 3 [] fun _ _ _ _ _ _ us ws hu hw => match us, ws, hu, hw with | [_, _, _], [], _, _ => rfl
  have b13 : BindK K fd__law_within ["item", "low", "high"] 3 [] := bindK_of F__law_within 3 [] fun _ _ _ _ _ _ us ws hu hw => match us, ws, hu, hw with | [_, _, _], [], _, _ => rfl
  have b14 : BindK K fd__law_measure ["item", "big"] 2 [] := bindK_of F__law_measure 2 [] fun _ _ _ _ _ _ us ws hu hw => match us, ws, hu, hw with | [_, _], [], _, _ => rfl
  have b15 : BindK K fd__law_measured ["word", "one", "two", "big"] 4 [] := bindK_of F__law_measured 4 [] fun _ _ _ _ _ _ us ws hu hw => match us, ws, hu, hw with | [_, _, _, _], [], _, _ => rfl
  have b16 : BindK K fd__law_bent ["tape", "formula"] 2 [] := bindK_of F__law_bent 2 [] fun _ _ _ _ _ _ us ws hu hw => match us, ws, hu, hw with | [_, _], [], _, _ => rfl
  have b17 : BindK K fd__law_size ["tape"] 1 [] := bindK_of F__law_size 1 [] fun _ _ _ _ _ _ us ws hu hw => match us, ws, hu, hw with | [_], [], _, _ => rfl
  have b18 : BindK K fd__law_formula ["tape", "big"] 2 [] := bindK_of F__law_formula 2 [] fun _ _ _ _ _ _ us ws hu hw => match us, ws, hu, hw with | [_, _], [], _, _ => rfl
  have b19 : BindK K fd_is_formula ["thing", "size"] 1 ["size"] := bindK_of F_is_formula 1 ["size"] fun _ _ _ _ _ _ us ws hu hw => match us, ws, hu, hw with | [_], [_], _, _ => rfl
  have b20 : BindK K fd_step ["formula", "size"] 1 ["size"] := bindK_of F_step 1 ["size"] fun _ _ _ _ _ _ us ws hu hw => match us, ws, hu, hw with | [_], [_], _, _ => rfl
  have b21 : BindK K fd_law ["script"] 1 [] := bindK_of F_law 1 [] fun _ _ _ _ _ _ us ws hu hw => match us, ws, hu, hw with | [_], [], _, _ => rfl
  intro n
  induction n with
  | zero => exact ⟨⟨_, _, _, spz0 rfl, rfl, g_is_whole, F_is_whole.kp, b0⟩, ⟨_, _, _, spz0 rfl, rfl, g_step_together, F_step_together.kp, b1⟩, ⟨_, _, _, spz0 rfl, rfl, g_is_point, F_is_point.kp, b2⟩, ⟨_, _, _, spz0 rfl, rfl, g_measured, F_measured.kp, b3⟩, ⟨_, _, _, spz0 rfl, rfl, g_put_together, F_put_together.kp, b4⟩, ⟨_, _, _, spz0 rfl, rfl, g__law_whole, F__law_whole.kp, b5⟩, ⟨_, _, _, spz0 rfl, rfl, g__law_like, F__law_like.kp, b6⟩, ⟨_, _, _, spz0 rfl, rfl, g__law_draw, F__law_draw.kp, b7⟩, ⟨_, _, _, spz0 rfl, rfl, g__law_any, F__law_any.kp, b8⟩, ⟨_, _, _, spz0 rfl, rfl, g__law_spoilt, F__law_spoilt.kp, b9⟩, ⟨_, _, _, spz0 rfl, rfl, g__law_tree, F__law_tree.kp, b10⟩, ⟨_, _, _, spz0 rfl, rfl, g__law_both_steps, F__law_both_steps.kp, b11⟩, ⟨_, _, _, spz0 rfl, rfl, g__law_chain, F__law_chain.kp, b12⟩, ⟨_, _, _, spz0 rfl, rfl, g__law_within, F__law_within.kp, b13⟩, ⟨_, _, _, spz0 rfl, rfl, g__law_measure, F__law_measure.kp, b14⟩, ⟨_, _, _, spz0 rfl, rfl, g__law_measured, F__law_measured.kp, b15⟩, ⟨_, _, _, spz0 rfl, rfl, g__law_bent, F__law_bent.kp, b16⟩, ⟨_, _, _, spz0 rfl, rfl, g__law_size, F__law_size.kp, b17⟩, ⟨_, _, _, spz0 rfl, rfl, g__law_formula, F__law_formula.kp, b18⟩, ⟨_, _, _, spz0 rfl, rfl, g_is_formula, F_is_formula.kp, b19⟩, ⟨_, _, _, spz0 rfl, rfl, g_step, F_step.kp, b20⟩, ⟨_, _, _, spz0 rfl, rfl, g_law, F_law.kp, b21⟩⟩
  | succ n ih =>
    have o_is_whole := ok_is_whole (P := P) (w := w) (mg := mg) (base := base) n F_is_whole m_bool m_int m_isinstance
    have o_is_point := ok_is_point (P := P) (w := w) (mg := mg) (base := base) n F_is_point m_len k_POINTS ih.c0
    have o_step_together := ok_step_together (P := P) (w := w) (mg := mg) (base := base) n F_step_together 
    have o_put_together := ok_put_together (P := P) (w := w) (mg := mg) (base := base) n F_put_together m_max k_DEEPEST k_MOST ih.c1
    have o_measured := ok_measured (P := P) (w := w) (mg := mg) (base := base) n F_measured m_isinstance m_len m_str m_tuple ih.c2 ih.c3 ih.c4
    have o_is_formula := ok_is_formula (P := P) (w := w) (mg := mg) (base := base) n F_is_formula ih.c3
    have o_step := ok_step (P := P) (w := w) (mg := mg) (base := base) n F_step ih.c3
    have o__law_draw := ok__law_draw (P := P) (w := w) (mg := mg) (base := base) n F__law_draw m_len
    have o__law_whole := ok__law_whole (P := P) (w := w) (mg := mg) (base := base) n F__law_whole m_bool m_int m_isinstance
    have o__law_within := ok__law_within (P := P) (w := w) (mg := mg) (base := base) n F__law_within ih.c5
    have o__law_like := ok__law_like (P := P) (w := w) (mg := mg) (base := base) n F__law_like m_bool m_isinstance m_len m_list m_range m_tuple ih.c6
    have o__law_size := ok__law_size (P := P) (w := w) (mg := mg) (base := base) n F__law_size ih.c7
    have o__law_any := ok__law_any (P := P) (w := w) (mg := mg) (base := base) n F__law_any m_max m_range m_tuple ih.c7 ih.c8
    have o__law_spoilt := ok__law_spoilt (P := P) (w := w) (mg := mg) (base := base) n F__law_spoilt m_isinstance m_len m_list m_str m_tuple ih.c7 ih.c9 ih.c8 ih.c5
    have o__law_both_steps := ok__law_both_steps (P := P) (w := w) (mg := mg) (base := base) n F__law_both_steps ih.c7
    have o__law_tree := ok__law_tree (P := P) (w := w) (mg := mg) (base := base) n F__law_tree ih.c7 ih.c10 ih.c11
    have o__law_chain := ok__law_chain (P := P) (w := w) (mg := mg) (base := base) n F__law_chain m_range ih.c10 ih.c7 ih.c11
    have o__law_formula := ok__law_formula (P := P) (w := w) (mg := mg) (base := base) n F__law_formula ih.c7 ih.c12 ih.c10
    have o__law_measure := ok__law_measure (P := P) (w := w) (mg := mg) (base := base) n F__law_measure m_isinstance m_len m_str m_tuple ih.c13 ih.c14 ih.c15
    have o__law_measured := ok__law_measured (P := P) (w := w) (mg := mg) (base := base) n F__law_measured m_max
    have o__law_bent := ok__law_bent (P := P) (w := w) (mg := mg) (base := base) n F__law_bent ih.c7 ih.c16
    have o_law := ok_law (P := P) (w := w) (mg := mg) (base := base) n F_law m_list ih.c17 ih.c18 ih.c12 ih.c11 ih.c14 ih.c16 ih.c9 ih.c8 ih.c6 ih.c19 ih.c20
    exact ⟨⟨_, _, _, o_is_whole, rfl, g_is_whole, F_is_whole.kp, b0⟩, ⟨_, _, _, o_step_together, rfl, g_step_together, F_step_together.kp, b1⟩, ⟨_, _, _, o_is_point, rfl, g_is_point, F_is_point.kp, b2⟩, ⟨_, _, _, o_measured, rfl, g_measured, F_measured.kp, b3⟩, ⟨_, _, _, o_put_together, rfl, g_put_together, F_put_together.kp, b4⟩, ⟨_, _, _, o__law_whole, rfl, g__law_whole, F__law_whole.kp, b5⟩, ⟨_, _, _, o__law_like, rfl, g__law_like, F__law_like.kp, b6⟩, ⟨_, _, _, o__law_draw, rfl, g__law_draw, F__law_draw.kp, b7⟩, ⟨_, _, _, o__law_any, rfl, g__law_any, F__law_any.kp, b8⟩, ⟨_, _, _, o__law_spoilt, rfl, g__law_spoilt, F__law_spoilt.kp, b9⟩, ⟨_, _, _, o__law_tree, rfl, g__law_tree, F__law_tree.kp, b10⟩, ⟨_, _, _, o__law_both_steps, rfl, g__law_both_steps, F__law_both_steps.kp, b11⟩, ⟨_, _, _, o__law_chain, rfl, g__law_chain, F__law_chain.kp, b12⟩, ⟨_, _, _, o__law_within, rfl, g__law_within, F__law_within.kp, b13⟩, ⟨_, _, _, o__law_measure, rfl, g__law_measure, F__law_measure.kp, b14⟩, ⟨_, _, _, o__law_measured, rfl, g__law_measured, F__law_measured.kp, b15⟩, ⟨_, _, _, o__law_bent, rfl, g__law_bent, F__law_bent.kp, b16⟩, ⟨_, _, _, o__law_size, rfl, g__law_size, F__law_size.kp, b17⟩, ⟨_, _, _, o__law_formula, rfl, g__law_formula, F__law_formula.kp, b18⟩, ⟨_, _, _, o_is_formula, rfl, g_is_formula, F_is_formula.kp, b19⟩, ⟨_, _, _, o_step, rfl, g_step, F_step.kp, b20⟩, ⟨_, _, _, o_law, rfl, g_law, F_law.kp, b21⟩⟩
abbrev lvl : Nat := 120
theorem facts {P : Program} {w : World} {K : PySem.W.Frag} {h : Heap} {mg : Str → Option Value} {f : Addr} (X : K.In h) (G0 : h.Ns mainGlobals mg) (hfa : mg ("law" : Str) = some (.ref f)) (c : He.SaysD fa fn K) :
    ∃ fd : FuncData, (∀ (s : Shared) (v : Value), BindsTo s fd ⟨[v], []⟩ [("script", v)]) ∧ ∀ base : Heap, K.In base → base.Ns mainGlobals mg → FnOk P w K mg base CX0 lvl f fd ["script"] (spz K cls (callF fns wf lvl) 21 1) := by
  obtain ⟨fd, F⟩ := c.def_ 21 (d := d_law) rfl
  have e := hfa.symm.trans (He.glo_ok X G0 (c.fact 21 (f := .glo "law") rfl))
  cases e
  have b := FunD.bindsA (ps := ["script"]) F fun _ _ _ _ _ _ us hl => match us, hl with | [_], _ => rfl
  refine ⟨fd, fun s v => b s [v] rfl, fun base X G0 => ?_⟩
  have ih := all (P := P) (w := w) X G0 c (lvl - 1)
  have m_list := He.free_ok X G0 (c.fact 26 (f := .free "list") rfl)
  exact ok_law (P := P) (w := w) (mg := mg) (base := base) (lvl - 1) F m_list ih.c17 ih.c18 ih.c12 ih.c11 ih.c14 ih.c16 ih.c9 ih.c8 ih.c6 ih.c19 ih.c20
end G

namespace G
open PySem PySem.Spec PyProof.Rows L2 Z
def loo0 : List Str := ["is_whole", "is_point", "step_together", "put_together", "measured", "is_formula", "step", "_law_draw", "_law_whole", "_law_within", "_law_like", "_law_size", "_law_any", "_law_spoilt", "_law_both_steps", "_law_tree", "_law_chain", "_law_formula", "_law_measure", "_law_measured", "_law_bent", "SIZE", "MOST", "POINTS", "DEEPEST"]
def loo : List Str := loo0
abbrev R : PySem.W.OpenRow := PySem.W.OpenLaw.row PySem.Challenge.rw_bracketyard_k44_formulas_and_steps
abbrev hk : PySem.W.Hook := He.hookD 4 fa fn
def ob (s : PySem.W.SharedT) : He.AlD := He.obsDG 4 fa fn (HandSHeadRun.getT s)
theorem ob_eq (s : PySem.W.SharedT) : ob s = hk.obs s.abs := He.obsDG_eq (HandSHeadRun.getT_eq s)
theorem run (w : World) : HandSHeadRun.RunEq R (PySem.W.view R.prog [28]) hk ob 4000 loo w := by
  intro os
  kernel_rfl
/-- the script as the law is asked: its own list, hidden by nothing -/
theorem entry {K : PySem.W.Frag} (law_true : ∀ ns : List Int, ns.length ≤ 63 → ∃ st, callF fns wf lvl 21 [.scr ns] [] = .ok (.bl true, false) st) (H : Hp) (a : Addr) (ns : List Int) (hl : ns.length ≤ 63) (hS : SqL K H a (ns.map V.int)) : spz K cls (callF fns wf lvl) 21 1 [.ref a] H (fun v _ => v = .bl true) fun _ _ _ => False := by
  obtain ⟨st, e⟩ := law_true ns hl
  refine ⟨rfl, ⟨[.pu (.scr ns)], [], [], []⟩, [.scr ns], rfl, entry_good hS, ?_⟩
  dsimp only
  rw [e]
  intro v As M H2 _ _ r
  exact r
theorem holds_of (law_true : ∀ ns : List Int, ns.length ≤ 63 → ∃ st, callF fns wf lvl 21 [.scr ns] [] = .ok (.bl true, false) st) : PySem.Challenge.rw_bracketyard_k44_formulas_and_steps.Holds := by
  open PySem.W PySem.Calls in
  w_on; o_law
  refine HandSHeadRun.head_any (r := PySem.W.OpenLaw.row PySem.Challenge.rw_bracketyard_k44_formulas_and_steps) (q := PySem.W.view (PySem.W.OpenLaw.row PySem.Challenge.rw_bracketyard_k44_formulas_and_steps).prog [28]) (H := hk) (ob := ob) (M := 4000) (loose := loo) (d := HandSHeadRun.topDef (PySem.W.OpenLaw.row PySem.Challenge.rw_bracketyard_k44_formulas_and_steps).prog 28) (kwd := []) ob_eq
    (by kernel_rfl) (fun s => by kernel_rfl) run (by kernel_rfl) (by kernel_rfl) (by kernel_rfl) (by rfl) (by first | assumption | decide +kernel) (by decide +kernel) ⟨rfl, rfl, rfl, rfl, rfl, by decide +kernel⟩ ?hw ?hc
  case hw => w_witness2
  case hc =>
    refine L2.walk_ofE (l := PySem.Challenge.rw_bracketyard_k44_formulas_and_steps) (n := 63) (k := lvl) (x := "script") (CX := CX0) rfl (by decide) (by kernel_rfl) ⟨rfl, by decide, by decide⟩ ?F (fun _ _ _ _ z => z)
    intro w mg fad h Y G0 hmg0
    obtain ⟨K, KX, c⟩ := Y
    have hmg : mg ("law" : Str) = some (.ref fad) := by
      have e : (HandSHeadRun.topDef (PySem.W.OpenLaw.row PySem.Challenge.rw_bracketyard_k44_formulas_and_steps).prog 28).name = ("law" : Str) := by kernel_rfl
      rw [← e]
      exact hmg0
    obtain ⟨fd, hb, hF⟩ := facts (P := (PySem.Challenge.rw_bracketyard_k44_formulas_and_steps).prog) (w := w) KX G0 hmg c
    exact ⟨K, fd, spz K cls (callF fns wf lvl) 21 1, KX, hb, fun H a ns hl _ hS => entry law_true H a ns hl hS, hF⟩
end G

theorem PySem.Challenge.cw_bracketyard_k44_formulas_and_steps_holds : PySem.Challenge.rw_bracketyard_k44_formulas_and_steps.Holds := by
  exact G.holds_of G.law_true
