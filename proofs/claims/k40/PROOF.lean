import PyProof.Rows.All
import HandS.ForMost
import HandS.Deep
import HandS.Defaults
import HandS.TupAny
import HandS.IsInst
import HandS.Wide
import KE.SortData
import HandS.Style
import HandS.More
import HandS.Text
import HandS.SortInts
import HandS.Conv
import PySem.Challenge.RW_bracketyard_k40_all_straight_products
import HandS.HeadHook2
import Wide.All
import OpenK.AllK
import Wide.FinOn
import KE.KStateDown
import HandS.Head0
import HandS.Head1
import HandS.Head2
import HandS.HeadEnd
import HandS.HeadHook1
set_option Elab.async false
set_option linter.all false
set_option maxRecDepth 100000
set_option maxHeartbeats 0
/-! Z: data, the interpreter's state, how they stand in the abstract heap. -/
namespace Z
open PySem PySem.Spec PyProof.Rows L2

/-- data: what a Python value tells. obj i: the i-th shared object; scr: the script -/
inductive D where
  | none | bl (b : Bool) | int (i : Int) | str (s : Str)
  | tup (ds : List D) | lst (ds : List D) | dic (ks vs : List D) | obj (i : Nat) | scr (ns : List Int)
deriving Inhabited

/-- a shared object -/
inductive SO where
  | lst (ds : List D)
  | ins (c : Nat) (fs : List (Str × D))
deriving Inhabited

inductive Slot where
  | un | pu (d : D) | ow (d : D)
deriving Inhabited

structure Gh where
  ρ : List Slot
  st : List SO
  As : List Addr
  M : List Addr

def hid (M : List Addr) (H : Hp) : Hp := fun a => if a ∈ M then none else H a
theorem hid_of {M : List Addr} {H : Hp} {a : Addr} {o : HO} (h : hid M H a = some o) : a ∉ M ∧ H a = some o := by
  unfold hid at h
  split at h
  · cases h
  · rename_i n; exact ⟨n, h⟩
theorem hid_mk {M : List Addr} {H : Hp} {a : Addr} {o : HO} (n : a ∉ M) (h : H a = some o) : hid M H a = some o := by
  unfold hid; rw [if_neg n]; exact h

/-- what a dict's object holds, raw (told later) -/
def DicAt (K : PySem.W.Frag) (H : Hp) (a : Addr) (ks vs : List V) : Prop := False

mutual
def Rep (K : PySem.W.Frag) (As : List Addr) (H : Hp) : D → V → Prop
  | .none, v => v = .non
  | .bl b, v => v = .bl b
  | .int i, v => v = .int i
  | .str s, v => v = .str s
  | .tup ds, v => ∃ a vs, v = .ref a ∧ H a = some (.tup vs) ∧ Reps K As H ds vs
  | .lst ds, v => ∃ a vs, v = .ref a ∧ H a = some (.lst vs) ∧ Reps K As H ds vs
  | .dic ks ws, v => ∃ a us vs, v = .ref a ∧ DicAt K H a us vs ∧ Reps K As H ks us ∧ Reps K As H ws vs
  | .obj i, v => ∃ a, v = .ref a ∧ As[i]? = some a
  | .scr ns, v => ∃ a, v = .ref a ∧ SqL K H a (ns.map V.int)
def Reps (K : PySem.W.Frag) (As : List Addr) (H : Hp) : List D → List V → Prop
  | [], vs => vs = []
  | d :: ds, vs => ∃ v ws, vs = v :: ws ∧ Rep K As H d v ∧ Reps K As H ds ws
end

section
variable {K : PySem.W.Frag} {As As' : List Addr} {H H' : Hp}
mutual
theorem Rep.mono (hA : ∀ (i : Nat) (a : Addr), As[i]? = some a → As'[i]? = some a) (hv : Same H H') : ∀ {d : D} {v : V}, Rep K As H d v → Rep K As' H' d v
  | .none, _, h => h
  | .bl _, _, h => h
  | .int _, _, h => h
  | .str _, _, h => h
  | .tup ds, v, h => by
    obtain ⟨a, vs, e, h1, h2⟩ := h
    exact ⟨a, vs, e, hv _ _ h1, Reps.mono hA hv h2⟩
  | .lst ds, v, h => by
    obtain ⟨a, vs, e, h1, h2⟩ := h
    exact ⟨a, vs, e, hv _ _ h1, Reps.mono hA hv h2⟩
  | .dic ks ws, v, h => by
    obtain ⟨a, us, vs, e, h1, h2, h3⟩ := h
    exact h1.elim
  | .obj i, v, h => by
    obtain ⟨a, e, h1⟩ := h
    exact ⟨a, e, hA _ _ h1⟩
  | .scr ns, v, h => by
    obtain ⟨a, e, h1⟩ := h
    exact ⟨a, e, hv.seq h1⟩
theorem Reps.mono (hA : ∀ (i : Nat) (a : Addr), As[i]? = some a → As'[i]? = some a) (hv : Same H H') : ∀ {ds : List D} {vs : List V}, Reps K As H ds vs → Reps K As' H' ds vs
  | [], _, h => h
  | d :: ds, vs, h => by
    obtain ⟨v, ws, e, h1, h2⟩ := h
    exact ⟨v, ws, e, Rep.mono hA hv h1, Reps.mono hA hv h2⟩
end
theorem Reps.length : ∀ {ds : List D} {vs : List V}, Reps K As H ds vs → vs.length = ds.length
  | [], _, h => by rw [h]; rfl
  | d :: ds, vs, h => by
    obtain ⟨v, ws, rfl, _, h2⟩ := h
    simp [Reps.length h2]
theorem Reps.get : ∀ {ds : List D} {vs : List V} {i : Nat} {d : D}, Reps K As H ds vs → ds[i]? = some d → ∃ v, vs[i]? = some v ∧ Rep K As H d v
  | [], _, i, d, _, e => by simp at e
  | d :: ds, vs, 0, d', h, e => by
    obtain ⟨v, ws, rfl, h1, h2⟩ := h
    simp at e; subst e
    exact ⟨v, rfl, h1⟩
  | d :: ds, vs, i + 1, d', h, e => by
    obtain ⟨v, ws, rfl, h1, h2⟩ := h
    simp at e
    obtain ⟨u, q1, q2⟩ := Reps.get h2 e
    exact ⟨u, by simpa using q1, q2⟩
theorem Reps.get' : ∀ {ds : List D} {vs : List V} {i : Nat} {v : V}, Reps K As H ds vs → vs[i]? = some v → ∃ d, ds[i]? = some d ∧ Rep K As H d v
  | [], _, i, d, h, e => by rw [h] at e; simp at e
  | d :: ds, vs, 0, d', h, e => by
    obtain ⟨v, ws, rfl, h1, h2⟩ := h
    simp at e; subst e
    exact ⟨d, rfl, h1⟩
  | d :: ds, vs, i + 1, d', h, e => by
    obtain ⟨v, ws, rfl, h1, h2⟩ := h
    simp at e
    obtain ⟨u, q1, q2⟩ := Reps.get' h2 e
    exact ⟨u, by simpa using q1, q2⟩
theorem Reps.nil : Reps K As H [] [] := rfl
theorem Reps.cons {d : D} {ds : List D} {v : V} {vs : List V} (h : Rep K As H d v) (hs : Reps K As H ds vs) : Reps K As H (d :: ds) (v :: vs) := ⟨v, vs, rfl, h, hs⟩
theorem Reps.append : ∀ {ds es : List D} {vs ws : List V}, Reps K As H ds vs → Reps K As H es ws → Reps K As H (ds ++ es) (vs ++ ws)
  | [], es, vs, ws, h, h' => by rw [show vs = [] from h]; exact h'
  | d :: ds, es, vs, ws, h, h' => by
    obtain ⟨v, us, rfl, h1, h2⟩ := h
    exact .cons h1 (Reps.append h2 h')
theorem Reps.take : ∀ {ds : List D} {vs : List V} (n : Nat), Reps K As H ds vs → Reps K As H (ds.take n) (vs.take n)
  | _, _, 0, _ => rfl
  | [], vs, n + 1, h => by rw [show vs = [] from h]; rfl
  | d :: ds, vs, n + 1, h => by
    obtain ⟨v, us, rfl, h1, h2⟩ := h
    exact .cons h1 (Reps.take n h2)
theorem Reps.drop : ∀ {ds : List D} {vs : List V} (n : Nat), Reps K As H ds vs → Reps K As H (ds.drop n) (vs.drop n)
  | _, _, 0, h => h
  | [], vs, n + 1, h => by rw [show vs = [] from h]; rfl
  | d :: ds, vs, n + 1, h => by
    obtain ⟨v, us, rfl, h1, h2⟩ := h
    exact Reps.drop n h2
theorem Reps.set {d : D} {v : V} (r : Rep K As H d v) : ∀ {ds : List D} {vs : List V} (i : Nat), Reps K As H ds vs → Reps K As H (ds.set i d) (vs.set i v)
  | [], vs, i, h => by rw [show vs = [] from h]; rfl
  | _ :: _, _, 0, h => by
    obtain ⟨v, us, rfl, h1, h2⟩ := h
    exact .cons r h2
  | _ :: _, _, i + 1, h => by
    obtain ⟨v, us, rfl, h1, h2⟩ := h
    exact .cons h1 (Reps.set r i h2)
theorem Reps.eraseIdx : ∀ {ds : List D} {vs : List V} (i : Nat), Reps K As H ds vs → Reps K As H (ds.eraseIdx i) (vs.eraseIdx i)
  | [], vs, i, h => by rw [show vs = [] from h]; rfl
  | _ :: _, _, 0, h => by
    obtain ⟨v, us, rfl, h1, h2⟩ := h
    exact h2
  | _ :: _, _, i + 1, h => by
    obtain ⟨v, us, rfl, h1, h2⟩ := h
    exact .cons h1 (Reps.eraseIdx i h2)
theorem Reps.reverse : ∀ {ds : List D} {vs : List V}, Reps K As H ds vs → Reps K As H ds.reverse vs.reverse
  | [], vs, h => by rw [show vs = [] from h]; rfl
  | d :: ds, vs, h => by
    obtain ⟨v, us, rfl, h1, h2⟩ := h
    rw [List.reverse_cons, List.reverse_cons]
    exact (Reps.reverse h2).append (.cons h1 .nil)
theorem Reps.rep {ds : List D} {vs : List V} (h : Reps K As H ds vs) : ∀ n : Nat, Reps K As H (List.replicate n ds).flatten (List.replicate n vs).flatten
  | 0 => rfl
  | n + 1 => by
    rw [List.replicate_succ, List.replicate_succ, List.flatten_cons, List.flatten_cons]
    exact h.append (Reps.rep h n)
theorem Reps.of_ints : ∀ (ns : List Int), Reps K As H (ns.map D.int) (ns.map V.int)
  | [] => rfl
  | n :: ns => .cons rfl (Reps.of_ints ns)
end

/-- an owned container's content -/
def Cel (K : PySem.W.Frag) (As : List Addr) (Hh H : Hp) (d : D) (p : Addr) : Prop := match d with
  | .lst ds => ∃ vs, H p = some (.lst vs) ∧ Reps K As Hh ds vs
  | .dic ks ws => ∃ us vs, DicAt K H p us vs ∧ Reps K As Hh ks us ∧ Reps K As Hh ws vs
  | _ => False
def SOk (K : PySem.W.Frag) (As : List Addr) (Hh H : Hp) (so : SO) (a : Addr) : Prop := match so with
  | .lst ds => ∃ vs, H a = some (.lst vs) ∧ Reps K As Hh ds vs
  | .ins _ _ => False

def Own (ρ : List Slot) (σ : L2.St) (p : Addr) : Prop := ∃ (i : Nat) (d : D), ρ[i]? = some (.ow d) ∧ σ[i]? = some (some (.ref p))

def SlotOk (K : PySem.W.Frag) (g : Gh) (H : Hp) (s : Slot) (x : Option (Option V)) : Prop := match s with
  | .un => True
  | .pu d => ∃ v, x = some (some v) ∧ Rep K g.As (hid g.M H) d v
  | .ow d => ∃ p, x = some (some (.ref p)) ∧ p ∈ g.M ∧ Cel K g.As (hid g.M H) H d p

structure Good (K : PySem.W.Frag) (g : Gh) (σ : L2.St) (H : Hp) : Prop where
  len : g.ρ.length = σ.length
  slot : ∀ (i : Nat) (s : Slot), g.ρ[i]? = some s → SlotOk K g H s (σ[i]?)
  inj : ∀ (i j : Nat) (d d' : D) (p : Addr), g.ρ[i]? = some (.ow d) → g.ρ[j]? = some (.ow d') → σ[i]? = some (some (.ref p)) → σ[j]? = some (some (.ref p)) → i = j
  oas : ∀ p, Own g.ρ σ p → p ∉ g.As
  sto : ∀ (i : Nat) (so : SO), g.st[i]? = some so → ∃ a, g.As[i]? = some a ∧ SOk K g.As (hid g.M H) H so a
  asl : g.st.length = g.As.length
  asn : g.As.Nodup
  asm : ∀ a ∈ g.As, a ∈ g.M
  trk : ∀ p ∈ g.M, H p ≠ none

structure Ext (g : Gh) (σ : L2.St) (H : Hp) (g' : Gh) (σ' : L2.St) (H' : Hp) : Prop where
  pre : ∃ more, g'.As = g.As ++ more ∧ ∀ a ∈ more, H a = none
  vis : ∀ b o, b ∉ g.M → H b = some o → b ∉ g'.M ∧ H' b = some o
  kep : ∀ p ∈ g.M, p ∉ g.As → ¬ Own g.ρ σ p → p ∈ g'.M ∧ H' p = H p
  trk : ∀ b, H b ≠ none → H' b ≠ none
  own : ∀ p, Own g'.ρ σ' p → Own g.ρ σ p ∨ H p = none

section
variable {K : PySem.W.Frag} {g g' g'' : Gh} {σ σ' σ'' : L2.St} {H H' H'' : Hp}
theorem Ext.refl : Ext g σ H g σ H := ⟨⟨[], by simp⟩, fun _ _ n h => ⟨n, h⟩, fun _ h _ _ => ⟨h, rfl⟩, fun _ h => h, fun _ h => .inl h⟩
theorem Ext.asget (e : Ext g σ H g' σ' H') (i : Nat) (a : Addr) (h : g.As[i]? = some a) : g'.As[i]? = some a := by
  obtain ⟨more, q, _⟩ := e.pre
  rw [q, List.getElem?_append_left (List.getElem?_eq_some_iff.mp h).1]
  exact h
theorem Ext.same (e : Ext g σ H g' σ' H') : Same (hid g.M H) (hid g'.M H') := fun b o h => by
  obtain ⟨n, q⟩ := hid_of h
  obtain ⟨n', q'⟩ := e.vis b o n q
  exact hid_mk n' q'
theorem Ext.rep (e : Ext g σ H g' σ' H') {d : D} {v : V} (r : Rep K g.As (hid g.M H) d v) : Rep K g'.As (hid g'.M H') d v := r.mono e.asget e.same
theorem Ext.reps (e : Ext g σ H g' σ' H') {d : List D} {v : List V} (r : Reps K g.As (hid g.M H) d v) : Reps K g'.As (hid g'.M H') d v := r.mono e.asget e.same
theorem Ext.fresh (e : Ext g σ H g' σ' H') {p : Addr} (h : H' p = none) : H p = none := by
  cases q : H p with
  | none => rfl
  | some o => exact absurd h (e.trk p (by rw [q]; exact fun z => nomatch z))
theorem Ext.trans (G : Good K g σ H) (a : Ext g σ H g' σ' H') (b : Ext g' σ' H' g'' σ'' H'') : Ext g σ H g'' σ'' H'' := by
  refine ⟨?_, fun c o n h => ?_, fun p hp hA hO => ?_, fun c h => b.trk c (a.trk c h), fun p h => ?_⟩
  · obtain ⟨m1, e1, f1⟩ := a.pre
    obtain ⟨m2, e2, f2⟩ := b.pre
    refine ⟨m1 ++ m2, by rw [e2, e1, List.append_assoc], fun c hc => ?_⟩
    rcases List.mem_append.mp hc with h | h
    · exact f1 c h
    · exact a.fresh (f2 c h)
  · obtain ⟨n1, h1⟩ := a.vis c o n h
    exact b.vis c o n1 h1
  · obtain ⟨h1, e1⟩ := a.kep p hp hA hO
    have nn := G.trk p hp
    obtain ⟨m1, q1, f1⟩ := a.pre
    obtain ⟨h2, e2⟩ := b.kep p h1 (by
      rw [q1]
      intro z
      rcases List.mem_append.mp z with z | z
      · exact hA z
      · exact nn (f1 p z)) (fun z => by
        rcases a.own p z with z | z
        · exact hO z
        · exact nn z)
    exact ⟨h2, e2.trans e1⟩
  · rcases b.own p h with h | h
    · exact a.own p h
    · exact .inr (a.fresh h)
end
end Z

/-! Z2: the interpreter's monad; what a computation means at a place. -/
namespace Z
open PySem PySem.Spec PyProof.Rows L2

structure S where
  ρ : List Slot
  st : List SO

inductive Out (α : Type) where
  | ok (a : α) (s : S)
  | exc (c : Nat) (fs : List (Str × D)) (s : S)
  | bad

def M (α : Type) : Type := S → Out α
def M.pure {α : Type} (a : α) : M α := fun s => .ok a s
def M.bind {α β : Type} (m : M α) (f : α → M β) : M β := fun s => match m s with
  | .ok a s' => f a s'
  | .exc c fs s' => .exc c fs s'
  | .bad => .bad
instance : Monad M where
  pure := M.pure
  bind := M.bind
def bad {α : Type} : M α := fun _ => .bad
def getS : M S := fun s => .ok s s
def putS (s : S) : M Unit := fun _ => .ok () s
def liftO {α : Type} (o : Option α) : M α := fun s => match o with
  | some a => .ok a s
  | none => .bad
/-- the computations that raise nothing: a raise is bad -/
def calm {α : Type} (m : M α) : M α := fun s => match m s with
  | .ok a s' => .ok a s'
  | _ => .bad
theorem pure_run {α : Type} (a : α) (s : S) : (Pure.pure a : M α) s = .ok a s := rfl
theorem bind_run {α β : Type} (m : M α) (f : α → M β) (s : S) : (m >>= f) s = match m s with
  | .ok a s' => f a s'
  | .exc c fs s' => .exc c fs s'
  | .bad => .bad := rfl

abbrev Gh.S (g : Gh) : S := ⟨g.ρ, g.st⟩
abbrev WX := Nat → List (Str × D) → Gh → Hp → Prop

/-- what follows a computation -/
def At (K : PySem.W.Frag) (w : WX) {α : Type} (m : M α) (g : Gh) (σ : L2.St) (H : Hp) (k : α → Gh → Hp → Prop) : Prop := match m g.S with
  | .ok a s' => ∀ As' M' H', Good K ⟨s'.ρ, s'.st, As', M'⟩ σ H' → Ext g σ H ⟨s'.ρ, s'.st, As', M'⟩ σ H' → k a ⟨s'.ρ, s'.st, As', M'⟩ H'
  | .exc c fs s' => ∀ As' M' H', Good K ⟨s'.ρ, s'.st, As', M'⟩ σ H' → Ext g σ H ⟨s'.ρ, s'.st, As', M'⟩ σ H' → w c fs ⟨s'.ρ, s'.st, As', M'⟩ H'
  | .bad => False

section
variable {K : PySem.W.Frag} {w : WX} {α β : Type} {g : Gh} {σ : L2.St} {H : Hp}
theorem At.bind {m : M α} {f : α → M β} {k : β → Gh → Hp → Prop} (G : Good K g σ H) (h : At K w (m >>= f) g σ H k) :
    At K w m g σ H fun a g1 H1 => Good K g1 σ H1 ∧ Ext g σ H g1 σ H1 ∧ At K w (f a) g1 σ H1 k := by
  unfold At at h ⊢
  rw [bind_run] at h
  cases e : m g.S with
  | bad => rw [e] at h; exact h
  | exc c fs s' => rw [e] at h; exact h
  | ok a s1 =>
    rw [e] at h
    intro As1 M1 H1 G1 E1
    refine ⟨G1, E1, ?_⟩
    show match (f a) s1 with
      | .ok b s' => _
      | .exc c fs s' => _
      | .bad => False
    have h : match (f a) s1 with
      | .ok b s' => ∀ As' M' H', Good K ⟨s'.ρ, s'.st, As', M'⟩ σ H' → Ext g σ H ⟨s'.ρ, s'.st, As', M'⟩ σ H' → k b ⟨s'.ρ, s'.st, As', M'⟩ H'
      | .exc c fs s' => ∀ As' M' H', Good K ⟨s'.ρ, s'.st, As', M'⟩ σ H' → Ext g σ H ⟨s'.ρ, s'.st, As', M'⟩ σ H' → w c fs ⟨s'.ρ, s'.st, As', M'⟩ H'
      | .bad => False := h
    cases e2 : (f a) s1 with
    | bad => rw [e2] at h; exact h
    | exc c fs s' => rw [e2] at h; exact fun As' M' H' G' E' => h As' M' H' G' (E1.trans G E')
    | ok b s' => rw [e2] at h; exact fun As' M' H' G' E' => h As' M' H' G' (E1.trans G E')
theorem At.imp {m : M α} {k k' : α → Gh → Hp → Prop} (h : At K w m g σ H k) (i : ∀ a g1 H1, Good K g1 σ H1 → Ext g σ H g1 σ H1 → k a g1 H1 → k' a g1 H1) : At K w m g σ H k' := by
  unfold At at h ⊢
  cases e : m g.S with
  | bad => rw [e] at h; exact h
  | exc c fs s' => rw [e] at h; exact h
  | ok a s1 => rw [e] at h; exact fun As' M' H' G' E' => i _ _ _ G' E' (h As' M' H' G' E')
/-- a pure result -/
theorem At.pure_ {a : α} {k : α → Gh → Hp → Prop} (G : Good K g σ H) (h : At K w (Pure.pure a : M α) g σ H k) : k a g H := h g.As g.M H G Ext.refl
theorem At.of_pure {a : α} {k : α → Gh → Hp → Prop} (h : ∀ g1 H1, Good K g1 σ H1 → Ext g σ H g1 σ H1 → k a g1 H1) : At K w (Pure.pure a : M α) g σ H k := fun As' M' H' G' E' => h _ _ G' E'
theorem At.liftO_ {o : Option α} {k : α → Gh → Hp → Prop} (G : Good K g σ H) (h : At K w (liftO o) g σ H k) : ∃ a, o = some a ∧ k a g H := by
  cases o with
  | none => exact h.elim
  | some a => exact ⟨a, rfl, At.pure_ G h⟩
/-- the same result in a grown state -/
theorem At.liftE {o : Option α} {k : α → Gh → Hp → Prop} (h : At K w (liftO o) g σ H k) : ∃ a, o = some a ∧ ∀ As' M' H', Good K ⟨g.ρ, g.st, As', M'⟩ σ H' → Ext g σ H ⟨g.ρ, g.st, As', M'⟩ σ H' → k a ⟨g.ρ, g.st, As', M'⟩ H' := by
  cases o with
  | none => exact h.elim
  | some a => exact ⟨a, rfl, h⟩
end

/-- an expression's result: its data, whether the container is new and held by nobody -/
abbrev Rs := D × Bool
/-- a new container, held by nobody -/
structure New (K : PySem.W.Frag) (H0 : Hp) (g : Gh) (σ : L2.St) (H : Hp) (d : D) (p : Addr) : Prop where
  was : H0 p = none
  mem : p ∈ g.M
  nas : p ∉ g.As
  now : ¬ Own g.ρ σ p
  cel : Cel K g.As (hid g.M H) H d p
def RelR (K : PySem.W.Frag) (H0 : Hp) (g : Gh) (σ : L2.St) (H : Hp) (r : Rs) (v : V) : Prop :=
  if r.2 = true then ∃ p, v = .ref p ∧ New K H0 g σ H r.1 p else Rep K g.As (hid g.M H) r.1 v

theorem New.older {K : PySem.W.Frag} {H0 H1 : Hp} {g0 g1 g : Gh} {σ σ0 σ1 : L2.St} {H : Hp} {d : D} {p : Addr} (e : Ext g0 σ0 H0 g1 σ1 H1) (n : New K H1 g σ H d p) : New K H0 g σ H d p :=
  ⟨e.fresh n.was, n.mem, n.nas, n.now, n.cel⟩
theorem RelR.older {K : PySem.W.Frag} {H0 H1 : Hp} {g0 g1 g : Gh} {σ σ0 σ1 : L2.St} {H : Hp} {r : Rs} {v : V} (e : Ext g0 σ0 H0 g1 σ1 H1) (n : RelR K H1 g σ H r v) : RelR K H0 g σ H r v := by
  unfold RelR at n ⊢
  split
  · rename_i h; rw [if_pos h] at n; obtain ⟨p, e1, e2⟩ := n; exact ⟨p, e1, e2.older e⟩
  · rename_i h; rw [if_neg h] at n; exact n

section
variable {K : PySem.W.Frag} {g : Gh} {σ : L2.St} {H : Hp}
theorem mem_erase_ne {M : List Addr} {p q : Addr} : q ∈ M.filter (fun x => decide (x ≠ p)) ↔ q ∈ M ∧ q ≠ p := by
  simp [List.mem_filter]
theorem hid_filter {M : List Addr} {p : Addr} {H : Hp} : Same (hid M H) (hid (M.filter fun x => decide (x ≠ p)) H) := fun b o h => by
  obtain ⟨n, q⟩ := hid_of h
  exact hid_mk (fun z => n (mem_erase_ne.mp z).1) q
theorem Cel.rep {As : List Addr} {Hh : Hp} {d : D} {p : Addr} (h : Cel K As Hh H d p) (e : Hh p = H p) : Rep K As Hh d (.ref p) := by
  cases d with
  | lst ds => obtain ⟨vs, h1, h2⟩ := h; exact ⟨p, vs, rfl, e.trans h1, h2⟩
  | dic ks ws => obtain ⟨us, vs, h1, _⟩ := h; exact h1.elim
  | _ => exact h.elim
theorem Cel.some_ {As : List Addr} {Hh : Hp} {d : D} {p : Addr} (h : Cel K As Hh H d p) : H p ≠ none := by
  cases d with
  | lst ds => obtain ⟨vs, h1, h2⟩ := h; rw [h1]; exact fun z => nomatch z
  | dic ks ws => obtain ⟨us, vs, h1, _⟩ := h; exact h1.elim
  | _ => exact h.elim
theorem Cel.mono {As As' : List Addr} {Hh Hh' H' : Hp} {d : D} {p : Addr} (hA : ∀ (i : Nat) (a : Addr), As[i]? = some a → As'[i]? = some a) (hv : Same Hh Hh') (e : H' p = H p) (h : Cel K As Hh H d p) : Cel K As' Hh' H' d p := by
  cases d with
  | lst ds => obtain ⟨vs, h1, h2⟩ := h; exact ⟨vs, e.trans h1, h2.mono hA hv⟩
  | dic ks ws => obtain ⟨us, vs, h1, _⟩ := h; exact h1.elim
  | _ => exact h.elim
theorem SOk.mono {As As' : List Addr} {Hh Hh' H' : Hp} {so : SO} {p : Addr} (hA : ∀ (i : Nat) (a : Addr), As[i]? = some a → As'[i]? = some a) (hv : Same Hh Hh') (e : H' p = H p) (h : SOk K As Hh H so p) : SOk K As' Hh' H' so p := by
  cases so with
  | lst ds => obtain ⟨vs, h1, h2⟩ := h; exact ⟨vs, e.trans h1, h2.mono hA hv⟩
  | ins c fs => exact h.elim
/-- p leaves the hidden ones: it is no slot's, no shared one's -/
theorem Good.show_ {p : Addr} (G : Good K g σ H) (nas : p ∉ g.As) (now : ¬ Own g.ρ σ p) : Good K { g with M := g.M.filter fun x => decide (x ≠ p) } σ H := by
  have hA : ∀ (i : Nat) (a : Addr), g.As[i]? = some a → g.As[i]? = some a := fun _ _ h => h
  refine ⟨G.len, fun i s h => ?_, G.inj, G.oas, fun i so h => ?_, G.asl, G.asn, fun a h => ?_, fun q h => G.trk q (mem_erase_ne.mp h).1⟩
  · have q := G.slot i s h
    cases s with
    | un => trivial
    | pu d => obtain ⟨v, e, r⟩ := q; exact ⟨v, e, r.mono hA hid_filter⟩
    | ow d =>
      obtain ⟨a, e, m, c⟩ := q
      exact ⟨a, e, mem_erase_ne.mpr ⟨m, fun z => now (z ▸ ⟨i, d, h, e⟩)⟩, c.mono hA hid_filter rfl⟩
  · obtain ⟨a, e, q⟩ := G.sto i so h
    exact ⟨a, e, q.mono hA hid_filter rfl⟩
  · exact mem_erase_ne.mpr ⟨G.asm a h, fun z => nas (z ▸ h)⟩
theorem Ext.show_ {g0 : Gh} {σ0 : L2.St} {H0 : Hp} {p : Addr} (G0 : Good K g0 σ0 H0) (e : Ext g0 σ0 H0 g σ H) (was : H0 p = none) : Ext g0 σ0 H0 { g with M := g.M.filter fun x => decide (x ≠ p) } σ H :=
  ⟨e.pre, fun b o n h => let ⟨a, c⟩ := e.vis b o n h; ⟨fun z => a (mem_erase_ne.mp z).1, c⟩, fun q hq h1 h2 => let ⟨a, c⟩ := e.kep q hq h1 h2; ⟨mem_erase_ne.mpr ⟨a, fun z => G0.trk q hq (z ▸ was)⟩, c⟩, e.trk, e.own⟩
theorem New.rep {H0 : Hp} {d : D} {p : Addr} (n : New K H0 g σ H d p) : Rep K g.As (hid (g.M.filter fun x => decide (x ≠ p)) H) d (.ref p) := by
  refine (n.cel.mono (fun _ _ h => h) hid_filter rfl).rep ?_
  unfold hid
  rw [if_neg (fun z => (mem_erase_ne.mp z).2 rfl)]
end

/-! ### readings -/
/-- an expression as the interpreter has it -/
def Tr (K : PySem.W.Frag) (w : WX) (m : M Rs) : TE := fun σ H Q => ∃ g, Good K g σ H ∧ At K w m g σ H fun r g1 H1 => ∀ v, RelR K H g1 σ H1 r v → Q v H1
/-- .. its data alone -/
def Td (K : PySem.W.Frag) (w : WX) (m : M D) : TE := fun σ H Q => ∃ g, Good K g σ H ∧ At K w m g σ H fun d g1 H1 => ∀ v, Rep K g1.As (hid g1.M H1) d v → Q v H1
/-- an operand: a value, or a slot that is looked up later -/
inductive Opd where
  | val (d : D) | slot (i : Nat)
def RelO (K : PySem.W.Frag) (g : Gh) (σ : L2.St) (H : Hp) : Opd → V → Prop
  | .val d, v => Rep K g.As (hid g.M H) d v
  | .slot i, v => σ[i]? = some (some v)
def To (K : PySem.W.Frag) (w : WX) (m : M Opd) : TE := fun σ H Q => ∃ g, Good K g σ H ∧ At K w m g σ H fun o g1 H1 => ∀ v, RelO K g1 σ H1 o v → Q v H1
def Tt (K : PySem.W.Frag) (w : WX) (m : M Bool) : TT := fun σ H Q => ∃ g, Good K g σ H ∧ At K w m g σ H fun b _ H1 => Q b H1
inductive RelOs (K : PySem.W.Frag) (g : Gh) (σ : L2.St) (H : Hp) : List Opd → List V → Prop
  | nil : RelOs K g σ H [] []
  | cons {o : Opd} {os : List Opd} {v : V} {vs : List V} : RelO K g σ H o v → RelOs K g σ H os vs → RelOs K g σ H (o :: os) (v :: vs)
def Tos (K : PySem.W.Frag) (w : WX) (m : M (List Opd)) : TA := fun σ H Q => ∃ g, Good K g σ H ∧ At K w m g σ H fun os g1 H1 => ∀ vs, RelOs K g1 σ H1 os vs → Q vs H1
def Tds (K : PySem.W.Frag) (w : WX) (m : M (List D)) : TA := fun σ H Q => ∃ g, Good K g σ H ∧ At K w m g σ H fun os g1 H1 => ∀ vs, Reps K g1.As (hid g1.M H1) os vs → Q vs H1

theorem _root_.L2.PE.weak {X : Cx} {e : Expr} {t t' : TE} (h : PE X e t) (i : ∀ σ H Q, t' σ H Q → t σ H Q) : PE X e t' := ⟨fun pins s σ H Q I q => h.run pins s σ H Q I (i σ H Q q)⟩
theorem _root_.L2.PT.weak {X : Cx} {e : Expr} {t t' : TT} (h : PT X e t) (i : ∀ σ H Q, t' σ H Q → t σ H Q) : PT X e t' := ⟨fun pins s σ H Q I q => h.run pins s σ H Q I (i σ H Q q)⟩
theorem _root_.L2.PA.weak {X : Cx} {e : List Expr} {t t' : TA} (h : PA X e t) (i : ∀ σ H Q, t' σ H Q → t σ H Q) : PA X e t' := ⟨fun pos pins s σ H Q I q => h.run pos pins s σ H Q I (i σ H Q q)⟩
theorem _root_.L2.PS.weak {X : Cx} {e : Stmt} {t t' : TS} (h : PS X e t) (i : ∀ D σ H, t' D σ H → t D σ H) : PS X e t' := ⟨fun pins s σ H D I q => h.run pins s σ H D I (i D σ H q)⟩
theorem _root_.L2.PSs.weak {X : Cx} {e : List Stmt} {t t' : TS} (h : PSs X e t) (i : ∀ D σ H, t' D σ H → t D σ H) : PSs X e t' := ⟨fun pins s σ H D I q => h.run pins s σ H D I (i D σ H q)⟩

/-- the data of an expression: a new container is let go -/
def dat (m : M Rs) : M D := do
  let r ← m
  Pure.pure r.1
section
variable {K : PySem.W.Frag} {w : WX} {g : Gh} {σ : L2.St} {H : Hp}
theorem At.dat_ {m : M Rs} {k : D → Gh → Hp → Prop} (G : Good K g σ H) (h : At K w (dat m) g σ H k) :
    At K w m g σ H fun r g1 H1 => ∀ v, RelR K H g1 σ H1 r v → ∃ g2, Good K g2 σ H1 ∧ Ext g σ H g2 σ H1 ∧ Rep K g2.As (hid g2.M H1) r.1 v ∧ k r.1 g2 H1 := by
  unfold At at h ⊢
  unfold dat at h
  rw [bind_run] at h
  cases e : m g.S with
  | bad => rw [e] at h; exact h
  | exc c fs s' => rw [e] at h; exact h
  | ok r s1 =>
    rw [e] at h
    intro As1 M1 H1 G1 E1 v rv
    have h : ∀ As' M' H', Good K ⟨s1.ρ, s1.st, As', M'⟩ σ H' → Ext g σ H ⟨s1.ρ, s1.st, As', M'⟩ σ H' → k r.1 ⟨s1.ρ, s1.st, As', M'⟩ H' := h
    unfold RelR at rv
    split at rv
    · obtain ⟨p, rfl, n⟩ := rv
      have G2 := G1.show_ n.nas n.now
      have E2 := E1.show_ G n.was
      exact ⟨_, G2, E2, n.rep, h _ _ _ G2 E2⟩
    · exact ⟨_, G1, E1, rv, h _ _ _ G1 E1⟩
/-- an operand: a name stands for its slot -/
def opd (m : M Rs) : M Opd := do
  let d ← dat m
  Pure.pure (.val d)
theorem At.opd_ {m : M Rs} {k : Opd → Gh → Hp → Prop} (G : Good K g σ H) (h : At K w (opd m) g σ H k) :
    At K w m g σ H fun r g1 H1 => ∀ v, RelR K H g1 σ H1 r v → ∃ g2, Good K g2 σ H1 ∧ Ext g σ H g2 σ H1 ∧ Rep K g2.As (hid g2.M H1) r.1 v ∧ k (.val r.1) g2 H1 := by
  have h2 : At K w (dat m) g σ H (fun d g1 H1 => k (.val d) g1 H1) := (At.bind G h).imp fun d g1 H1 G1 E1 ⟨_, _, q⟩ => At.pure_ G1 q
  exact At.dat_ G h2
end
section
variable {X : Cx} {w : WX} {e : Expr}
theorem Tr.dat {m : M Rs} (h : PE X e (Tr X.K w m)) : PE X e (Td X.K w (dat m)) := h.weak fun σ H Q ⟨g, G, q⟩ => ⟨g, G, (At.dat_ G q).imp fun r g1 H1 _ _ q2 v rv => by
  obtain ⟨g2, G2, E2, r2, k2⟩ := q2 v rv
  exact k2 v r2⟩
theorem Tr.opd {m : M Rs} (h : PE X e (Tr X.K w m)) : PE X e (To X.K w (opd m)) := h.weak fun σ H Q ⟨g, G, q⟩ => ⟨g, G, (At.opd_ G q).imp fun r g1 H1 _ _ q2 v rv => by
  obtain ⟨g2, G2, E2, r2, k2⟩ := q2 v rv
  exact k2 v r2⟩
end
end Z

/-! Z3: the interpreter's language and its evaluation. -/
namespace Z
open PySem PySem.Spec PyProof.Rows L2

inductive BOp where
  | add | sub | mul | fdiv | mod | pow
deriving DecidableEq
inductive COp where
  | eq | ne | lt | le | gt | ge | isin | notin
deriving DecidableEq
inductive Ty where
  | int | bool | str | tuple | list
deriving DecidableEq
inductive Blt where
  | len | tuple | list | max2 | abs | sum | all | any | sorted | lrg1 | trg1 | lrg2 | trg2
deriving DecidableEq
inductive Tg where
  | nm (i : Nat)
  | tup (ts : List Tg)
inductive IK where
  | seq | rng1 | rng2 | enum | zip
deriving DecidableEq

inductive Ex where
  | var (i : Nat)
  | con (d : D)
  | tup (es : List Ex)
  | lst (es : List Ex)
  | shr (e : Ex)
  | bin (op : BOp) (a b : Ex)
  | neg (a : Ex)
  | cmp (op : COp) (a b : Ex)
  | cmp2 (op op' : COp) (a b c : Ex)
  | isN (no : Bool) (a : Ex)
  | and2 (a b : Ex)
  | or2 (a b : Ex)
  | not1 (a : Ex)
  | ife (c a b : Ex)
  | idx (a i : Ex)
  | sli (a : Ex) (lo hi : Option Ex)
  | rev (a : Ex)
  | call (f : Nat) (es : List Ex)
  | blt (b : Blt) (es : List Ex)
  | isi (ts : List Ty) (a : Ex)
  | lc (elt : Ex) (tg : Tg) (ik : IK) (src conds : List Ex) (own : List Nat)
  | lc2 (elt : Ex) (tg : Tg) (ik : IK) (src conds : List Ex) (own : List Nat) (tg1 : Tg) (ik1 : IK) (src1 conds1 : List Ex) (own1 : List Nat)
  | popk (i : Nat) (k : Ex)
  | popl (i : Nat)

inductive Sm where
  | asg (i : Nat) (e : Ex)
  | asgT (ts : List Tg) (e : Ex)
  | aug (op : BOp) (i : Nat) (e : Ex)
  | setI (o k e : Ex)
  | augI (op : BOp) (o k e : Ex)
  | app (i : Nat) (e : Ex)
  | ext (i : Nat) (e : Ex)
  | ins (i : Nat) (k e : Ex)
  | expr (e : Ex)
  | ret (e : Ex)
  | retN
  | ife (c : Ex) (a b : List Sm)
  | forE (tg : Tg) (ik : IK) (src : List Ex) (body : List Sm)
  | whil (c : Ex) (body : List Sm)
  | brk | cont | pass

inductive Flow where
  | nx | brk | cont | ret (r : Rs)

/-- a call's result: the data, the shared objects behind it -/
inductive R where
  | ok (r : Rs) (st : List SO)
  | exc (c : Nat) (fs : List (Str × D)) (st : List SO)
  | bad
abbrev CallT := Nat → List D → List SO → R

/-! ### operations on data -/
def line : Nat := 16777216
theorem line_eq : line = sizeLine := by rw [sizeLine_eq]; rfl
def mulOk (i j : Int) : Bool := decide (i.natAbs < 2 ^ 64) || (decide (j.natAbs < 2 ^ 64) || decide (i.natAbs.log2 + j.natAbs.log2 < 1000000))

-- the plain data that HandS compares
mutual
def toP : D → PyData
  | .none => .none
  | .bl b => .bool b
  | .int i => .int i
  | .str s => .str s
  | .tup ds => .tuple (toPs ds)
  | .lst ds => .list (toPs ds)
  | .dic _ _ => .none
  | .obj _ => .none
  | .scr _ => .none
def toPs : List D → List PyData
  | [] => []
  | d :: ds => toP d :: toPs ds
end
mutual
def plain : D → Bool
  | .none => true
  | .bl _ => true
  | .int _ => true
  | .str s => PyData.strOk s
  | .tup ds => plains ds
  | .lst ds => plains ds
  | .dic _ _ => false
  | .obj _ => false
  | .scr _ => false
def plains : List D → Bool
  | [] => true
  | d :: ds => plain d && plains ds
end
-- no container within that could be changed
mutual
def still : D → Bool
  | .none => true
  | .bl _ => true
  | .int _ => true
  | .str _ => true
  | .tup ds => stills ds
  | .lst _ => false
  | .dic _ _ => false
  | .obj _ => true
  | .scr _ => false
def stills : List D → Bool
  | [] => true
  | d :: ds => still d && stills ds
end
def stillSO : SO → Bool
  | .lst ds => stills ds
  | .ins _ fs => stills (fs.map (·.2))
def fitD (d : D) : Bool := plain d && decide ((toP d).depth ≤ 60)
def eqD (d e : D) : Bool := PyData.eqv (toP d) (toP e)

def tyD : Ty → D → Option Bool
  | t, .none => some false
  | t, .bl _ => some (t == .bool || t == .int)
  | t, .int _ => some (t == .int)
  | t, .str _ => some (t == .str)
  | t, .tup _ => some (t == .tuple)
  | t, .lst _ => some (t == .list)
  | _, _ => none
def isiD (ts : List Ty) (d : D) : Option Bool := ts.foldr (fun t r => (tyD t d).bind fun a => r.map fun b => a || b) (some false)

def binD (op : BOp) (a b : D) : Option Rs := match op, a, b with
  | .add, .int i, .int j => some (.int (i + j), false)
  | .add, .str x, .str y => if x.length + y.length ≤ line then some (.str (x ++ y), false) else none
  | .add, .tup x, .tup y => if x.length + y.length ≤ line then some (.tup (x ++ y), false) else none
  | .add, .lst x, .lst y => if x.length + y.length ≤ line then some (.lst (x ++ y), true) else none
  | .sub, .int i, .int j => some (.int (i - j), false)
  | .mul, .int i, .int j => if mulOk i j then some (.int (i * j), false) else none
  | .mul, .lst x, .int k => if -(2 ^ 63) ≤ k ∧ k < 2 ^ 63 ∧ x.length * k.toNat ≤ line then some (.lst (List.replicate k.toNat x).flatten, true) else none
  | .fdiv, .int i, .int j => if 0 < j ∧ j.natAbs.log2 < 9000 then some (.int (i / j), false) else none
  | .mod, .int i, .int j => if 0 < j then some (.int (i % j), false) else none
  | .pow, .int i, .int j => if 0 ≤ j ∧ j ≤ 1000000 ∧ i.natAbs < 2 ^ 64 then some (.int (i ^ j.toNat), false) else none
  | _, _, _ => none
/-- one sign in a text -/
def inStr (x y : Str) : Bool := !(Builtin.Str.occurrences y x 0 y.length 1).isEmpty
def cmpD (op : COp) (a b : D) : Option Bool := match op with
  | .eq => if fitD a && fitD b then some (eqD a b) else none
  | .ne => if fitD a && fitD b then some (!eqD a b) else none
  | .lt => (match a, b with
    | .int i, .int j => some (decide (i < j))
    | _, _ => none)
  | .le => (match a, b with
    | .int i, .int j => some (decide (i ≤ j))
    | _, _ => none)
  | .gt => (match a, b with
    | .int i, .int j => some (decide (j < i))
    | _, _ => none)
  | .ge => (match a, b with
    | .int i, .int j => some (decide (j ≤ i))
    | _, _ => none)
  | .isin => (match a, b with
    | .str x, .str y => some (inStr x y)
    | d, .lst ds => if fitD d && fitD (.lst ds) then some (ds.any fun z => eqD z d) else none
    | d, .tup ds => if fitD d && fitD (.tup ds) then some (ds.any fun z => eqD z d) else none
    | _, _ => none)
  | .notin => (match a, b with
    | .str x, .str y => some (!inStr x y)
    | d, .lst ds => if fitD d && fitD (.lst ds) then some (!ds.any fun z => eqD z d) else none
    | d, .tup ds => if fitD d && fitD (.tup ds) then some (!ds.any fun z => eqD z d) else none
    | _, _ => none)
def seqD (st : List SO) (d : D) : Option (List D) := match d with
  | .tup ds => some ds
  | .lst ds => some ds
  | .obj i => (match st[i]? with
    | some (.lst ds) => some ds
    | _ => none)
  | _ => none
def idxD (st : List SO) (a i : D) : Option D := match i with
  | .int k => (match a with
    | .str s => if s.length ≤ line then (atI s.cps.toList k).map fun c => .str ⟨#[c]⟩ else none
    | _ => (seqD st a).bind fun ds => atI ds k)
  | _ => none
def cutD (ds : List D) (lo hi : Option Int) : List D := (ds.drop (HT.sIx ds.length 0 lo)).take (HT.sIx ds.length ds.length hi - HT.sIx ds.length 0 lo)
def sliD (a : D) (lo hi : Option Int) : Option Rs := match a with
  | .tup ds => some (.tup (cutD ds lo hi), false)
  | .lst ds => some (.lst (cutD ds lo hi), true)
  | .str s => if s.length ≤ line then some (.str (cutS s lo hi), false) else none
  | _ => none
def boolsD : List D → Option (List Bool)
  | [] => some []
  | .bl b :: ds => (boolsD ds).map (b :: ·)
  | _ => none
def intsD : List D → Option (List Int)
  | [] => some []
  | .int b :: ds => (intsD ds).map (b :: ·)
  | _ => none
def lenD (st : List SO) (d : D) : Option Rs := match d with
  | .str s => if s.length ≤ line then some (.int s.length, false) else none
  | d => (seqD st d).map fun ds => (.int ds.length, false)
def tupleD : D → Option Rs
  | .tup ds => some (.tup ds, false)
  | .lst ds => some (.tup ds, false)
  | _ => none
def listD : D → Option Rs
  | .scr ns => some (.lst (ns.map .int), true)
  | .tup ds => some (.lst ds, true)
  | .lst ds => some (.lst ds, true)
  | _ => none
def absD : D → Option Rs
  | .int i => some (.int (if i < 0 then -i else i), false)
  | _ => none
def max2D (d e : D) : Option Rs := match d, e with
  | .int i, .int j => some (.int (if j > i then j else i), false)
  | _, _ => none
def sumD : D → Option Rs
  | .lst ds => (intsD ds).map fun ns => (.int ns.sum, false)
  | .tup ds => (intsD ds).map fun ns => (.int ns.sum, false)
  | _ => none
def allD : D → Option Rs
  | .lst ds => (boolsD ds).map fun bs => (.bl (bs.all id), false)
  | _ => none
def anyD : D → Option Rs
  | .lst ds => (boolsD ds).map fun bs => (.bl (bs.any id), false)
  | _ => none
/-- the order of plain data -/
def leD (d e : D) : Bool := PySem.W.dataLe false toP d e
def isT1 : D → Bool
  | .tup (_ :: _) => true
  | _ => false
def isB1 : D → Bool
  | .tup _ => false
  | .none => false
  | _ => true
def alikeD (ds : List D) : Bool := ds.all fun d => ds.all fun e => PySem.W.alike (toP d) (toP e)
/-- what sorted() orders -/
def sortOk (ds : List D) : Bool := decide (ds.length ≤ 1) || ((plains ds && ds.all fun d => decide ((toP d).depth ≤ 60)) && (alikeD ds && (ds.all isT1 || ds.all isB1)))
def sortD : D → Option Rs
  | .lst ds => if sortOk ds = true then some (.lst (ds.mergeSort leD), true) else none
  | _ => none
def rgOk (a b : Int) : Bool := decide (-(2 ^ 62) ≤ a ∧ a < 2 ^ 62 ∧ -(2 ^ 62) ≤ b ∧ b < 2 ^ 62 ∧ (b - a).toNat ≤ 2 ^ 24)
def rgD (a b : Int) : List D := (List.range (b - a).toNat).map fun (k : Nat) => D.int (a + (k : Int))
def lrgD (a b : Int) : Option Rs := if rgOk a b = true then some (.lst (rgD a b), true) else none
def trgD (a b : Int) : Option Rs := if rgOk a b = true then some (.tup (rgD a b), false) else none
def lrg1D : D → Option Rs
  | .int n => lrgD 0 n
  | _ => none
def trg1D : D → Option Rs
  | .int n => trgD 0 n
  | _ => none
def lrg2D (d e : D) : Option Rs := match d, e with
  | .int a, .int b => lrgD a b
  | _, _ => none
def trg2D (d e : D) : Option Rs := match d, e with
  | .int a, .int b => trgD a b
  | _, _ => none
def on1 (f : D → Option Rs) : List D → Option Rs
  | [d] => f d
  | _ => none
def on2 (f : D → D → Option Rs) : List D → Option Rs
  | [d, e] => f d e
  | _ => none
def bltD (st : List SO) : Blt → List D → Option Rs
  | .len => on1 (lenD st)
  | .tuple => on1 tupleD
  | .list => on1 listD
  | .max2 => on2 max2D
  | .abs => on1 absD
  | .sum => on1 sumD
  | .all => on1 allD
  | .any => on1 anyD
  | .sorted => on1 sortD
  | .lrg1 => on1 lrg1D
  | .trg1 => on1 trg1D
  | .lrg2 => on2 lrg2D
  | .trg2 => on2 trg2D

/-! ### the state -/
def setρ (i : Nat) (x : Slot) : M Unit := fun s => if i < s.ρ.length then .ok () ⟨s.ρ.set i x, s.st⟩ else .bad
def rdSlot (i : Nat) : M D := fun s => match s.ρ[i]? with
  | some (.pu d) => .ok d s
  | some (.ow d) => .ok d s
  | _ => .bad
/-- the name as an expression: a container goes out of the frame's hands -/
def rdVar (i : Nat) : M Rs := fun s => match s.ρ[i]? with
  | some (.pu d) => .ok (d, false) s
  | some (.ow d) => .ok (d, false) ⟨s.ρ.set i (.pu d), s.st⟩
  | _ => .bad
/-- .. as what is returned -/
def rdRet (i : Nat) : M Rs := fun s => match s.ρ[i]? with
  | some (.pu d) => .ok (d, false) s
  | some (.ow d) => .ok (d, true) s
  | _ => .bad
def slotOpd (i : Nat) : M Opd := fun s => match s.ρ[i]? with
  | some (.pu _) => .ok (.slot i) s
  | some (.ow _) => .ok (.slot i) s
  | _ => .bad
def res : Opd → M D
  | .val d => Pure.pure d
  | .slot i => rdSlot i
def ress : List Opd → M (List D)
  | [] => Pure.pure []
  | o :: os => do
    let d ← res o
    let ds ← ress os
    Pure.pure (d :: ds)
/-- the slots that were handed to a call are let go -/
def letgo (ρ : List Slot) : List Opd → List Slot
  | [] => ρ
  | .val _ :: os => letgo ρ os
  | .slot i :: os => (match ρ[i]? with
    | some (.ow d) => letgo (ρ.set i (.pu d)) os
    | _ => letgo ρ os)
def afterCall (os : List Opd) (r : R) : M Rs := fun s => match r with
  | .ok r st => if (still r.1 && st.all stillSO) = true then .ok r ⟨s.ρ, st⟩ else .ok r ⟨letgo s.ρ os, st⟩
  | .exc c fs st => .exc c fs ⟨letgo s.ρ os, st⟩
  | .bad => .bad
def bindT : Tg → D → M Unit
  | .nm i, d => setρ i (.pu d)
  | .tup ts, d => (match d with
    | .tup ds => if ts.length = ds.length then bindTs ts ds else bad
    | _ => bad)
where bindTs : List Tg → List D → M Unit
  | [], _ => Pure.pure ()
  | t :: ts, d :: ds => do
    bindT t d
    bindTs ts ds
  | _ :: _, [] => bad
def wipeS (own : List Nat) : M Unit := fun s => .ok () ⟨own.foldr (fun i ρ => ρ.set i .un) s.ρ, s.st⟩
/-- behind a comprehension: its own names stand as before -/
def unwipe (own : List Nat) (ρ0 ρ : List Slot) : List Slot := own.foldr (fun i ρ => match ρ0[i]? with
  | some x => ρ.set i x
  | none => ρ) ρ
def it1 (f : D → Option (List D)) : List D → Option (List D)
  | [d] => f d
  | _ => none
def it2 (f : D → D → Option (List D)) : List D → Option (List D)
  | [d, e] => f d e
  | _ => none
def seqI : D → Option (List D)
  | .tup ds => some ds
  | .lst ds => some ds
  | .str s => some (s.cps.toList.map fun c => .str ⟨#[c]⟩)
  | _ => none
def rng1I : D → Option (List D)
  | .int n => if -(2 ^ 62) ≤ n ∧ n < 2 ^ 62 then some ((List.range n.toNat).map fun (k : Nat) => D.int (k : Int)) else none
  | _ => none
def rng2I (d e : D) : Option (List D) := match d, e with
  | .int a, .int b => if -(2 ^ 62) ≤ a ∧ a < 2 ^ 62 ∧ -(2 ^ 62) ≤ b ∧ b < 2 ^ 62 then some ((List.range (b - a).toNat).map fun (k : Nat) => D.int (a + (k : Int))) else none
  | _, _ => none
def enumI : D → Option (List D)
  | .lst ds => some (ds.mapIdx fun k d => .tup [.int (k : Int), d])
  | _ => none
def zipI (d e : D) : Option (List D) := match d, e with
  | .lst ds, .lst es => some ((ds.zip es).map fun p => .tup [p.1, p.2])
  | _, _ => none
def itemsD : IK → List D → Option (List D)
  | .seq => it1 seqI
  | .rng1 => it1 rng1I
  | .rng2 => it2 rng2I
  | .enum => it1 enumI
  | .zip => it2 zipI
def tick (acc : List D) (y : D) : M (List D) := if acc.length < line then Pure.pure (acc ++ [y]) else bad
def lcLoop (own : List Nat) (tg : Tg) (cond : M Bool) (elt : M D) : List D → List D → M (List D)
  | [], acc => Pure.pure acc
  | x :: xs, acc => do
    wipeS own
    bindT tg x
    let c ← cond
    if c = true then do
      let y ← elt
      let acc' ← tick acc y
      lcLoop own tg cond elt xs acc'
    else lcLoop own tg cond elt xs acc
/-- two fors: the outer's turns -/
def lc2Loop (own own1 : List Nat) (tg : Tg) (cond : M Bool) (src1 : M (List D)) (tg1 : Tg) (cond1 : M Bool) (elt : M D) : List D → List D → M (List D)
  | [], acc => Pure.pure acc
  | x :: xs, acc => do
    wipeS own
    bindT tg x
    let c ← cond
    if c = true then do
      let ys ← src1
      let acc' ← lcLoop own1 tg1 cond1 elt ys acc
      lc2Loop own own1 tg cond src1 tg1 cond1 elt xs acc'
    else lc2Loop own own1 tg cond src1 tg1 cond1 elt xs acc
/-- a block's end: the comprehension's own names as before; what it changed else stays -/
def blk (own : List Nat) (m : M (List D)) : M Rs := fun s => match m s with
  | .ok ds s' => .ok (.lst ds, true) ⟨unwipe own s.ρ s'.ρ, s'.st⟩
  | _ => .bad
def asB (m : M Rs) : M Bool := do
  let r ← m
  match r.1 with
  | .bl b => Pure.pure b
  | _ => bad
def ofB (m : M Bool) : M Rs := do
  let b ← m
  Pure.pure (.bl b, false)
def shrD (r : Rs) : M Rs := fun s => match r with
  | (.lst ds, true) => .ok (.obj s.st.length, false) ⟨s.ρ, s.st ++ [.lst ds]⟩
  | _ => .bad
def stO {α : Type} (f : List SO → Option α) : M α := fun s => match f s.st with
  | some a => .ok a s
  | none => .bad
/-- the place of an item -/
def ixP (n : Nat) (k : D) : Option Nat := match k with
  | .int i => if -(2 ^ 63) ≤ i ∧ i < 2 ^ 63 then ixN n i else none
  | _ => none
def ownL (i : Nat) : M Unit := fun s => match s.ρ[i]? with
  | some (.ow (.lst _)) => .ok () s
  | _ => .bad
def popAt (i : Nat) (k : D) : M Rs := fun s => match s.ρ[i]? with
  | some (.ow (.lst ds)) => (match ixP ds.length k with
    | some j => (match ds[j]? with
      | some d => .ok (d, false) ⟨s.ρ.set i (.ow (.lst (ds.eraseIdx j))), s.st⟩
      | none => .bad)
    | none => .bad)
  | _ => .bad
def popLast (i : Nat) : M Rs := fun s => match s.ρ[i]? with
  | some (.ow (.lst ds)) => (match ds[ds.length - 1]? with
    | some d => .ok (d, false) ⟨s.ρ.set i (.ow (.lst ds.dropLast)), s.st⟩
    | none => .bad)
  | _ => .bad
def opdV (x : Ex) (m : M Rs) : M Opd := match x with
  | .var i => slotOpd i
  | _ => opd m

mutual
def evalE (cl : CallT) : Ex → M Rs
  | .var i => rdVar i
  | .con d => Pure.pure (d, false)
  | .tup es => do
    let ds ← evalDs cl es
    if ds.length ≤ line then Pure.pure (.tup ds, false) else bad
  | .lst es => do
    let ds ← evalDs cl es
    if ds.length ≤ line then Pure.pure (.lst ds, true) else bad
  | .shr e => do
    let r ← evalE cl e
    shrD r
  | .bin op a b => do
    let x ← opdV a (evalE cl a)
    let y ← opdV b (evalE cl b)
    let d ← res x
    let e ← res y
    liftO (binD op d e)
  | .neg a => do
    let d ← dat (evalE cl a)
    match d with
    | .int i => Pure.pure (.int (-i), false)
    | _ => bad
  | .cmp op a b => do
    let x ← opdV a (evalE cl a)
    let y ← opdV b (evalE cl b)
    let d ← res x
    let e ← res y
    let c ← liftO (cmpD op d e)
    Pure.pure (.bl c, false)
  | .cmp2 op op' a b c => do
    let d ← dat (evalE cl a)
    let e ← dat (evalE cl b)
    let c1 ← liftO (cmpD op d e)
    if c1 = true then do
      let f ← dat (evalE cl c)
      let c2 ← liftO (cmpD op' e f)
      Pure.pure (.bl c2, false)
    else Pure.pure (.bl false, false)
  | .isN no a => do
    let x ← opdV a (evalE cl a)
    let d ← res x
    match d with
    | .none => Pure.pure (.bl (!no), false)
    | _ => Pure.pure (.bl no, false)
  | .and2 a b => do
    let c ← asB (evalE cl a)
    if c = true then ofB (asB (evalE cl b)) else Pure.pure (.bl false, false)
  | .or2 a b => do
    let c ← asB (evalE cl a)
    if c = true then Pure.pure (.bl true, false) else ofB (asB (evalE cl b))
  | .not1 a => do
    let c ← asB (evalE cl a)
    Pure.pure (.bl (!c), false)
  | .ife c a b => do
    let t ← asB (evalE cl c)
    if t = true then evalE cl a else evalE cl b
  | .idx a i => do
    let x ← opdV a (evalE cl a)
    let y ← opdV i (evalE cl i)
    let d ← res x
    let e ← res y
    let f ← stO fun st => idxD st d e
    Pure.pure (f, false)
  | .sli a lo hi => do
    let x ← opdV a (evalE cl a)
    let l ← evalPart cl lo
    let h ← evalPart cl hi
    let d ← res x
    liftO (sliD d l h)
  | .rev a => do
    let x ← opdV a (evalE cl a)
    let d ← res x
    match d with
    | .lst ds => Pure.pure (.lst ds.reverse, true)
    | _ => bad
  | .call f es => do
    let os ← evalOs cl es
    let ds ← ress os
    let s ← getS
    afterCall os (cl f ds s.st)
  | .blt b es => do
    let os ← evalOs cl es
    let ds ← ress os
    stO fun st => bltD st b ds
  | .isi ts a => do
    let x ← opdV a (evalE cl a)
    let d ← res x
    let b ← liftO (isiD ts d)
    Pure.pure (.bl b, false)
  | .lc elt tg ik src conds own => do
    let ds ← evalDs cl src
    let xs ← liftO (itemsD ik ds)
    blk own (calm (lcLoop own tg (evalCs cl conds) (dat (evalE cl elt)) xs []))
  | .lc2 elt tg ik src conds own tg1 ik1 src1 conds1 own1 => do
    let ds ← evalDs cl src
    let xs ← liftO (itemsD ik ds)
    blk own (calm (lc2Loop own own1 tg (evalCs cl conds) (evalDs cl src1 >>= fun ds => liftO (itemsD ik1 ds)) tg1 (evalCs cl conds1) (dat (evalE cl elt)) xs []))
  | .popk i k => do
    ownL i
    let d ← dat (evalE cl k)
    popAt i d
  | .popl i => do
    ownL i
    popLast i
def evalDs (cl : CallT) : List Ex → M (List D)
  | [] => Pure.pure []
  | e :: es => do
    let d ← dat (evalE cl e)
    let ds ← evalDs cl es
    Pure.pure (d :: ds)
def evalOs (cl : CallT) : List Ex → M (List Opd)
  | [] => Pure.pure []
  | e :: es => do
    let d ← opdV e (evalE cl e)
    let ds ← evalOs cl es
    Pure.pure (d :: ds)
def evalCs (cl : CallT) : List Ex → M Bool
  | [] => Pure.pure true
  | e :: es => do
    let c ← asB (evalE cl e)
    if c = true then evalCs cl es else Pure.pure false
def evalPart (cl : CallT) : Option Ex → M (Option Int)
  | none => Pure.pure none
  | some e => do
    let d ← dat (evalE cl e)
    match d with
    | .int i => Pure.pure (some i)
    | _ => bad
end

/-! ### statements -/
def setR (i : Nat) (r : Rs) : M Unit := setρ i (if r.2 = true then .ow r.1 else .pu r.1)
def augD (op : BOp) (a b : D) : Option D := match op, a, b with
  | .add, .int i, .int j => some (.int (i + j))
  | .sub, .int i, .int j => some (.int (i - j))
  | _, _, _ => none
def lstAt (d z : D) : Option D := match d, z with
  | .lst ds, .int k => atI ds k
  | _, _ => none
def appTo (i : Nat) (d : D) : M Unit := fun s => match s.ρ[i]? with
  | some (.ow (.lst ds)) => if ds.length < line then .ok () ⟨s.ρ.set i (.ow (.lst (ds ++ [d]))), s.st⟩ else .bad
  | _ => .bad
def extTo (i : Nat) (d : D) : M Unit := fun s => match s.ρ[i]?, d with
  | some (.ow (.lst ds)), .lst es => if ds.length + es.length ≤ line then .ok () ⟨s.ρ.set i (.ow (.lst (ds ++ es))), s.st⟩ else .bad
  | _, _ => .bad
def insTo (i : Nat) (k d : D) : M Unit := fun s => match s.ρ[i]?, k with
  | some (.ow (.lst ds)), .int j => if ds.length < line ∧ 0 ≤ j ∧ j < 2 ^ 63 then .ok () ⟨s.ρ.set i (.ow (.lst (ds.take j.toNat ++ [d] ++ ds.drop j.toNat))), s.st⟩ else .bad
  | _, _ => .bad
/-- the list that stands at an operand: an owned slot's, a shared one -/
def setAt (o : Opd) (k d : D) : M Unit := fun s => match o with
  | .slot i => (match s.ρ[i]? with
    | some (.ow (.lst ds)) => (match k with
      | .int z => (match ixN ds.length z with
        | some j => .ok () ⟨s.ρ.set i (.ow (.lst (ds.set j d))), s.st⟩
        | none => .bad)
      | _ => .bad)
    | some (.pu (.obj n)) => (match s.st[n]? with
      | some (.lst ds) => (match k with
        | .int z => (match ixN ds.length z with
          | some j => .ok () ⟨s.ρ, s.st.set n (.lst (ds.set j d))⟩
          | none => .bad)
        | _ => .bad)
      | _ => .bad)
    | _ => .bad)
  | _ => .bad
def forLoop (tg : Tg) (body : M Flow) : List D → M Flow
  | [] => Pure.pure .nx
  | x :: xs => do
    bindT tg x
    let f ← body
    match f with
    | .nx => forLoop tg body xs
    | .cont => forLoop tg body xs
    | .brk => Pure.pure .nx
    | .ret r => Pure.pure (.ret r)
def whileLoop (c : M Bool) (body : M Flow) : Nat → M Flow
  | 0 => bad
  | n + 1 => do
    let b ← c
    if b = true then do
      let f ← body
      match f with
      | .nx => whileLoop c body n
      | .cont => whileLoop c body n
      | .brk => Pure.pure .nx
      | .ret r => Pure.pure (.ret r)
    else Pure.pure .nx
def retV (x : Ex) (m : M Rs) : M Rs := match x with
  | .var i => rdRet i
  | _ => m
mutual
def exec (cl : CallT) (wf : Nat) : Sm → M Flow
  | .asg i e => do
    let r ← evalE cl e
    setR i r
    Pure.pure .nx
  | .asgT ts e => do
    let d ← dat (evalE cl e)
    bindT (.tup ts) d
    Pure.pure .nx
  | .aug op i e => do
    let d ← rdSlot i
    let f ← dat (evalE cl e)
    let x ← liftO (augD op d f)
    setρ i (.pu x)
    Pure.pure .nx
  | .setI o k e => do
    let d ← dat (evalE cl e)
    let x ← opdV o (evalE cl o)
    let z ← dat (evalE cl k)
    setAt x z d
    Pure.pure .nx
  | .augI op o k e => do
    let x ← opdV o (evalE cl o)
    let z ← dat (evalE cl k)
    let d ← res x
    let v ← liftO (lstAt d z)
    let y ← dat (evalE cl e)
    let u ← liftO (augD op v y)
    setAt x z u
    Pure.pure .nx
  | .app i e => do
    ownL i
    let d ← dat (evalE cl e)
    appTo i d
    Pure.pure .nx
  | .ext i e => do
    ownL i
    let d ← dat (evalE cl e)
    extTo i d
    Pure.pure .nx
  | .ins i k e => do
    ownL i
    let z ← dat (evalE cl k)
    let d ← dat (evalE cl e)
    insTo i z d
    Pure.pure .nx
  | .expr e => do
    let _ ← dat (evalE cl e)
    Pure.pure .nx
  | .ret e => do
    let r ← retV e (evalE cl e)
    Pure.pure (.ret r)
  | .retN => Pure.pure (.ret (.none, false))
  | .ife c a b => do
    let t ← asB (evalE cl c)
    if t = true then execs cl wf a else execs cl wf b
  | .forE tg ik src body => do
    let ds ← evalDs cl src
    let xs ← liftO (itemsD ik ds)
    forLoop tg (execs cl wf body) xs
  | .whil c body => whileLoop (asB (evalE cl c)) (execs cl wf body) wf
  | .brk => Pure.pure .brk
  | .cont => Pure.pure .cont
  | .pass => Pure.pure .nx
def execs (cl : CallT) (wf : Nat) : List Sm → M Flow
  | [] => Pure.pure .nx
  | s :: ss => do
    let f ← exec cl wf s
    match f with
    | .nx => execs cl wf ss
    | .brk => Pure.pure .brk
    | .cont => Pure.pure .cont
    | .ret r => Pure.pure (.ret r)
end
/-- a def: its slots, its parameters, its body -/
structure FnD where
  n : Nat
  np : Nat
  body : List Sm
def runFn (cl : CallT) (wf : Nat) (f : FnD) (ds : List D) (st : List SO) : R :=
  if ds.length = f.np then
    match execs cl wf f.body ⟨ds.map .pu ++ List.replicate (f.n - f.np) .un, st⟩ with
    | .ok .nx s => .ok (.none, false) s.st
    | .ok (.ret r) s => .ok r s.st
    | .ok _ _ => .bad
    | .exc c fs s => .exc c fs s.st
    | .bad => .bad
  else .bad
/-- calls, at most so deep -/
def callF (fns : List FnD) (wf : Nat) : Nat → CallT
  | 0 => fun _ _ _ => .bad
  | n + 1 => fun f ds st => match fns[f]? with
    | some d => runFn (callF fns wf n) wf d ds st
    | none => .bad
end Z

/-! Z4: how the state goes on: new objects, slots let go; operands; names, constants, displays. -/
namespace Z
open PySem PySem.Spec PyProof.Rows L2

section
variable {K : PySem.W.Frag} {g : Gh} {σ : L2.St} {H : Hp} {p : Addr} {o : HO}
theorem Good.notM (G : Good K g σ H) (h : H p = none) : p ∉ g.M := fun z => G.trk p z h
theorem hid_upd {M : List Addr} (h : H p = none) : Same (hid M H) (hid M (upd H p o)) := fun b u q => by
  obtain ⟨n, q⟩ := hid_of q
  exact hid_mk n (by rw [upd_ne (ne_of_none q h)]; exact q)
theorem hid_updC {M : List Addr} (h : H p = none) : Same (hid M H) (hid (p :: M) (upd H p o)) := fun b u q => by
  obtain ⟨n, q⟩ := hid_of q
  have e := ne_of_none q h
  exact hid_mk (fun z => (List.mem_cons.mp z).elim e n) (by rw [upd_ne e]; exact q)
theorem asId {As : List Addr} : ∀ (i : Nat) (a : Addr), As[i]? = some a → As[i]? = some a := fun _ _ h => h
/-- a new object is laid -/
theorem Good.alloc (G : Good K g σ H) (h : H p = none) : Good K g σ (upd H p o) := by
  have up : ∀ a, H a ≠ none → upd H p o a = H a := fun a n => upd_ne (fun z => n (z ▸ h))
  refine ⟨G.len, fun i s e => ?_, G.inj, G.oas, fun i so e => ?_, G.asl, G.asn, G.asm, fun q hq => by rw [up q (G.trk q hq)]; exact G.trk q hq⟩
  · have q := G.slot i s e
    cases s with
    | un => trivial
    | pu d => obtain ⟨v, e, r⟩ := q; exact ⟨v, e, r.mono asId (hid_upd h)⟩
    | ow d => obtain ⟨a, e, m, c⟩ := q; exact ⟨a, e, m, c.mono asId (hid_upd h) (up a (G.trk a m))⟩
  · obtain ⟨a, e1, q⟩ := G.sto i so e
    exact ⟨a, e1, q.mono asId (hid_upd h) (up a (G.trk a (G.asm a (List.mem_of_getElem? e1))))⟩
theorem Ext.alloc (G : Good K g σ H) (h : H p = none) : Ext g σ H g σ (upd H p o) :=
  ⟨⟨[], by simp⟩, fun b u n q => ⟨n, by rw [upd_ne (ne_of_none q h)]; exact q⟩, fun q hq _ _ => ⟨hq, upd_ne (fun z => G.trk q hq (z ▸ h))⟩,
    fun b n => by unfold upd; split; exact (fun z => nomatch z); exact n, fun _ h => .inl h⟩
/-- .. a container of our own -/
theorem Good.allocM (G : Good K g σ H) (h : H p = none) : Good K { g with M := p :: g.M } σ (upd H p o) := by
  have up : ∀ a, H a ≠ none → upd H p o a = H a := fun a n => upd_ne (fun z => n (z ▸ h))
  refine ⟨G.len, fun i s e => ?_, G.inj, G.oas, fun i so e => ?_, G.asl, G.asn, fun a h => List.mem_cons_of_mem _ (G.asm a h), fun q hq => ?_⟩
  · have q := G.slot i s e
    cases s with
    | un => trivial
    | pu d => obtain ⟨v, e, r⟩ := q; exact ⟨v, e, r.mono asId (hid_updC h)⟩
    | ow d => obtain ⟨a, e, m, c⟩ := q; exact ⟨a, e, List.mem_cons_of_mem _ m, c.mono asId (hid_updC h) (up a (G.trk a m))⟩
  · obtain ⟨a, e1, q⟩ := G.sto i so e
    exact ⟨a, e1, q.mono asId (hid_updC h) (up a (G.trk a (G.asm a (List.mem_of_getElem? e1))))⟩
  · rcases List.mem_cons.mp hq with e | e
    · rw [e, upd_same]; exact fun z => nomatch z
    · rw [up q (G.trk q e)]; exact G.trk q e
theorem Ext.allocM (G : Good K g σ H) (h : H p = none) : Ext g σ H { g with M := p :: g.M } σ (upd H p o) :=
  ⟨⟨[], by simp⟩, fun b u n q => ⟨fun z => (List.mem_cons.mp z).elim (ne_of_none q h) n, by rw [upd_ne (ne_of_none q h)]; exact q⟩, fun q hq _ _ => ⟨List.mem_cons_of_mem _ hq, upd_ne (fun z => G.trk q hq (z ▸ h))⟩,
    fun b n => by unfold upd; split; exact (fun z => nomatch z); exact n, fun _ h => .inl h⟩
theorem Own.some_ (G : Good K g σ H) {q : Addr} (h : Own g.ρ σ q) : q ∈ g.M ∧ H q ≠ none := by
  obtain ⟨i, d, e1, e2⟩ := h
  obtain ⟨a, e3, m, c⟩ := G.slot i _ e1
  rw [e2] at e3; cases e3
  exact ⟨m, c.some_⟩
theorem New.lst (G : Good K g σ H) (h : H p = none) {ds : List D} {vs : List V} (r : Reps K g.As (hid g.M H) ds vs) : New K H { g with M := p :: g.M } σ (upd H p (.lst vs)) (.lst ds) p := by
  refine ⟨h, List.mem_cons_self, fun z => G.trk p (G.asm p z) h, fun z => (Own.some_ G z).2 h, vs, upd_same, r.mono asId (hid_updC h)⟩
/-- a slot's container is let go -/
theorem Good.let1 (G : Good K g σ H) {i : Nat} {d : D} (hi : g.ρ[i]? = some (.ow d)) (hs : σ[i]? = some (some (.ref p))) :
    Good K { g with ρ := g.ρ.set i (.pu d), M := g.M.filter fun x => decide (x ≠ p) } σ H ∧ Ext g σ H { g with ρ := g.ρ.set i (.pu d), M := g.M.filter fun x => decide (x ≠ p) } σ H ∧
    Rep K g.As (hid (g.M.filter fun x => decide (x ≠ p)) H) d (.ref p) := by
  obtain ⟨a, e3, m, c⟩ := G.slot i _ hi
  rw [hs] at e3; cases e3
  have hil : i < g.ρ.length := (List.getElem?_eq_some_iff.mp hi).1
  have rp : Rep K g.As (hid (g.M.filter fun x => decide (x ≠ p)) H) d (.ref p) := by
    refine (c.mono asId hid_filter rfl).rep ?_
    unfold hid
    rw [if_neg (fun z => (mem_erase_ne.mp z).2 rfl)]
  have sub : ∀ q, Own (g.ρ.set i (.pu d)) σ q → Own g.ρ σ q := fun q ⟨j, e, h1, h2⟩ => by
    by_cases hj : i = j
    · subst hj; rw [List.getElem?_set_self hil] at h1; cases h1
    · rw [List.getElem?_set_ne hj] at h1; exact ⟨j, e, h1, h2⟩
  refine ⟨⟨by simpa using G.len, fun j s e => ?_, fun j k d1 d2 q h1 h2 h3 h4 => ?_, fun q h => G.oas q (sub q h), fun j so e => ?_, G.asl, G.asn, fun a h => ?_, fun q hq => G.trk q (mem_erase_ne.mp hq).1⟩, ⟨⟨[], by simp⟩, fun b u n q => ⟨fun z => n (mem_erase_ne.mp z).1, q⟩, fun q hq _ hn => ⟨mem_erase_ne.mpr ⟨hq, fun z => hn (z ▸ ⟨i, d, hi, hs⟩)⟩, rfl⟩, fun _ h => h, fun q h => .inl (sub q h)⟩, rp⟩
  · by_cases hj : i = j
    · subst hj
      rw [List.getElem?_set_self hil] at e; cases e
      exact ⟨_, hs, rp⟩
    · rw [List.getElem?_set_ne hj] at e
      have q := G.slot j s e
      cases s with
      | un => trivial
      | pu d => obtain ⟨v, e, r⟩ := q; exact ⟨v, e, r.mono asId hid_filter⟩
      | ow d' => obtain ⟨a, e4, m', c'⟩ := q; exact ⟨a, e4, mem_erase_ne.mpr ⟨m', fun z => hj (G.inj i j _ _ p hi e hs (z ▸ e4))⟩, c'.mono asId hid_filter rfl⟩
  · by_cases hj : i = j
    · subst hj; rw [List.getElem?_set_self hil] at h1; cases h1
    · by_cases hk : i = k
      · subst hk; rw [List.getElem?_set_self hil] at h2; cases h2
      · rw [List.getElem?_set_ne hj] at h1; rw [List.getElem?_set_ne hk] at h2
        exact G.inj j k _ _ q h1 h2 h3 h4
  · obtain ⟨a, e1, q⟩ := G.sto j so e
    exact ⟨a, e1, q.mono asId hid_filter rfl⟩
  · exact mem_erase_ne.mpr ⟨G.asm a h, fun z => G.oas p ⟨i, d, hi, hs⟩ (z ▸ h)⟩
end

/-! ### operands -/
/-- a value as data, its own container perhaps an owned one -/
def RepB (K : PySem.W.Frag) (As : List Addr) (Hh H : Hp) (d : D) (v : V) : Prop := match d with
  | .lst ds => ∃ a vs, v = .ref a ∧ H a = some (.lst vs) ∧ Reps K As Hh ds vs
  | d => Rep K As Hh d v
section
variable {K : PySem.W.Frag} {w : WX} {g g1 : Gh} {σ : L2.St} {H H1 : Hp}
theorem RepB.of {As : List Addr} {M : List Addr} {d : D} {v : V} (r : Rep K As (hid M H) d v) : RepB K As (hid M H) H d v := by
  cases d with
  | lst ds => obtain ⟨a, vs, e, h1, h2⟩ := r; exact ⟨a, vs, e, (hid_of h1).2, h2⟩
  | _ => exact r
theorem RelO.ext {o : Opd} {v : V} (e : Ext g σ H g1 σ H1) (r : RelO K g σ H o v) : RelO K g1 σ H1 o v := by
  cases o with
  | val d => exact e.rep r
  | slot i => exact r
theorem RelOs.ext {os : List Opd} {vs : List V} (e : Ext g σ H g1 σ H1) (r : RelOs K g σ H os vs) : RelOs K g1 σ H1 os vs := by
  induction r with
  | nil => exact .nil
  | cons a _ ih => exact .cons (a.ext e) ih
theorem At.res_ {o : Opd} {v : V} {k : D → Gh → Hp → Prop} (G : Good K g σ H) (r : RelO K g σ H o v) (h : At K w (res o) g σ H k) : ∃ d, RepB K g.As (hid g.M H) H d v ∧ k d g H := by
  cases o with
  | val d => exact ⟨d, RepB.of r, At.pure_ G h⟩
  | slot i =>
    have h : At K w (rdSlot i) g σ H k := h
    have r : σ[i]? = some (some v) := r
    unfold At rdSlot at h
    cases e : g.ρ[i]? with
    | none => simp only [Gh.S, e] at h
    | some s =>
      cases s with
      | un => simp only [Gh.S, e] at h
      | pu d =>
        simp only [Gh.S, e] at h
        obtain ⟨u, e1, r1⟩ := G.slot i _ e
        rw [r] at e1; cases e1
        exact ⟨d, RepB.of r1, h g.As g.M H G Ext.refl⟩
      | ow d =>
        simp only [Gh.S, e] at h
        obtain ⟨p, e1, m, c⟩ := G.slot i _ e
        rw [r] at e1; cases e1
        refine ⟨d, ?_, h g.As g.M H G Ext.refl⟩
        cases d with
        | lst ds => obtain ⟨vs, h1, h2⟩ := c; exact ⟨p, vs, rfl, h1, h2⟩
        | dic ks ws => obtain ⟨us, vs, h1, _⟩ := c; exact h1.elim
        | _ => exact c.elim
inductive RepBs (K : PySem.W.Frag) (As : List Addr) (Hh H : Hp) : List D → List V → Prop
  | nil : RepBs K As Hh H [] []
  | cons {d : D} {ds : List D} {v : V} {vs : List V} : RepB K As Hh H d v → RepBs K As Hh H ds vs → RepBs K As Hh H (d :: ds) (v :: vs)
theorem At.ress_ : ∀ {os : List Opd} {vs : List V} {k : List D → Gh → Hp → Prop} (G : Good K g σ H) (r : RelOs K g σ H os vs) (h : At K w (ress os) g σ H k), ∃ ds, RepBs K g.As (hid g.M H) H ds vs ∧ k ds g H
  | _, _, k, G, .nil, h => ⟨[], .nil, At.pure_ G h⟩
  | _, _, k, G, .cons (o := o) (os := os) r rs, h => by
    have h : At K w (do let d ← res o; let ds ← ress os; Pure.pure (d :: ds)) g σ H k := h
    obtain ⟨d, q1, _, _, h1⟩ := At.res_ G r (At.bind G h)
    obtain ⟨ds, q2, _, _, h2⟩ := At.ress_ G rs (At.bind G h1)
    exact ⟨d :: ds, .cons q1 q2, At.pure_ G h2⟩
end

/-! ### names, constants -/
section
variable {X : Cx} {w : WX} {x : Str} {pos : Pos}
theorem rdVar_sem {i : Nat} {σ : L2.St} {H : Hp} {Q : VK} (h : Tr X.K w (rdVar i) σ H Q) : ∃ v, σ[i]? = some (some v) ∧ Q v H := by
  obtain ⟨g, G, q⟩ := h
  unfold At rdVar at q
  cases e : g.ρ[i]? with
  | none => simp only [Gh.S, e] at q
  | some s =>
    cases s with
    | un => simp only [Gh.S, e] at q
    | pu d =>
      simp only [Gh.S, e] at q
      obtain ⟨v, e1, r1⟩ := G.slot i _ e
      exact ⟨v, e1, q g.As g.M H G Ext.refl v r1⟩
    | ow d =>
      simp only [Gh.S, e] at q
      obtain ⟨p, e1, m, c⟩ := G.slot i _ e
      obtain ⟨G2, E2, r2⟩ := G.let1 e e1
      exact ⟨.ref p, e1, q _ _ H G2 E2 (.ref p) r2⟩
theorem pz_var (i : Nat) (hN : X.N[i]? = some x := by rfl) (hv : Vis X.env.scope x := by first | exact Or.inl rfl | exact Or.inr (Or.inl rfl) | exact Or.inr (Or.inr rfl)) (hd : (x == ("__debug__" : Str)) = false := by decide)
    (hcd : (x == ("__classdict__" : Str)) = false := by decide) : PE X (.Name x pos) (Tr X.K w (rdVar i)) := (pe_var hN hv hd hcd).weak fun _ _ _ h => rdVar_sem h
theorem slotOpd_sem {i : Nat} {σ : L2.St} {H : Hp} {Q : VK} (h : To X.K w (slotOpd i) σ H Q) : ∃ v, σ[i]? = some (some v) ∧ Q v H := by
  obtain ⟨g, G, q⟩ := h
  unfold At slotOpd at q
  cases e : g.ρ[i]? with
  | none => simp only [Gh.S, e] at q
  | some s =>
    cases s with
    | un => simp only [Gh.S, e] at q
    | pu d =>
      simp only [Gh.S, e] at q
      obtain ⟨v, e1, r1⟩ := G.slot i _ e
      exact ⟨v, e1, q g.As g.M H G Ext.refl v e1⟩
    | ow d =>
      simp only [Gh.S, e] at q
      obtain ⟨p, e1, m, c⟩ := G.slot i _ e
      exact ⟨.ref p, e1, q g.As g.M H G Ext.refl (.ref p) e1⟩
theorem po_var (i : Nat) (hN : X.N[i]? = some x := by rfl) (hv : Vis X.env.scope x := by first | exact Or.inl rfl | exact Or.inr (Or.inl rfl) | exact Or.inr (Or.inr rfl)) (hd : (x == ("__debug__" : Str)) = false := by decide)
    (hcd : (x == ("__classdict__" : Str)) = false := by decide) : PE X (.Name x pos) (To X.K w (slotOpd i)) := (pe_var hN hv hd hcd).weak fun _ _ _ h => slotOpd_sem h
theorem con_sem {d : D} {v : V} {σ : L2.St} {H : Hp} {Q : VK} (r : ∀ (As : List Addr) (H : Hp), Rep X.K As H d v) (h : Tr X.K w (Pure.pure (d, false)) σ H Q) : Q v H := by
  obtain ⟨g, G, q⟩ := h
  exact At.pure_ G q v (r _ _)
theorem pz_int {i : Int} {j pos} : PE X (.Constant (.int i) j pos) (Tr X.K w (Pure.pure (.int i, false))) := pe_int.weak fun _ _ _ h => con_sem (X := X) (d := .int i) (v := .int i) (fun _ _ => rfl) h
theorem pz_bl {b : Bool} {j pos} : PE X (.Constant (.bool b) j pos) (Tr X.K w (Pure.pure (.bl b, false))) := pe_bl.weak fun _ _ _ h => con_sem (X := X) (d := .bl b) (v := .bl b) (fun _ _ => rfl) h
theorem pz_non {j pos} : PE X (.Constant .none j pos) (Tr X.K w (Pure.pure (.none, false))) := pe_non.weak fun _ _ _ h => con_sem (X := X) (d := .none) (v := .non) (fun _ _ => rfl) h
theorem pz_str {s : Str} {j pos} : PE X (.Constant (.str s) j pos) (Tr X.K w (Pure.pure (.str s, false))) := pe_str.weak fun _ _ _ h => con_sem (X := X) (d := .str s) (v := .str s) (fun _ _ => rfl) h
/-- a module's constant -/
theorem pz_globI {i : Int} {t : Tok} (hg : Gl X x) (hm : X.mg x = some (.int i t)) (hd : (x == ("__debug__" : Str)) = false := by decide) : PE X (.Name x pos) (Tr X.K w (Pure.pure (.int i, false))) :=
  (pe_glob (v := .int i) hg hm ⟨t, rfl⟩ hd).weak fun _ _ _ h => con_sem (X := X) (d := .int i) (v := .int i) (fun _ _ => rfl) h
theorem pz_globS {s : Str} {t : Tok} (hg : Gl X x) (hm : X.mg x = some (.str s t)) (hd : (x == ("__debug__" : Str)) = false := by decide) : PE X (.Name x pos) (Tr X.K w (Pure.pure (.str s, false))) :=
  (pe_glob (v := .str s) hg hm ⟨t, rfl⟩ hd).weak fun _ _ _ h => con_sem (X := X) (d := .str s) (v := .str s) (fun _ _ => rfl) h
end

/-! ### argument lists, displays -/
section
variable {X : Cx} {w : WX} {cl : CallT} {e : Expr} {es : List Expr} {pos : Pos} {x : Ex} {xs : List Ex}
theorem pd_nil : PA X [] (Tds X.K w (evalDs cl [])) := pa_nil.weak fun _ _ _ ⟨g, G, q⟩ => At.pure_ G q [] rfl
theorem pd_cons (ha : PE X e (Tr X.K w (evalE cl x))) (hr : PA X es (Tds X.K w (evalDs cl xs))) (hs : starEach (e :: es) X.env = (false, eval e X.env) :: starEach es X.env := by rfl) : PA X (e :: es) (Tds X.K w (evalDs cl (x :: xs))) := by
  refine (pa_cons (Tr.dat ha) hr hs).weak fun σ H Q ⟨g, G, q⟩ => ⟨g, G, ?_⟩
  have q : At X.K w (do let d ← dat (evalE cl x); let ds ← evalDs cl xs; Pure.pure (d :: ds)) g σ H _ := q
  refine (At.bind G q).imp fun d g1 H1 G1 E1 ⟨_, _, q1⟩ v rv => ⟨g1, G1, ?_⟩
  refine (At.bind G1 q1).imp fun ds g2 H2 G2 E2 ⟨_, _, q2⟩ vs rvs => ?_
  exact At.pure_ G2 q2 (v :: vs) (.cons (E2.rep rv) rvs)
theorem pos_nil : PA X [] (Tos X.K w (evalOs cl [])) := pa_nil.weak fun _ _ _ ⟨g, G, q⟩ => At.pure_ G q [] .nil
theorem pos_cons (ha : PE X e (To X.K w (opdV x (evalE cl x)))) (hr : PA X es (Tos X.K w (evalOs cl xs))) (hs : starEach (e :: es) X.env = (false, eval e X.env) :: starEach es X.env := by rfl) : PA X (e :: es) (Tos X.K w (evalOs cl (x :: xs))) := by
  refine (pa_cons ha hr hs).weak fun σ H Q ⟨g, G, q⟩ => ⟨g, G, ?_⟩
  have q : At X.K w (do let d ← opdV x (evalE cl x); let ds ← evalOs cl xs; Pure.pure (d :: ds)) g σ H _ := q
  refine (At.bind G q).imp fun d g1 H1 G1 E1 ⟨_, _, q1⟩ v rv => ⟨g1, G1, ?_⟩
  refine (At.bind G1 q1).imp fun ds g2 H2 G2 E2 ⟨_, _, q2⟩ vs rvs => ?_
  exact At.pure_ G2 q2 (v :: vs) (.cons (rv.ext E2) rvs)

theorem line_le {n : Nat} (h : n ≤ line) : n ≤ sizeLine := by rw [← line_eq]; exact h
theorem line_lt {n : Nat} (h : n < line) : n < sizeLine := by rw [← line_eq]; exact h
/-- a new tuple as a result -/
theorem At.tupR {K : PySem.W.Frag} {g : Gh} {σ : L2.St} {H H0 : Hp} {Q : VK} {ds : List D} {vs : List V} {p : Addr} (G : Good K g σ H) (r : Reps K g.As (hid g.M H) ds vs) (hp : H p = none)
    (q : At K w (Pure.pure (D.tup ds, false) : M Rs) g σ H fun r g1 H1 => ∀ v, RelR K H0 g1 σ H1 r v → Q v H1) : Q (.ref p) (upd H p (.tup vs)) := by
  refine q g.As g.M (upd H p (.tup vs)) (G.alloc hp) (Ext.alloc G hp) (.ref p) ?_
  exact ⟨p, vs, rfl, hid_mk (G.notM hp) upd_same, r.mono asId (hid_upd hp)⟩
theorem At.lstR {K : PySem.W.Frag} {g0 g : Gh} {σ σ0 : L2.St} {H H0 : Hp} {Q : VK} {ds : List D} {vs : List V} {p : Addr} (E0 : Ext g0 σ0 H0 g σ H) (G : Good K g σ H) (r : Reps K g.As (hid g.M H) ds vs) (hp : H p = none)
    (q : At K w (Pure.pure (D.lst ds, true) : M Rs) g σ H fun r g1 H1 => ∀ v, RelR K H0 g1 σ H1 r v → Q v H1) : Q (.ref p) (upd H p (.lst vs)) := by
  refine q g.As (p :: g.M) (upd H p (.lst vs)) (G.allocM hp) (Ext.allocM G hp) (.ref p) ?_
  have n := New.lst G hp r
  exact ⟨p, rfl, E0.fresh n.was, n.mem, n.nas, n.now, n.cel⟩
theorem pz_tup {x1} (h : PA X es (Tds X.K w (evalDs cl xs))) : PE X (.Tuple es x1 pos) (Tr X.K w (evalE cl (.tup xs))) := by
  refine (pe_tup h).weak fun σ H Q ⟨g, G, q⟩ => ⟨g, G, ?_⟩
  have q : At X.K w (do let ds ← evalDs cl xs; if ds.length ≤ line then Pure.pure (D.tup ds, false) else bad) g σ H _ := q
  refine (At.bind G q).imp fun ds g1 H1 G1 E1 ⟨_, _, q1⟩ vs rvs => ?_
  have hl := Reps.length rvs
  split at q1
  · rename_i h
    exact ⟨line_le (by omega), fun p hp => At.tupR G1 rvs hp q1⟩
  · exact q1.elim
theorem pz_lst (h : PA X es (Tds X.K w (evalDs cl xs))) : PE X (.List es pos) (Tr X.K w (evalE cl (.lst xs))) := by
  refine (pe_lst h).weak fun σ H Q ⟨g, G, q⟩ => ⟨g, G, ?_⟩
  have q : At X.K w (do let ds ← evalDs cl xs; if ds.length ≤ line then Pure.pure (D.lst ds, true) else bad) g σ H _ := q
  refine (At.bind G q).imp fun ds g1 H1 G1 E1 ⟨_, _, q1⟩ vs rvs => ?_
  have hl := Reps.length rvs
  split at q1
  · rename_i h
    exact ⟨line_le (by omega), fun p hp => At.lstR E1 G1 rvs hp q1⟩
  · exact q1.elim
end
end Z

/-! Z5: operators, comparisons, tests, subscripts. -/
namespace Z
open PySem PySem.Spec PyProof.Rows L2

section
variable {K : PySem.W.Frag} {w : WX} {α : Type} {g : Gh} {σ : L2.St} {H : Hp}
theorem At.op2 {ma mb : M Opd} {f : D → D → M α} {k : α → Gh → Hp → Prop} (G : Good K g σ H) (h : At K w (do let x ← ma; let y ← mb; let d ← res x; let e ← res y; f d e) g σ H k) :
    At K w ma g σ H fun o g1 H1 => ∀ v, RelO K g1 σ H1 o v → ∃ g1, Good K g1 σ H1 ∧ At K w mb g1 σ H1 fun o' g2 H2 => ∀ u, RelO K g2 σ H2 o' u → ∃ d e, RepB K g2.As (hid g2.M H2) H2 d v ∧ RepB K g2.As (hid g2.M H2) H2 e u ∧ Good K g2 σ H2 ∧ Ext g σ H g2 σ H2 ∧ At K w (f d e) g2 σ H2 k := by
  refine (At.bind G h).imp fun o g1 H1 G1 E1 ⟨_, _, q1⟩ v rv => ⟨g1, G1, ?_⟩
  refine (At.bind G1 q1).imp fun o' g2 H2 G2 E2 ⟨_, _, q2⟩ u ru => ?_
  obtain ⟨d, r1, _, _, q3⟩ := At.res_ G2 (rv.ext E2) (At.bind G2 q2)
  obtain ⟨e, r2, _, _, q4⟩ := At.res_ G2 ru (At.bind G2 q3)
  exact ⟨d, e, r1, r2, G2, E1.trans G E2, q4⟩
theorem At.op1 {ma : M Opd} {f : D → M α} {k : α → Gh → Hp → Prop} (G : Good K g σ H) (h : At K w (do let x ← ma; let d ← res x; f d) g σ H k) :
    At K w ma g σ H fun o g1 H1 => ∀ v, RelO K g1 σ H1 o v → ∃ d, RepB K g1.As (hid g1.M H1) H1 d v ∧ Good K g1 σ H1 ∧ Ext g σ H g1 σ H1 ∧ At K w (f d) g1 σ H1 k := by
  refine (At.bind G h).imp fun o g1 H1 G1 E1 ⟨_, _, q1⟩ v rv => ?_
  obtain ⟨d, r1, _, _, q3⟩ := At.res_ G1 rv (At.bind G1 q1)
  exact ⟨d, r1, G1, E1, q3⟩
end

theorem mulOk_ok {i j : Int} (h : mulOk i j = true) : (CMul i j ∨ CMulW i j) := by
  unfold mulOk at h
  simp only [Bool.or_eq_true, decide_eq_true_eq] at h
  rcases h with h | h | h
  · exact .inl (.inl ⟨by omega, by omega⟩)
  · exact .inl (.inr ⟨by omega, by omega⟩)
  · exact .inr h

/-- the operators, by all kinds they serve -/
def rBin (K : PySem.W.Frag) : BOp → R2
  | .add => fun x y H Q => rI0 (fun i j => .int (i + j)) x y H Q ∨ (∃ i j, x = .str i ∧ y = .str j ∧ i.length + j.length ≤ sizeLine ∧ Q (.str (i ++ j)) H) ∨ rCatA K x y H Q ∨ rCat x y H Q
  | .sub => rI0 fun i j => .int (i - j)
  | .mul => fun x y H Q => rI CMul (fun i j => .int (i * j)) x y H Q ∨ rI CMulW (fun i j => .int (i * j)) x y H Q ∨ rRep x y H Q
  | .fdiv => rI CDivW fun i j => .int (i / j)
  | .mod => rI (fun _ j => 0 < j) fun i j => .int (i % j)
  | .pow => rI CPow fun i j => .int (i ^ j.toNat)
def opOf : BOp → Operator
  | .add => .Add
  | .sub => .Sub
  | .mul => .Mult
  | .fdiv => .FloorDiv
  | .mod => .Mod
  | .pow => .Pow
theorem opR_bin {X : Cx} : ∀ op : BOp, OpR X (binaryOp (opOf op)) (rBin X.K op)
  | .add => op_add.or (op_add_str.or (op_catA.or op_cat))
  | .sub => op_sub
  | .mul => op_mul.or (op_mulW.or op_rep)
  | .fdiv => op_fdivW
  | .mod => op_mod
  | .pow => op_pow

section
variable {K : PySem.W.Frag} {w : WX} {g0 g : Gh} {σ0 σ : L2.St} {H0 H : Hp}
theorem At.intR {i : Int} {Q : VK} (G : Good K g σ H) (q : At K w (Pure.pure (D.int i, false) : M Rs) g σ H fun r g1 H1 => ∀ v, RelR K H0 g1 σ H1 r v → Q v H1) : Q (.int i) H := At.pure_ G q (.int i) rfl
theorem At.blR {i : Bool} {Q : VK} (G : Good K g σ H) (q : At K w (Pure.pure (D.bl i, false) : M Rs) g σ H fun r g1 H1 => ∀ v, RelR K H0 g1 σ H1 r v → Q v H1) : Q (.bl i) H := At.pure_ G q (.bl i) rfl
theorem At.strR {i : Str} {Q : VK} (G : Good K g σ H) (q : At K w (Pure.pure (D.str i, false) : M Rs) g σ H fun r g1 H1 => ∀ v, RelR K H0 g1 σ H1 r v → Q v H1) : Q (.str i) H := At.pure_ G q (.str i) rfl
theorem At.repR {d : D} {v : V} {Q : VK} (G : Good K g σ H) (r : Rep K g.As (hid g.M H) d v) (q : At K w (Pure.pure (d, false) : M Rs) g σ H fun r g1 H1 => ∀ v, RelR K H0 g1 σ H1 r v → Q v H1) : Q v H := At.pure_ G q v r
theorem bin_sem {op : BOp} {d e : D} {x y : V} {Q : VK} (E0 : Ext g0 σ0 H0 g σ H) (G : Good K g σ H) (rx : RepB K g.As (hid g.M H) H d x) (ry : RepB K g.As (hid g.M H) H e y)
    (h : At K w (liftO (binD op d e)) g σ H fun r g1 H1 => ∀ v, RelR K H0 g1 σ H1 r v → Q v H1) : rBin K op x y H Q := by
  unfold binD at h
  split at h
  · obtain rfl : x = .int _ := rx
    obtain rfl : y = .int _ := ry
    exact .inl ⟨_, _, rfl, rfl, At.intR G h⟩
  · obtain rfl : x = .str _ := rx
    obtain rfl : y = .str _ := ry
    split at h
    · rename_i hl
      exact .inr (.inl ⟨_, _, rfl, rfl, line_le hl, At.strR G h⟩)
    · exact h.elim
  · rename_i ds es
    obtain ⟨a, vs, rfl, h1, r1⟩ := rx
    obtain ⟨b, ws, rfl, h2, r2⟩ := ry
    have l1 := r1.length
    have l2 := r2.length
    split at h
    · rename_i hl
      have hq : At K w (Pure.pure (D.tup (ds ++ es), false) : M Rs) g σ H fun r g1 H1 => ∀ v, RelR K H0 g1 σ H1 r v → Q v H1 := h
      refine .inr (.inr (.inl ⟨a, b, vs, ws, rfl, rfl, SqT.of (hid_of h1).2, SqT.of (hid_of h2).2, line_le (by omega), fun e => ?_, fun _ e => ?_, fun _ _ p hp => At.tupR G (r1.append r2) hp hq⟩))
      · subst e
        obtain rfl : ds = [] := by
          cases ds with
          | nil => rfl
          | cons d ds => simp at l1
        exact At.repR (d := .tup es) G ⟨b, ws, rfl, h2, r2⟩ hq
      · subst e
        obtain rfl : es = [] := by
          cases es with
          | nil => rfl
          | cons d ds => simp at l2
        rw [List.append_nil] at hq
        exact At.repR (d := .tup ds) G ⟨a, vs, rfl, h1, r1⟩ hq
    · exact h.elim
  · rename_i ds es
    obtain ⟨a, vs, rfl, h1, r1⟩ := rx
    obtain ⟨b, ws, rfl, h2, r2⟩ := ry
    have l1 := r1.length
    have l2 := r2.length
    split at h
    · rename_i hl
      exact .inr (.inr (.inr ⟨a, b, vs, ws, rfl, rfl, h1, h2, line_le (by omega), fun p hp => At.lstR E0 G (r1.append r2) hp h⟩))
    · exact h.elim
  · obtain rfl : x = .int _ := rx
    obtain rfl : y = .int _ := ry
    exact ⟨_, _, rfl, rfl, At.intR G h⟩
  · obtain rfl : x = .int _ := rx
    obtain rfl : y = .int _ := ry
    split at h
    · rename_i hl
      rcases mulOk_ok hl with hl | hl
      · exact .inl ⟨_, _, rfl, rfl, hl, At.intR G h⟩
      · exact .inr (.inl ⟨_, _, rfl, rfl, hl, At.intR G h⟩)
    · exact h.elim
  · rename_i ds k
    obtain ⟨a, vs, rfl, h1, r1⟩ := rx
    obtain rfl : y = .int _ := ry
    split at h
    · rename_i hl
      exact .inr (.inr ⟨a, k, vs, rfl, rfl, h1, hl.1, hl.2.1, line_le (by rw [r1.length]; exact hl.2.2), fun p hp => At.lstR E0 G (r1.rep k.toNat) hp h⟩)
    · exact h.elim
  · obtain rfl : x = .int _ := rx
    obtain rfl : y = .int _ := ry
    split at h
    · rename_i hl
      exact ⟨_, _, rfl, rfl, hl, At.intR G h⟩
    · exact h.elim
  · obtain rfl : x = .int _ := rx
    obtain rfl : y = .int _ := ry
    split at h
    · rename_i hl
      exact ⟨_, _, rfl, rfl, hl, At.intR G h⟩
    · exact h.elim
  · obtain rfl : x = .int _ := rx
    obtain rfl : y = .int _ := ry
    split at h
    · rename_i hl
      exact ⟨_, _, rfl, rfl, hl, At.intR G h⟩
    · exact h.elim
  · exact h.elim
end
section
variable {X : Cx} {w : WX} {cl : CallT} {a b c : Expr} {pos : Pos} {xa xb xc : Ex}
theorem pz_bin {op : BOp} {o : Operator} (ho : o = opOf op := by rfl) (ha : PE X a (To X.K w (opdV xa (evalE cl xa)))) (hb : PE X b (To X.K w (opdV xb (evalE cl xb)))) : PE X (.BinOp a o b pos) (Tr X.K w (evalE cl (.bin op xa xb))) := by
  subst ho
  refine (pe_op (opR_bin op) ha hb).weak fun σ H Q ⟨g, G, q⟩ => ⟨g, G, (At.op2 (f := fun d e => liftO (binD op d e)) G q).imp fun o g1 H1 _ _ q1 v rv => ?_⟩
  obtain ⟨g1, G1, q2⟩ := q1 v rv
  refine ⟨g1, G1, q2.imp fun o' g2 H2 _ _ q3 u ru => ?_⟩
  obtain ⟨d, e, r1, r2, G2, E2, q4⟩ := q3 u ru
  exact bin_sem E2 G2 r1 r2 q4
end
end Z

/-! Z6: comparisons, tests. -/
namespace Z
open PySem PySem.Spec PyProof.Rows L2

section
variable {K : PySem.W.Frag} {As : List Addr} {M : List Addr} {H : Hp}
mutual
theorem Rep.dp : ∀ {d : D} {v : V}, Rep K As (hid M H) d v → plain d = true → Dp K H v (toP d)
  | .none, v, h, _ => by obtain rfl : v = .non := h; exact .non
  | .bl b, v, h, _ => by obtain rfl : v = .bl b := h; exact .bl b
  | .int b, v, h, _ => by obtain rfl : v = .int b := h; exact .int b
  | .str b, v, h, _ => by obtain rfl : v = .str b := h; exact .str b
  | .tup ds, v, h, p => by
    obtain ⟨a, vs, rfl, h1, h2⟩ := h
    exact .tup (SqT.of (hid_of h1).2) (Reps.dp h2 p)
  | .lst ds, v, h, p => by
    obtain ⟨a, vs, rfl, h1, h2⟩ := h
    exact .lst (SqL.of (hid_of h1).2) (Reps.dp h2 p)
  | .dic _ _, _, _, p => by cases p
  | .obj _, _, _, p => by cases p
  | .scr _, _, _, p => by cases p
theorem Reps.dp : ∀ {ds : List D} {vs : List V}, Reps K As (hid M H) ds vs → plains ds = true → DpAll K H vs (toPs ds)
  | [], vs, h, _ => by obtain rfl : vs = [] := h; exact .nil
  | d :: ds, vs, h, p => by
    obtain ⟨v, ws, rfl, h1, h2⟩ := h
    have p : (plain d && plains ds) = true := p
    rw [Bool.and_eq_true] at p
    exact .cons (Rep.dp h1 p.1) (Reps.dp h2 p.2)
end
theorem RepB.dp {d : D} {v : V} (h : RepB K As (hid M H) H d v) (p : plain d = true) : Dp K H v (toP d) := by
  cases d with
  | lst ds =>
    obtain ⟨a, vs, rfl, h1, h2⟩ := h
    exact .lst (SqL.of h1) (Reps.dp h2 p)
  | _ => exact Rep.dp (As := As) (M := M) h p
mutual
theorem plain_lay : ∀ {d : D}, plain d = true → (toP d).canLay0 = true
  | .none, _ => by simp [toP, PyData.canLay0]
  | .bl _, _ => by simp [toP, PyData.canLay0]
  | .int _, _ => by simp [toP, PyData.canLay0]
  | .str s, h => by
    have h : PyData.strOk s = true := h
    simp [toP, PyData.canLay0, h]
  | .tup ds, h => by simp only [toP, PyData.canLay0]; exact plains_lay h
  | .lst ds, h => by simp only [toP, PyData.canLay0]; exact plains_lay h
  | .dic _ _, h => by cases h
  | .obj _, h => by cases h
  | .scr _, h => by cases h
theorem plains_lay : ∀ {ds : List D}, plains ds = true → PyData.canLayAll0 (toPs ds) = true
  | [], _ => by simp [toPs, PyData.canLayAll0]
  | d :: ds, h => by
    have h : (plain d && plains ds) = true := h
    rw [Bool.and_eq_true] at h
    simp only [toPs, PyData.canLayAll0, plain_lay h.1, plains_lay h.2, Bool.and_self]
end
theorem fit_shaped {d : D} (h : fitD d = true) : SeqAt.shaped (toP d) = true := by
  unfold fitD at h
  rw [Bool.and_eq_true, decide_eq_true_eq] at h
  show ((toP d).canLay0 && decide ((toP d).depth ≤ 64)) = true
  rw [Bool.and_eq_true]
  exact ⟨plain_lay h.1, decide_eq_true (by omega)⟩
theorem fit_plain {d : D} (h : fitD d = true) : plain d = true := by
  unfold fitD at h
  rw [Bool.and_eq_true] at h
  exact h.1
theorem toPs_any (f : PyData → Bool) : ∀ ds : List D, (toPs ds).any f = ds.any fun z => f (toP z)
  | [] => rfl
  | d :: ds => by
    show (f (toP d) || (toPs ds).any f) = (f (toP d) || ds.any fun z => f (toP z))
    rw [toPs_any f ds]
end

/-! in of a tuple of data -/
section
variable {X : Cx}
def rInT (K : PySem.W.Frag) : R2 := fun x y H Q => ∃ d ds, Dp K H x d ∧ Dp K H y (.tuple ds) ∧ SeqAt.shaped d = true ∧ SeqAt.shaped (.tuple ds) = true ∧ Q (.bl (ds.any fun z => PyData.eqv z d)) H
def rNotInT (K : PySem.W.Frag) : R2 := fun x y H Q => ∃ d ds, Dp K H x d ∧ Dp K H y (.tuple ds) ∧ SeqAt.shaped d = true ∧ SeqAt.shaped (.tuple ds) = true ∧ Q (.bl (!ds.any fun z => PyData.eqv z d)) H
theorem op_inT (hu : X.A.units + 65 < cLine) : OpR X (compareOp .In) (rInT X.K) := by
  intro pins s σ H x y v u Q I rx ry h
  obtain ⟨d, ds, hd, he, sd, se, q⟩ := h
  obtain ⟨as, r1⟩ := Dp.reads I d x v hd rx
  obtain ⟨bs, r2⟩ := Dp.reads I (.tuple ds) y u he ry
  exact SeqAt.in_tuple_reads r2 r1 (SeqAt.canLay_of_shaped se) (SeqAt.canLay_of_shaped sd) (room_in_shaped sd hu) ⟨.bl _, H, I, rfl, q⟩
theorem op_notInT (hu : X.A.units + 65 < cLine) : OpR X (compareOp .NotIn) (rNotInT X.K) := by
  intro pins s σ H x y v u Q I rx ry h
  obtain ⟨d, ds, hd, he, sd, se, q⟩ := h
  obtain ⟨as, r1⟩ := Dp.reads I d x v hd rx
  obtain ⟨bs, r2⟩ := Dp.reads I (.tuple ds) y u he ry
  exact SeqAt.notIn_tuple_reads r2 r1 (SeqAt.canLay_of_shaped se) (SeqAt.canLay_of_shaped sd) (room_in_shaped sd hu) ⟨.bl _, H, I, rfl, q⟩
end

def rCmp (K : PySem.W.Frag) : COp → R2
  | .eq => rEqD K
  | .ne => rNeD K
  | .lt => rI0 fun i j => .bl (decide (i < j))
  | .le => rI0 fun i j => .bl (decide (i ≤ j))
  | .gt => rI0 fun i j => .bl (decide (j < i))
  | .ge => rI0 fun i j => .bl (decide (j ≤ i))
  | .isin => fun x y H Q => (∃ i j, x = .str i ∧ y = .str j ∧ Q (.bl (!(Builtin.Str.occurrences j i 0 j.length 1).isEmpty)) H) ∨ rInD K x y H Q ∨ rInT K x y H Q
  | .notin => fun x y H Q => (∃ i j, x = .str i ∧ y = .str j ∧ Q (.bl (!(!(Builtin.Str.occurrences j i 0 j.length 1).isEmpty))) H) ∨ rNotInD K x y H Q ∨ rNotInT K x y H Q
def cmpOf : COp → CmpOp
  | .eq => .Eq
  | .ne => .NotEq
  | .lt => .Lt
  | .le => .LtE
  | .gt => .Gt
  | .ge => .GtE
  | .isin => .In
  | .notin => .NotIn
theorem opR_cmp {X : Cx} (hu : X.A.units + 65 < cLine) : ∀ op : COp, OpR X (compareOp (cmpOf op)) (rCmp X.K op)
  | .eq => op_eqD (by omega)
  | .ne => op_neD (by omega)
  | .lt => op_lt
  | .le => op_le
  | .gt => op_gt
  | .ge => op_ge
  | .isin => op_in_str.or ((op_inD hu).or (op_inT hu))
  | .notin => op_notin_str.or ((op_notInD hu).or (op_notInT hu))

section
variable {K : PySem.W.Frag} {w : WX} {g0 g : Gh} {σ0 σ : L2.St} {H0 H : Hp}
theorem cmp_sem {op : COp} {d e : D} {x y : V} {c : Bool} {Q : VK} (rx : RepB K g.As (hid g.M H) H d x) (ry : RepB K g.As (hid g.M H) H e y)
    (h : cmpD op d e = some c) (q : Q (.bl c) H) : rCmp K op x y H Q := by
  unfold cmpD at h
  cases op with
  | eq =>
    simp only at h
    split at h
    · rename_i hf
      rw [Bool.and_eq_true] at hf
      obtain ⟨f1, f2⟩ := hf
      cases h
      exact ⟨_, _, rx.dp (fit_plain f1), ry.dp (fit_plain f2), fit_shaped f1, fit_shaped f2, q⟩
    · cases h
  | ne =>
    simp only at h
    split at h
    · rename_i hf
      rw [Bool.and_eq_true] at hf
      obtain ⟨f1, f2⟩ := hf
      cases h
      exact ⟨_, _, rx.dp (fit_plain f1), ry.dp (fit_plain f2), fit_shaped f1, fit_shaped f2, q⟩
    · cases h
  | lt =>
    simp only at h
    split at h
    · cases h
      obtain rfl : x = .int _ := rx
      obtain rfl : y = .int _ := ry
      exact ⟨_, _, rfl, rfl, q⟩
    · cases h
  | le =>
    simp only at h
    split at h
    · cases h
      obtain rfl : x = .int _ := rx
      obtain rfl : y = .int _ := ry
      exact ⟨_, _, rfl, rfl, q⟩
    · cases h
  | gt =>
    simp only at h
    split at h
    · cases h
      obtain rfl : x = .int _ := rx
      obtain rfl : y = .int _ := ry
      exact ⟨_, _, rfl, rfl, q⟩
    · cases h
  | ge =>
    simp only at h
    split at h
    · cases h
      obtain rfl : x = .int _ := rx
      obtain rfl : y = .int _ := ry
      exact ⟨_, _, rfl, rfl, q⟩
    · cases h
  | isin =>
    simp only at h
    split at h
    · cases h
      obtain rfl : x = .str _ := rx
      obtain rfl : y = .str _ := ry
      exact .inl ⟨_, _, rfl, rfl, q⟩
    · split at h
      · rename_i hf
        rw [Bool.and_eq_true] at hf
        obtain ⟨f1, f2⟩ := hf
        cases h
        refine .inr (.inl ⟨_, _, rx.dp (fit_plain f1), ry.dp (fit_plain f2), fit_shaped f1, fit_shaped f2, ?_⟩)
        rw [toPs_any]
        exact q
      · cases h
    · split at h
      · rename_i hf
        rw [Bool.and_eq_true] at hf
        obtain ⟨f1, f2⟩ := hf
        cases h
        refine .inr (.inr ⟨_, _, rx.dp (fit_plain f1), ry.dp (fit_plain f2), fit_shaped f1, fit_shaped f2, ?_⟩)
        rw [toPs_any]
        exact q
      · cases h
    · cases h
  | notin =>
    simp only at h
    split at h
    · cases h
      obtain rfl : x = .str _ := rx
      obtain rfl : y = .str _ := ry
      exact .inl ⟨_, _, rfl, rfl, q⟩
    · split at h
      · rename_i hf
        rw [Bool.and_eq_true] at hf
        obtain ⟨f1, f2⟩ := hf
        cases h
        refine .inr (.inl ⟨_, _, rx.dp (fit_plain f1), ry.dp (fit_plain f2), fit_shaped f1, fit_shaped f2, ?_⟩)
        rw [toPs_any]
        exact q
      · cases h
    · split at h
      · rename_i hf
        rw [Bool.and_eq_true] at hf
        obtain ⟨f1, f2⟩ := hf
        cases h
        refine .inr (.inr ⟨_, _, rx.dp (fit_plain f1), ry.dp (fit_plain f2), fit_shaped f1, fit_shaped f2, ?_⟩)
        rw [toPs_any]
        exact q
      · cases h
    · cases h
/-- a bool from an expression -/
theorem At.asB_ {m : M Rs} {k : Bool → Gh → Hp → Prop} (G : Good K g σ H) (h : At K w (asB m) g σ H k) :
    At K w m g σ H fun r g1 H1 => ∀ v, RelR K H g1 σ H1 r v → ∃ c, v = .bl c ∧ Good K g1 σ H1 ∧ Ext g σ H g1 σ H1 ∧ k c g1 H1 := by
  have h : At K w (do let r ← m; match r.1 with | .bl b => Pure.pure b | _ => bad) g σ H k := h
  refine (At.bind G h).imp fun r g1 H1 G1 E1 ⟨_, _, q⟩ v rv => ?_
  obtain ⟨d, fr⟩ := r
  cases d with
  | bl c =>
    unfold RelR at rv
    split at rv
    · obtain ⟨p, _, n⟩ := rv
      exact n.cel.elim
    · exact ⟨c, rv, G1, E1, At.pure_ G1 q⟩
  | _ => exact q.elim
theorem At.ofB_ {m : M Bool} {k : Rs → Gh → Hp → Prop} (G : Good K g σ H) (h : At K w (ofB m) g σ H k) : At K w m g σ H fun c g1 H1 => k (.bl c, false) g1 H1 :=
  (At.bind G (f := fun b => (Pure.pure (D.bl b, false) : M Rs)) h).imp fun c g1 H1 G1 E1 ⟨_, _, q⟩ => At.pure_ G1 q
end

section
variable {X : Cx} {w : WX} {cl : CallT} {a b c : Expr} {pos : Pos} {xa xb xc : Ex} {e : Expr} {m : M Rs}
/-- an expression that gives a bool, as a test -/
theorem pt_of (h : PE X e (Tr X.K w m)) (he : ∀ whole, isTrue e X.env whole = (do let v ← whole; standAt e.pos; holding [v] (truthy v)) := by intro _; rfl) : PT X e (Tt X.K w (asB m)) := by
  refine (pt_val h he).weak fun σ H Q ⟨g, G, q⟩ => ⟨g, G, (At.asB_ G q).imp fun r g1 H1 _ _ q1 v rv => ?_⟩
  obtain ⟨c, rfl, _, _, k⟩ := q1 v rv
  exact ⟨c, rfl, k⟩
theorem cmp_of {op : COp} {σ : L2.St} {H : Hp} {Q : VK} (h : Tr X.K w (evalE cl (.cmp op xa xb)) σ H Q) : tOp (rCmp X.K op) (To X.K w (opdV xa (evalE cl xa))) (To X.K w (opdV xb (evalE cl xb))) σ H Q := by
  obtain ⟨g, G, q⟩ := h
  refine ⟨g, G, (At.op2 (f := fun d e => (do let c ← liftO (cmpD op d e); Pure.pure (D.bl c, false) : M Rs)) G q).imp fun o g1 H1 _ _ q1 v rv => ?_⟩
  obtain ⟨g1, G1, q2⟩ := q1 v rv
  refine ⟨g1, G1, q2.imp fun o' g2 H2 _ _ q3 u ru => ?_⟩
  obtain ⟨d, e, r1, r2, G2, E2, q4⟩ := q3 u ru
  obtain ⟨c, e1, _, _, q5⟩ := At.liftO_ G2 (At.bind G2 q4)
  exact cmp_sem r1 r2 e1 (At.blR G2 q5)
theorem pz_cmp {op : COp} {o : CmpOp} (hu : X.A.units + 65 < cLine) (ho : o = cmpOf op := by rfl) (ha : PE X a (To X.K w (opdV xa (evalE cl xa)))) (hb : PE X b (To X.K w (opdV xb (evalE cl xb))))
    (hm : behindInMarks o b = false := by first | exact nomark _ | rfl) : PE X (.Compare a [o] [b] pos) (Tr X.K w (evalE cl (.cmp op xa xb))) := by
  subst ho
  exact (pe_cmpR (opR_cmp hu op) ha hb hm).weak fun σ H Q h => cmp_of h
theorem pt_cmpz {op : COp} {o : CmpOp} (hu : X.A.units + 65 < cLine) (ho : o = cmpOf op := by rfl) (ha : PE X a (To X.K w (opdV xa (evalE cl xa)))) (hb : PE X b (To X.K w (opdV xb (evalE cl xb))))
    (hm : behindInMarks o b = false := by first | exact nomark _ | rfl) : PT X (.Compare a [o] [b] pos) (Tt X.K w (asB (evalE cl (.cmp op xa xb)))) := by
  subst ho
  refine (pt_cmpR (opR_cmp hu op) ha hb hm).weak fun σ H Q ⟨g, G, q⟩ => ?_
  refine cmp_of (Q := fun x H' => ∃ k, x = .bl k ∧ Q k H') ⟨g, G, (At.asB_ G q).imp fun r g1 H1 _ _ q1 v rv => ?_⟩
  obtain ⟨c, rfl, _, _, k⟩ := q1 v rv
  exact ⟨c, rfl, k⟩
theorem cmp2_of {op op' : COp} {σ : L2.St} {H : Hp} {Q : VK} (h : Tr X.K w (evalE cl (.cmp2 op op' xa xb xc)) σ H Q) :
    tChain (rCmp X.K op) (rCmp X.K op') (Td X.K w (dat (evalE cl xa))) (Td X.K w (dat (evalE cl xb))) (Td X.K w (dat (evalE cl xc))) σ H Q := by
  obtain ⟨g, G, q⟩ := h
  have q : At X.K w (do
    let d ← dat (evalE cl xa)
    let e ← dat (evalE cl xb)
    let c1 ← liftO (cmpD op d e)
    if c1 = true then do
      let f ← dat (evalE cl xc)
      let c2 ← liftO (cmpD op' e f)
      Pure.pure (D.bl c2, false)
    else Pure.pure (D.bl false, false)) g σ H _ := q
  refine ⟨g, G, (At.bind G q).imp fun d g1 H1 G1 E1 ⟨_, _, q1⟩ v rv => ⟨g1, G1, (At.bind G1 q1).imp fun e g2 H2 G2 E2 ⟨_, _, q2⟩ u ru => ?_⟩⟩
  obtain ⟨c, e1, _, _, q3⟩ := At.liftO_ G2 (At.bind G2 q2)
  refine cmp_sem (RepB.of (E2.rep rv)) (RepB.of ru) e1 ⟨c, rfl, ?_⟩
  cases c with
  | false => exact iteF (At.blR G2 q3)
  | true =>
    have q3 : At X.K w (do
      let f ← dat (evalE cl xc)
      let c2 ← liftO (cmpD op' e f)
      Pure.pure (D.bl c2, false)) g2 σ H2 _ := q3
    refine iteT ⟨g2, G2, (At.bind G2 q3).imp fun f g3 H3 G3 E3 ⟨_, _, q4⟩ z rz => ?_⟩
    obtain ⟨c2, e2, _, _, q5⟩ := At.liftO_ G3 (At.bind G3 q4)
    exact cmp_sem (RepB.of (E3.rep ru)) (RepB.of rz) e2 (At.blR G3 q5)
theorem pz_cmp2 {op op' : COp} {o o' : CmpOp} (hu : X.A.units + 65 < cLine) (ho : o = cmpOf op := by rfl) (ho' : o' = cmpOf op' := by rfl) (ha : PE X a (Tr X.K w (evalE cl xa))) (hb : PE X b (Tr X.K w (evalE cl xb))) (hc : PE X c (Tr X.K w (evalE cl xc)))
    (hm : lastMarks [o, o'] [b, c] = false := by with_unfolding_all rfl) : PE X (.Compare a [o, o'] [b, c] pos) (Tr X.K w (evalE cl (.cmp2 op op' xa xb xc))) := by
  subst ho ho'
  exact (pe_chain (opR_cmp hu op) (opR_cmp hu op') (Tr.dat ha) (Tr.dat hb) (Tr.dat hc) hm).weak fun σ H Q h => cmp2_of h
theorem pt_cmp2 {op op' : COp} {o o' : CmpOp} (hu : X.A.units + 65 < cLine) (ho : o = cmpOf op := by rfl) (ho' : o' = cmpOf op' := by rfl) (ha : PE X a (Tr X.K w (evalE cl xa))) (hb : PE X b (Tr X.K w (evalE cl xb))) (hc : PE X c (Tr X.K w (evalE cl xc)))
    (hm : lastMarks [o, o'] [b, c] = false := by with_unfolding_all rfl) : PT X (.Compare a [o, o'] [b, c] pos) (Tt X.K w (asB (evalE cl (.cmp2 op op' xa xb xc)))) := by
  subst ho ho'
  refine (pt_chain (opR_cmp hu op) (opR_cmp hu op') (Tr.dat ha) (Tr.dat hb) (Tr.dat hc) hm).weak fun σ H Q ⟨g, G, q⟩ => ?_
  refine cmp2_of (Q := fun x H' => ∃ k, x = .bl k ∧ Q k H') ⟨g, G, (At.asB_ G q).imp fun r g1 H1 _ _ q1 v rv => ?_⟩
  obtain ⟨c, rfl, _, _, k⟩ := q1 v rv
  exact ⟨c, rfl, k⟩
end
end Z

/-! Z7: and, or, not, if-expressions, subscripts, slices, built-ins, isinstance, pop. -/
namespace Z
open PySem PySem.Spec PyProof.Rows L2

section
variable {K : PySem.W.Frag} {w : WX} {g0 g : Gh} {σ0 σ : L2.St} {H0 H : Hp}
theorem At.older {m : M Rs} {Q : VK} (G0 : Good K g0 σ0 H0) (E0 : Ext g0 σ0 H0 g σ H) (q : At K w m g σ H fun r g1 H1 => ∀ v, RelR K H0 g1 σ H1 r v → Q v H1) : At K w m g σ H fun r g1 H1 => ∀ v, RelR K H g1 σ H1 r v → Q v H1 :=
  q.imp fun r g1 H1 _ _ q1 v rv => q1 v (rv.older E0)
/-- an owned slot's container is changed -/
theorem hid_in {M : List Addr} {p : Addr} {o : HO} (h : p ∈ M) : hid M (upd H p o) = hid M H := by
  funext b
  unfold hid
  split
  · rfl
  · rename_i n; exact upd_ne (fun z => n (z ▸ h))
theorem Good.mut {i : Nat} {d d' : D} {p : Addr} {o : HO} (G : Good K g σ H) (hi : g.ρ[i]? = some (.ow d)) (hs : σ[i]? = some (some (.ref p))) (c : Cel K g.As (hid g.M H) (upd H p o) d' p) :
    Good K { g with ρ := g.ρ.set i (.ow d') } σ (upd H p o) ∧ Ext g σ H { g with ρ := g.ρ.set i (.ow d') } σ (upd H p o) := by
  obtain ⟨a, e3, m, c0⟩ := G.slot i _ hi
  rw [hs] at e3; cases e3
  have hil : i < g.ρ.length := (List.getElem?_eq_some_iff.mp hi).1
  have he : hid g.M (upd H p o) = hid g.M H := hid_in m
  have sub : ∀ q, Own (g.ρ.set i (.ow d')) σ q → Own g.ρ σ q := fun q ⟨j, e, h1, h2⟩ => by
    by_cases hj : i = j
    · subst hj; exact ⟨i, d, hi, h2⟩
    · rw [List.getElem?_set_ne hj] at h1; exact ⟨j, e, h1, h2⟩
  have nA : p ∉ g.As := G.oas p ⟨i, d, hi, hs⟩
  have slotOf : ∀ (j : Nat) (e : D), (g.ρ.set i (.ow d'))[j]? = some (.ow e) → ∃ e', g.ρ[j]? = some (.ow e') := fun j e h1 => by
    by_cases hj : i = j
    · subst hj; exact ⟨d, hi⟩
    · rw [List.getElem?_set_ne hj] at h1; exact ⟨e, h1⟩
  refine ⟨⟨by simpa using G.len, fun j s e => ?_, fun j k d1 d2 q h1 h2 h3 h4 => ?_, fun q h => G.oas q (sub q h), fun j so e => ?_, G.asl, G.asn, G.asm, fun q hq => ?_⟩, ⟨⟨[], by simp⟩, fun b u n q => ⟨n, ?_⟩, fun q hq _ hn => ⟨hq, ?_⟩, fun b n => ?_, fun q h => .inl (sub q h)⟩⟩
  · by_cases hj : i = j
    · subst hj
      rw [List.getElem?_set_self hil] at e; cases e
      exact ⟨p, hs, m, by rw [show (hid ({ g with ρ := g.ρ.set i (.ow d') } : Gh).M (upd H p o)) = hid g.M H from he]; exact c⟩
    · rw [List.getElem?_set_ne hj] at e
      have q := G.slot j s e
      cases s with
      | un => trivial
      | pu d => obtain ⟨v, e, r⟩ := q; exact ⟨v, e, by rw [show (hid ({ g with ρ := g.ρ.set i (.ow d') } : Gh).M (upd H p o)) = hid g.M H from he]; exact r⟩
      | ow d1 =>
        obtain ⟨a, e4, m', c'⟩ := q
        have ne : a ≠ p := fun z => hj (G.inj i j _ _ p hi e hs (z ▸ e4))
        exact ⟨a, e4, m', by rw [show (hid ({ g with ρ := g.ρ.set i (.ow d') } : Gh).M (upd H p o)) = hid g.M H from he]; exact c'.mono asId (fun _ _ h => h) (upd_ne ne)⟩
  · obtain ⟨e1, h1⟩ := slotOf j d1 h1
    obtain ⟨e2, h2⟩ := slotOf k d2 h2
    exact G.inj j k _ _ q h1 h2 h3 h4
  · obtain ⟨a, e1, q⟩ := G.sto j so e
    refine ⟨a, e1, ?_⟩
    rw [show (hid ({ g with ρ := g.ρ.set i (.ow d') } : Gh).M (upd H p o)) = hid g.M H from he]
    exact q.mono asId (fun _ _ h => h) (upd_ne fun z => nA (z ▸ List.mem_of_getElem? e1))
  · unfold upd; split; exact (fun z => nomatch z); exact G.trk q hq
  · rw [upd_ne (fun z : b = p => n (by rw [z]; exact m))]; exact q
  · exact upd_ne fun z => hn (z ▸ ⟨i, d, hi, hs⟩)
  · unfold upd; split; exact (fun z => nomatch z); exact n
/-- a shared list is changed -/
theorem Good.mutS {i : Nat} {so so' : SO} {p : Addr} {o : HO} (G : Good K g σ H) (hi : g.st[i]? = some so) (ha : g.As[i]? = some p) (c : SOk K g.As (hid g.M H) (upd H p o) so' p) :
    Good K { g with st := g.st.set i so' } σ (upd H p o) ∧ Ext g σ H { g with st := g.st.set i so' } σ (upd H p o) := by
  have m : p ∈ g.M := G.asm p (List.mem_of_getElem? ha)
  have hil : i < g.st.length := (List.getElem?_eq_some_iff.mp hi).1
  have he : hid g.M (upd H p o) = hid g.M H := hid_in m
  have hA : p ∈ g.As := List.mem_of_getElem? ha
  refine ⟨⟨G.len, fun j s e => ?_, G.inj, G.oas, fun j so e => ?_, by simpa using G.asl, G.asn, G.asm, fun q hq => ?_⟩, ⟨⟨[], by simp⟩, fun b u n q => ⟨n, ?_⟩, fun q hq hn _ => ⟨hq, ?_⟩, fun b n => ?_, fun q h => .inl h⟩⟩
  · have q := G.slot j s e
    cases s with
    | un => trivial
    | pu d => obtain ⟨v, e, r⟩ := q; exact ⟨v, e, by rw [show (hid ({ g with st := g.st.set i so' } : Gh).M (upd H p o)) = hid g.M H from he]; exact r⟩
    | ow d1 =>
      obtain ⟨a, e4, m', c'⟩ := q
      have ne : a ≠ p := fun z => G.oas a ⟨j, d1, e, e4⟩ (z ▸ hA)
      exact ⟨a, e4, m', by rw [show (hid ({ g with st := g.st.set i so' } : Gh).M (upd H p o)) = hid g.M H from he]; exact c'.mono asId (fun _ _ h => h) (upd_ne ne)⟩
  · by_cases hj : i = j
    · subst hj
      have e : (g.st.set i so')[i]? = some so := e
      rw [List.getElem?_set_self hil] at e; cases e
      exact ⟨p, ha, by rw [show (hid ({ g with st := g.st.set i so' } : Gh).M (upd H p o)) = hid g.M H from he]; exact c⟩
    · have e : (g.st.set i so')[j]? = some so := e
      rw [List.getElem?_set_ne hj] at e
      obtain ⟨a, e1, q⟩ := G.sto j so e
      refine ⟨a, e1, ?_⟩
      rw [show (hid ({ g with st := g.st.set i so' } : Gh).M (upd H p o)) = hid g.M H from he]
      refine q.mono asId (fun _ _ h => h) (upd_ne fun z => hj ?_)
      subst z
      obtain ⟨l1, q1⟩ := List.getElem?_eq_some_iff.mp e1
      obtain ⟨l2, q2⟩ := List.getElem?_eq_some_iff.mp ha
      exact (List.getElem_inj G.asn).mp (q2.trans q1.symm)
  · unfold upd; split; exact (fun z => nomatch z); exact G.trk q hq
  · rw [upd_ne (fun z : b = p => n (by rw [z]; exact m))]; exact q
  · exact upd_ne fun z => hn (z ▸ hA)
  · unfold upd; split; exact (fun z => nomatch z); exact n
end

section
variable {X : Cx} {w : WX} {cl : CallT} {a b c : Expr} {rest : List Expr} {pos : Pos} {xa xb xc : Ex}
/-! ### and, or, not -/
theorem and_at {K : PySem.W.Frag} {g : Gh} {σ : L2.St} {H : Hp} {k : Bool → Gh → Hp → Prop} (G : Good K g σ H) (h : At K w (asB (evalE cl (.and2 xa xb))) g σ H k) :
    At K w (asB (evalE cl xa)) g σ H fun c g1 H1 => Good K g1 σ H1 ∧ if c = true then At K w (asB (evalE cl xb)) g1 σ H1 k else k false g1 H1 := by
  have h2 : At K w (asB (evalE cl xa) >>= fun c => if c = true then asB (evalE cl xb) else Pure.pure false) g σ H k := by
    have e : asB (evalE cl (.and2 xa xb)) = (asB (evalE cl xa) >>= fun c => if c = true then asB (evalE cl xb) else Pure.pure false) := by
      funext s
      show asB (asB (evalE cl xa) >>= fun c => if c = true then ofB (asB (evalE cl xb)) else Pure.pure (D.bl false, false)) s = _
      show ((asB (evalE cl xa) >>= fun c => if c = true then ofB (asB (evalE cl xb)) else Pure.pure (D.bl false, false)) >>= fun r => match r.1 with | .bl b => Pure.pure b | _ => bad) s = _
      rw [bind_run, bind_run, bind_run]
      cases asB (evalE cl xa) s with
      | bad => rfl
      | exc c fs s' => rfl
      | ok c s' =>
        cases c with
        | false => rfl
        | true =>
          dsimp only
          simp only [if_true, Bool.false_eq_true, if_false]
          unfold ofB
          rw [bind_run]
          cases asB (evalE cl xb) s' <;> rfl
    rw [← e]; exact h
  refine (At.bind G h2).imp fun c g1 H1 G1 E1 ⟨_, _, q⟩ => ⟨G1, ?_⟩
  cases c with
  | true => exact iteT q
  | false => exact iteF (At.pure_ G1 q)
theorem or_at {K : PySem.W.Frag} {g : Gh} {σ : L2.St} {H : Hp} {k : Bool → Gh → Hp → Prop} (G : Good K g σ H) (h : At K w (asB (evalE cl (.or2 xa xb))) g σ H k) :
    At K w (asB (evalE cl xa)) g σ H fun c g1 H1 => Good K g1 σ H1 ∧ if c = true then k true g1 H1 else At K w (asB (evalE cl xb)) g1 σ H1 k := by
  have h2 : At K w (asB (evalE cl xa) >>= fun c => if c = true then Pure.pure true else asB (evalE cl xb)) g σ H k := by
    have e : asB (evalE cl (.or2 xa xb)) = (asB (evalE cl xa) >>= fun c => if c = true then Pure.pure true else asB (evalE cl xb)) := by
      funext s
      show ((asB (evalE cl xa) >>= fun c => if c = true then Pure.pure (D.bl true, false) else ofB (asB (evalE cl xb))) >>= fun r => match r.1 with | .bl b => Pure.pure b | _ => bad) s = _
      rw [bind_run, bind_run, bind_run]
      cases asB (evalE cl xa) s with
      | bad => rfl
      | exc c fs s' => rfl
      | ok c s' =>
        cases c with
        | true => rfl
        | false =>
          dsimp only
          simp only [if_true, Bool.false_eq_true, if_false]
          unfold ofB
          rw [bind_run]
          cases asB (evalE cl xb) s' <;> rfl
    rw [← e]; exact h
  refine (At.bind G h2).imp fun c g1 H1 G1 E1 ⟨_, _, q⟩ => ⟨G1, ?_⟩
  cases c with
  | false => exact iteF q
  | true => exact iteT (At.pure_ G1 q)
theorem not_at {K : PySem.W.Frag} {g : Gh} {σ : L2.St} {H : Hp} {k : Bool → Gh → Hp → Prop} (G : Good K g σ H) (h : At K w (asB (evalE cl (.not1 xa))) g σ H k) :
    At K w (asB (evalE cl xa)) g σ H fun c g1 H1 => k (!c) g1 H1 := by
  have h2 : At K w (asB (evalE cl xa) >>= fun c => Pure.pure (!c)) g σ H k := by
    have e : asB (evalE cl (.not1 xa)) = (asB (evalE cl xa) >>= fun c => Pure.pure (!c)) := by
      funext s
      show ((asB (evalE cl xa) >>= fun c => Pure.pure (D.bl (!c), false)) >>= fun r => match r.1 with | .bl b => Pure.pure b | _ => bad) s = _
      rw [bind_run, bind_run, bind_run]
      cases asB (evalE cl xa) s <;> rfl
    rw [← e]; exact h
  exact (At.bind G h2).imp fun c g1 H1 G1 E1 ⟨_, _, q⟩ => At.pure_ G1 q
theorem pw_one_and (ha : PT X a (Tt X.K w (asB (evalE cl xa)))) : PW X (.BoolOp .And [a] pos) (Tt X.K w (asB (evalE cl xa))) := pw_and1 ha
theorem pw_one_or (ha : PT X a (Tt X.K w (asB (evalE cl xa)))) : PW X (.BoolOp .Or [a] pos) (Tt X.K w (asB (evalE cl xa))) := pw_or1 ha
theorem _root_.L2.PW.weak {e : Expr} {t t' : TT} (h : PW X e t) (i : ∀ σ H Q, t' σ H Q → t σ H Q) : PW X e t' := ⟨fun wh pins s σ H Q I q => h.run wh pins s σ H Q I (i σ H Q q)⟩
theorem pw_andz (ha : PT X a (Tt X.K w (asB (evalE cl xa)))) (hb : PW X (.BoolOp .And (b :: rest) pos) (Tt X.K w (asB (evalE cl xb)))) : PW X (.BoolOp .And (a :: b :: rest) pos) (Tt X.K w (asB (evalE cl (.and2 xa xb)))) := by
  refine (pw_and ha hb).weak fun σ H Q ⟨g, G, q⟩ => ⟨g, G, (and_at G q).imp fun c g1 H1 _ _ ⟨G1, q1⟩ => ?_⟩
  cases c with
  | true => exact iteT ⟨g1, G1, q1⟩
  | false => exact iteF q1
theorem pw_orz (ha : PT X a (Tt X.K w (asB (evalE cl xa)))) (hb : PW X (.BoolOp .Or (b :: rest) pos) (Tt X.K w (asB (evalE cl xb)))) : PW X (.BoolOp .Or (a :: b :: rest) pos) (Tt X.K w (asB (evalE cl (.or2 xa xb)))) := by
  refine (pw_or ha hb).weak fun σ H Q ⟨g, G, q⟩ => ⟨g, G, (or_at G q).imp fun c g1 H1 _ _ ⟨G1, q1⟩ => ?_⟩
  cases c with
  | false => exact iteF ⟨g1, G1, q1⟩
  | true => exact iteT q1
theorem pt_notz (ha : PT X a (Tt X.K w (asB (evalE cl xa)))) : PT X (.UnaryOp .Not a pos) (Tt X.K w (asB (evalE cl (.not1 xa)))) :=
  (pt_not ha).weak fun σ H Q ⟨g, G, q⟩ => ⟨g, G, not_at G q⟩
/-! .. as values -/
theorem pz_one {op} {m : M Rs} (h : PE X a (Tr X.K w m)) : PE X (.BoolOp op [a] pos) (Tr X.K w m) := pe_one h
theorem pz_and (ha : PE X a (Tr X.K w (evalE cl xa))) (hb : PE X (.BoolOp .And (b :: rest) pos) (Tr X.K w (evalE cl xb))) : PE X (.BoolOp .And (a :: b :: rest) pos) (Tr X.K w (evalE cl (.and2 xa xb))) := by
  refine (pe_and ha hb).weak fun σ H Q ⟨g, G, q⟩ => ⟨g, G, ?_⟩
  have q : At X.K w (asB (evalE cl xa) >>= fun c => if c = true then ofB (asB (evalE cl xb)) else Pure.pure (D.bl false, false)) g σ H _ := q
  refine (At.asB_ G (At.bind G q)).imp fun r g1 H1 _ _ q1 v rv => ?_
  obtain ⟨c, rfl, G1, E1, _, _, q2⟩ := q1 v rv
  refine ⟨c, rfl, ?_⟩
  cases c with
  | false => exact iteF (At.blR G1 q2)
  | true =>
    refine iteT ⟨g1, G1, (At.asB_ G1 (At.ofB_ G1 q2)).imp fun r2 g2 H2 _ _ q3 u ru => ?_⟩
    obtain ⟨c2, rfl, G2, E2, q4⟩ := q3 u ru
    exact q4 (.bl c2) rfl
theorem pz_or (ha : PE X a (Tr X.K w (evalE cl xa))) (hb : PE X (.BoolOp .Or (b :: rest) pos) (Tr X.K w (evalE cl xb))) : PE X (.BoolOp .Or (a :: b :: rest) pos) (Tr X.K w (evalE cl (.or2 xa xb))) := by
  refine (pe_or ha hb).weak fun σ H Q ⟨g, G, q⟩ => ⟨g, G, ?_⟩
  have q : At X.K w (asB (evalE cl xa) >>= fun c => if c = true then Pure.pure (D.bl true, false) else ofB (asB (evalE cl xb))) g σ H _ := q
  refine (At.asB_ G (At.bind G q)).imp fun r g1 H1 _ _ q1 v rv => ?_
  obtain ⟨c, rfl, G1, E1, _, _, q2⟩ := q1 v rv
  refine ⟨c, rfl, ?_⟩
  cases c with
  | true => exact iteT (At.blR G1 q2)
  | false =>
    refine iteF ⟨g1, G1, (At.asB_ G1 (At.ofB_ G1 q2)).imp fun r2 g2 H2 _ _ q3 u ru => ?_⟩
    obtain ⟨c2, rfl, G2, E2, q4⟩ := q3 u ru
    exact q4 (.bl c2) rfl
theorem pz_not (ha : PE X a (Tr X.K w (evalE cl xa))) : PE X (.UnaryOp .Not a pos) (Tr X.K w (evalE cl (.not1 xa))) := by
  refine (pe_not ha).weak fun σ H Q ⟨g, G, q⟩ => ⟨g, G, ?_⟩
  have q : At X.K w (asB (evalE cl xa) >>= fun c => Pure.pure (D.bl (!c), false)) g σ H _ := q
  refine (At.asB_ G (At.bind G q)).imp fun r g1 H1 _ _ q1 v rv => ?_
  obtain ⟨c, rfl, G1, E1, _, _, q2⟩ := q1 v rv
  exact ⟨c, rfl, At.blR G1 q2⟩
theorem pz_ife (hc : PT X c (Tt X.K w (asB (evalE cl xc)))) (ha : PE X a (Tr X.K w (evalE cl xa))) (hb : PE X b (Tr X.K w (evalE cl xb))) : PE X (.IfExp c a b pos) (Tr X.K w (evalE cl (.ife xc xa xb))) := by
  refine (pe_ifExp hc ha hb).weak fun σ H Q ⟨g, G, q⟩ => ⟨g, G, ?_⟩
  have q : At X.K w (asB (evalE cl xc) >>= fun t => if t = true then evalE cl xa else evalE cl xb) g σ H _ := q
  refine (At.bind G q).imp fun t g1 H1 G1 E1 ⟨_, _, q1⟩ => ?_
  cases t with
  | true => exact iteT ⟨g1, G1, At.older G E1 q1⟩
  | false => exact iteF ⟨g1, G1, At.older G E1 q1⟩
/-! ### -a; is None -/
theorem pz_neg (ha : PE X a (Tr X.K w (evalE cl xa))) : PE X (.UnaryOp .USub a pos) (Tr X.K w (evalE cl (.neg xa))) := by
  refine (pe_un un_neg (Tr.dat ha)).weak fun σ H Q ⟨g, G, q⟩ => ⟨g, G, ?_⟩
  have q : At X.K w (do
    let d ← dat (evalE cl xa)
    match d with
    | .int i => Pure.pure (D.int (-i), false)
    | _ => bad) g σ H _ := q
  refine (At.bind G q).imp fun d g1 H1 G1 E1 ⟨_, _, q1⟩ v rv => ?_
  cases d with
  | int i => exact ⟨i, rv, At.intR G1 q1⟩
  | _ => exact q1.elim
theorem isN_at {no : Bool} {σ : L2.St} {H : Hp} {Q : VK} (h : Tr X.K w (evalE cl (.isN no xa)) σ H Q) : To X.K w (opdV xa (evalE cl xa)) σ H fun v H1 => Q (.bl (if no then !decide (v = .non) else decide (v = .non))) H1 := by
  obtain ⟨g, G, q⟩ := h
  refine ⟨g, G, (At.op1 (f := fun d => (match d with | .none => Pure.pure (D.bl (!no), false) | _ => Pure.pure (D.bl no, false) : M Rs)) G q).imp fun o g1 H1 _ _ q1 v rv => ?_⟩
  obtain ⟨d, r, G1, E1, q2⟩ := q1 v rv
  have key : ∀ c : Bool, (v = .non ↔ c = true) → At X.K w (Pure.pure (D.bl (if no then !c else c), false)) g1 σ H1 (fun r g2 H2 => ∀ u, RelR X.K H g2 σ H2 r u → Q u H2) → Q (.bl (if no then !decide (v = .non) else decide (v = .non))) H1 := fun c hc q3 => by
    have e : decide (v = .non) = c := by
      cases c with
      | true => exact decide_eq_true (hc.mpr rfl)
      | false => exact decide_eq_false (fun z => by simpa using hc.mp z)
    rw [e]
    exact At.blR G1 q3
  cases d with
  | none => exact key true ⟨fun _ => rfl, fun _ => r⟩ (by cases no <;> exact q2)
  | bl b => exact key false ⟨fun z => (by rw [z] at r; cases r), fun z => nomatch z⟩ (by cases no <;> exact q2)
  | int b => exact key false ⟨fun z => (by rw [z] at r; cases r), fun z => nomatch z⟩ (by cases no <;> exact q2)
  | str b => exact key false ⟨fun z => (by rw [z] at r; cases r), fun z => nomatch z⟩ (by cases no <;> exact q2)
  | tup ds => exact key false ⟨fun z => (by rw [z] at r; obtain ⟨_, _, e, _⟩ := r; cases e), fun z => nomatch z⟩ (by cases no <;> exact q2)
  | lst ds => exact key false ⟨fun z => (by rw [z] at r; obtain ⟨_, _, e, _⟩ := r; cases e), fun z => nomatch z⟩ (by cases no <;> exact q2)
  | dic ks ws => obtain ⟨_, _, _, _, h1, _⟩ := r; exact h1.elim
  | obj i => exact key false ⟨fun z => (by rw [z] at r; obtain ⟨_, e, _⟩ := r; cases e), fun z => nomatch z⟩ (by cases no <;> exact q2)
  | scr ns => exact key false ⟨fun z => (by rw [z] at r; obtain ⟨_, e, _⟩ := r; cases e), fun z => nomatch z⟩ (by cases no <;> exact q2)
theorem pz_isN {j pos'} (ha : PE X a (To X.K w (opdV xa (evalE cl xa)))) : PE X (.Compare a [.Is] [.Constant .none j pos'] pos) (Tr X.K w (evalE cl (.isN false xa))) := (pe_cmp (pc_isN ha) rfl).weak fun σ H Q h => isN_at h
theorem pz_notN {j pos'} (ha : PE X a (To X.K w (opdV xa (evalE cl xa)))) : PE X (.Compare a [.IsNot] [.Constant .none j pos'] pos) (Tr X.K w (evalE cl (.isN true xa))) := (pe_cmp (pc_notN ha) rfl).weak fun σ H Q h => isN_at h
theorem isNt_at {no : Bool} {σ : L2.St} {H : Hp} {Q : Bool → Hp → Prop} (h : Tt X.K w (asB (evalE cl (.isN no xa))) σ H Q) :
    To X.K w (opdV xa (evalE cl xa)) σ H fun v H1 => ∃ c, (V.bl (if no then !decide (v = .non) else decide (v = .non))) = .bl c ∧ Q c H1 := by
  obtain ⟨g, G, q⟩ := h
  refine isN_at (Q := fun x H1 => ∃ c, x = .bl c ∧ Q c H1) ⟨g, G, (At.asB_ G q).imp fun r g1 H1 _ _ q1 v rv => ?_⟩
  obtain ⟨c, rfl, _, _, k⟩ := q1 v rv
  exact ⟨c, rfl, k⟩
theorem pt_isN {j pos'} (ha : PE X a (To X.K w (opdV xa (evalE cl xa)))) : PT X (.Compare a [.Is] [.Constant .none j pos'] pos) (Tt X.K w (asB (evalE cl (.isN false xa)))) := (pt_cmp (pc_isN ha) rfl).weak fun σ H Q h => isNt_at h
theorem pt_notN {j pos'} (ha : PE X a (To X.K w (opdV xa (evalE cl xa)))) : PT X (.Compare a [.IsNot] [.Constant .none j pos'] pos) (Tt X.K w (asB (evalE cl (.isN true xa)))) := (pt_cmp (pc_notN ha) rfl).weak fun σ H Q h => isNt_at h
end
end Z

/-! Z8: subscripts, slices, built-ins, isinstance, shared lists, pop. -/
namespace Z
open PySem PySem.Spec PyProof.Rows L2
/-! sum of a tuple of ints -/
section
variable {prog : Program} {w : World} {A : Around} {E : Value → Shared → Prop} {s : Shared} {l : Addr}
theorem sum_tupG {xs : Array (Int × Tok)} {Q : Value → Shared → Prop} (hh : A.handled = none) (hl : s.heap.IsTuple l (intItems xs))
    (h : ∀ h' tk t', (∀ b o, s.heap.get? b = some o → h'.get? b = some o) → Q (.int (preSum (numAt xs) xs.size) t') { s with heap := h', toks := tk }) :
    wpAny (model prog w) A (call (.builtin "sum") [.ref l]) Q E s := by
  have hlt : l < s.heap.objs.size := by obtain ⟨_, e, _⟩ := hl; exact Heap.lt_size e
  have hsz : ∀ o : Obj, (s.heap.push o).objs.size = s.heap.objs.size + 1 := fun o => Heap.size_push ..
  refine call_sum_walkG (wpAny_pyIter_tuple hl ?_)
  refine ⟨_, _, _, _, _, _, numAt xs, rfl, Walks.tuple (A := A.in1) hh _ l (Nat.ne_of_lt hlt) (intItems xs), ⟨⟨_, Heap.get?_push_size _ rfl, rfl, rfl⟩, hl.push _⟩, fun b hb => ?_, (fun _ _ => intItems_at), fun h' tk t' hk => ?_⟩
  · show b < (s.heap.push _).objs.size
    rw [hsz]
    rcases List.mem_cons.mp hb with rfl | hb
    · exact Nat.lt_succ_self _
    · rcases List.mem_cons.mp hb with rfl | hb
      · exact Nat.lt_succ_of_lt hlt
      · cases hb
  · have := h h' tk t' fun b o e => hk b o (fun hb => absurd (Heap.lt_size e) ((List.mem_singleton.mp hb) ▸ Nat.lt_irrefl _)) (Heap.get?_push_of_some _ e)
    simpa [intItems] using this
theorem sum_rawT {its : List Value} {ns : List Int} {Q : Value → Shared → Prop} (hh : A.handled = none) (hl : s.heap.IsTuple l its.toArray) (hi : IntsAre its ns)
    (h : ∀ h' tk t', (∀ b o, s.heap.get? b = some o → h'.get? b = some o) → Q (.int ns.sum t') { s with heap := h', toks := tk }) : wpAny (model prog w) A (call (.builtin "sum") [.ref l]) Q E s := by
  obtain ⟨xs, e⟩ := hi.allInts.items
  have hn : numsOf (intItems xs).toList = ns := by rw [← e]; exact hi.numsOf
  rw [nums_intItems] at hn
  rw [e] at hl
  refine sum_tupG hh hl fun h' tk t' hk => ?_
  have := h h' tk t' hk
  rw [preSum_eq, List.take_of_length_le (by simp), hn]; exact this
end
def rSumLT (K : PySem.W.Frag) : List V → Hp → VK → Prop := fun vs H Q => ∃ (a : Addr) (ns : List Int), vs = [V.ref a] ∧ (SqL K H a (ns.map V.int) ∨ SqT K H a (ns.map V.int)) ∧ Q (.int ns.sum) H
theorem cr_sumLT {X : Cx} (hc : X.calm = true) : CallR X (.builtin "sum") (rSumLT X.K) := by
  intro pins s σ H vs us Q I r h
  obtain ⟨a, ns, rfl, hs | hs, q⟩ := h
  · exact cr_sum hc pins s σ H _ us Q I r ⟨a, ns, rfl, hs, q⟩
  · obtain ⟨its, rv, hl, _⟩ := I.tuple hs
    rw [Vals.ref1 r]
    exact sum_rawT (I.ok.hd hc) hl rv.ints fun h' tk t' hk => ⟨.int _, H, I.kept hk, ⟨_, rfl⟩, q⟩

section
variable {K : PySem.W.Frag} {w : WX} {α : Type} {g0 g : Gh} {σ0 σ : L2.St} {H0 H : Hp}
theorem At.stO_ {f : List SO → Option α} {k : α → Gh → Hp → Prop} (h : At K w (stO f) g σ H k) :
    ∃ a, f g.st = some a ∧ At K w (Pure.pure a : M α) g σ H k := by
  unfold At stO at h
  cases e : f g.st with
  | none => simp only [Gh.S, e] at h
  | some a => refine ⟨a, rfl, ?_⟩; simp only [Gh.S, e] at h; exact h
theorem ixN_map {n : Nat} {i : Int} {j : Nat} (h : ixN n i = some j) : j < n := (ixN_seq h).2.1
theorem atI_rep {As : List Addr} {Hh : Hp} {ds : List D} {vs : List V} {i : Int} {d : D} (r : Reps K As Hh ds vs) (h : atI ds i = some d) : ∃ v, atI vs i = some v ∧ Rep K As Hh d v := by
  unfold atI at h ⊢
  rw [r.length]
  cases e : ixN ds.length i with
  | none => rw [e] at h; cases h
  | some j =>
    rw [e] at h
    exact r.get h
/-- a sequence's items -/
theorem seq_sem {d : D} {v : V} {ds : List D} (G : Good K g σ H) (r : RepB K g.As (hid g.M H) H d v) (h : seqD g.st d = some ds) :
    ∃ a vs, v = .ref a ∧ (H a = some (.lst vs) ∨ H a = some (.tup vs)) ∧ Reps K g.As (hid g.M H) ds vs := by
  unfold seqD at h
  split at h
  · cases h; obtain ⟨a, vs, e, h1, h2⟩ := r; exact ⟨a, vs, e, .inr (hid_of h1).2, h2⟩
  · cases h; obtain ⟨a, vs, e, h1, h2⟩ := r; exact ⟨a, vs, e, .inl h1, h2⟩
  · obtain ⟨a, e, h1⟩ := r
    split at h
    · rename_i e2
      cases h
      obtain ⟨a', e3, vs, h2, h3⟩ := G.sto _ _ e2
      rw [h1] at e3; cases e3
      exact ⟨a, vs, e, .inl h2, h3⟩
    · cases h
  · cases h
theorem idx_sem {d e : D} {x y : V} {f : D} {Q : VK} (G : Good K g σ H) (rx : RepB K g.As (hid g.M H) H d x) (ry : RepB K g.As (hid g.M H) H e y) (h : idxD g.st d e = some f)
    (q : At K w (Pure.pure (f, false) : M Rs) g σ H fun r g1 H1 => ∀ v, RelR K H0 g1 σ H1 r v → Q v H1) : rIx K x y H Q := by
  unfold idxD at h
  split at h
  · obtain rfl : y = .int _ := ry
    split at h
    · obtain rfl : x = .str _ := rx
      split at h
      · rename_i s hl
        cases e1 : atI s.cps.toList _ with
        | none => rw [e1] at h; cases h
        | some c =>
          rw [e1] at h; cases h
          exact .inr (.inr ⟨_, _, c, rfl, rfl, line_le hl, e1, At.strR G q⟩)
      · cases h
    · cases e1 : seqD g.st d with
      | none => rw [e1] at h; cases h
      | some ds =>
        rw [e1] at h
        have h : atI ds _ = some f := h
        obtain ⟨a, vs, rfl, hh, hr⟩ := seq_sem G rx e1
        obtain ⟨v, e2, rv⟩ := atI_rep hr h
        rcases hh with hh | hh
        · exact .inl ⟨a, vs, _, v, rfl, rfl, SqL.of hh, e2, At.repR G rv q⟩
        · exact .inr (.inl ⟨a, vs, _, v, rfl, rfl, SqT.of hh, e2, At.repR G rv q⟩)
  · cases h
theorem cut_rep {As : List Addr} {Hh : Hp} {ds : List D} {vs : List V} {lo hi : Option Int} (r : Reps K As Hh ds vs) : Reps K As Hh (cutD ds lo hi) (cutV vs lo hi) := by
  unfold cutD cutV
  rw [r.length]
  exact (r.drop _).take _
theorem sIx_whole {α : Type} {xs : List α} {lo hi : Option Int} (h : HT.sIx xs.length 0 lo = 0 ∧ HT.sIx xs.length xs.length hi = xs.length) : (xs.drop (HT.sIx xs.length 0 lo)).take (HT.sIx xs.length xs.length hi - HT.sIx xs.length 0 lo) = xs := by
  rw [h.1, h.2]
  simp
def rSli (K : PySem.W.Frag) : V → Option Int → Option Int → Hp → VK → Prop := fun x lo hi H Q => rSlA K x lo hi H Q ∨ rSlL K x lo hi H Q ∨ rSlS x lo hi H Q
theorem slR_any {X : Cx} : SlR X (rSli X.K) := sl_tupA.or (sl_list.or sl_str)
theorem sli_sem {d : D} {x : V} {lo hi : Option Int} {Q : VK} (E0 : Ext g0 σ0 H0 g σ H) (G : Good K g σ H) (rx : RepB K g.As (hid g.M H) H d x)
    (h : At K w (liftO (sliD d lo hi)) g σ H fun r g1 H1 => ∀ v, RelR K H0 g1 σ H1 r v → Q v H1) : rSli K x lo hi H Q := by
  unfold sliD at h
  split at h
  · rename_i ds
    obtain ⟨a, vs, rfl, h1, r1⟩ := rx
    have hq : At K w (Pure.pure (D.tup (cutD ds lo hi), false) : M Rs) g σ H fun r g1 H1 => ∀ v, RelR K H0 g1 σ H1 r v → Q v H1 := h
    refine .inl ⟨a, vs, rfl, SqT.of (hid_of h1).2, fun e => ?_, fun _ p hp => At.tupR G (cut_rep r1) hp hq⟩
    refine At.repR (d := .tup (cutD ds lo hi)) G ⟨a, vs, rfl, h1, ?_⟩ hq
    have e2 : cutD ds lo hi = ds := by
      unfold cutD
      rw [r1.length] at e
      exact sIx_whole e
    rw [e2]
    exact r1
  · rename_i ds
    obtain ⟨a, vs, rfl, h1, r1⟩ := rx
    exact .inr (.inl ⟨a, vs, rfl, SqL.of h1, fun p hp => At.lstR E0 G (cut_rep r1) hp h⟩)
  · obtain rfl : x = .str _ := rx
    split at h
    · rename_i hl
      exact .inr (.inr ⟨_, rfl, line_le hl, At.strR G h⟩)
    · exact h.elim
  · exact h.elim
theorem bools_rep {As : List Addr} {Hh : Hp} : ∀ {ds : List D} {vs : List V} {bs : List Bool}, Reps K As Hh ds vs → boolsD ds = some bs → vs = bs.map V.bl
  | [], vs, bs, r, h => by obtain rfl : vs = [] := r; cases h; rfl
  | d :: ds, vs, bs, r, h => by
    obtain ⟨v, ws, rfl, h1, h2⟩ := r
    cases d with
    | bl b =>
      have h : (boolsD ds).map (b :: ·) = some bs := h
      cases e : boolsD ds with
      | none => rw [e] at h; cases h
      | some cs =>
        rw [e] at h; cases h
        obtain rfl : v = .bl b := h1
        rw [bools_rep h2 e]; rfl
    | _ => cases h
theorem ints_rep {As : List Addr} {Hh : Hp} : ∀ {ds : List D} {vs : List V} {bs : List Int}, Reps K As Hh ds vs → intsD ds = some bs → vs = bs.map V.int
  | [], vs, bs, r, h => by obtain rfl : vs = [] := r; cases h; rfl
  | d :: ds, vs, bs, r, h => by
    obtain ⟨v, ws, rfl, h1, h2⟩ := r
    cases d with
    | int b =>
      have h : (intsD ds).map (b :: ·) = some bs := h
      cases e : intsD ds with
      | none => rw [e] at h; cases h
      | some cs =>
        rw [e] at h; cases h
        obtain rfl : v = .int b := h1
        rw [ints_rep h2 e]; rfl
    | _ => cases h
end

section
variable {X : Cx} {w : WX} {cl : CallT} {a b c i : Expr} {rest : List Expr} {pos p2 : Pos} {xa xb xc xi : Ex} {lo hi : Option Expr} {xl xh : Option Ex}
theorem pz_idx (ha : PE X a (To X.K w (opdV xa (evalE cl xa)))) (hi : PE X i (To X.K w (opdV xi (evalE cl xi)))) (hs : PlainIx i := by exact fun _ _ => rfl) : PE X (.Subscript a i pos) (Tr X.K w (evalE cl (.idx xa xi))) := by
  refine (pe_ix ix_seq ha hi hs).weak fun σ H Q ⟨g, G, q⟩ => ⟨g, G, (At.op2 (f := fun d e => (do let f ← stO fun st => idxD st d e; Pure.pure (f, false) : M Rs)) G q).imp fun o g1 H1 _ _ q1 v rv => ?_⟩
  obtain ⟨g1, G1, q2⟩ := q1 v rv
  refine ⟨g1, G1, q2.imp fun o' g2 H2 _ _ q3 u ru => ?_⟩
  obtain ⟨d, e, r1, r2, G2, E2, q4⟩ := q3 u ru
  obtain ⟨f, e1, q5⟩ := At.stO_ (At.bind G2 q4)
  obtain ⟨_, _, q6⟩ := At.pure_ G2 q5
  exact idx_sem G2 r1 r2 e1 q6
/-- a part of a slice -/
def Tpart (K : PySem.W.Frag) (w : WX) (m : M (Option Int)) : TO := fun σ H Q => ∃ g, Good K g σ H ∧ At K w m g σ H fun o _ H1 => Q o H1
theorem _root_.L2.PO.weak {o : Option Expr} {t t' : TO} (h : PO X o t) (i : ∀ σ H Q, t' σ H Q → t σ H Q) : PO X o t' := ⟨fun pins s σ H Q I q => h.run pins s σ H Q I (i σ H Q q)⟩
theorem po_noz : PO X none (Tpart X.K w (evalPart cl none)) := po_none.weak fun σ H Q ⟨g, G, q⟩ => At.pure_ G q
theorem po_soz {e : Expr} {x : Ex} (h : PE X e (Tr X.K w (evalE cl x))) : PO X (some e) (Tpart X.K w (evalPart cl (some x))) := by
  refine (po_some (Tr.dat h)).weak fun σ H Q ⟨g, G, q⟩ => ⟨g, G, ?_⟩
  have q : At X.K w (do
    let d ← dat (evalE cl x)
    match d with
    | .int i => Pure.pure (some i)
    | _ => bad) g σ H _ := q
  refine (At.bind G q).imp fun d g1 H1 G1 E1 ⟨_, _, q1⟩ v rv => ?_
  cases d with
  | int i => exact ⟨i, rv, At.pure_ G1 q1⟩
  | _ => exact q1.elim
theorem pz_sli (ha : PE X a (To X.K w (opdV xa (evalE cl xa)))) (hl : PO X lo (Tpart X.K w (evalPart cl xl))) (hh : PO X hi (Tpart X.K w (evalPart cl xh))) : PE X (.Subscript a (.Slice lo hi none p2) pos) (Tr X.K w (evalE cl (.sli xa xl xh))) := by
  refine (pe_slice slR_any ha hl hh).weak fun σ H Q ⟨g, G, q⟩ => ⟨g, G, ?_⟩
  have q : At X.K w (do
    let x ← opdV xa (evalE cl xa)
    let l ← evalPart cl xl
    let h ← evalPart cl xh
    let d ← res x
    liftO (sliD d l h)) g σ H _ := q
  refine (At.bind G q).imp fun o g1 H1 G1 E1 ⟨_, _, q1⟩ v rv => ⟨g1, G1, (At.bind G1 q1).imp fun l g2 H2 G2 E2 ⟨_, _, q2⟩ => ⟨g2, G2, (At.bind G2 q2).imp fun h g3 H3 G3 E3 ⟨_, _, q3⟩ => ?_⟩⟩
  obtain ⟨d, r, _, _, q4⟩ := At.res_ G3 ((rv.ext E2).ext E3) (At.bind G3 q3)
  exact sli_sem ((E1.trans G E2).trans G E3) G3 r q4
theorem pz_rev {k : Nat} {p1 p3 : Pos} (ha : PE X a (To X.K w (opdV xa (evalE cl xa)))) : PE X (.Subscript a (.Slice none none (some (.UnaryOp .USub (.Constant (.int 1) k p1) p2)) p3) pos) (Tr X.K w (evalE cl (.rev xa))) := by
  refine (pe_revL ha).weak fun σ H Q ⟨g, G, q⟩ => ⟨g, G, (At.op1 (f := fun d => (match d with | .lst ds => Pure.pure (D.lst ds.reverse, true) | _ => bad : M Rs)) G q).imp fun o g1 H1 _ _ q1 v rv => ?_⟩
  obtain ⟨d, r, G1, E1, q2⟩ := q1 v rv
  cases d with
  | lst ds =>
    obtain ⟨a, vs, rfl, h1, h2⟩ := r
    exact ⟨a, vs, rfl, SqL.of h1, fun p hp => At.lstR E1 G1 h2.reverse hp q2⟩
  | _ => exact q2.elim

/-! ### built-ins -/
theorem blt_at {K : PySem.W.Frag} {bt : Blt} {es : List Ex} {σ : L2.St} {H : Hp} {Q : VK} (h : Tr K w (evalE cl (.blt bt es)) σ H Q) :
    Tos K w (evalOs cl es) σ H fun vs H1 => ∃ g0 H0 g ds r, Ext g0 σ H0 g σ H1 ∧ Good K g σ H1 ∧ RepBs K g.As (hid g.M H1) H1 ds vs ∧ bltD g.st bt ds = some r ∧ At K w (Pure.pure r : M Rs) g σ H1 fun r g1 H1 => ∀ v, RelR K H0 g1 σ H1 r v → Q v H1 := by
  obtain ⟨g, G, q⟩ := h
  have q : At K w (do
    let os ← evalOs cl es
    let ds ← ress os
    stO fun st => bltD st bt ds) g σ H _ := q
  refine ⟨g, G, (At.bind G q).imp fun os g1 H1 G1 E1 ⟨_, _, q1⟩ vs rvs => ?_⟩
  obtain ⟨ds, r, _, _, q2⟩ := At.ress_ G1 rvs (At.bind G1 q1)
  obtain ⟨x, e1, q3⟩ := At.stO_ q2
  exact ⟨g, H, g1, ds, x, E1, G1, r, e1, q3⟩
theorem bs1 {K : PySem.W.Frag} {As : List Addr} {Hh H : Hp} {d : D} {vs : List V} (r : RepBs K As Hh H [d] vs) : ∃ v, vs = [v] ∧ RepB K As Hh H d v := by
  cases r with
  | cons a b => cases b with
    | nil => exact ⟨_, rfl, a⟩
theorem bs2 {K : PySem.W.Frag} {As : List Addr} {Hh H : Hp} {d e : D} {vs : List V} (r : RepBs K As Hh H [d, e] vs) : ∃ v u, vs = [v, u] ∧ RepB K As Hh H d v ∧ RepB K As Hh H e u := by
  cases r with
  | cons a b => cases b with
    | cons c e => cases e with
      | nil => exact ⟨_, _, rfl, a, c⟩

theorem on1_ {f : D → Option Rs} {ds : List D} {r : Rs} (h : on1 f ds = some r) : ∃ d, ds = [d] ∧ f d = some r := by
  unfold on1 at h
  split at h
  · exact ⟨_, rfl, h⟩
  · cases h
theorem on2_ {f : D → D → Option Rs} {ds : List D} {r : Rs} (h : on2 f ds = some r) : ∃ d e, ds = [d, e] ∧ f d e = some r := by
  unfold on2 at h
  split at h
  · exact ⟨_, _, rfl, h⟩
  · cases h
variable {p : Pos} {x : Str} {es : List Expr} {xs : List Ex} {e : Expr} {ta : TA}
/-- a built-in by its rule: what its data gives, the rule's reading asks -/
theorem blt_of {bt : Blt} {rr : List V → Hp → VK → Prop} {e : Expr} (h0 : PE X e (tCB rr (Tos X.K w (evalOs cl xs))))
    (sem : ∀ (g0 g : Gh) (σ : L2.St) (H0 H : Hp) (ds : List D) (vs : List V) (r : Rs) (Q : VK), Ext g0 σ H0 g σ H → Good X.K g σ H → RepBs X.K g.As (hid g.M H) H ds vs → bltD g.st bt ds = some r →
      (At X.K w (Pure.pure r : M Rs) g σ H fun r g1 H1 => ∀ v, RelR X.K H0 g1 σ H1 r v → Q v H1) → rr vs H Q) : PE X e (Tr X.K w (evalE cl (.blt bt xs))) := by
  refine h0.weak fun σ H Q h => ?_
  obtain ⟨g, G, q⟩ := blt_at h
  refine ⟨g, G, q.imp fun os g1 H1 _ _ q1 vs rvs => ?_⟩
  obtain ⟨g0, H0, g, ds, r, E0, G, rb, e, q2⟩ := q1 vs rvs
  exact sem _ _ _ _ _ _ _ _ _ E0 G rb e q2
theorem pz_len (hg : Gl X "len") (hm : X.mg "len" = none) (ha : PA X [e] (Tos X.K w (evalOs cl xs)))
    (he : starEach [e] X.env = (false, eval e X.env) :: starEach [] X.env := by rfl) (hpl : (backTo pos (starEach [] X.env)).any (·.1) = false := by rfl) : PE X (.Call (.Name "len" p) [e] [] pos) (Tr X.K w (evalE cl (.blt .len xs))) := by
  refine blt_of (pe_callB (call_len_seq.or call_len_str) hg hm PySem.boot_len ha (by decide) (by decide) he hpl) fun g0 g σ H0 H ds vs r Q E0 G rb h q => ?_
  obtain ⟨d, rfl, h⟩ := on1_ h
  obtain ⟨v, rfl, rv⟩ := bs1 rb
  have fin : ∀ ds, seqD g.st d = some ds → r = (.int ds.length, false) → (∃ p ys, [v] = [V.ref p] ∧ (SqL X.K H p ys ∨ SqT X.K H p ys) ∧ Q (.int ys.length) H) := fun ds e1 e2 => by
    subst e2
    obtain ⟨a, ws, rfl, hh, hr⟩ := seq_sem G rv e1
    have l := hr.length
    refine ⟨a, ws, rfl, hh.imp SqL.of SqT.of, ?_⟩
    rw [l]
    exact At.intR G q
  have fin2 : (seqD g.st d).map (fun ds => ((.int ds.length, false) : Rs)) = some r → (∃ p ys, [v] = [V.ref p] ∧ (SqL X.K H p ys ∨ SqT X.K H p ys) ∧ Q (.int ys.length) H) := fun h => by
    cases e1 : seqD g.st d with
    | none => rw [e1] at h; cases h
    | some ds => rw [e1] at h; exact fin ds e1 (Option.some.inj h).symm
  cases d with
  | str s =>
    have h : (if s.length ≤ line then some ((.int s.length, false) : Rs) else none) = some r := h
    split at h
    · rename_i hl
      cases h
      obtain rfl : v = .str s := rv
      exact .inr ⟨s, rfl, line_le hl, At.intR G q⟩
    · cases h
  | _ => exact .inl (fin2 h)
theorem pz_tuple (hg : Gl X "tuple") (hm : X.mg "tuple" = none) (ha : PA X [e] (Tos X.K w (evalOs cl xs)))
    (he : starEach [e] X.env = (false, eval e X.env) :: starEach [] X.env := by rfl) (hpl : (backTo pos (starEach [] X.env)).any (·.1) = false := by rfl) : PE X (.Call (.Name "tuple" p) [e] [] pos) (Tr X.K w (evalE cl (.blt .tuple xs))) := by
  refine blt_of (pe_callTy call_tuple_of hg hm (by decide +kernel) ha (by decide) (by decide) he hpl) fun g0 g σ H0 H ds vs r Q E0 G rb h q => ?_
  obtain ⟨d, rfl, h⟩ := on1_ h
  obtain ⟨v, rfl, rv⟩ := bs1 rb
  cases d with
  | tup ds =>
    obtain rfl : (D.tup ds, false) = r := Option.some.inj h
    obtain ⟨a, ws, rfl, h1, h2⟩ := rv
    exact ⟨a, ws, rfl, .inr ⟨SqT.of (hid_of h1).2, At.repR (d := .tup ds) G ⟨a, ws, rfl, h1, h2⟩ q⟩⟩
  | lst ds =>
    obtain rfl : (D.tup ds, false) = r := Option.some.inj h
    obtain ⟨a, ws, rfl, h1, h2⟩ := rv
    exact ⟨a, ws, rfl, .inl ⟨SqL.of h1, fun l hl => At.tupR G h2 hl q⟩⟩
  | _ => cases h
theorem pz_list (hg : Gl X "list") (hm : X.mg "list" = none) (ha : PA X [e] (Tos X.K w (evalOs cl xs)))
    (he : starEach [e] X.env = (false, eval e X.env) :: starEach [] X.env := by rfl) (hpl : (backTo pos (starEach [] X.env)).any (·.1) = false := by rfl) : PE X (.Call (.Name "list" p) [e] [] pos) (Tr X.K w (evalE cl (.blt .list xs))) := by
  refine blt_of (pe_callTy call_list_of hg hm (by decide +kernel) ha (by decide) (by decide) he hpl) fun g0 g σ H0 H ds vs r Q E0 G rb h q => ?_
  obtain ⟨d, rfl, h⟩ := on1_ h
  obtain ⟨v, rfl, rv⟩ := bs1 rb
  cases d with
  | tup ds =>
    obtain rfl : (D.lst ds, true) = r := Option.some.inj h
    obtain ⟨a, ws, rfl, h1, h2⟩ := rv
    exact ⟨a, ws, rfl, .inr (SqT.of (hid_of h1).2), fun l hl => At.lstR E0 G h2 hl q⟩
  | lst ds =>
    obtain rfl : (D.lst ds, true) = r := Option.some.inj h
    obtain ⟨a, ws, rfl, h1, h2⟩ := rv
    exact ⟨a, ws, rfl, .inl (SqL.of h1), fun l hl => At.lstR E0 G h2 hl q⟩
  | scr ns =>
    obtain rfl : (D.lst (ns.map .int), true) = r := Option.some.inj h
    obtain ⟨a, rfl, h1⟩ := rv
    refine ⟨a, _, rfl, .inl ?_, fun l hl => At.lstR E0 G (Reps.of_ints ns) hl q⟩
    rcases h1 with (h1 | ⟨o, h1⟩) | h1
    · exact .inl (.inl (hid_of h1).2)
    · exact .inl (.inr ⟨o, (hid_of h1).2⟩)
    · exact .inr h1
  | _ => cases h
theorem pz_abs (hg : Gl X "abs") (hm : X.mg "abs" = none) (ha : PA X [e] (Tos X.K w (evalOs cl xs)))
    (he : starEach [e] X.env = (false, eval e X.env) :: starEach [] X.env := by rfl) (hpl : (backTo pos (starEach [] X.env)).any (·.1) = false := by rfl) : PE X (.Call (.Name "abs" p) [e] [] pos) (Tr X.K w (evalE cl (.blt .abs xs))) := by
  refine blt_of (pe_callB call_abs hg hm (by decide +kernel) ha (by decide) (by decide) he hpl) fun g0 g σ H0 H ds vs r Q E0 G rb h q => ?_
  obtain ⟨d, rfl, h⟩ := on1_ h
  obtain ⟨v, rfl, rv⟩ := bs1 rb
  cases d with
  | int i =>
    obtain rfl : (D.int _, false) = r := Option.some.inj h
    obtain rfl : v = .int i := rv
    exact ⟨i, rfl, At.intR G q⟩
  | _ => cases h
theorem pz_max2 {e2 : Expr} (hc : X.calm = true) (hg : Gl X "max") (hm : X.mg "max" = none) (ha : PA X [e, e2] (Tos X.K w (evalOs cl xs)))
    (he : starEach [e, e2] X.env = (false, eval e X.env) :: starEach [e2] X.env := by rfl) (hpl : (backTo pos (starEach [e2] X.env)).any (·.1) = false := by rfl) : PE X (.Call (.Name "max" p) [e, e2] [] pos) (Tr X.K w (evalE cl (.blt .max2 xs))) := by
  refine blt_of (pe_callB (call_max2 hc) hg hm (by decide +kernel) ha (by decide) (by decide) he hpl) fun g0 g σ H0 H ds vs r Q E0 G rb h q => ?_
  obtain ⟨d, e, rfl, h⟩ := on2_ h
  obtain ⟨v, u, rfl, rv, ru⟩ := bs2 rb
  cases d with
  | int i =>
    cases e with
    | int j =>
      obtain rfl : (D.int _, false) = r := Option.some.inj h
      obtain rfl : v = .int i := rv
      obtain rfl : u = .int j := ru
      exact ⟨i, j, rfl, At.intR G q⟩
    | _ => cases h
  | _ => cases h
theorem pz_sum (hc : X.calm = true) (hg : Gl X "sum") (hm : X.mg "sum" = none) (ha : PA X [e] (Tos X.K w (evalOs cl xs)))
    (he : starEach [e] X.env = (false, eval e X.env) :: starEach [] X.env := by rfl) (hpl : (backTo pos (starEach [] X.env)).any (·.1) = false := by rfl) : PE X (.Call (.Name "sum" p) [e] [] pos) (Tr X.K w (evalE cl (.blt .sum xs))) := by
  refine blt_of (pe_callB (cr_sumLT hc) hg hm (by decide +kernel) ha (by decide) (by decide) he hpl) fun g0 g σ H0 H ds vs r Q E0 G rb h q => ?_
  obtain ⟨d, rfl, h⟩ := on1_ h
  obtain ⟨v, rfl, rv⟩ := bs1 rb
  cases d with
  | lst ds =>
    have h : (intsD ds).map (fun ns => ((.int ns.sum, false) : Rs)) = some r := h
    cases e1 : intsD ds with
    | none => rw [e1] at h; cases h
    | some ns =>
      rw [e1] at h; cases h
      obtain ⟨a, ws, rfl, h1, h2⟩ := rv
      have e2 := ints_rep h2 e1
      subst e2
      exact ⟨a, ns, rfl, .inl (SqL.of h1), At.intR G q⟩
  | tup ds =>
    have h : (intsD ds).map (fun ns => ((.int ns.sum, false) : Rs)) = some r := h
    cases e1 : intsD ds with
    | none => rw [e1] at h; cases h
    | some ns =>
      rw [e1] at h; cases h
      obtain ⟨a, ws, rfl, h1, h2⟩ := rv
      have e2 := ints_rep h2 e1
      subst e2
      exact ⟨a, ns, rfl, .inr (SqT.of (hid_of h1).2), At.intR G q⟩
  | _ => cases h
theorem pz_all (hc : X.calm = true) (hg : Gl X "all") (hm : X.mg "all" = none) (ha : PA X [e] (Tos X.K w (evalOs cl xs)))
    (he : starEach [e] X.env = (false, eval e X.env) :: starEach [] X.env := by rfl) (hpl : (backTo pos (starEach [] X.env)).any (·.1) = false := by rfl) : PE X (.Call (.Name "all" p) [e] [] pos) (Tr X.K w (evalE cl (.blt .all xs))) := by
  refine blt_of (pe_callB (cr_all hc) hg hm (by decide +kernel) ha (by decide) (by decide) he hpl) fun g0 g σ H0 H ds vs r Q E0 G rb h q => ?_
  obtain ⟨d, rfl, h⟩ := on1_ h
  obtain ⟨v, rfl, rv⟩ := bs1 rb
  cases d with
  | lst ds =>
    have h : (boolsD ds).map (fun bs => ((.bl (bs.all id), false) : Rs)) = some r := h
    cases e1 : boolsD ds with
    | none => rw [e1] at h; cases h
    | some ns =>
      rw [e1] at h; cases h
      obtain ⟨a, ws, rfl, h1, h2⟩ := rv
      have e2 := bools_rep h2 e1
      subst e2
      exact ⟨a, ns, rfl, SqL.of h1, At.blR G q⟩
  | _ => cases h
theorem pz_any (hc : X.calm = true) (hg : Gl X "any") (hm : X.mg "any" = none) (ha : PA X [e] (Tos X.K w (evalOs cl xs)))
    (he : starEach [e] X.env = (false, eval e X.env) :: starEach [] X.env := by rfl) (hpl : (backTo pos (starEach [] X.env)).any (·.1) = false := by rfl) : PE X (.Call (.Name "any" p) [e] [] pos) (Tr X.K w (evalE cl (.blt .any xs))) := by
  refine blt_of (pe_callB (cr_any hc) hg hm (by decide +kernel) ha (by decide) (by decide) he hpl) fun g0 g σ H0 H ds vs r Q E0 G rb h q => ?_
  obtain ⟨d, rfl, h⟩ := on1_ h
  obtain ⟨v, rfl, rv⟩ := bs1 rb
  cases d with
  | lst ds =>
    have h : (boolsD ds).map (fun bs => ((.bl (bs.any id), false) : Rs)) = some r := h
    cases e1 : boolsD ds with
    | none => rw [e1] at h; cases h
    | some ns =>
      rw [e1] at h; cases h
      obtain ⟨a, ws, rfl, h1, h2⟩ := rv
      have e2 := bools_rep h2 e1
      subst e2
      exact ⟨a, ns, rfl, SqL.of h1, At.blR G q⟩
  | _ => cases h

/-! ### isinstance -/
def tyN : Ty → String
  | .int => "int"
  | .bool => "bool"
  | .str => "str"
  | .tuple => "tuple"
  | .list => "list"
theorem ty_sem {K : PySem.W.Frag} {As : List Addr} {Hm : List Addr} {H : Hp} {t : Ty} {d : D} {v : V} {b : Bool} (r : RepB K As (hid Hm H) H d v) (h : tyD t d = some b) :
    ∃ n, TyX K H v (.type n) ∧ kitB n (tyN t) = some b := by
  cases d with
  | none => obtain rfl : v = .non := r; refine ⟨"NoneType", .base .non, ?_⟩; cases t <;> cases h <;> decide +kernel
  | bl c => obtain rfl : v = .bl c := r; refine ⟨"bool", .base (.bl c), ?_⟩; cases t <;> cases h <;> decide +kernel
  | int c => obtain rfl : v = .int c := r; refine ⟨"int", .base (.int c), ?_⟩; cases t <;> cases h <;> decide +kernel
  | str c => obtain rfl : v = .str c := r; refine ⟨"str", .base (.str c), ?_⟩; cases t <;> cases h <;> decide +kernel
  | tup ds => obtain ⟨a, vs, rfl, h1, h2⟩ := r; refine ⟨"tuple", .base (.tup (hid_of h1).2), ?_⟩; cases t <;> cases h <;> decide +kernel
  | lst ds => obtain ⟨a, vs, rfl, h1, h2⟩ := r; refine ⟨"list", .base (.lst h1), ?_⟩; cases t <;> cases h <;> decide +kernel
  | _ => cases t <;> cases h
end
end Z

/-! Z9: isinstance, shared lists, pop. -/
namespace Z
open PySem PySem.Spec PyProof.Rows L2
theorem isiD_cons {t : Ty} {ts : List Ty} {d : D} {b : Bool} (h : isiD (t :: ts) d = some b) : ∃ a c, tyD t d = some a ∧ isiD ts d = some c ∧ b = (a || c) := by
  have h : (tyD t d).bind (fun a => (isiD ts d).map fun b => a || b) = some b := h
  cases e1 : tyD t d with
  | none => rw [e1] at h; cases h
  | some a =>
    rw [e1] at h
    cases e2 : isiD ts d with
    | none => rw [e2] at h; cases h
    | some c => rw [e2] at h; exact ⟨a, c, rfl, rfl, (Option.some.inj h).symm⟩
section
variable {K : PySem.W.Frag} {As : List Addr} {Hm : List Addr} {H : Hp}
theorem ty_name {d : D} {v : V} (r : RepB K As (hid Hm H) H d v) {t : Ty} {b : Bool} (h : tyD t d = some b) :
    ∃ n, TyX K H v (.type n) ∧ ∀ (t : Ty) (b : Bool), tyD t d = some b → kitB n (tyN t) = some b := by
  cases d with
  | none => obtain rfl : v = .non := r; refine ⟨"NoneType", .base .non, fun t b h => ?_⟩; cases t <;> cases h <;> decide +kernel
  | bl c => obtain rfl : v = .bl c := r; refine ⟨"bool", .base (.bl c), fun t b h => ?_⟩; cases t <;> cases h <;> decide +kernel
  | int c => obtain rfl : v = .int c := r; refine ⟨"int", .base (.int c), fun t b h => ?_⟩; cases t <;> cases h <;> decide +kernel
  | str c => obtain rfl : v = .str c := r; refine ⟨"str", .base (.str c), fun t b h => ?_⟩; cases t <;> cases h <;> decide +kernel
  | tup ds => obtain ⟨a, vs, rfl, h1, h2⟩ := r; refine ⟨"tuple", .base (.tup (hid_of h1).2), fun t b h => ?_⟩; cases t <;> cases h <;> decide +kernel
  | lst ds => obtain ⟨a, vs, rfl, h1, h2⟩ := r; refine ⟨"list", .base (.lst h1), fun t b h => ?_⟩; cases t <;> cases h <;> decide +kernel
  | _ => cases t <;> cases h
theorem kit_any {d : D} {n : String} (hn : ∀ (t : Ty) (b : Bool), tyD t d = some b → kitB n (tyN t) = some b) : ∀ {ts : List Ty} {b : Bool}, isiD ts d = some b → PySem.W.kitAny K (.type n) (ts.map fun t => Value.type (tyN t)) = some b
  | [], b, h => by cases h; exact kitAny_nil
  | t :: ts, b, h => by
    obtain ⟨a, c, h1, h2, rfl⟩ := isiD_cons h
    refine kitAny_cons (kit_ty (hn t a h1)) (fun e => ?_) fun e => ?_
    · subst e; exact kit_any hn h2
    · subst e; rfl
end
section
variable {X : Cx} {w : WX} {cl : CallT} {a c : Expr} {pos p : Pos} {xa xk : Ex} {es : List Expr} {e : Expr}
/-- the classes of a tuple of built-in types -/
structure PTy (X : Cx) (c : Expr) (t : Ty) : Prop where
  pe : PE X c (tC (.ty (tyN t)))
theorem pty {x : Str} {pos : Pos} {t : Ty} (hg : Gl X x) (hm : X.mg x = none) (hv : bootBuiltins x = some (.type (tyN t)) := by decide +kernel) (hn : x ≠ "__name__" := by decide) (hd : (x == ("__debug__" : Str)) = false := by decide) : PTy X (.Name x pos) t :=
  ⟨pe_bltn hg hm hv rfl hn hd⟩
inductive PTys (X : Cx) : List Expr → List Ty → Prop
  | nil : PTys X [] []
  | cons {e : Expr} {es : List Expr} {t : Ty} {ts : List Ty} : PTy X e t → PTys X es ts → starEach (e :: es) X.env = (false, eval e X.env) :: starEach es X.env → PTys X (e :: es) (t :: ts)
def tTys (ts : List Ty) : TA := fun _ H Q => Q (ts.map fun t => V.ty (tyN t)) H
theorem PTys.pa {ts : List Ty} (h : PTys X es ts) : PA X es (tTys ts) := by
  induction h with
  | nil => exact pa_nil.weak fun _ _ _ q => q
  | cons h1 h2 h3 ih => exact (pa_cons h1.pe ih h3).weak fun _ _ _ q => q
theorem isi_at {K : PySem.W.Frag} {ts : List Ty} {σ : L2.St} {H : Hp} {Q : VK} (h : Tr K w (evalE cl (.isi ts xa)) σ H Q) :
    To K w (opdV xa (evalE cl xa)) σ H fun v H1 => (∃ n b, TyX K H1 v (.type n) ∧ PySem.W.kitAny K (.type n) (ts.map fun t => Value.type (tyN t)) = some b ∧ (∀ p o, H1 p = none → Q (.bl b) (upd H1 p o)) ∧ Q (.bl b) H1) ∨ ts = [] := by
  obtain ⟨g, G, q⟩ := h
  refine ⟨g, G, (At.op1 (f := fun d => (do let b ← liftO (isiD ts d); Pure.pure (D.bl b, false) : M Rs)) G q).imp fun o g1 H1 _ _ q1 v rv => ?_⟩
  obtain ⟨d, r, G1, E1, q2⟩ := q1 v rv
  obtain ⟨b, e1, _, _, q3⟩ := At.liftO_ G1 (At.bind G1 q2)
  cases ts with
  | nil => exact .inr rfl
  | cons t ts =>
    obtain ⟨a, c, h1, h2, rfl⟩ := isiD_cons e1
    obtain ⟨n, hn, hk⟩ := ty_name r h1
    refine .inl ⟨n, _, hn, kit_any hk e1, fun p o hp => ?_, At.blR G1 q3⟩
    exact q3 g1.As g1.M (upd H1 p o) (G1.alloc hp) (Ext.alloc G1 hp) (.bl _) rfl
theorem tyx_new {K : PySem.W.Frag} {H : Hp} {v : V} {n : String} {p : Addr} {o : HO} (h : TyX K H v (.type n)) (hp : H p = none) : TyX K (upd H p o) v (.type n) := by
  have up : ∀ {a u}, H a = some u → upd H p o a = some u := fun {a u} e => by rw [upd_ne (ne_of_none e hp)]; exact e
  cases h with
  | base b =>
    cases b with
    | non => exact .base .non
    | bl x => exact .base (.bl x)
    | int x => exact .base (.int x)
    | str x => exact .base (.str x)
    | flt x => exact .base (.flt x)
    | lst e => exact .base (.lst (up e))
    | frz e => exact .base (.frz (up e))
    | tup e => exact .base (.tup (up e))
    | dK e => exact .base (.dK (up e))
    | dT e => exact .base (.dT (up e))
  | byt b => exact .byt b
  | set e => exact .set (up e)
  | kList e c => exact .kList e c
  | kTuple e c => exact .kTuple e c
  | kDict e c => exact .kDict e c
  | fTuple e => exact .fTuple (up e)
  | fDict e => exact .fDict (up e)
theorem clsV_all : ∀ ts : List Ty, Paired ClsV (ts.map fun t => V.ty (tyN t)) (ts.map fun t => Value.type (tyN t))
  | [] => .nil
  | t :: ts => .cons (.ty _) (clsV_all ts)
theorem kit_one {K : PySem.W.Frag} {n m : String} {b : Bool} (h : PySem.W.kitAny K (.type n) [.type m] = some b) : PySem.W.kitOne K (.type n) (.type m) = some b := by
  unfold PySem.W.kitAny at h
  cases e : PySem.W.kitOne K (.type n) (.type m) with
  | none => rw [e] at h; cases h
  | some c =>
    rw [e] at h
    cases c with
    | true => cases h; rfl
    | false => exact h
theorem pz_isi {t : Ty} (hg : Gl X "isinstance") (hm : X.mg "isinstance" = none) (ha : PE X a (To X.K w (opdV xa (evalE cl xa)))) (ht : PTy X c t)
    (hs1 : starEach [a, c] X.env = (false, eval a X.env) :: starEach [c] X.env := by rfl) (hs2 : starEach [c] X.env = (false, eval c X.env) :: starEach [] X.env := by rfl)
    (hpl : (backTo pos (starEach [c] X.env)).any (·.1) = false := by rfl) : PE X (.Call (.Name "isinstance" p) [a, c] [] pos) (Tr X.K w (evalE cl (.isi [t] xa))) := by
  refine (pe_callB call_isi hg hm (by decide +kernel) (pa_cons ha (pa_cons ht.pe pa_nil hs2) hs1) (by decide) (by decide) hs1 hpl).weak fun σ H Q h => ?_
  obtain ⟨g, G, q⟩ := isi_at h
  refine ⟨g, G, q.imp fun o g1 H1 _ _ q1 v rv => ?_⟩
  rcases q1 v rv with ⟨n, b, h1, h2, _, h4⟩ | e
  · exact ⟨v, _, _, _, b, rfl, .ty _, h1, kit_one h2, h4⟩
  · cases e
theorem pz_isiT {ts : List Ty} {x1} {tpos : Pos} (hg : Gl X "isinstance") (hm : X.mg "isinstance" = none) (ha : PE X a (To X.K w (opdV xa (evalE cl xa)))) (ht : PTys X es ts) (hl : ts.length ≤ line := by decide) (hne : ts ≠ [] := by simp)
    (hs1 : starEach [a, .Tuple es x1 tpos] X.env = (false, eval a X.env) :: starEach [.Tuple es x1 tpos] X.env := by rfl) (hs2 : starEach [.Tuple es x1 tpos] X.env = (false, eval (.Tuple es x1 tpos) X.env) :: starEach [] X.env := by rfl)
    (hpl : (backTo pos (starEach [.Tuple es x1 tpos] X.env)).any (·.1) = false := by rfl) : PE X (.Call (.Name "isinstance" p) [a, .Tuple es x1 tpos] [] pos) (Tr X.K w (evalE cl (.isi ts xa))) := by
  refine (pe_callB call_isiT hg hm (by decide +kernel) (pa_cons ha (pa_cons (pe_tup ht.pa) pa_nil hs2) hs1) (by decide) (by decide) hs1 hpl).weak fun σ H Q h => ?_
  obtain ⟨g, G, q⟩ := isi_at h
  refine ⟨g, G, q.imp fun o g1 H1 _ _ q1 v rv => ?_⟩
  rcases q1 v rv with ⟨n, b, h1, h2, h3, _⟩ | e
  · refine ⟨by rw [List.length_map]; exact line_le hl, fun p hp => ?_⟩
    exact ⟨v, p, _, _, _, b, rfl, upd_same, clsV_all ts, tyx_new h1 hp, h2, h3 p _ hp⟩
  · exact absurd e hne
/-! ### a list that is shared from now on -/
theorem Good.share {K : PySem.W.Frag} {g : Gh} {σ : L2.St} {H H0 : Hp} {ds : List D} {p : Addr} (G : Good K g σ H) (n : New K H0 g σ H (.lst ds) p) : Good K { g with st := g.st ++ [.lst ds], As := g.As ++ [p] } σ H := by
  have hA : ∀ (i : Nat) (a : Addr), g.As[i]? = some a → (g.As ++ [p])[i]? = some a := fun i a h => by
    rw [List.getElem?_append_left (List.getElem?_eq_some_iff.mp h).1]; exact h
  refine ⟨G.len, fun i s h => ?_, G.inj, fun q h z => ?_, fun i so h => ?_, by simp [G.asl], ?_, fun a h => ?_, G.trk⟩
  · have q := G.slot i s h
    cases s with
    | un => trivial
    | pu d => obtain ⟨v, e, r⟩ := q; exact ⟨v, e, r.mono hA fun _ _ h => h⟩
    | ow d => obtain ⟨a, e, m, c⟩ := q; exact ⟨a, e, m, c.mono hA (fun _ _ h => h) rfl⟩
  · rcases List.mem_append.mp z with z | z
    · exact G.oas q h z
    · have e : q = p := by simpa using z
      exact n.now (e ▸ h)
  · have h : (g.st ++ [SO.lst ds])[i]? = some so := h
    by_cases hi : i < g.st.length
    · rw [List.getElem?_append_left hi] at h
      obtain ⟨a, e, q⟩ := G.sto i so h
      exact ⟨a, hA _ _ e, q.mono hA (fun _ _ h => h) rfl⟩
    · rw [List.getElem?_append_right (by omega)] at h
      have hz : i - g.st.length = 0 := by
        cases e : i - g.st.length with
        | zero => rfl
        | succ k => rw [e] at h; simp at h
      rw [hz] at h
      obtain rfl : SO.lst ds = so := by simpa using h
      refine ⟨p, ?_, n.cel.mono hA (fun _ _ h => h) rfl⟩
      rw [List.getElem?_append_right (by rw [← G.asl]; omega), ← G.asl, hz]; rfl
  · rw [List.nodup_append]
    refine ⟨G.asn, by simp, fun a ha b hb e => ?_⟩
    have e2 : b = p := by simpa using hb
    exact n.nas (e2 ▸ e ▸ ha)
  · rcases List.mem_append.mp h with h | h
    · exact G.asm a h
    · have e : a = p := by simpa using h
      exact e ▸ n.mem
theorem pz_shr (h : PE X a (Tr X.K w (evalE cl xa))) : PE X a (Tr X.K w (evalE cl (.shr xa))) := by
  refine h.weak fun σ H Q ⟨g, G, q⟩ => ⟨g, G, ?_⟩
  have q : At X.K w (evalE cl xa >>= shrD) g σ H _ := q
  unfold At at q ⊢
  rw [bind_run] at q
  cases e : evalE cl xa g.S with
  | bad => rw [e] at q; exact q
  | exc c fs s' => rw [e] at q; exact q
  | ok r s1 =>
    rw [e] at q
    intro As1 M1 H1 G1 E1 v rv
    obtain ⟨d, fr⟩ := r
    cases fr with
    | false => cases d <;> exact q.elim
    | true =>
      cases d with
      | lst ds =>
        obtain ⟨p, rfl, n⟩ := rv
        have hq : ∀ As' M' H', Good X.K ⟨s1.ρ, s1.st ++ [.lst ds], As', M'⟩ σ H' → Ext g σ H ⟨s1.ρ, s1.st ++ [.lst ds], As', M'⟩ σ H' → ∀ v, RelR X.K H ⟨s1.ρ, s1.st ++ [.lst ds], As', M'⟩ σ H' (.obj s1.st.length, false) v → Q v H' := q
        refine hq (As1 ++ [p]) M1 H1 (G1.share n) ⟨?_, E1.vis, E1.kep, E1.trk, E1.own⟩ (.ref p) ?_
        · obtain ⟨more, e1, f1⟩ := E1.pre
          refine ⟨more ++ [p], by rw [show As1 = g.As ++ more from e1, List.append_assoc], fun a ha => ?_⟩
          rcases List.mem_append.mp ha with ha | ha
          · exact f1 a ha
          · have e2 : a = p := by simpa using ha
            exact e2 ▸ n.was
        · refine ⟨p, rfl, ?_⟩
          have l : s1.st.length = As1.length := G1.asl
          show (As1 ++ [p])[s1.st.length]? = some p
          rw [l, List.getElem?_append_right (Nat.le_refl _), Nat.sub_self]
          rfl
      | _ => exact q.elim
/-! ### pop -/
theorem At.ownL_ {K : PySem.W.Frag} {g : Gh} {σ : L2.St} {H : Hp} {i : Nat} {k : Unit → Gh → Hp → Prop} (G : Good K g σ H) (h : At K w (ownL i) g σ H k) :
    ∃ ds p vs, g.ρ[i]? = some (.ow (.lst ds)) ∧ σ[i]? = some (some (.ref p)) ∧ H p = some (.lst vs) ∧ Reps K g.As (hid g.M H) ds vs ∧ k () g H := by
  unfold At ownL at h
  cases e : g.ρ[i]? with
  | none => simp only [Gh.S, e] at h
  | some s =>
    cases s with
    | ow d =>
      cases d with
      | lst ds =>
        simp only [Gh.S, e] at h
        obtain ⟨p, e1, m, vs, h1, h2⟩ := G.slot i _ e
        exact ⟨ds, p, vs, rfl, e1, h1, h2, h g.As g.M H G Ext.refl⟩
      | _ => simp only [Gh.S, e] at h
    | _ => simp only [Gh.S, e] at h
theorem popAt_sem {K : PySem.W.Frag} {g0 g : Gh} {σ σ0 : L2.St} {H0 H : Hp} {i : Nat} {d : D} {v : V} {p : Addr} {Q : VK} (E0 : Ext g0 σ0 H0 g σ H) (G : Good K g σ H) (hs : σ[i]? = some (some (.ref p))) (rv : Rep K g.As (hid g.M H) d v)
    (h : At K w (popAt i d) g σ H fun r g1 H1 => ∀ v, RelR K H0 g1 σ H1 r v → Q v H1) : rPopAt (.ref p) [v] H Q := by
  unfold At popAt at h
  cases e : g.ρ[i]? with
  | none => simp only [Gh.S, e] at h
  | some s =>
    cases s with
    | ow c =>
      cases c with
      | lst ds =>
        simp only [Gh.S, e] at h
        obtain ⟨p', e1, m, vs, h1, h2⟩ := G.slot i _ e
        rw [hs] at e1; cases e1
        cases e2 : ixP ds.length d with
        | none => simp only [e2] at h
        | some j =>
          simp only [e2] at h
          cases e3 : ds[j]? with
          | none => simp only [e3] at h
          | some y =>
            simp only [e3] at h
            unfold ixP at e2
            split at e2
            · split at e2
              · rename_i k hk
                obtain rfl : v = .int k := rv
                obtain ⟨u, e4, ru⟩ := h2.get e3
                obtain ⟨q1, q2, q3, q4⟩ := ixN_seq e2
                refine ⟨p, vs, k, j, u, rfl, rfl, h1, hk.1, hk.2, by rw [h2.length]; exact q1, e4, ?_⟩
                obtain ⟨G2, E2⟩ := G.mut (d' := .lst (ds.eraseIdx j)) (o := .lst (vs.eraseIdx j)) e hs ⟨vs.eraseIdx j, upd_same, h2.eraseIdx j⟩
                exact h _ _ _ G2 E2 u (E2.rep ru)
              · cases e2
            · cases e2
      | _ => simp only [Gh.S, e] at h
    | _ => simp only [Gh.S, e] at h
theorem pz_popk {i : Nat} {x : Str} {np ap : Pos} (ho : PE X (.Name x np) (tVar i)) (ha : PE X e (Tr X.K w (evalE cl xk)))
    (hbase : attributeBase (.Name x np) "pop" X.env (eval (.Name x np) X.env) = eval (.Name x np) X.env := by rfl)
    (hfew : ((backTo pos (starEach [e] X.env)).all (fun x => !x.1) && (backToKw pos (keywordEach [] X.env)).all (fun x => x.1.isSome)
      && decide (([e] : List Expr).length + ([] : List Keyword).length + (if ([] : List Keyword).isEmpty then 0 else 1) < 30)) = true := by rfl)
    (hline : (ap.endLine == pos.line) = true := by rfl) (hs : starEach [e] X.env = (false, eval e X.env) :: starEach [] X.env := by rfl) (hplain : (backTo pos (starEach [] X.env)).any (·.1) = false := by rfl) :
    PE X (.Call (.Attribute (.Name x np) "pop" ap) [e] [] pos) (Tr X.K w (evalE cl (.popk i xk))) := by
  refine (pe_bm PySem.F.plainAttrs_list PySem.F.slot_list_pop PySem.F.type_list_pop mt_popAt ho (pa_cons (Tr.dat ha) pa_nil hs) hbase hfew hline hs hplain).weak fun σ H Q ⟨g, G, q⟩ => ?_
  have q : At X.K w (ownL i >>= fun _ => dat (evalE cl xk) >>= fun d => popAt i d) g σ H _ := q
  obtain ⟨ds, p, vs, e1, e2, e3, r, _, _, q1⟩ := At.ownL_ G (At.bind G q)
  refine ⟨.ref p, e2, .inl ⟨rfl, _, SqL.of e3⟩, g, G, (At.bind G q1).imp fun d g1 H1 G1 E1 ⟨_, _, q2⟩ v rv => ?_⟩
  exact popAt_sem E1 G1 e2 rv q2
theorem pz_popl {i : Nat} {x : Str} {np ap : Pos} (ho : PE X (.Name x np) (tVar i))
    (hbase : attributeBase (.Name x np) "pop" X.env (eval (.Name x np) X.env) = eval (.Name x np) X.env := by rfl) (hline : (ap.endLine == pos.line) = true := by rfl) :
    PE X (.Call (.Attribute (.Name x np) "pop" ap) [] [] pos) (Tr X.K w (evalE cl (.popl i))) := by
  refine (pe_bm0 PySem.F.plainAttrs_list PySem.F.slot_list_pop PySem.F.type_list_pop mt_pop ho hbase hline).weak fun σ H Q ⟨g, G, q⟩ => ?_
  have q : At X.K w (ownL i >>= fun _ => popLast i) g σ H _ := q
  obtain ⟨ds, p, vs, e1, e2, e3, r, _, _, h⟩ := At.ownL_ G (At.bind G q)
  refine ⟨.ref p, e2, .inl ⟨rfl, _, SqL.of e3⟩, ?_⟩
  unfold At popLast at h
  simp only [Gh.S, e1] at h
  cases e4 : ds[ds.length - 1]? with
  | none => simp only [e4] at h
  | some y =>
    simp only [e4] at h
    obtain ⟨u, e5, ru⟩ := r.get e4
    refine ⟨p, vs, u, rfl, rfl, e3, by rw [r.length]; exact e5, ?_⟩
    have rd : Reps X.K g.As (hid g.M H) ds.dropLast vs.dropLast := by
      rw [List.dropLast_eq_take, List.dropLast_eq_take, r.length]; exact r.take _
    obtain ⟨G2, E2⟩ := G.mut (d' := .lst ds.dropLast) (o := .lst vs.dropLast) e1 e2 ⟨vs.dropLast, upd_same, rd⟩
    exact h _ _ _ G2 E2 u (E2.rep ru)
end
end Z

/-! Z10: calls of the text's defs. -/
namespace Z
open PySem PySem.Spec PyProof.Rows L2

/-- an exception as it lies: its class, its fields -/
def XRel (K : PySem.W.Frag) (cls : Nat → Value) (g : Gh) (H : Hp) (c : Nat) (fs : List (Str × D)) (C : Value) (dx : Option Addr) : Prop :=
  C = cls c ∧ (fs = [] ∨ ∃ d vs, dx = some d ∧ H d = some (.xd ((fs.map (·.1)).zip vs)) ∧ Reps K g.As (hid g.M H) (fs.map (·.2)) vs)
/-- what the interpreter promises of a def -/
def spz (K : PySem.W.Frag) (cls : Nat → Value) (cl : CallT) (f np : Nat) : Sp := fun vs H Q E => vs.length = np ∧ ∃ (g : Gh) (ds : List D), g.ρ = ds.map .pu ∧ Good K g (vs.map some) H ∧ (match cl f ds g.st with
  | .ok r st' => ∀ v As' M' H', Good K ⟨[], st', As', M'⟩ [] H' → Ext g (vs.map some) H ⟨[], st', As', M'⟩ [] H' → RelR K H ⟨[], st', As', M'⟩ [] H' r v → Q v H'
  | .exc c fs st' => ∀ C dx As' M' H', Good K ⟨[], st', As', M'⟩ [] H' → Ext g (vs.map some) H ⟨[], st', As', M'⟩ [] H' → XRel K cls ⟨[], st', As', M'⟩ H' c fs C dx → E C dx H'
  | .bad => False)

/-- the containers that are handed to a call -/
def bor (ρ : List Slot) (σ : L2.St) : List Opd → List Addr
  | [] => []
  | .val _ :: os => bor ρ σ os
  | .slot i :: os => (match ρ[i]?, σ[i]? with
    | some (.ow _), some (some (.ref p)) => p :: bor ρ σ os
    | _, _ => bor ρ σ os)
theorem bor_own {ρ : List Slot} {σ : L2.St} : ∀ {os : List Opd} {p : Addr}, p ∈ bor ρ σ os → ∃ i d, Opd.slot i ∈ os ∧ ρ[i]? = some (.ow d) ∧ σ[i]? = some (some (.ref p))
  | [], p, h => by cases h
  | .val _ :: os, p, h => by
    obtain ⟨i, d, a, b, c⟩ := bor_own (show p ∈ bor ρ σ os from h)
    exact ⟨i, d, List.mem_cons_of_mem _ a, b, c⟩
  | .slot i :: os, p, h => by
    unfold bor at h
    split at h
    · rename_i d q e1 e2
      rcases List.mem_cons.mp h with e | h
      · subst e; exact ⟨i, d, List.mem_cons_self, e1, e2⟩
      · obtain ⟨i, d, a, b, c⟩ := bor_own h
        exact ⟨i, d, List.mem_cons_of_mem _ a, b, c⟩
    · obtain ⟨i, d, a, b, c⟩ := bor_own h
      exact ⟨i, d, List.mem_cons_of_mem _ a, b, c⟩
theorem bor_mem {ρ : List Slot} {σ : L2.St} {i : Nat} {d : D} {p : Addr} (e1 : ρ[i]? = some (.ow d)) (e2 : σ[i]? = some (some (.ref p))) : ∀ {os : List Opd}, Opd.slot i ∈ os → p ∈ bor ρ σ os
  | [], h => by cases h
  | .val _ :: os, h => bor_mem e1 e2 (os := os) (by rcases List.mem_cons.mp h with e | h; cases e; exact h)
  | .slot j :: os, h => by
    rcases List.mem_cons.mp h with e | h
    · cases e
      unfold bor
      rw [e1, e2]
      exact List.mem_cons_self
    · have ih := bor_mem e1 e2 h
      unfold bor
      split
      · exact List.mem_cons_of_mem _ ih
      · exact ih
/-- which slots stand as pure ones behind letting go -/
theorem letgo_at : ∀ (os : List Opd) (ρ : List Slot) (j : Nat) (s : Slot), (letgo ρ os)[j]? = some s → (ρ[j]? = some s ∧ (∀ d, s = .ow d → Opd.slot j ∉ os)) ∨ ∃ d, s = .pu d ∧ ρ[j]? = some (.ow d) ∧ Opd.slot j ∈ os
  | [], ρ, j, s, h => .inl ⟨h, fun _ _ z => nomatch z⟩
  | .val _ :: os, ρ, j, s, h => by
    rcases letgo_at os ρ j s h with ⟨a, b⟩ | ⟨d, a, b, c⟩
    · exact .inl ⟨a, fun d e z => b d e (by rcases List.mem_cons.mp z with e | z; cases e; exact z)⟩
    · exact .inr ⟨d, a, b, List.mem_cons_of_mem _ c⟩
  | .slot i :: os, ρ, j, s, h => by
    unfold letgo at h
    split at h
    · rename_i d e1
      have hil : i < ρ.length := (List.getElem?_eq_some_iff.mp e1).1
      rcases letgo_at os _ j s h with ⟨a, b⟩ | ⟨d', a, b, c⟩
      · by_cases hj : i = j
        · subst hj
          rw [List.getElem?_set_self hil] at a
          exact .inr ⟨d, (Option.some.inj a).symm, e1, List.mem_cons_self⟩
        · rw [List.getElem?_set_ne hj] at a
          exact .inl ⟨a, fun d e z => b d e (by rcases List.mem_cons.mp z with e | z; cases e; exact absurd rfl hj; exact z)⟩
      · by_cases hj : i = j
        · subst hj
          rw [List.getElem?_set_self hil] at b; cases b
        · rw [List.getElem?_set_ne hj] at b
          exact .inr ⟨d', a, b, List.mem_cons_of_mem _ c⟩
    · rename_i e1
      rcases letgo_at os _ j s h with ⟨a, b⟩ | ⟨d', a, b, c⟩
      · refine .inl ⟨a, fun d e z => ?_⟩
        rcases List.mem_cons.mp z with e2 | z
        · cases e2
          subst e
          exact e1 d a
        · exact b d e z
      · exact .inr ⟨d', a, b, List.mem_cons_of_mem _ c⟩
theorem letgo_len : ∀ (os : List Opd) (ρ : List Slot), (letgo ρ os).length = ρ.length
  | [], ρ => rfl
  | .val _ :: os, ρ => letgo_len os ρ
  | .slot i :: os, ρ => by
    unfold letgo
    split
    · rw [letgo_len]; simp
    · exact letgo_len os ρ

section
variable {K : PySem.W.Frag} {w : WX} {g : Gh} {σ : L2.St} {H : Hp}
mutual
/-- what holds no container stays readable when containers are hidden -/
theorem still_rep {As M B : List Addr} {H : Hp} (hB : ∀ p ∈ B, ∃ vs, H p = some (.lst vs)) : ∀ {d : D} {v : V}, still d = true → Rep K As (hid M H) d v → Rep K As (hid (M ++ B) H) d v
  | .none, _, _, h => h
  | .bl _, _, _, h => h
  | .int _, _, _, h => h
  | .str _, _, _, h => h
  | .tup ds, v, s, h => by
    obtain ⟨a, vs, e, h1, h2⟩ := h
    obtain ⟨n, q⟩ := hid_of h1
    refine ⟨a, vs, e, hid_mk (fun z => ?_) q, stills_rep hB s h2⟩
    rcases List.mem_append.mp z with z | z
    · exact n z
    · obtain ⟨ws, e2⟩ := hB a z
      rw [q] at e2; cases e2
  | .lst ds, v, s, h => by cases s
  | .dic _ _, v, s, h => by cases s
  | .obj i, v, s, h => h
  | .scr _, v, s, h => by cases s
theorem stills_rep {As M B : List Addr} {H : Hp} (hB : ∀ p ∈ B, ∃ vs, H p = some (.lst vs)) : ∀ {ds : List D} {vs : List V}, stills ds = true → Reps K As (hid M H) ds vs → Reps K As (hid (M ++ B) H) ds vs
  | [], _, _, h => h
  | d :: ds, vs, s, h => by
    obtain ⟨v, ws, e, h1, h2⟩ := h
    have s : (still d && stills ds) = true := s
    rw [Bool.and_eq_true] at s
    exact ⟨v, ws, e, still_rep hB s.1 h1, stills_rep hB s.2 h2⟩
end
theorem hid_sub {M M' : List Addr} {H : Hp} (h : ∀ p ∈ M', p ∈ M) : Same (hid M H) (hid M' H) := fun b o q => by
  obtain ⟨n, q⟩ := hid_of q
  exact hid_mk (fun z => n (h b z)) q
/-- an operand's data as an argument: its own container no more hidden -/
theorem opd_arg {o : Opd} {v : V} {d : D} {M' : List Addr} {s' : S} (G : Good K g σ H) (r : RelO K g σ H o v) (e : res o g.S = .ok d s') (hM : ∀ p ∈ M', p ∈ g.M) (hb : ∀ i, o = .slot i → ∀ d p, g.ρ[i]? = some (.ow d) → σ[i]? = some (some (.ref p)) → p ∉ M') :
    Rep K g.As (hid M' H) d v ∧ s' = g.S := by
  cases o with
  | val d' =>
    cases e
    exact ⟨Rep.mono asId (hid_sub hM) r, rfl⟩
  | slot i =>
    have e : rdSlot i g.S = .ok d s' := e
    unfold rdSlot at e
    cases e1 : g.ρ[i]? with
    | none => simp only [Gh.S, e1] at e; cases e
    | some s =>
      cases s with
      | un => simp only [Gh.S, e1] at e; cases e
      | pu d' =>
        simp only [Gh.S, e1] at e
        cases e
        obtain ⟨u, e2, r1⟩ := G.slot i _ e1
        have r : σ[i]? = some (some v) := r
        rw [r] at e2; cases e2
        exact ⟨Rep.mono asId (hid_sub hM) r1, rfl⟩
      | ow d' =>
        simp only [Gh.S, e1] at e
        cases e
        obtain ⟨p, e2, m, c⟩ := G.slot i _ e1
        have r : σ[i]? = some (some v) := r
        rw [r] at e2; cases e2
        refine ⟨(c.mono asId (hid_sub hM) rfl).rep ?_, rfl⟩
        unfold hid
        rw [if_neg (hb i rfl d p e1 r)]
theorem opds_arg (G : Good K g σ H) {M' : List Addr} (hM : ∀ p ∈ M', p ∈ g.M) : ∀ {os : List Opd} {vs : List V} {ds : List D} {s' : S}, RelOs K g σ H os vs → ress os g.S = .ok ds s' →
    (∀ i, Opd.slot i ∈ os → ∀ d p, g.ρ[i]? = some (.ow d) → σ[i]? = some (some (.ref p)) → p ∉ M') → Reps K g.As (hid M' H) ds vs ∧ s' = g.S
  | _, _, ds, s', .nil, e, _ => by cases e; exact ⟨rfl, rfl⟩
  | _, _, ds, s', .cons (o := o) (os := os) r rs, e, hb => by
    have e : (res o >>= fun d => ress os >>= fun ds => Pure.pure (d :: ds)) g.S = .ok ds s' := e
    rw [bind_run] at e
    cases e1 : res o g.S with
    | bad => rw [e1] at e; cases e
    | exc c fs s => rw [e1] at e; cases e
    | ok d s1 =>
      rw [e1] at e
      obtain ⟨r1, rfl⟩ := opd_arg G r e1 hM fun i ei => hb i (ei ▸ List.mem_cons_self)
      have e : (ress os >>= fun ds => Pure.pure (d :: ds)) g.S = .ok ds s' := e
      rw [bind_run] at e
      cases e2 : ress os g.S with
      | bad => rw [e2] at e; cases e
      | exc c fs s => rw [e2] at e; cases e
      | ok ds' s2 =>
        rw [e2] at e
        obtain ⟨r2, rfl⟩ := opds_arg G hM rs e2 fun i hi => hb i (List.mem_cons_of_mem _ hi)
        cases e
        exact ⟨.cons r1 r2, rfl⟩

/-- the call itself -/
theorem call_sem {cls : Nat → Value} {cl : CallT} {f np : Nat} {os : List Opd} {vs : List V} {Q : VK} {E : XK} {k : Rs → Gh → Hp → Prop} (G : Good K g σ H) (rs : RelOs K g σ H os vs)
    (h : At K w (do let ds ← ress os; let s ← getS; afterCall os (cl f ds s.st)) g σ H k) (hl : vs.length = np)
    (hk : ∀ r g' H' v, Ext g σ H g' σ H' → Good K g' σ H' → RelR K H g' σ H' r v → k r g' H' → Q v H') (hw : ∀ c fs g' H' C dx, w c fs g' H' → XRel K cls g' H' c fs C dx → E C dx H') : spz K cls cl f np vs H Q E := by
  unfold At at h
  rw [bind_run] at h
  cases e0 : ress os g.S with
  | bad => rw [e0] at h; exact h.elim
  | exc c fs s =>
    exfalso
    have : ∀ (os : List Opd) (s : S), ∀ c fs s', ress os s ≠ .exc c fs s' := by
      intro os
      induction os with
      | nil => intro s c fs s' e; cases e
      | cons o os ih =>
        intro s c fs s' e
        have e : (res o >>= fun d => ress os >>= fun ds => Pure.pure (d :: ds)) s = .exc c fs s' := e
        rw [bind_run] at e
        cases e1 : res o s with
        | bad => rw [e1] at e; cases e
        | exc c' fs' s1 =>
          cases o with
          | val d => cases e1
          | slot i =>
            have e1 : rdSlot i s = .exc c' fs' s1 := e1
            unfold rdSlot at e1
            split at e1 <;> cases e1
        | ok d s1 =>
          rw [e1] at e
          have e : (ress os >>= fun ds => Pure.pure (d :: ds)) s1 = .exc c fs s' := e
          rw [bind_run] at e
          cases e2 : ress os s1 with
          | bad => rw [e2] at e; cases e
          | exc c fs s => exact ih _ _ _ _ e2
          | ok ds s2 => rw [e2] at e; cases e
    exact this _ _ _ _ _ e0
  | ok ds s0 =>
    rw [e0] at h
    have bsub : ∀ p ∈ bor g.ρ σ os, p ∈ g.M ∧ (∃ ws, H p = some (.lst ws)) ∧ Own g.ρ σ p := fun p hp => by
      obtain ⟨i, d, a, b, c⟩ := bor_own hp
      obtain ⟨p', e2, m, cc⟩ := G.slot i _ b
      rw [c] at e2; cases e2
      refine ⟨m, ?_, ⟨i, d, b, c⟩⟩
      cases d with
      | lst ds => obtain ⟨ws, q, _⟩ := cc; exact ⟨ws, q⟩
      | dic ks ws => obtain ⟨us, vs, h1, _⟩ := cc; exact h1.elim
      | _ => exact cc.elim
    let Mc := g.M.filter fun p => decide (p ∉ bor g.ρ σ os)
    have hMc : ∀ p, p ∈ Mc ↔ p ∈ g.M ∧ p ∉ bor g.ρ σ os := fun p => by simp [Mc, List.mem_filter]
    obtain ⟨ra, rfl⟩ := opds_arg G (M' := Mc) (fun p hp => ((hMc p).mp hp).1) rs e0 fun i hi d p h1 h2 z => ((hMc p).mp z).2 (bor_mem h1 h2 hi)
    let gc : Gh := ⟨ds.map .pu, g.st, g.As, Mc⟩
    have vlen := ra.length
    have noOwn : ∀ p, ¬ Own (ds.map Slot.pu) (vs.map some) p := fun p ⟨i, d, h1, _⟩ => by
      rw [List.getElem?_map] at h1
      cases e : ds[i]? with
      | none => rw [e] at h1; cases h1
      | some x => rw [e] at h1; cases h1
    have sub : Same (hid g.M H) (hid Mc H) := hid_sub fun p hp => ((hMc p).mp hp).1
    have Gc : Good K gc (vs.map some) H := by
      refine ⟨by simp [gc, vlen], fun i s e => ?_, fun i j d d' p h1 h2 h3 h4 => absurd ⟨i, d, h1, h3⟩ (noOwn p), fun p hp => absurd hp (noOwn p), fun i so e => ?_, G.asl, G.asn, fun a ha => ?_, fun p hp => G.trk p ((hMc p).mp hp).1⟩
      · have e : (ds.map Slot.pu)[i]? = some s := e
        rw [List.getElem?_map] at e
        cases e1 : ds[i]? with
        | none => rw [e1] at e; cases e
        | some d =>
          rw [e1] at e; cases e
          obtain ⟨v, e2, r⟩ := ra.get e1
          exact ⟨v, by rw [List.getElem?_map, e2]; rfl, r⟩
      · obtain ⟨a, e1, q⟩ := G.sto i so e
        exact ⟨a, e1, q.mono asId sub rfl⟩
      · exact (hMc a).mpr ⟨G.asm a ha, fun z => G.oas a (bsub a z).2.2 ha⟩
    refine ⟨hl, gc, ds, rfl, Gc, ?_⟩
    dsimp only at h
    rw [show (getS >>= fun s => afterCall os (cl f ds s.st)) g.S = afterCall os (cl f ds g.st) g.S from rfl] at h
    -- what holds behind the call, the operands let go
    have key : ∀ st' As' M' H', Good K ⟨[], st', As', M'⟩ [] H' → Ext gc (vs.map some) H ⟨[], st', As', M'⟩ [] H' →
        Good K ⟨letgo g.ρ os, st', As', M'⟩ σ H' ∧ Ext g σ H ⟨letgo g.ρ os, st', As', M'⟩ σ H' := fun st' As' M' H' G' E' => by
      have vis : ∀ b o, b ∉ g.M → H b = some o → b ∉ M' ∧ H' b = some o := fun b o n q => E'.vis b o (fun z => n ((hMc b).mp z).1) q
      have same : Same (hid g.M H) (hid M' H') := fun b o q => by
        obtain ⟨n, q⟩ := hid_of q
        obtain ⟨n', q'⟩ := vis b o n q
        exact hid_mk n' q'
      have subO : ∀ p, Own (letgo g.ρ os) σ p → Own g.ρ σ p ∧ p ∉ bor g.ρ σ os := fun p ⟨i, d, h1, h2⟩ => by
        rcases letgo_at os g.ρ i _ h1 with ⟨a, b⟩ | ⟨d', a, _⟩
        · refine ⟨⟨i, d, a, h2⟩, fun z => ?_⟩
          obtain ⟨j, d2, hj, e1, e2⟩ := bor_own z
          have := G.inj i j d d2 p a e1 h2 e2
          exact b d rfl (this ▸ hj)
        · cases a
      have keepO : ∀ p ∈ g.M, p ∉ g.As → p ∉ bor g.ρ σ os → p ∈ M' ∧ H' p = H p := fun p hp hA hb => E'.kep p ((hMc p).mpr ⟨hp, hb⟩) hA (noOwn p)
      have fresh : ∀ p, H p ≠ none → p ∉ g.As → p ∉ As' := fun p n hA z => by
        obtain ⟨more, e, f⟩ := E'.pre
        have e : As' = g.As ++ more := e
        rw [e] at z
        rcases List.mem_append.mp z with z | z
        · exact hA z
        · exact n (f p z)
      refine ⟨⟨by rw [letgo_len]; exact G.len, fun i s e => ?_, fun i j d d' p h1 h2 h3 h4 => ?_, fun p hp => ?_, G'.sto, G'.asl, G'.asn, G'.asm, G'.trk⟩, ⟨E'.pre, vis, fun p hp hA hO => ?_, E'.trk, fun p hp => .inl (subO p hp).1⟩⟩
      · rcases letgo_at os g.ρ i s e with ⟨a, b⟩ | ⟨d, e1, a, b⟩
        · have q := G.slot i s a
          cases s with
          | un => trivial
          | pu d => obtain ⟨v, e, r⟩ := q; exact ⟨v, e, r.mono E'.asget same⟩
          | ow d =>
            obtain ⟨p, e2, m, c⟩ := q
            have ow : Own g.ρ σ p := ⟨i, d, a, e2⟩
            obtain ⟨m', hh⟩ := keepO p m (G.oas p ow) (subO p ⟨i, d, e, e2⟩).2
            exact ⟨p, e2, m', c.mono E'.asget same hh⟩
        · subst e1
          obtain ⟨p, e2, m, c⟩ := G.slot i _ a
          have hb := bor_mem a e2 b
          have hp : ∃ o, H p = some o := by
            obtain ⟨_, ⟨ws, q⟩, _⟩ := bsub p hb
            exact ⟨_, q⟩
          obtain ⟨o, q⟩ := hp
          obtain ⟨n', q'⟩ := E'.vis p o (fun z => ((hMc p).mp z).2 hb) q
          refine ⟨.ref p, e2, (c.mono E'.asget same (q'.trans q.symm)).rep ?_⟩
          unfold hid
          rw [if_neg n']
      · rcases letgo_at os g.ρ i _ h1 with ⟨a, _⟩ | ⟨d', a, _⟩
        · rcases letgo_at os g.ρ j _ h2 with ⟨b, _⟩ | ⟨d', b, _⟩
          · exact G.inj i j d d' p a b h3 h4
          · cases b
        · cases a
      · obtain ⟨ow, _⟩ := subO p hp
        exact fresh p (Own.some_ G ow).2 (G.oas p ow)
      · exact keepO p hp hA fun z => hO (bsub p z).2.2
    cases ec : cl f ds g.st with
    | bad => rw [ec] at h; exact h
    | exc c fs st' =>
      rw [ec] at h
      intro C dx As' M' H' G' E' xr
      obtain ⟨G2, E2⟩ := key st' As' M' H' G' E'
      exact hw c fs _ H' C dx (h As' M' H' G2 E2) xr
    | ok r st' =>
      rw [ec] at h
      intro v As' M' H' G' E' rv
      obtain ⟨G2, E2⟩ := key st' As' M' H' G' E'
      have relG : ∀ ρ', (∀ p, Own ρ' σ p → H p ≠ none) → RelR K H ⟨ρ', st', As', M'⟩ σ H' r v := fun ρ' ho => by
        unfold RelR at rv ⊢
        split
        · rename_i hf
          rw [if_pos hf] at rv
          obtain ⟨p, e, n⟩ := rv
          exact ⟨p, e, n.was, n.mem, n.nas, fun z => ho p z n.was, n.cel⟩
        · rename_i hf
          rw [if_neg hf] at rv
          exact rv
      unfold afterCall at h
      dsimp only at h
      by_cases hst : (still r.1 && st'.all stillSO) = true
      · rw [if_pos hst] at h
        have hst' := hst
        rw [Bool.and_eq_true] at hst'
        let B := bor g.ρ σ os
        have hB : ∀ p ∈ B, ∃ ws, H' p = some (.lst ws) := fun p hp => by
          obtain ⟨m, ⟨ws, q⟩, _⟩ := bsub p hp
          exact ⟨ws, (E'.vis p _ (fun z => ((hMc p).mp z).2 hp) q).2⟩
        have hBv : ∀ p ∈ B, p ∉ M' ∧ H' p = H p := fun p hp => by
          obtain ⟨m, ⟨ws, q⟩, _⟩ := bsub p hp
          obtain ⟨a, b⟩ := E'.vis p _ (fun z => ((hMc p).mp z).2 hp) q
          exact ⟨a, b.trans q.symm⟩
        have vis : ∀ b o, b ∉ g.M → H b = some o → b ∉ M' ++ B ∧ H' b = some o := fun b o n q => by
          obtain ⟨a, c⟩ := E2.vis b o n q
          exact ⟨fun z => (List.mem_append.mp z).elim a fun z => n (bsub b z).1, c⟩
        have same : Same (hid g.M H) (hid (M' ++ B) H') := fun b o q => by
          obtain ⟨n, q⟩ := hid_of q
          obtain ⟨n', q'⟩ := vis b o n q
          exact hid_mk n' q'
        have asget : ∀ (i : Nat) (a : Addr), g.As[i]? = some a → As'[i]? = some a := E'.asget
        have kp : ∀ p ∈ g.M, p ∉ g.As → p ∈ M' ++ B ∧ H' p = H p := fun p hp hA => by
          by_cases hb : p ∈ B
          · exact ⟨List.mem_append_right _ hb, (hBv p hb).2⟩
          · obtain ⟨a, b⟩ := E'.kep p ((hMc p).mpr ⟨hp, hb⟩) hA (noOwn p)
            exact ⟨List.mem_append_left _ a, b⟩
        have nas' : ∀ p, Own g.ρ σ p → p ∉ As' := fun p ow z => by
          obtain ⟨more, e, f⟩ := E'.pre
          have e : As' = g.As ++ more := e
          rw [e] at z
          rcases List.mem_append.mp z with z | z
          · exact G.oas p ow z
          · exact (Own.some_ G ow).2 (f p z)
        have G3 : Good K ⟨g.ρ, st', As', M' ++ B⟩ σ H' := by
          refine ⟨G.len, fun i s e => ?_, G.inj, nas', fun i so e => ?_, G'.asl, G'.asn, fun a ha => List.mem_append_left _ (G'.asm a ha), fun p hp => ?_⟩
          · have q := G.slot i s e
            cases s with
            | un => trivial
            | pu d => obtain ⟨v, e, r⟩ := q; exact ⟨v, e, r.mono asget same⟩
            | ow d =>
              obtain ⟨p, e2, m, c⟩ := q
              obtain ⟨m', hh⟩ := kp p m (G.oas p ⟨i, d, e, e2⟩)
              exact ⟨p, e2, m', c.mono asget same hh⟩
          · obtain ⟨a, e1, q⟩ := G'.sto i so e
            refine ⟨a, e1, ?_⟩
            have hs := List.all_eq_true.mp hst'.2 so (List.mem_of_getElem? e)
            cases so with
            | lst ds => obtain ⟨ws, q1, q2⟩ := q; exact ⟨ws, q1, stills_rep hB hs q2⟩
            | ins c fs => exact q.elim
          · rcases List.mem_append.mp hp with hp | hp
            · exact G'.trk p hp
            · obtain ⟨ws, q⟩ := hB p hp
              show H' p ≠ none
              rw [q]; exact fun z => nomatch z
        have E3 : Ext g σ H ⟨g.ρ, st', As', M' ++ B⟩ σ H' := ⟨E'.pre, vis, fun p hp hA _ => kp p hp hA, E'.trk, fun p hp => .inl hp⟩
        have h3 := h As' (M' ++ B) H' G3 E3
        refine hk r _ H' v E3 G3 ?_ h3
        unfold RelR at rv ⊢
        split
        · rename_i hf
          rw [if_pos hf] at rv
          obtain ⟨p, e, n⟩ := rv
          obtain ⟨d, fr⟩ := r
          cases d with
          | lst ds => exact absurd hst'.1 (by simp [still])
          | dic ks ws => exact absurd hst'.1 (by simp [still])
          | _ => exact n.cel.elim
        · rename_i hf
          rw [if_neg hf] at rv
          exact still_rep hB hst'.1 rv
      · rw [if_neg hst] at h
        exact hk r _ H' v E2 G2 (relG _ fun p z => (Own.some_ G (by
          obtain ⟨i, d, h1, h2⟩ := z
          rcases letgo_at os g.ρ i _ h1 with ⟨a, _⟩ | ⟨d', a, _⟩
          · exact ⟨i, d, a, h2⟩
          · cases a)).2) (h As' M' H' G2 E2)
end
end Z

/-! Z11: a call as an expression. -/
namespace Z
open PySem PySem.Spec PyProof.Rows L2

theorem M.assoc {α β γ : Type} (m : M α) (f : α → M β) (h : β → M γ) : (m >>= f >>= h) = (m >>= fun a => f a >>= h) := by
  funext s
  rw [bind_run, bind_run, bind_run]
  cases m s with
  | ok a s' => dsimp only; rw [bind_run]
  | exc c fs s' => rfl
  | bad => rfl
theorem M.pure_bind {α β : Type} (a : α) (f : α → M β) : ((Pure.pure a : M α) >>= f) = f a := rfl
theorem M.bind_pure {α : Type} (m : M α) : (m >>= fun a => Pure.pure a) = m := by
  funext s
  rw [bind_run]
  cases m s <;> rfl
theorem M.congr {α β : Type} {m : M α} {f f' : α → M β} (h : ∀ a, f a = f' a) : (m >>= f) = (m >>= f') := by rw [show f = f' from funext h]
theorem evalOs_append (cl : CallT) (ys : List Ex) : ∀ xs : List Ex, evalOs cl (xs ++ ys) = (evalOs cl xs >>= fun a => evalOs cl ys >>= fun b => Pure.pure (a ++ b))
  | [] => by
    show evalOs cl ys = _
    exact (M.bind_pure _).symm
  | x :: xs => by
    show (opdV x (evalE cl x) >>= fun d => evalOs cl (xs ++ ys) >>= fun ds => Pure.pure (d :: ds)) = ((opdV x (evalE cl x) >>= fun d => evalOs cl xs >>= fun ds => Pure.pure (d :: ds)) >>= fun a => evalOs cl ys >>= fun b => Pure.pure (a ++ b))
    rw [M.assoc]
    refine M.congr fun d => ?_
    rw [evalOs_append cl ys xs, M.assoc, M.assoc]
    refine M.congr fun a => ?_
    rw [M.assoc, M.pure_bind]
    refine M.congr fun b => rfl
theorem RelOs.append {K : PySem.W.Frag} {g : Gh} {σ : L2.St} {H : Hp} {os os' : List Opd} {vs vs' : List V} (a : RelOs K g σ H os vs) (b : RelOs K g σ H os' vs') : RelOs K g σ H (os ++ os') (vs ++ vs') := by
  induction a with
  | nil => exact b
  | cons h _ ih => exact .cons h ih
theorem RelOs.length {K : PySem.W.Frag} {g : Gh} {σ : L2.St} {H : Hp} {os : List Opd} {vs : List V} (a : RelOs K g σ H os vs) : vs.length = os.length := by
  induction a with
  | nil => rfl
  | cons h _ ih => simp [ih]
theorem evalOs_len {K : PySem.W.Frag} {w : WX} {g : Gh} {σ : L2.St} {H : Hp} {cl : CallT} : ∀ {xs : List Ex} {g : Gh} {H : Hp} {k : List Opd → Gh → Hp → Prop}, Good K g σ H → At K w (evalOs cl xs) g σ H k → At K w (evalOs cl xs) g σ H fun os g1 H1 => os.length = xs.length ∧ k os g1 H1
  | [], g, H, k, G, h => fun As' M' H' G' E' => ⟨rfl, h As' M' H' G' E'⟩
  | x :: xs, g, H, k, G, h => by
    unfold At at h ⊢
    cases e : evalOs cl (x :: xs) g.S with
    | bad => rw [e] at h; exact h
    | exc c fs s => rw [e] at h; exact h
    | ok os s1 =>
      rw [e] at h
      have hl : ∀ (xs : List Ex) (s : S) (os : List Opd) (s1 : S), evalOs cl xs s = .ok os s1 → os.length = xs.length := by
        intro xs
        induction xs with
        | nil => intro s os s1 e; cases e; rfl
        | cons x xs ih =>
          intro s os s1 e
          have e : (opdV x (evalE cl x) >>= fun d => evalOs cl xs >>= fun ds => Pure.pure (d :: ds)) s = .ok os s1 := e
          rw [bind_run] at e
          cases e1 : opdV x (evalE cl x) s with
          | bad => rw [e1] at e; cases e
          | exc c fs s => rw [e1] at e; cases e
          | ok d s2 =>
            rw [e1] at e
            have e : (evalOs cl xs >>= fun ds => Pure.pure (d :: ds)) s2 = .ok os s1 := e
            rw [bind_run] at e
            cases e2 : evalOs cl xs s2 with
            | bad => rw [e2] at e; cases e
            | exc c fs s => rw [e2] at e; cases e
            | ok ds s3 =>
              rw [e2] at e
              cases e
              simp [ih _ _ _ e2]
      exact fun As' M' H' G' E' => ⟨hl _ _ _ _ e, h As' M' H' G' E'⟩

section
variable {X : Cx} {w : WX} {cl : CallT} {CX : CXT} {k f np n : Nat} {fa : Addr} {fd : FuncData} {ps ks : List Str} {E : XK} {cls : Nat → Value} {x : Str} {p pos kpos : Pos} {e : Expr} {es : List Expr} {kws : List Keyword} {xs ys zs : List Ex} {nm : Option Str} {y : Ex}
theorem pkz_nil : PK X [] (Tos X.K w (evalOs cl [])) := ⟨fun pos pins s σ H Q I h => pk_nil.run pos pins s σ H Q I (by obtain ⟨g, G, q⟩ := h; exact At.pure_ G q [] .nil)⟩
theorem pkz_cons (ha : PE X e (To X.K w (opdV y (evalE cl y)))) (hr : PK X kws (Tos X.K w (evalOs cl ys))) : PK X (⟨nm, e, kpos⟩ :: kws) (Tos X.K w (evalOs cl (y :: ys))) := by
  refine ⟨fun pos pins s σ H Q I h => (pk_cons ha hr).run pos pins s σ H Q I ?_⟩
  obtain ⟨g, G, q⟩ := h
  refine ⟨g, G, ?_⟩
  have q : At X.K w (do let d ← opdV y (evalE cl y); let ds ← evalOs cl ys; Pure.pure (d :: ds)) g σ H _ := q
  refine (At.bind G q).imp fun d g1 H1 G1 E1 ⟨_, _, q1⟩ v rv => ⟨g1, G1, ?_⟩
  refine (At.bind G1 q1).imp fun ds g2 H2 G2 E2 ⟨_, _, q2⟩ vs rvs => ?_
  exact At.pure_ G2 q2 (v :: vs) (.cons (rv.ext E2) rvs)

/-- how f's arguments bind: n by place, those named ks by name, all parameters given -/
def BindK (K : PySem.W.Frag) (fd : FuncData) (ps : List Str) (n : Nat) (ks : List Str) : Prop :=
  ∀ (s : Shared) (us ws : List Value), K.In s.heap → us.length = n → ws.length = ks.length → BindsTo s fd ⟨us, ks.zip ws⟩ (ps.zip (us ++ ws))
theorem BindK.kbn {K : PySem.W.Frag} (h : BindK K fd ps n ks) : KBn K fd ps n ks (fun us ws => us ++ ws) (fun vs zs => vs ++ zs) := ⟨h, fun a b => a.append b⟩
theorem BindK.binds {K : PySem.W.Frag} (h : BindK K fd ps ps.length []) : Binds K fd ps [] := fun s us hK hl => by
  have hl : us.length = ps.length := by simpa using hl
  have := h s us [] hK hl rfl
  simpa using this

/-- f stands at the name x and keeps what the interpreter says of it -/
structure CallOkP (P : Program) (w : World) (K : PySem.W.Frag) (mg : Str → Option Value) (base : Heap) (CX : CXT) (cls : Nat → Value) (cl : CallT) (k f : Nat) (x : Str) (np : Nat) (n : Nat) (ks : List Str) : Prop where
  ex : ∃ (fa : Addr) (fd : FuncData) (ps : List Str), FnOk P w K mg base CX k fa fd ps (spz K cls cl f np) ∧ ps.length = np ∧ mg x = some (.ref fa) ∧ PySem.W.keepIn K (.ref fa) = true ∧ BindK K fd ps n ks
abbrev CallOk (X : Cx) (CX : CXT) (cls : Nat → Value) (cl : CallT) (k f : Nat) (x : Str) (np : Nat) (n : Nat) (ks : List Str) : Prop := CallOkP X.prog X.w X.K X.mg X.base CX cls cl k f x np n ks
/-- a def without positional defaults, all parameters given -/
theorem bindK_of {K : PySem.W.Frag} {x qual : Str} {params : Arguments} {body : List Stmt} {scope : Scope} {kv : List (Str × V)} {f : Addr} {fd : FuncData} (F : FunD K x qual params body scope [] kv f fd) (n : Nat) (ks : List Str)
    (h : ∀ (kV doc pm : Value) (an : Option Addr) (cdv ct : Value) (us ws : List Value), us.length = n → ws.length = ks.length → bindArgs (PySem.W.fnOf x qual params body scope .none kV doc pm an cdv ct) ⟨us, ks.zip ws⟩ = pure (ps.zip (us ++ ws))) : BindK K fd ps n ks := by
  obtain ⟨oc, od, dV, kV, doc, pm, an, cdv, ct, osl, rfl, lk, hcd, hD, hK⟩ := F.ex
  rcases hD with ⟨_, rfl⟩ | ⟨e, _⟩
  · exact fun s us ws _ hu hw => .of_eq (h kV doc pm an cdv ct us ws hu hw)
  · exact absurd rfl e
theorem pass0E {X : Cx} {E : XK} : Passes CX0 X E := fun _ _ _ _ _ _ _ h => h.elim
theorem hu_room {A : Around} {k : Nat} (hr : Room k A) : A.units + 65 < cLine := by
  have := hr.un
  omega

theorem call_of {σ : L2.St} {H : Hp} {Q : VK} (hw : ∀ c fs g' H' C dx, w c fs g' H' → XRel X.K cls g' H' c fs C dx → E C dx H') (h : Tr X.K w (evalE cl (.call f xs)) σ H Q) :
    Tos X.K w (evalOs cl xs) σ H fun vs H1 => vs.length = xs.length ∧ spz X.K cls cl f xs.length vs H1 Q E := by
  obtain ⟨g, G, q⟩ := h
  have q : At X.K w (evalOs cl xs >>= fun os => (do let ds ← ress os; let s ← getS; afterCall os (cl f ds s.st))) g σ H _ := q
  refine ⟨g, G, (evalOs_len (w := w) (g := g) (H := H) (σ := σ) G (At.bind G q)).imp fun os g1 H1 G1 E1 ⟨hl, _, _, q1⟩ vs rs => ?_⟩
  have hv := rs.length
  exact ⟨by omega, call_sem G1 rs q1 (by omega) (fun r g' H' v E' G' rv hk => hk v (rv.older E1)) hw⟩
/-- f(e, ..), all parameters by place -/
theorem pz_call (C : CallOk X CX cls cl k f x np np []) (hn : xs.length = np) (hr : Room k X.A) (hg : Gl X x) (hx : Passes CX X E) (hw : ∀ c fs g' H' C dx, w c fs g' H' → XRel X.K cls g' H' c fs C dx → E C dx H')
    (ha : PA X (e :: es) (Tos X.K w (evalOs cl xs))) (hdb : (x == ("__debug__" : Str)) = false := by decide) (he : starEach (e :: es) X.env = (false, eval e X.env) :: starEach es X.env := by rfl) (hpl : (backTo pos (starEach es X.env)).any (·.1) = false := by rfl) :
    PE X (.Call (.Name x p) (e :: es) [] pos) (Tr X.K w (evalE cl (.call f xs))) := by
  obtain ⟨fa, fd, ps, F, hps, hm, hk, hb⟩ := C.ex
  subst hn
  refine (pe_call F hr hg hm hk (BindK.binds (by rw [hps]; exact hb)) .nil hx ha hdb he hpl).weak fun σ H Q h => ?_
  obtain ⟨g, G, q⟩ := call_of (E := E) hw h
  refine ⟨g, G, q.imp fun os g1 H1 _ _ q1 vs rs => ?_⟩
  show spz X.K cls cl f xs.length (vs ++ []) H1 Q E
  rw [List.append_nil]
  exact (q1 vs rs).2
/-- f(e, .., k = v, ..) -/
theorem pz_callK (C : CallOk X CX cls cl k f x np n ks) (hn : (xs ++ ys).length = np) (hx1 : xs.length = n) (hy1 : ys.length = ks.length) (hr : Room k X.A) (hg : Gl X x) (hx : Passes CX X E) (hw : ∀ c fs g' H' C dx, w c fs g' H' → XRel X.K cls g' H' c fs C dx → E C dx H')
    (ha : PA X (e :: es) (Tos X.K w (evalOs cl xs))) (hkw : PK X kws (Tos X.K w (evalOs cl ys))) (hall : (backToKw pos (keywordEach kws X.env)).all (·.1.isSome) = true := by rfl) (hks : (backToKw pos (keywordEach kws X.env)).filterMap (·.1) = ks := by rfl)
    (hdb : (x == ("__debug__" : Str)) = false := by decide) (he : starEach (e :: es) X.env = (false, eval e X.env) :: starEach es X.env := by rfl)
    (hpl : ((backTo pos (starEach (e :: es) X.env)).any (·.1) || (backToKw pos (keywordEach kws X.env)).any (·.1.isNone)) = false := by rfl) :
    PE X (.Call (.Name x p) (e :: es) kws pos) (Tr X.K w (evalE cl (.call f (xs ++ ys)))) := by
  obtain ⟨fa, fd, ps, F, hps, hm, hk, hb⟩ := C.ex
  subst hn
  refine (pe_callN F hr hg hm hk hb.kbn hx ha hkw hall hks hdb he hpl).weak fun σ H Q h => ?_
  obtain ⟨g, G, q⟩ := call_of (E := E) hw h
  rw [evalOs_append] at q
  refine ⟨g, G, (evalOs_len (w := w) (g := g) (H := H) (σ := σ) G (At.bind G q)).imp fun os g1 H1 G1 E1 ⟨l1, _, _, q1⟩ vs rs => ⟨g1, G1, (evalOs_len (w := w) (g := g1) (H := H1) (σ := σ) G1 (At.bind G1 q1)).imp fun os' g2 H2 G2 E2 ⟨l2, _, _, q2⟩ us rs' => ?_⟩⟩
  have h1 := rs.length
  have h2 := rs'.length
  exact ⟨by omega, by omega, (At.pure_ G2 q2 (vs ++ us) ((rs.ext E2).append rs')).2⟩
end
end Z

/-! Z12: what is walked; targets; comprehensions. -/
namespace Z
open PySem PySem.Spec PyProof.Rows L2

/-! ### what is walked -/
def Walks (K : PySem.W.Frag) (J : It) (xs : List D) (g : Gh) (H : Hp) : Prop := ∀ (g' : Gh) (σ' : L2.St) (H' : Hp), Good K g' σ' H' → (∀ (i : Nat) (a : Addr), g.As[i]? = some a → g'.As[i]? = some a) → Same (hid g.M H) (hid g'.M H') →
  (∀ i, i < xs.length → J.go i H') ∧ (∀ i, xs.length ≤ i → J.stop i H') ∧ ∀ i x H2, i < xs.length → J.yld i H' x H2 → ∃ d, xs[i]? = some d ∧ (H2 = H' ∨ ∃ T o, H' T = none ∧ H2 = upd H' T o) ∧ Rep K g'.As (hid g'.M H2) d x
def Ti (K : PySem.W.Frag) (w : WX) (m : M (List D)) : TI := fun σ H R => ∃ g, Good K g σ H ∧ At K w m g σ H fun xs g1 H1 => ∀ J, Walks K J xs g1 H1 → R J H1
theorem _root_.L2.PI.weak {X : Cx} {tg e : Expr} {t t' : TI} (h : PI X tg e t) (i : ∀ σ H R, t' σ H R → t σ H R) : PI X tg e t' := ⟨fun pins s σ H R I q => h.run pins s σ H R I (i σ H R q)⟩
section
variable {K : PySem.W.Frag}
theorem walks_list {a : Addr} {vs : List V} {ds : List D} {g : Gh} {H : Hp} (h1 : hid g.M H a = some (.lst vs)) (h2 : Reps K g.As (hid g.M H) ds vs) : Walks K (Itl K a) ds g H := fun g' σ' H' G' hA hS => by
  have e := hid_of (hS _ _ h1)
  have r := h2.mono hA hS
  refine ⟨fun i hi => ?_, fun i hi => ⟨vs, SqL.of e.2, by rw [r.length]; exact hi⟩, fun i x H2 _ ⟨e2, hy⟩ => ?_⟩
  · obtain ⟨v, q, _⟩ := r.get (List.getElem?_eq_getElem hi)
    exact ⟨vs, v, SqL.of e.2, q⟩
  · subst e2
    obtain ⟨d, q1, q2⟩ := r.get' (hy vs (SqL.of e.2))
    exact ⟨d, q1, .inl rfl, q2⟩
theorem walks_tup {a : Addr} {vs : List V} {ds : List D} {g : Gh} {H : Hp} (h1 : hid g.M H a = some (.tup vs)) (h2 : Reps K g.As (hid g.M H) ds vs) : Walks K (Itt K a) ds g H := fun g' σ' H' G' hA hS => by
  have e := hid_of (hS _ _ h1)
  have r := h2.mono hA hS
  refine ⟨fun i hi => ?_, fun i hi => ⟨vs, SqT.of e.2, by rw [r.length]; exact hi⟩, fun i x H2 _ ⟨e2, hy⟩ => ?_⟩
  · obtain ⟨v, q, _⟩ := r.get (List.getElem?_eq_getElem hi)
    exact ⟨vs, v, SqT.of e.2, q⟩
  · subst e2
    obtain ⟨d, q1, q2⟩ := r.get' (hy vs (SqT.of e.2))
    exact ⟨d, q1, .inl rfl, q2⟩
theorem walks_str {s : Str} {g : Gh} {H : Hp} : Walks K (Its s) (s.cps.toList.map fun c => D.str ⟨#[c]⟩) g H := fun g' σ' H' G' hA hS => by
  refine ⟨fun i hi => (by show i < s.cps.size; simpa using hi), fun i hi => (by show s.cps.size ≤ i; simpa using hi), fun i x H2 _ ⟨e2, c, hc, ex⟩ => ?_⟩
  subst e2 ex
  refine ⟨.str ⟨#[c]⟩, ?_, .inl rfl, rfl⟩
  rw [List.getElem?_map, Array.getElem?_toList, hc]
  rfl
theorem walks_rng {lo : Int} {n : Nat} {g : Gh} {H : Hp} : Walks K (Itr lo n) ((List.range n).map fun (k : Nat) => D.int (lo + (k : Int))) g H := fun g' σ' H' G' hA hS => by
  refine ⟨fun i hi => (by show i < n; simpa using hi), fun i hi => (by show n ≤ i; simpa using hi), fun i x H2 hi y => ?_⟩
  obtain ⟨e2, ex⟩ := y
  subst e2
  refine ⟨.int (lo + (i : Int)), ?_, .inl rfl, ex⟩
  have hi : i < n := by simpa using hi
  rw [List.getElem?_map, List.getElem?_range hi]
  rfl
end
section
variable {X : Cx} {w : WX} {cl : CallT} {tg l : Expr} {x : Ex} {xs : List Ex}
/-- a list, a tuple, a text, whichever comes -/
theorem pi_any {tl : TE} (hl : PE X l tl) : PI X tg l fun σ H R => tl σ H fun x H1 => (∃ a vs, x = .ref a ∧ SqL X.K H1 a vs ∧ R (Itl X.K a) H1) ∨ (∃ a vs, x = .ref a ∧ SqT X.K H1 a vs ∧ R (Itt X.K a) H1) ∨ ∃ z, x = .str z ∧ R (Its z) H1 := by
  refine ⟨fun pins s σ H R I h => thn (hl.run pins s σ H _ I h) fun v s1 ⟨x, H1, I1, r1, q1⟩ => ?_⟩
  rcases q1 with ⟨a, vs, rfl, hq, q⟩ | ⟨a, vs, rfl, hq, q⟩ | ⟨z, rfl, q⟩
  · cases r1
    obtain ⟨its, rv, p, hz⟩ := I1.list hq
    exact wpAny_pyIter_list p.isList (pi_one (tk := s1.toks) I1 _ (turn_list a _) ⟨_, Heap.get?_push_size _ rfl, rfl, rfl⟩ q)
  · cases r1
    obtain ⟨its, rv, p, hz⟩ := I1.tuple hq
    exact wpAny_pyIter_tuple (show s1.heap.IsTuple a its.toArray from p) (pi_one (tk := s1.toks) I1 _ (turn_tuple a _) ⟨_, Heap.get?_push_size _ rfl, rfl, rfl⟩ q)
  · obtain ⟨t, rfl⟩ := r1
    cases ha : z.cps.all (· < 128)
    · exact wpAny_pyIter_wide ha (pi_one (tk := s1.toks) I1 _ (turn_str _ z t "str_iterator" (.inr rfl)) ⟨_, Heap.get?_push_size _ rfl, rfl, rfl⟩ q)
    · exact wpAny_pyIter_ascii ha (pi_one (tk := s1.toks) I1 _ (turn_str _ z t "str_ascii_iterator" (.inl rfl)) ⟨_, Heap.get?_push_size _ rfl, rfl, rfl⟩ q)
/-- the source of a walk: its data, told as items -/
def srcM (cl : CallT) (ik : IK) (src : List Ex) : M (List D) := do
  let ds ← evalDs cl src
  liftO (itemsD ik ds)
theorem it1_ {f : D → Option (List D)} {ds xs : List D} (h : it1 f ds = some xs) : ∃ d, ds = [d] ∧ f d = some xs := by
  unfold it1 at h
  split at h
  · exact ⟨_, rfl, h⟩
  · cases h
theorem it2_ {f : D → D → Option (List D)} {ds xs : List D} (h : it2 f ds = some xs) : ∃ d e, ds = [d, e] ∧ f d e = some xs := by
  unfold it2 at h
  split at h
  · exact ⟨_, _, rfl, h⟩
  · cases h
theorem srcM_one (ik : IK) : srcM cl ik [x] = (dat (evalE cl x) >>= fun d => liftO (itemsD ik [d])) := by
  show ((dat (evalE cl x) >>= fun d => (Pure.pure [] : M (List D)) >>= fun ds => Pure.pure (d :: ds)) >>= fun ds => liftO (itemsD ik ds)) = _
  rw [M.assoc]
  rfl
theorem piz_seq (h : PE X l (Tr X.K w (evalE cl x))) : PI X tg l (Ti X.K w (srcM cl .seq [x])) := by
  refine (pi_any (Tr.dat h)).weak fun σ H R ⟨g, G, q⟩ => ⟨g, G, ?_⟩
  rw [srcM_one] at q
  refine (At.bind G q).imp fun d g1 H1 G1 E1 ⟨_, _, q1⟩ v rv => ?_
  obtain ⟨ds, e, q2⟩ := At.liftO_ G1 q1
  have e : seqI d = some ds := e
  cases d with
  | tup es =>
    obtain rfl : es = ds := Option.some.inj e
    obtain ⟨a, vs, rfl, h1, h2⟩ := rv
    exact .inr (.inl ⟨a, vs, rfl, SqT.of (hid_of h1).2, q2 _ (walks_tup h1 h2)⟩)
  | lst es =>
    obtain rfl : es = ds := Option.some.inj e
    obtain ⟨a, vs, rfl, h1, h2⟩ := rv
    exact .inl ⟨a, vs, rfl, SqL.of (hid_of h1).2, q2 _ (walks_list h1 h2)⟩
  | str s =>
    obtain rfl : s.cps.toList.map (fun c => D.str ⟨#[c]⟩) = ds := Option.some.inj e
    obtain rfl : v = .str s := rv
    exact .inr (.inr ⟨s, rfl, q2 _ walks_str⟩)
  | _ => cases e
variable {a b : Expr} {p pos : Pos}
theorem piz_rng1 (hg : Gl X "range") (hm : X.mg "range" = none) (ha : PA X [a] (Tds X.K w (evalDs cl xs))) (hs : starEach [a] X.env = [(false, eval a X.env)] := by rfl) : PI X tg (.Call (.Name "range" p) [a] [] pos) (Ti X.K w (srcM cl .rng1 xs)) := by
  refine (pi_range1 hg hm ha hs).weak fun σ H R ⟨g, G, q⟩ => ⟨g, G, (At.bind G (f := fun ds => liftO (itemsD .rng1 ds)) q).imp fun ds g1 H1 G1 E1 ⟨_, _, q1⟩ vs rs => ?_⟩
  obtain ⟨xs, e, q2⟩ := At.liftO_ G1 q1
  obtain ⟨d, e0, e1⟩ := it1_ e
  subst e0
  cases d with
  | int n =>
    unfold rng1I at e1
    dsimp only at e1
    split at e1
    · rename_i hb
      cases e1
      obtain ⟨v, ws, rfl, rfl, h2⟩ := rs
      obtain rfl : ws = [] := h2
      refine ⟨n, rfl, hb.1, hb.2, q2 _ ?_⟩
      have e2 : (fun k : Nat => D.int (k : Int)) = fun (k : Nat) => D.int (0 + (k : Int)) := by funext k; rw [Int.zero_add]
      rw [e2]
      exact walks_rng
    · cases e1
  | _ => cases e1
theorem piz_rng2 (hg : Gl X "range") (hm : X.mg "range" = none) (ha : PA X [a, b] (Tds X.K w (evalDs cl xs))) (hs : starEach [a, b] X.env = [(false, eval a X.env), (false, eval b X.env)] := by rfl) (hs2 : starEach [b] X.env = [(false, eval b X.env)] := by rfl) :
    PI X tg (.Call (.Name "range" p) [a, b] [] pos) (Ti X.K w (srcM cl .rng2 xs)) := by
  refine (pi_range2 hg hm ha hs hs2).weak fun σ H R ⟨g, G, q⟩ => ⟨g, G, (At.bind G (f := fun ds => liftO (itemsD .rng2 ds)) q).imp fun ds g1 H1 G1 E1 ⟨_, _, q1⟩ vs rs => ?_⟩
  obtain ⟨xs, e, q2⟩ := At.liftO_ G1 q1
  obtain ⟨d, d', e0, e1⟩ := it2_ e
  subst e0
  unfold rng2I at e1
  split at e1
  · split at e1
    · rename_i hb
      cases e1
      obtain ⟨v, ws, rfl, rfl, h2⟩ := rs
      obtain ⟨u, ws, rfl, rfl, h2⟩ := h2
      obtain rfl : ws = [] := h2
      exact ⟨_, _, rfl, hb, q2 _ walks_rng⟩
    · cases e1
  · cases e1
end
end Z

/-! Z13: slots stored, targets, comprehensions. -/
namespace Z
open PySem PySem.Spec PyProof.Rows L2

section
variable {K : PySem.W.Frag} {w : WX} {g : Gh} {σ : L2.St} {H : Hp}
theorem own_set {ρ : List Slot} {i : Nat} {s : Slot} {x : Option V} {p : Addr} (h : Own (ρ.set i s) (σ.set i x) p) : Own ρ σ p ∨ (∃ d, s = .ow d) ∧ x = some (.ref p) := by
  obtain ⟨j, d, h1, h2⟩ := h
  by_cases hj : i = j
  · subst hj
    have l1 : i < (ρ.set i s).length := (List.getElem?_eq_some_iff.mp h1).1
    have l2 : i < (σ.set i x).length := (List.getElem?_eq_some_iff.mp h2).1
    rw [List.getElem?_set_self (by simpa using l1)] at h1
    rw [List.getElem?_set_self (by simpa using l2)] at h2
    exact .inr ⟨⟨d, Option.some.inj h1⟩, Option.some.inj h2⟩
  · rw [List.getElem?_set_ne hj] at h1 h2
    exact .inl ⟨j, d, h1, h2⟩
/-- a slot is stored -/
theorem Good.setS {i : Nat} {s : Slot} {x : Option V} (G : Good K g σ H) (hi : i < g.ρ.length) (hs : SlotOk K g H s (some x)) (ho : ∀ d p, s = .ow d → x = some (.ref p) → ¬ Own g.ρ σ p ∧ p ∉ g.As) :
    Good K { g with ρ := g.ρ.set i s } (σ.set i x) H := by
  have hil : i < σ.length := by rw [← G.len]; exact hi
  refine ⟨by simpa using G.len, fun j t e => ?_, fun j k d d' p h1 h2 h3 h4 => ?_, fun p h => ?_, G.sto, G.asl, G.asn, G.asm, G.trk⟩
  · by_cases hj : i = j
    · subst hj
      have e : (g.ρ.set i s)[i]? = some t := e
      rw [List.getElem?_set_self hi] at e; cases e
      rw [List.getElem?_set_self hil]
      exact hs
    · have e : (g.ρ.set i s)[j]? = some t := e
      rw [List.getElem?_set_ne hj] at e
      rw [List.getElem?_set_ne hj]
      exact G.slot j t e
  · have h1 : (g.ρ.set i s)[j]? = some (.ow d) := h1
    have h2 : (g.ρ.set i s)[k]? = some (.ow d') := h2
    by_cases hj : i = j
    · subst hj
      by_cases hk : i = k
      · exact hk
      · rw [List.getElem?_set_self hi] at h1
        rw [List.getElem?_set_self hil] at h3
        rw [List.getElem?_set_ne hk] at h2 h4
        exact absurd ⟨k, d', h2, h4⟩ (ho d p (Option.some.inj h1) (Option.some.inj h3)).1
    · by_cases hk : i = k
      · subst hk
        rw [List.getElem?_set_self hi] at h2
        rw [List.getElem?_set_self hil] at h4
        rw [List.getElem?_set_ne hj] at h1 h3
        exact absurd ⟨j, d, h1, h3⟩ (ho d' p (Option.some.inj h2) (Option.some.inj h4)).1
      · rw [List.getElem?_set_ne hj] at h1 h3
        rw [List.getElem?_set_ne hk] at h2 h4
        exact G.inj j k d d' p h1 h2 h3 h4
  · rcases own_set h with h | ⟨⟨d, e1⟩, e2⟩
    · exact G.oas p h
    · exact (ho d p e1 e2).2
theorem Ext.setS {i : Nat} {s : Slot} {x : Option V} (ho : ∀ d p, s = .ow d → x = some (.ref p) → H p = none) : Ext g σ H { g with ρ := g.ρ.set i s } (σ.set i x) H :=
  ⟨⟨[], by simp⟩, fun _ _ n h => ⟨n, h⟩, fun _ h _ _ => ⟨h, rfl⟩, fun _ h => h, fun p h => by
    rcases own_set h with h | ⟨⟨d, e1⟩, e2⟩
    · exact .inl h
    · exact .inr (ho d p e1 e2)⟩
/-- .. with data -/
theorem Good.setPu {i : Nat} {d : D} {v : V} (G : Good K g σ H) (hi : i < g.ρ.length) (r : Rep K g.As (hid g.M H) d v) : Good K { g with ρ := g.ρ.set i (.pu d) } (σ.set i (some v)) H ∧ Ext g σ H { g with ρ := g.ρ.set i (.pu d) } (σ.set i (some v)) H :=
  ⟨G.setS hi ⟨v, rfl, r⟩ (fun _ _ e => nomatch e), Ext.setS (fun _ _ e => nomatch e)⟩
theorem Good.setUn {i : Nat} (G : Good K g σ H) (hi : i < g.ρ.length) : Good K { g with ρ := g.ρ.set i .un } (σ.set i none) H ∧ Ext g σ H { g with ρ := g.ρ.set i .un } (σ.set i none) H :=
  ⟨G.setS hi trivial (fun _ _ e => nomatch e), Ext.setS (fun _ _ e => nomatch e)⟩
/-- an unset slot's value is forgotten in σ alone -/
theorem Good.wipe1 {i : Nat} (G : Good K g σ H) : Good K { g with ρ := g.ρ.set i .un } (σ.set i none) H ∧ Ext g σ H { g with ρ := g.ρ.set i .un } (σ.set i none) H := by
  by_cases hi : i < g.ρ.length
  · exact G.setUn hi
  · have e1 : g.ρ.set i .un = g.ρ := List.set_eq_of_length_le (by omega)
    have e2 : σ.set i none = σ := List.set_eq_of_length_le (by rw [← G.len]; omega)
    rw [e1, e2]
    exact ⟨G, Ext.refl⟩
def wipeρ (own : List Nat) (ρ : List Slot) : List Slot := own.foldr (fun i ρ => ρ.set i .un) ρ
theorem Good.wipe : ∀ {own : List Nat} {g : Gh}, Good K g σ H → Good K { g with ρ := wipeρ own g.ρ } (L2.wipe σ own) H ∧ Ext g σ H { g with ρ := wipeρ own g.ρ } (L2.wipe σ own) H
  | [], g, G => ⟨G, Ext.refl⟩
  | i :: own, g, G => by
    obtain ⟨G1, E1⟩ := Good.wipe (own := own) G
    obtain ⟨G2, E2⟩ := G1.wipe1 (i := i)
    exact ⟨G2, E1.trans G E2⟩

/-! ### what follows a computation that stores -/
def Ats (K : PySem.W.Frag) (w : WX) {α : Type} (m : M α) (g : Gh) (σ : L2.St) (H : Hp) (k : α → Gh → L2.St → Hp → Prop) : Prop := match m g.S with
  | .ok a s' => ∀ σ' As' M' H', Good K ⟨s'.ρ, s'.st, As', M'⟩ σ' H' → Ext g σ H ⟨s'.ρ, s'.st, As', M'⟩ σ' H' → k a ⟨s'.ρ, s'.st, As', M'⟩ σ' H'
  | .exc c fs s' => ∀ σ' As' M' H', Good K ⟨s'.ρ, s'.st, As', M'⟩ σ' H' → Ext g σ H ⟨s'.ρ, s'.st, As', M'⟩ σ' H' → w c fs ⟨s'.ρ, s'.st, As', M'⟩ H'
  | .bad => False
theorem Ats.bind {α β : Type} {m : M α} {f : α → M β} {k : β → Gh → L2.St → Hp → Prop} (G : Good K g σ H) (h : Ats K w (m >>= f) g σ H k) :
    Ats K w m g σ H fun a g1 σ1 H1 => Good K g1 σ1 H1 ∧ Ext g σ H g1 σ1 H1 ∧ Ats K w (f a) g1 σ1 H1 k := by
  unfold Ats at h ⊢
  rw [bind_run] at h
  cases e : m g.S with
  | bad => rw [e] at h; exact h
  | exc c fs s' => rw [e] at h; exact h
  | ok a s1 =>
    rw [e] at h
    intro σ1 As1 M1 H1 G1 E1
    refine ⟨G1, E1, ?_⟩
    dsimp only at h
    cases e2 : (f a) s1 with
    | bad => rw [e2] at h; exact h.elim
    | exc c fs s' => rw [e2] at h; exact fun σ' As' M' H' G' E' => h σ' As' M' H' G' (E1.trans G E')
    | ok b s' => rw [e2] at h; exact fun σ' As' M' H' G' E' => h σ' As' M' H' G' (E1.trans G E')
theorem Ats.at_ {α : Type} {m : M α} {k : α → Gh → L2.St → Hp → Prop} (h : Ats K w m g σ H k) : At K w m g σ H fun a g1 H1 => k a g1 σ H1 := by
  unfold Ats at h
  unfold At
  cases e : m g.S with
  | bad => rw [e] at h; exact h
  | exc c fs s' => rw [e] at h; exact fun As' M' H' G' E' => h σ As' M' H' G' E'
  | ok a s1 => rw [e] at h; exact fun As' M' H' G' E' => h σ As' M' H' G' E'
theorem Ats.imp {α : Type} {m : M α} {k k' : α → Gh → L2.St → Hp → Prop} (h : Ats K w m g σ H k) (i : ∀ a g1 σ1 H1, Good K g1 σ1 H1 → Ext g σ H g1 σ1 H1 → k a g1 σ1 H1 → k' a g1 σ1 H1) : Ats K w m g σ H k' := by
  unfold Ats at h ⊢
  cases e : m g.S with
  | bad => rw [e] at h; exact h
  | exc c fs s' => rw [e] at h; exact h
  | ok a s1 => rw [e] at h; exact fun σ' As' M' H' G' E' => i _ _ _ _ G' E' (h σ' As' M' H' G' E')
theorem Ats.pure_ {α : Type} {a : α} {k : α → Gh → L2.St → Hp → Prop} (G : Good K g σ H) (h : Ats K w (Pure.pure a : M α) g σ H k) : k a g σ H := h σ g.As g.M H G Ext.refl

/-! ### targets -/
theorem wipe_set {σ : L2.St} {i : Nat} {x : Option V} : ∀ {own : List Nat}, i ∈ own → L2.wipe (σ.set i x) own = L2.wipe σ own
  | j :: own, h => by
    show (L2.wipe (σ.set i x) own).set j none = (L2.wipe σ own).set j none
    by_cases hj : i ∈ own
    · rw [wipe_set hj]
    · obtain rfl : i = j := by
        rcases List.mem_cons.mp h with e | e
        · exact e
        · exact absurd e hj
      have key : ∀ own : List Nat, i ∉ own → L2.wipe (σ.set i x) own = (L2.wipe σ own).set i x := by
        intro own
        induction own with
        | nil => intro _; rfl
        | cons k own ih =>
          intro hn
          have hk : i ≠ k := fun e => hn (e ▸ List.mem_cons_self)
          show (L2.wipe (σ.set i x) own).set k none = ((L2.wipe σ own).set k none).set i x
          rw [ih (fun z => hn (List.mem_cons_of_mem _ z)), List.set_comm _ _ hk]
      rw [key own hj, List.set_set]
mutual
def Tgt (K : PySem.W.Frag) : Tg → TG
  | .nm i => gName i
  | .tup ts => gTup K ts.length (Tgts K ts)
def Tgts (K : PySem.W.Frag) : List Tg → TGs
  | [] => gNil
  | t :: ts => gCons (Tgt K t) (Tgts K ts)
end
mutual
def slotsT : Tg → List Nat
  | .nm i => [i]
  | .tup ts => slotsTs ts
def slotsTs : List Tg → List Nat
  | [] => []
  | t :: ts => slotsT t ++ slotsTs ts
end
theorem setρ_sem {i : Nat} {d : D} {v : V} {k : Unit → Gh → L2.St → Hp → Prop} (G : Good K g σ H) (r : Rep K g.As (hid g.M H) d v) (h : Ats K w (setρ i (.pu d)) g σ H k) :
    ∃ g', g'.As = g.As ∧ g'.M = g.M ∧ Good K g' (σ.set i (some v)) H ∧ Ext g σ H g' (σ.set i (some v)) H ∧ k () g' (σ.set i (some v)) H := by
  unfold Ats setρ at h
  dsimp only [Gh.S] at h
  split at h
  · rename_i a s' e1
    split at e1
    · rename_i hi
      obtain ⟨rfl, rfl⟩ := Out.ok.inj e1
      obtain ⟨G2, E2⟩ := G.setPu hi r
      exact ⟨{ g with ρ := g.ρ.set i (.pu d) }, rfl, rfl, G2, E2, h _ _ _ _ G2 E2⟩
    · cases e1
  · rename_i e1
    split at e1 <;> cases e1
  · exact h.elim
mutual
theorem tgt_mono {K : PySem.W.Frag} : ∀ {t : Tg} {v : V} {σ : L2.St} {H : Hp} {Q Q' : L2.St → Hp → Prop}, Tgt K t v σ H Q → (∀ σ H, Q σ H → Q' σ H) → Tgt K t v σ H Q'
  | .nm i, v, σ, H, Q, Q', h, i' => by unfold Tgt gName at h ⊢; exact i' _ _ h
  | .tup ts, v, σ, H, Q, Q', h, i' => by
    unfold Tgt at h ⊢
    obtain ⟨a, xs, e, h1, h2, h3⟩ := h
    exact ⟨a, xs, e, h1, h2, tgts_mono h3 i'⟩
theorem tgts_mono {K : PySem.W.Frag} : ∀ {ts : List Tg} {vs : List V} {σ : L2.St} {H : Hp} {Q Q' : L2.St → Hp → Prop}, Tgts K ts vs σ H Q → (∀ σ H, Q σ H → Q' σ H) → Tgts K ts vs σ H Q'
  | [], vs, σ, H, Q, Q', h, i' => by unfold Tgts gNil at h ⊢; exact ⟨h.1, i' _ _ h.2⟩
  | t :: ts, vs, σ, H, Q, Q', h, i' => by
    unfold Tgts gCons at h ⊢
    obtain ⟨v, r, e, h1⟩ := h
    exact ⟨v, r, e, tgt_mono h1 fun σ1 H1 q => tgts_mono q i'⟩
end
mutual
theorem bindT_sem : ∀ {t : Tg} {d : D} {v : V} {g : Gh} {σ : L2.St} {H : Hp} {k : Unit → Gh → L2.St → Hp → Prop}, Good K g σ H → Rep K g.As (hid g.M H) d v → Ats K w (bindT t d) g σ H k →
    Tgt K t v σ H fun σ' H' => H' = H ∧ (∀ own : List Nat, (∀ i ∈ slotsT t, i ∈ own) → L2.wipe σ' own = L2.wipe σ own) ∧ ∃ g', g'.As = g.As ∧ g'.M = g.M ∧ Good K g' σ' H ∧ Ext g σ H g' σ' H ∧ k () g' σ' H
  | .nm i, d, v, g, σ, H, k, G, r, h => by
    unfold Tgt gName
    unfold bindT at h
    refine ⟨rfl, fun own ho => ?_, setρ_sem G r h⟩
    exact wipe_set (ho i (by unfold slotsT; exact List.mem_singleton.mpr rfl))
  | .tup ts, d, v, g, σ, H, k, G, r, h => by
    unfold Tgt
    unfold bindT at h
    cases d with
    | tup ds =>
      dsimp only at h
      split at h
      · rename_i hl
        obtain ⟨a, vs, rfl, h1, h2⟩ := r
        refine ⟨a, vs, rfl, SqT.of (hid_of h1).2, by rw [h2.length]; exact hl.symm, ?_⟩
        exact bindTs_sem hl G h2 h
      · exact h.elim
    | _ => exact h.elim
theorem bindTs_sem : ∀ {ts : List Tg} {ds : List D} {vs : List V} {g : Gh} {σ : L2.St} {H : Hp} {k : Unit → Gh → L2.St → Hp → Prop}, ts.length = ds.length → Good K g σ H → Reps K g.As (hid g.M H) ds vs → Ats K w (bindT.bindTs ts ds) g σ H k →
    Tgts K ts vs σ H fun σ' H' => H' = H ∧ (∀ own : List Nat, (∀ i ∈ slotsTs ts, i ∈ own) → L2.wipe σ' own = L2.wipe σ own) ∧ ∃ g', g'.As = g.As ∧ g'.M = g.M ∧ Good K g' σ' H ∧ Ext g σ H g' σ' H ∧ k () g' σ' H
  | [], [], vs, g, σ, H, k, _, G, r, h => by
    unfold Tgts gNil
    exact ⟨r, rfl, fun _ _ => rfl, g, rfl, rfl, G, Ext.refl, Ats.pure_ G (by unfold bindT.bindTs at h; exact h)⟩
  | [], d :: ds, vs, g, σ, H, k, hl, G, r, h => nomatch hl
  | t :: ts, [], vs, g, σ, H, k, hl, G, r, h => nomatch hl
  | t :: ts, d :: ds, vs, g, σ, H, k, hl, G, r, h => by
    unfold Tgts gCons
    unfold bindT.bindTs at h
    obtain ⟨v, ws, rfl, r1, r2⟩ := r
    refine ⟨v, ws, rfl, ?_⟩
    have q := bindT_sem (t := t) G r1 (Ats.bind G h)
    refine tgt_mono q fun σ1 H1 ⟨e, hw1, g1, a1, m1, G1, E1, _, _, h1⟩ => ?_
    subst e
    have q2 := bindTs_sem (ts := ts) (Nat.succ.inj hl) G1 (by rw [a1, m1]; exact r2) h1
    refine tgts_mono q2 fun σ2 H2 ⟨e, hw2, g2, a2, m2, G2, E2, k2⟩ => ?_
    subst e
    exact ⟨rfl, fun own ho => (hw2 own fun i hi => ho i (by unfold slotsTs; exact List.mem_append_right _ hi)).trans (hw1 own fun i hi => ho i (by unfold slotsTs; exact List.mem_append_left _ hi)), g2, a2.trans a1, m2.trans m1, G2, E1.trans G E2, k2⟩
end
end
end Z

/-! Z14: comprehensions. -/
namespace Z
open PySem PySem.Spec PyProof.Rows L2

section
variable {α : Type}
theorem wipeρ_out {j : Nat} : ∀ {own : List Nat} {ρ : List Slot}, j ∉ own → (wipeρ own ρ)[j]? = ρ[j]?
  | [], ρ, _ => rfl
  | i :: own, ρ, h => by
    show ((wipeρ own ρ).set i .un)[j]? = ρ[j]?
    rw [List.getElem?_set_ne (fun e : i = j => h (by rw [e]; exact List.mem_cons_self))]
    exact wipeρ_out fun z => h (List.mem_cons_of_mem _ z)
theorem wipeρ_in {j : Nat} {s : Slot} : ∀ {own : List Nat} {ρ : List Slot}, j ∈ own → (wipeρ own ρ)[j]? = some s → s = .un
  | i :: own, ρ, h, e => by
    have e : ((wipeρ own ρ).set i .un)[j]? = some s := e
    by_cases hi : i = j
    · subst hi
      have l : i < ((wipeρ own ρ).set i .un).length := (List.getElem?_eq_some_iff.mp e).1
      rw [List.getElem?_set_self (by simpa using l)] at e
      exact (Option.some.inj e).symm
    · rw [List.getElem?_set_ne hi] at e
      exact wipeρ_in (by rcases List.mem_cons.mp h with z | z; exact absurd z.symm hi; exact z) e
theorem wipe_out {σ : L2.St} {j : Nat} : ∀ {own : List Nat}, j ∉ own → (L2.wipe σ own)[j]? = σ[j]?
  | [], _ => rfl
  | i :: own, h => by
    show ((L2.wipe σ own).set i none)[j]? = σ[j]?
    rw [List.getElem?_set_ne (fun e : i = j => h (by rw [e]; exact List.mem_cons_self))]
    exact wipe_out fun z => h (List.mem_cons_of_mem _ z)
theorem wipeρ_len : ∀ {own : List Nat} {ρ : List Slot}, (wipeρ own ρ).length = ρ.length
  | [], ρ => rfl
  | i :: own, ρ => by
    show ((wipeρ own ρ).set i .un).length = ρ.length
    rw [List.length_set, wipeρ_len]
theorem wipe_idem {σ : L2.St} : ∀ {own : List Nat}, L2.wipe (L2.wipe σ own) own = L2.wipe σ own := by
  intro own
  have key : ∀ (l : List Nat), (∀ i ∈ l, i ∈ own) → L2.wipe (L2.wipe σ own) l = L2.wipe σ own := by
    intro l
    induction l with
    | nil => intro _; rfl
    | cons i l ih =>
      intro h
      show (L2.wipe (L2.wipe σ own) l).set i none = L2.wipe σ own
      rw [ih fun j hj => h j (List.mem_cons_of_mem _ hj)]
      have hi : i ∈ own := h i List.mem_cons_self
      apply List.ext_getElem?
      intro j
      by_cases hj : i = j
      · subst hj
        by_cases hl : i < (L2.wipe σ own).length
        · rw [List.getElem?_set_self hl]
          cases e : (L2.wipe σ own)[i]? with
          | none => rw [List.getElem?_eq_none_iff] at e; omega
          | some x =>
            cases x with
            | none => rfl
            | some v => exact absurd hi (L2.wipe_some e).2
        · rw [List.set_eq_of_length_le (by omega)]
      · rw [List.getElem?_set_ne hj]
  exact key own fun i h => h
theorem unwipe_len : ∀ {own : List Nat} {ρ0 ρ : List Slot}, (unwipe own ρ0 ρ).length = ρ.length
  | [], _, _ => rfl
  | i :: own, ρ0, ρ => by
    show (match ρ0[i]? with | some x => (unwipe own ρ0 ρ).set i x | none => unwipe own ρ0 ρ).length = ρ.length
    split
    · rw [List.length_set, unwipe_len]
    · exact unwipe_len
theorem unwipe_out {j : Nat} : ∀ {own : List Nat} {ρ0 ρ : List Slot}, j ∉ own → (unwipe own ρ0 ρ)[j]? = ρ[j]?
  | [], _, _, _ => rfl
  | i :: own, ρ0, ρ, h => by
    have ih := unwipe_out (ρ0 := ρ0) (ρ := ρ) (own := own) fun z => h (List.mem_cons_of_mem _ z)
    show (match ρ0[i]? with | some x => (unwipe own ρ0 ρ).set i x | none => unwipe own ρ0 ρ)[j]? = ρ[j]?
    split
    · rw [List.getElem?_set_ne (fun e : i = j => h (by rw [e]; exact List.mem_cons_self))]; exact ih
    · exact ih
theorem unwipe_in {j : Nat} : ∀ {own : List Nat} {ρ0 ρ : List Slot}, ρ.length = ρ0.length → j ∈ own → (unwipe own ρ0 ρ)[j]? = ρ0[j]?
  | i :: own, ρ0, ρ, hl, h => by
    show (match ρ0[i]? with | some x => (unwipe own ρ0 ρ).set i x | none => unwipe own ρ0 ρ)[j]? = ρ0[j]?
    by_cases hi : i = j
    · subst hi
      split
      · rename_i x e
        have l : i < ρ0.length := (List.getElem?_eq_some_iff.mp e).1
        rw [List.getElem?_set_self (by rw [unwipe_len, hl]; exact l), e]
      · rename_i e
        rw [e]
        have l := List.getElem?_eq_none_iff.mp e
        exact List.getElem?_eq_none_iff.mpr (by rw [unwipe_len]; omega)
    · have hj : j ∈ own := by
        rcases List.mem_cons.mp h with z | z
        · exact absurd z.symm hi
        · exact z
      have ih := unwipe_in (ρ0 := ρ0) (ρ := ρ) hl hj
      split
      · rw [List.getElem?_set_ne hi]; exact ih
      · exact ih
end
section
variable {K : PySem.W.Frag} {w : WX} {g g1 : Gh} {σ : L2.St} {H H1 : Hp} {own : List Nat}
/-- behind a block the comprehension's own names stand as before -/
theorem Good.unwipe {ρ : List Slot} {st : List SO} {As M : List Addr} (G1 : Good K g1 σ H1) (Gw : Good K ⟨wipeρ own ρ, st, As, M⟩ (L2.wipe σ own) H)
    (E : Ext { g1 with ρ := wipeρ own g1.ρ } (L2.wipe σ own) H1 ⟨wipeρ own ρ, st, As, M⟩ (L2.wipe σ own) H) :
    Good K ⟨Z.unwipe own g1.ρ ρ, st, As, M⟩ σ H ∧ Ext g1 σ H1 ⟨Z.unwipe own g1.ρ ρ, st, As, M⟩ σ H := by
  have hl : ρ.length = g1.ρ.length := by
    have := Gw.len
    rw [show (Gh.mk (wipeρ own ρ) st As M).ρ = wipeρ own ρ from rfl, wipeρ_len, L2.wipe_length] at this
    rw [this, G1.len]
  have same : Same (hid g1.M H1) (hid M H) := E.same
  have ow1 : ∀ p, Own (wipeρ own g1.ρ) (L2.wipe σ own) p → Own g1.ρ σ p := fun p ⟨i, d, h1, h2⟩ => by
    by_cases hi : i ∈ own
    · have := wipeρ_in hi h1; cases this
    · rw [wipeρ_out hi] at h1
      rw [wipe_out hi] at h2
      exact ⟨i, d, h1, h2⟩
  have ow1' : ∀ (i : Nat) (d : D) (p : Addr), i ∈ own → g1.ρ[i]? = some (.ow d) → σ[i]? = some (some (.ref p)) → ¬ Own (wipeρ own g1.ρ) (L2.wipe σ own) p := fun i d p hi h1 h2 ⟨j, d', h3, h4⟩ => by
    by_cases hj : j ∈ own
    · have := wipeρ_in hj h3; cases this
    · rw [wipeρ_out hj] at h3
      rw [wipe_out hj] at h4
      exact hj (G1.inj i j d d' p h1 h3 h2 h4 ▸ hi)
  have nA : ∀ p, H1 p ≠ none → p ∉ g1.As → p ∉ As := fun p n hA z => by
    obtain ⟨more, e, f⟩ := E.pre
    have e : As = g1.As ++ more := e
    rw [e] at z
    rcases List.mem_append.mp z with z | z
    · exact hA z
    · exact n (f p z)
  have ow2 : ∀ p, Own (Z.unwipe own g1.ρ ρ) σ p → Own g1.ρ σ p ∨ (Own (wipeρ own ρ) (L2.wipe σ own) p) := fun p ⟨i, d, h1, h2⟩ => by
    by_cases hi : i ∈ own
    · rw [unwipe_in hl hi] at h1; exact .inl ⟨i, d, h1, h2⟩
    · rw [unwipe_out hi] at h1
      exact .inr ⟨i, d, by rw [wipeρ_out hi]; exact h1, by rw [wipe_out hi]; exact h2⟩
  refine ⟨⟨by rw [← G1.len]; exact unwipe_len.trans hl, fun i s e => ?_, fun i j d d' p h1 h2 h3 h4 => ?_, fun p hp => ?_, Gw.sto, Gw.asl, Gw.asn, Gw.asm, Gw.trk⟩, ⟨E.pre, E.vis, fun p hp hA hO => E.kep p hp hA fun z => hO (ow1 p z), E.trk, fun p hp => ?_⟩⟩
  · have e : (Z.unwipe own g1.ρ ρ)[i]? = some s := e
    by_cases hi : i ∈ own
    · rw [unwipe_in hl hi] at e
      have q := G1.slot i s e
      cases s with
      | un => trivial
      | pu d => obtain ⟨v, e1, r⟩ := q; exact ⟨v, e1, r.mono E.asget same⟩
      | ow d =>
        obtain ⟨p, e1, m, c⟩ := q
        obtain ⟨m', hh⟩ := E.kep p m (G1.oas p ⟨i, d, e, e1⟩) (ow1' i d p hi e e1)
        exact ⟨p, e1, m', c.mono E.asget same hh⟩
    · rw [unwipe_out hi] at e
      have q := Gw.slot i s (by rw [show (Gh.mk (wipeρ own ρ) st As M).ρ = wipeρ own ρ from rfl, wipeρ_out hi]; exact e)
      rw [wipe_out hi] at q
      exact q
  · have h1 : (Z.unwipe own g1.ρ ρ)[i]? = some (.ow d) := h1
    have h2 : (Z.unwipe own g1.ρ ρ)[j]? = some (.ow d') := h2
    have mixed : ∀ (i j : Nat) (d d' : D), i ∈ own → j ∉ own → g1.ρ[i]? = some (.ow d) → σ[i]? = some (some (.ref p)) → ρ[j]? = some (.ow d') → σ[j]? = some (some (.ref p)) → False := fun i j d d' hi hj a b c e => by
      have o2 : Own (wipeρ own ρ) (L2.wipe σ own) p := ⟨j, d', by rw [wipeρ_out hj]; exact c, by rw [wipe_out hj]; exact e⟩
      rcases E.own p o2 with o | n
      · exact ow1' i d p hi a b o
      · exact (Own.some_ G1 ⟨i, d, a, b⟩).2 n
    by_cases hi : i ∈ own
    · rw [unwipe_in hl hi] at h1
      by_cases hj : j ∈ own
      · rw [unwipe_in hl hj] at h2
        exact G1.inj i j d d' p h1 h2 h3 h4
      · rw [unwipe_out hj] at h2
        exact (mixed i j d d' hi hj h1 h3 h2 h4).elim
    · rw [unwipe_out hi] at h1
      by_cases hj : j ∈ own
      · rw [unwipe_in hl hj] at h2
        exact (mixed j i d' d hj hi h2 h4 h1 h3).elim
      · rw [unwipe_out hj] at h2
        exact Gw.inj i j d d' p (by show (wipeρ own ρ)[i]? = _; rw [wipeρ_out hi]; exact h1) (by show (wipeρ own ρ)[j]? = _; rw [wipeρ_out hj]; exact h2) (by rw [wipe_out hi]; exact h3) (by rw [wipe_out hj]; exact h4)
  · rcases ow2 p hp with o | o
    · exact nA p (Own.some_ G1 o).2 (G1.oas p o)
    · exact Gw.oas p o
  · rcases ow2 p hp with o | o
    · exact .inl o
    · rcases E.own p o with o | n
      · exact .inl (ow1 p o)
      · exact .inr n
/-- a hidden object that is nobody's is changed -/
theorem Good.upx {p : Addr} {o : HO} (G : Good K g σ H) (m : p ∈ g.M) (nA : p ∉ g.As) (nO : ¬ Own g.ρ σ p) : Good K g σ (upd H p o) := by
  have he : hid g.M (upd H p o) = hid g.M H := hid_in m
  refine ⟨G.len, fun i s e => ?_, G.inj, G.oas, fun i so e => ?_, G.asl, G.asn, G.asm, fun q hq => ?_⟩
  · have q := G.slot i s e
    cases s with
    | un => trivial
    | pu d => obtain ⟨v, e, r⟩ := q; exact ⟨v, e, by rw [he]; exact r⟩
    | ow d1 =>
      obtain ⟨a, e4, m', c'⟩ := q
      exact ⟨a, e4, m', by rw [he]; exact c'.mono asId (fun _ _ h => h) (upd_ne fun z => nO (z ▸ ⟨i, d1, e, e4⟩))⟩
  · obtain ⟨a, e1, q⟩ := G.sto i so e
    refine ⟨a, e1, ?_⟩
    rw [he]
    exact q.mono asId (fun _ _ h => h) (upd_ne fun z => nA (z ▸ List.mem_of_getElem? e1))
  · unfold upd; split; exact (fun z => nomatch z); exact G.trk q hq
theorem Ext.upx {g0 : Gh} {σ0 : L2.St} {H0 : Hp} {p : Addr} {o : HO} (G0 : Good K g0 σ0 H0) (E : Ext g0 σ0 H0 g σ H) (h : H0 p = none) : Ext g0 σ0 H0 g σ (upd H p o) :=
  ⟨E.pre, fun b u n q => let ⟨a, c⟩ := E.vis b u n q; ⟨a, by rw [upd_ne (ne_of_none q h)]; exact c⟩, fun q hq h1 h2 => let ⟨a, c⟩ := E.kep q hq h1 h2; ⟨a, by rw [upd_ne (fun z : q = p => G0.trk q hq (by rw [z]; exact h))]; exact c⟩,
    fun b n => by unfold upd; split; exact (fun z => nomatch z); exact E.trk b n, E.own⟩
theorem Ats.of_run {α : Type} {m : M α} {a : α} {s' : S} (e : m g.S = .ok a s') : Ats K w m g σ H fun b g2 _ _ => b = a ∧ g2.S = s' := by
  unfold Ats
  rw [e]
  exact fun _ _ _ _ _ _ => ⟨rfl, rfl⟩
theorem At.of_run {α : Type} {m : M α} {a : α} {s' : S} (e : m g.S = .ok a s') : At K w m g σ H fun b g2 _ => b = a ∧ g2.S = s' := by
  unfold At
  rw [e]
  exact fun _ _ _ _ _ => ⟨rfl, rfl⟩
end
abbrev wN : WX := fun _ _ _ _ => False
def Tcs (K : PySem.W.Frag) (cl : CallT) (cs : List Ex) : TT := Tt K wN (evalCs cl cs)
section
variable {X : Cx} {w : WX} {cl : CallT}
theorem _root_.L2.PTs.weak {ifs : List Expr} {t t' : TT} (h : PTs X ifs t) (i : ∀ σ H Q, t' σ H Q → t σ H Q) : PTs X ifs t' := ⟨fun pins s σ H Q I q => h.run pins s σ H Q I (i σ H Q q)⟩
theorem ptz_nil : PTs X [] (Tcs X.K cl []) := pts_nil.weak fun σ H Q ⟨g, G, q⟩ => At.pure_ G q
theorem ptz_one {c : Expr} {x : Ex} (h : PT X c (Tt X.K wN (asB (evalE cl x)))) : PTs X [c] (Tcs X.K cl [x]) := (pts_one h).weak fun σ H Q ⟨g, G, q⟩ => ⟨g, G, by
  have q : At X.K wN (asB (evalE cl x) >>= fun c => if c = true then Pure.pure true else Pure.pure false) g σ H _ := q
  refine (At.bind G q).imp fun c g1 H1 G1 E1 ⟨_, _, q1⟩ => ?_
  cases c with
  | true => exact At.pure_ G1 q1
  | false => exact At.pure_ G1 q1⟩
end
section
variable {K : PySem.W.Frag} {w : WX} {cl : CallT}
theorem calm_ok {α : Type} {m : M α} {s : S} {a : α} {s' : S} (h : m s = .ok a s') : calm m s = .ok a s' := by unfold calm; rw [h]
/-- THE COMPREHENSION -/
theorem lc_sem {elt : Ex} {tg : Tg} {ik : IK} {src conds : List Ex} {own : List Nat} {σ : L2.St} {H : Hp} {Q : VK} (hown : ∀ i ∈ slotsT tg, i ∈ own) (h : Tr K w (evalE cl (.lc elt tg ik src conds own)) σ H Q) :
    tLc (Ti K w (srcM cl ik src)) (Tgt K tg) (Tcs K cl conds) (Td K wN (dat (evalE cl elt))) own σ H Q := by
  obtain ⟨g, G, q⟩ := h
  have e : evalE cl (.lc elt tg ik src conds own) = (srcM cl ik src >>= fun xs => blk own (calm (lcLoop own tg (evalCs cl conds) (dat (evalE cl elt)) xs []))) := by
    unfold srcM
    rw [M.assoc]
    rfl
  rw [e] at q
  clear e
  refine ⟨g, G, (At.bind G q).imp fun xs g1 H1 G1 E1 ⟨_, _, q1⟩ J wk => ?_⟩
  intro Dp hD
  unfold At blk calm at q1
  dsimp only [Gh.S] at q1
  generalize hcond : evalCs cl conds = cond at q1
  generalize helt : dat (evalE cl elt) = eltM at q1
  cases erun : lcLoop own tg cond eltM xs [] ⟨g1.ρ, g1.st⟩ with
  | bad => simp only [erun] at q1
  | exc c fs s => simp only [erun] at q1
  | ok ds sE =>
    simp only [erun] at q1
    obtain ⟨Gw, Ew⟩ := G1.wipe (own := own)
    let W : Nat → Nat → Hp → Prop := fun i m H' => m = xs.length - i ∧ i ≤ xs.length ∧ ∃ (s : S) (As M : List Addr) (acc : List D) (av : List V), lcLoop own tg cond eltM (xs.drop i) acc s = .ok ds sE ∧
      Good K ⟨wipeρ own s.ρ, s.st, As, M⟩ (L2.wipe σ own) H' ∧ Ext { g1 with ρ := wipeρ own g1.ρ } (L2.wipe σ own) H1 ⟨wipeρ own s.ρ, s.st, As, M⟩ (L2.wipe σ own) H' ∧
      Dp ∈ M ∧ Dp ∉ As ∧ ¬ Own (wipeρ own s.ρ) (L2.wipe σ own) Dp ∧ H' Dp = some (.lst av) ∧ Reps K As (hid M H') acc av
    refine ⟨W, ⟨_, rfl, Nat.zero_le _, ⟨g1.ρ, g1.st⟩, g1.As, Dp :: g1.M, [], [], erun, Gw.allocM hD, Ext.allocM Gw hD, List.mem_cons_self, fun z => G1.trk _ (G1.asm _ z) hD, fun z => (Own.some_ Gw z).2 hD, upd_same, rfl⟩, ?_⟩
    rintro i m H' ⟨hm, hi, s, As, M, acc, av, run, Gs, Es, dM, dA, dO, dH, dR⟩
    obtain ⟨wgo, wstop, wyld⟩ := wk _ _ H' Gs Es.asget Es.same
    by_cases hlt : i < xs.length
    · -- a turn
      refine .inr ⟨wgo i hlt, fun H'' => W (i + 1) (xs.length - (i + 1)) H'', fun H'' h => ⟨_, by omega, h⟩, fun x H2 hy => ?_⟩
      obtain ⟨d, hd, hH2, rd⟩ := wyld i x H2 hlt hy
      have hdrop : xs.drop i = d :: xs.drop (i + 1) := by
        rw [List.drop_eq_getElem_cons hlt]
        have : xs[i] = d := by
          rw [List.getElem?_eq_getElem hlt] at hd
          exact Option.some.inj hd
        rw [this]
      -- behind the yield
      have at2 : Good K ⟨wipeρ own s.ρ, s.st, As, M⟩ (L2.wipe σ own) H2 ∧ Ext ⟨wipeρ own s.ρ, s.st, As, M⟩ (L2.wipe σ own) H' ⟨wipeρ own s.ρ, s.st, As, M⟩ (L2.wipe σ own) H2 := by
        rcases hH2 with e | ⟨T, o, hT, e⟩
        · subst e; exact ⟨Gs, Ext.refl⟩
        · subst e; exact ⟨Gs.alloc hT, Ext.alloc Gs hT⟩
      obtain ⟨G2, E2⟩ := at2
      have dH2 := (E2.kep Dp dM dA dO).2
      -- the run
      rw [hdrop] at run
      have run : (wipeS own >>= fun _ => bindT tg d >>= fun _ => cond >>= fun c => if c = true then (eltM >>= fun y => tick acc y >>= fun acc' => lcLoop own tg cond eltM (xs.drop (i + 1)) acc') else lcLoop own tg cond eltM (xs.drop (i + 1)) acc) s = .ok ds sE := run
      rw [bind_run] at run
      have ew : wipeS own s = .ok () ⟨wipeρ own s.ρ, s.st⟩ := rfl
      rw [ew] at run
      dsimp only at run
      rw [bind_run] at run
      cases eb : bindT tg d ⟨wipeρ own s.ρ, s.st⟩ with
      | bad => simp only [eb] at run; cases run
      | exc c fs s => simp only [eb] at run; cases run
      | ok u s2 =>
        simp only [eb] at run
        rw [bind_run] at run
        cases ec : cond s2 with
        | bad => simp only [ec] at run; cases run
        | exc c fs s => simp only [ec] at run; cases run
        | ok c s3 =>
          simp only [ec] at run
          refine tgt_mono (bindT_sem (w := wN) G2 rd (Ats.of_run (g := ⟨wipeρ own s.ρ, s.st, As, M⟩) eb)) fun σ2 H3 ⟨eH, hw, g3, a3, m3, G3, E3, _, hs3⟩ => ?_
          subst eH
          have hwσ : L2.wipe σ2 own = L2.wipe σ own := (hw own hown).trans wipe_idem
          refine ⟨hwσ, g3, G3, ?_⟩
          have dO3 : ¬ Own g3.ρ σ2 Dp := fun z => by
            rcases E3.own Dp z with o | n
            · exact dO o
            · rw [dH2, dH] at n; cases n
          rw [hcond]
          refine (At.of_run (a := c) (s' := s3) (by rw [hs3]; exact ec)).imp fun b g4 H4 G4 E4 ⟨eb4, hs4⟩ => ?_
          subst eb4
          obtain ⟨dM4, dH4⟩ := E4.kep Dp (by rw [m3]; exact dM) (by rw [a3]; exact dA) dO3
          have dO4 : ¬ Own g4.ρ σ2 Dp := fun z => by
            rcases E4.own Dp z with o | n
            · exact dO3 o
            · rw [dH2, dH] at n; cases n
          have asOut : ∀ {ga gb : Gh} {σa σb : L2.St} {Ha Hb : Hp}, Ext ga σa Ha gb σb Hb → Dp ∉ ga.As → Ha Dp ≠ none → Dp ∉ gb.As := fun {ga gb σa σb Ha Hb} E h n z => by
            obtain ⟨more, e, f⟩ := E.pre
            rw [e] at z
            rcases List.mem_append.mp z with z | z
            · exact h z
            · exact n (f _ z)
          have nn : H3 Dp ≠ none := by rw [dH2, dH]; exact fun z => nomatch z
          have dA4 : Dp ∉ g4.As := asOut E4 (by rw [a3]; exact dA) nn
          -- from the start to here
          have Etot : Ext { g1 with ρ := wipeρ own g1.ρ } (L2.wipe σ own) H1 g4 σ2 H4 := ((Es.trans Gw E2).trans Gw E3).trans Gw E4
          -- what the next turn finds
          have next : ∀ (g5 : Gh) (H5 : Hp) (acc' : List D) (av' : List V) (o : HO), Good K g5 σ2 H5 → Ext { g1 with ρ := wipeρ own g1.ρ } (L2.wipe σ own) H1 g5 σ2 H5 → Dp ∈ g5.M → Dp ∉ g5.As → ¬ Own g5.ρ σ2 Dp →
              o = .lst av' → Reps K g5.As (hid g5.M H5) acc' av' → lcLoop own tg cond eltM (xs.drop (i + 1)) acc' g5.S = .ok ds sE → W (i + 1) (xs.length - (i + 1)) (upd H5 Dp o) := fun g5 H5 acc' av' o G5 E5 m5 a5 o5 eo r5 run5 => by
            subst eo
            obtain ⟨G6, E6⟩ := G5.wipe (own := own)
            rw [hwσ] at G6 E6
            have o6 : ¬ Own (wipeρ own g5.ρ) (L2.wipe σ own) Dp := fun z => by
              rcases E6.own Dp z with o | n
              · exact o5 o
              · exact G5.trk Dp m5 n
            have he : hid g5.M (upd H5 Dp (.lst av')) = hid g5.M H5 := hid_in m5
            exact ⟨rfl, hlt, g5.S, g5.As, g5.M, acc', av', run5, G6.upx m5 a5 o6, (E5.trans Gw E6).upx Gw hD, m5, a5, o6, upd_same, by rw [he]; exact r5⟩
          cases b with
          | false =>
            refine iteF ?_
            have hu : upd H4 Dp (.lst av) = H4 := by
              funext z
              unfold upd
              split
              · rename_i e; rw [e, dH4, dH2, dH]
              · rfl
            have := next g4 H4 acc av (.lst av) G4 Etot dM4 dA4 dO4 rfl (E4.reps (by rw [a3, m3]; exact E2.reps dR)) (by rw [hs4]; exact run)
            rw [hu] at this
            exact this
          | true =>
            refine iteT ⟨g4, G4, ?_⟩
            have run : (eltM >>= fun y => tick acc y >>= fun acc' => lcLoop own tg cond eltM (xs.drop (i + 1)) acc') s3 = .ok ds sE := run
            rw [bind_run] at run
            cases ee : eltM s3 with
            | bad => simp only [ee] at run; cases run
            | exc c fs s => simp only [ee] at run; cases run
            | ok y s4 =>
              simp only [ee] at run
              refine (At.of_run (a := y) (s' := s4) (by rw [hs4]; exact ee)).imp fun y' g5 H5 G5 E5 ⟨ey, hs5⟩ v rv => ?_
              subst ey
              obtain ⟨dM5, dH5⟩ := E5.kep Dp dM4 dA4 dO4
              have nn4 : H4 Dp ≠ none := by rw [dH4, dH2, dH]; exact fun z => nomatch z
              have dO5 : ¬ Own g5.ρ σ2 Dp := fun z => by
                rcases E5.own Dp z with o | n
                · exact dO4 o
                · exact nn4 n
              have run : (tick acc y' >>= fun acc' => lcLoop own tg cond eltM (xs.drop (i + 1)) acc') s4 = .ok ds sE := run
              rw [bind_run] at run
              unfold tick at run
              by_cases hz : acc.length < line
              · rw [if_pos hz] at run
                have r5 : Reps K g5.As (hid g5.M H5) acc av := E5.reps (E4.reps (by rw [a3, m3]; exact E2.reps dR))
                refine ⟨av, by rw [dH5, dH4, dH2, dH], line_lt (by rw [r5.length]; exact hz), ?_⟩
                exact next g5 H5 (acc ++ [y']) (av ++ [v]) _ G5 (Etot.trans Gw E5) dM5 (asOut E5 dA4 nn4) dO5 rfl (r5.append (.cons rv .nil)) (by rw [hs5]; exact run)
              · rw [if_neg hz] at run; cases run
    · -- the end
      have e : i = xs.length := by omega
      subst e
      refine .inl ⟨wstop _ (Nat.le_refl _), ?_⟩
      rw [List.drop_length] at run
      obtain ⟨rfl, rfl⟩ := Out.ok.inj (show Out.ok acc s = .ok ds sE from run)
      obtain ⟨G9, E9⟩ := Good.unwipe G1 Gs Es
      refine q1 As M H' G9 E9 (.ref Dp) ⟨Dp, rfl, E1.fresh hD, dM, dA, fun z => ?_, av, dH, dR⟩
      rcases E9.own Dp z with o | n
      · exact (Own.some_ G1 o).2 hD
      · obtain ⟨j, dd, h1, h2⟩ := z
        by_cases hj : j ∈ own
        · have hl : s.ρ.length = g1.ρ.length := by
            have := Gs.len
            rw [show (Gh.mk (wipeρ own s.ρ) s.st As M).ρ = wipeρ own s.ρ from rfl, wipeρ_len, L2.wipe_length] at this
            rw [this, G1.len]
          have h1 : (Z.unwipe own g1.ρ s.ρ)[j]? = some (.ow dd) := h1
          rw [unwipe_in hl hj] at h1
          exact (Own.some_ G1 ⟨j, dd, h1, h2⟩).2 hD
        · have h1 : (Z.unwipe own g1.ρ s.ρ)[j]? = some (.ow dd) := h1
          rw [unwipe_out hj] at h1
          exact dO ⟨j, dd, by rw [wipeρ_out hj]; exact h1, by rw [wipe_out hj]; exact h2⟩
end
end Z

/-! Z15: comprehensions as expressions; statements. -/
namespace Z
open PySem PySem.Spec PyProof.Rows L2

section
variable {X : Cx} {w : WX} {cl : CallT} {elt tgE iter : Expr} {ifs : List Expr} {scope : Scope} {own : List (Str × Nat)} {pos spos : Pos} {xe : Ex} {tg : Tg} {ik : IK} {src conds : List Ex}
theorem pz_lc (hc : X.calm = true) (hN : X.N.Nodup) (hi : PI X tgE iter (Ti X.K w (srcM cl ik src))) (ok : BlkOk X.N X.env.scope scope own)
    (hg : ∀ (s : Shared) (H : Hp) (C : Addr) (cl : List (Str × Addr)) (fp : List Addr), PG (X.blk s H scope (compEnvC scope cl C X.env) fp) tgE (Tgt X.K tg))
    (ht : ∀ (s : Shared) (H : Hp) (C : Addr) (cc : List (Str × Addr)) (fp : List Addr), PTs (X.blk s H scope (compEnvC scope cc C X.env) fp) ifs (Tcs X.K cl conds))
    (he : ∀ (s : Shared) (H : Hp) (C : Addr) (cc : List (Str × Addr)) (fp : List Addr), PE (X.blk s H scope (compEnvC scope cc C X.env) fp) elt (Tr X.K wN (evalE cl xe)))
    (hown : ∀ i ∈ slotsT tg, i ∈ own.map (·.2) := by decide) (hs : ∀ x, foldedSetIterable iter X.env x = pure x := by intro _; rfl) :
    PE X (.ListComp elt [⟨tgE, iter, ifs, 0⟩] scope pos) (Tr X.K w (evalE cl (.lc xe tg ik src conds (own.map (·.2))))) :=
  (pe_lc hc hN hi ok hg ht (fun s H C cc fp => Tr.dat (X := X.blk s H scope (compEnvC scope cc C X.env) fp) (he s H C cc fp)) hs).weak fun σ H Q h => lc_sem hown h
end

/-- what is returned: data, or a container of the frame's own -/
def RetR (K : PySem.W.Frag) (H0 : Hp) (g : Gh) (σ : L2.St) (H : Hp) (r : Rs) (v : V) : Prop :=
  if r.2 = true then ∃ p, v = .ref p ∧ (Own g.ρ σ p ∨ H0 p = none) ∧ p ∈ g.M ∧ p ∉ g.As ∧ Cel K g.As (hid g.M H) H r.1 p else Rep K g.As (hid g.M H) r.1 v
theorem RelR.ret {K : PySem.W.Frag} {H0 : Hp} {g : Gh} {σ : L2.St} {H : Hp} {r : Rs} {v : V} (h : RelR K H0 g σ H r v) : RetR K H0 g σ H r v := by
  unfold RelR at h
  unfold RetR
  split
  · rename_i e
    rw [if_pos e] at h
    obtain ⟨p, e1, n⟩ := h
    exact ⟨p, e1, .inr n.was, n.mem, n.nas, n.cel⟩
  · rename_i e
    rw [if_neg e] at h
    exact h
theorem RetR.older {K : PySem.W.Frag} {H0 H1 : Hp} {g0 g1 g : Gh} {σ σ0 σ1 : L2.St} {H : Hp} {r : Rs} {v : V} (e : Ext g0 σ0 H0 g1 σ1 H1) (h : RetR K H1 g σ H r v) : RetR K H0 g σ H r v := by
  unfold RetR at h ⊢
  split
  · rename_i q
    rw [if_pos q] at h
    obtain ⟨p, e1, o, rest⟩ := h
    exact ⟨p, e1, o.imp id e.fresh, rest⟩
  · rename_i q
    rw [if_neg q] at h
    exact h
def fin (K : PySem.W.Frag) (H0 : Hp) (D : Ends) (f : Flow) (g : Gh) (σ : L2.St) (H : Hp) : Prop := match f with
  | .nx => D.nx σ H
  | .brk => D.bk σ H
  | .cont => D.ct σ H
  | .ret r => ∀ v, RetR K H0 g σ H r v → D.rt v H
/-- a statement as the interpreter has it -/
def Ts (K : PySem.W.Frag) (w : WX) (m : M Flow) : TS := fun D σ H => ∃ g, Good K g σ H ∧ Ats K w m g σ H (fin K H D)

section
variable {K : PySem.W.Frag} {w : WX} {g : Gh} {σ : L2.St} {H : Hp} {cl : CallT} {wf : Nat}
/-- two in a row -/
theorem ts_seq {s : Sm} {ss : List Sm} {D : Ends} (h : Ts K w (execs cl wf (s :: ss)) D σ H) : tSeq (Ts K w (exec cl wf s)) (Ts K w (execs cl wf ss)) D σ H := by
  obtain ⟨g, G, q⟩ := h
  refine ⟨g, G, ?_⟩
  have q : Ats K w (exec cl wf s >>= fun f => match f with
    | .nx => execs cl wf ss
    | .brk => Pure.pure .brk
    | .cont => Pure.pure .cont
    | .ret r => Pure.pure (.ret r)) g σ H _ := q
  refine (Ats.bind G q).imp fun f g1 σ1 H1 G1 E1 ⟨_, _, q1⟩ => ?_
  cases f with
  | nx => exact ⟨g1, G1, q1.imp fun f2 g2 σ2 H2 _ _ k => by
      cases f2 with
      | nx => exact k
      | brk => exact k
      | cont => exact k
      | ret r => exact fun v rv => k v (rv.older E1)⟩
  | brk =>
    show D.bk σ1 H1
    exact Ats.pure_ (w := w) (a := Flow.brk) G1 q1
  | cont =>
    show D.ct σ1 H1
    exact Ats.pure_ (w := w) (a := Flow.cont) G1 q1
  | ret r =>
    show ∀ v, RetR K H g1 σ1 H1 r v → D.rt v H1
    exact Ats.pure_ (w := w) (a := Flow.ret r) G1 q1
theorem ts_nil {D : Ends} (h : Ts K w (execs cl wf []) D σ H) : tNext D σ H := by
  obtain ⟨g, G, q⟩ := h
  exact Ats.pure_ G q
end
section
variable {X : Cx} {w : WX} {cl : CallT} {wf : Nat} {st : Stmt} {rest : List Stmt} {pos spos pos' : Pos} {s : Sm} {ss sa sb : List Sm} {e c : Expr} {x xc : Ex}
theorem psz_cons (h1 : PS X st (Ts X.K w (exec cl wf s))) (h2 : PSs X rest (Ts X.K w (execs cl wf ss))) : PSs X (st :: rest) (Ts X.K w (execs cl wf (s :: ss))) := (pss_cons h1 h2).weak fun D σ H h => ts_seq h
theorem psz_nil : PSs X [] (Ts X.K w (execs cl wf [])) := pss_nil.weak fun D σ H h => ts_nil h
/-! ### a name is stored -/
theorem asg_at {K : PySem.W.Frag} {g : Gh} {σ : L2.St} {H : Hp} {i : Nat} {k : Flow → Gh → L2.St → Hp → Prop} (G : Good K g σ H) (h : Ats K w (exec cl wf (.asg i x)) g σ H k) :
    At K w (evalE cl x) g σ H fun r g1 H1 => ∀ v, RelR K H g1 σ H1 r v → ∃ g2, Good K g2 (σ.set i (some v)) H1 ∧ k .nx g2 (σ.set i (some v)) H1 := by
  have h : Ats K w (evalE cl x >>= fun r => setR i r >>= fun _ => Pure.pure Flow.nx) g σ H k := h
  unfold Ats at h
  unfold At
  rw [bind_run] at h
  cases e : evalE cl x g.S with
  | bad => rw [e] at h; exact h
  | exc c fs s' => rw [e] at h; exact fun As' M' H' G' E' => h σ As' M' H' G' E'
  | ok r s1 =>
    rw [e] at h
    intro As1 M1 H1 G1 E1 v rv
    dsimp only at h
    rw [bind_run] at h
    unfold setR setρ at h
    by_cases hi : i < s1.ρ.length
    · rw [if_pos hi] at h
      dsimp only at h
      have h : ∀ σ' As' M' H', Good K ⟨s1.ρ.set i (if r.2 = true then .ow r.1 else .pu r.1), s1.st, As', M'⟩ σ' H' → Ext g σ H ⟨s1.ρ.set i (if r.2 = true then .ow r.1 else .pu r.1), s1.st, As', M'⟩ σ' H' → k .nx ⟨s1.ρ.set i (if r.2 = true then .ow r.1 else .pu r.1), s1.st, As', M'⟩ σ' H' := h
      unfold RelR at rv
      by_cases hf : r.2 = true
      · rw [if_pos hf] at rv h
        obtain ⟨p, rfl, n⟩ := rv
        have G2 : Good K ⟨s1.ρ.set i (.ow r.1), s1.st, As1, M1⟩ (σ.set i (some (.ref p))) H1 := G1.setS hi ⟨p, rfl, n.mem, n.cel⟩ fun d q e1 e2 => by cases e2; exact ⟨n.now, n.nas⟩
        refine ⟨_, G2, h _ _ _ _ G2 ⟨E1.pre, E1.vis, E1.kep, E1.trk, fun q hq => ?_⟩⟩
        rcases own_set hq with o | ⟨_, e2⟩
        · exact E1.own q o
        · cases e2; exact .inr n.was
      · rw [if_neg hf] at rv h
        obtain ⟨G2, E2⟩ := G1.setPu hi rv
        exact ⟨_, G2, h _ _ _ _ G2 (E1.trans G E2)⟩
    · rw [if_neg hi] at h
      exact h.elim
theorem asg_sem {σ : L2.St} {H : Hp} {D : Ends} {i : Nat} (h : Ts X.K w (exec cl wf (.asg i x)) D σ H) : Tr X.K w (evalE cl x) σ H fun v H1 => gName i v σ H1 D.nx := by
  obtain ⟨g, G, q⟩ := h
  exact ⟨g, G, (asg_at G q).imp fun r g1 H1 _ _ q1 v rv => let ⟨_, _, k⟩ := q1 v rv; k⟩
theorem psz_asg {i : Nat} {y : Str} (hN : X.N.Nodup) (hi : X.N[i]? = some y) (hx : Loc X.env.scope y) (he : PE X e (Tr X.K w (evalE cl x))) (hs : swapsWith e (some (.Name y pos')) pos.line X.env = pure false := by rfl)
    (hf : X.fn y = true ∨ X.env.scope.names.lookup y = some .local := by first | exact .inl rfl | exact .inr rfl | assumption) : PS X (.Assign [.Name y pos'] e pos) (Ts X.K w (exec cl wf (.asg i x))) :=
  (ps_set hN hi hx he hs hf).weak fun D σ H h => asg_sem h
theorem psz_asgLc {i : Nat} {y : Str} {py : Pos} {elt tgE iter : Expr} {ifs : List Expr} {scope : Scope} {own : List (Str × Nat)} {xe : Ex} {tg : Tg} {ik : IK} {src conds : List Ex} (hc : X.calm = true) (hN : X.N.Nodup) (hy : X.N[i]? = some y) (hyl : X.env.scope.names.lookup y = some .local)
    (hsw : swapsWith (.ListComp elt [⟨tgE, iter, ifs, 0⟩] scope pos) (some (.Name y py)) spos.line X.env = pure true) (hi : PI X tgE iter (Ti X.K w (srcM cl ik src))) (ok : BlkOk X.N X.env.scope scope own)
    (hg : ∀ (s : Shared) (H : Hp) (C : Addr) (cl : List (Str × Addr)) (fp : List Addr), PG (X.blk s H scope (compEnvC scope cl C X.env) fp) tgE (Tgt X.K tg))
    (ht : ∀ (s : Shared) (H : Hp) (C : Addr) (cc : List (Str × Addr)) (fp : List Addr), PTs (X.blk s H scope (compEnvC scope cc C X.env) fp) ifs (Tcs X.K cl conds))
    (he : ∀ (s : Shared) (H : Hp) (C : Addr) (cc : List (Str × Addr)) (fp : List Addr), PE (X.blk s H scope (compEnvC scope cc C X.env) fp) elt (Tr X.K wN (evalE cl xe)))
    (hown : ∀ i ∈ slotsT tg, i ∈ own.map (·.2) := by decide) (hs : ∀ x, foldedSetIterable iter X.env x = pure x := by intro _; rfl) :
    PS X (.Assign [.Name y py] (.ListComp elt [⟨tgE, iter, ifs, 0⟩] scope pos) spos) (Ts X.K w (exec cl wf (.asg i (.lc xe tg ik src conds (own.map (·.2)))))) :=
  (ps_setLc hc hN hy hyl hsw hi ok hg ht (fun s H C cc fp => Tr.dat (X := X.blk s H scope (compEnvC scope cc C X.env) fp) (he s H C cc fp)) hs).weak fun D σ H h => lc_sem hown (asg_sem h)
/-! ### several names -/
theorem psz_asgT {tgE : Expr} {ts : List Tg} (he : PE X e (Tr X.K w (evalE cl x))) (hg : PG X tgE (Tgt X.K (.tup ts))) (hs : swapsWithSole [tgE] e pos.line X.env = pure false := by rfl) (hw : swappedStores [tgE] e X.env = pure none := by rfl) (h1 : (assignEach [tgE] X.env).map (·.2) = [assign tgE X.env] := by rfl) :
    PS X (.Assign [tgE] e pos) (Ts X.K w (exec cl wf (.asgT ts x))) := by
  refine (ps_asg (Tr.dat he) hg hs hw h1).weak fun D σ H ⟨g, G, q⟩ => ⟨g, G, ?_⟩
  have q : Ats X.K w (dat (evalE cl x) >>= fun d => bindT (.tup ts) d >>= fun _ => Pure.pure Flow.nx) g σ H _ := q
  refine (Ats.at_ (Ats.bind G q)).imp fun d g1 H1 G1 E1 ⟨_, _, q1⟩ v rv => ?_
  refine tgt_mono (bindT_sem G1 rv (Ats.bind G1 q1)) fun σ2 H2 ⟨e, _, g2, _, _, G2, E2, _, _, q2⟩ => ?_
  subst e
  exact Ats.pure_ G2 q2
/-! ### x += e -/
theorem psz_aug {i : Nat} {y : Str} {bo : BOp} {op : Operator} {f : Int → Int → Int} (hN : X.N.Nodup) (hi : X.N[i]? = some y) (hx : Loc X.env.scope y) (he : PE X e (Tr X.K w (evalE cl x))) (ho : PIp X op (ipI f)) (hb : ∀ a b z, augD bo a b = some z → ∃ i j, a = .int i ∧ b = .int j ∧ z = .int (f i j))
    (hf : X.fn y = true ∨ X.env.scope.names.lookup y = some .local := by first | exact .inl rfl | exact .inr rfl | assumption) : PS X (.AugAssign (.Name y pos') op e pos) (Ts X.K w (exec cl wf (.aug bo i x))) := by
  refine (ps_aug hN hi hx (Tr.dat he) ho hf).weak fun D σ H ⟨g, G, q⟩ => ?_
  have q : Ats X.K w (rdSlot i >>= fun d => dat (evalE cl x) >>= fun f => liftO (augD bo d f) >>= fun z => setρ i (.pu z) >>= fun _ => Pure.pure Flow.nx) g σ H _ := q
  have q0 := Ats.at_ (Ats.bind G q)
  unfold At rdSlot at q0
  cases e1 : g.ρ[i]? with
  | none => simp only [Gh.S, e1] at q0
  | some s =>
    have key : ∀ d v, σ[i]? = some (some v) → (∀ n, d = Z.D.int n → v = .int n) → Ats X.K w (dat (evalE cl x) >>= fun f => liftO (augD bo d f) >>= fun z => setρ i (.pu z) >>= fun _ => Pure.pure Flow.nx) g σ H (fin X.K H D) → ∃ x', σ[i]? = some (some x') ∧ Td X.K w (dat (evalE cl x)) σ H fun y H1 => ipI f x' y H1 fun z H2 => D.nx (σ.set i (some z)) H2 := fun d v hv hd q1 => by
      refine ⟨v, hv, g, G, (Ats.at_ (Ats.bind G q1)).imp fun f' g1 H1 G1 E1 ⟨_, _, q2⟩ u ru => ?_⟩
      obtain ⟨z, ez, _, _, q3⟩ := At.liftO_ G1 (Ats.at_ (Ats.bind G1 q2))
      obtain ⟨a, b, rfl, rfl, rfl⟩ := hb _ _ _ ez
      obtain rfl := hd a rfl
      obtain rfl : u = .int b := ru
      refine ⟨a, b, rfl, rfl, ?_⟩
      obtain ⟨g2, _, _, G2, E2, _, _, q4⟩ := setρ_sem (d := .int (f a b)) (v := .int (f a b)) G1 rfl (Ats.bind G1 q3)
      exact Ats.pure_ G2 q4
    cases s with
    | un => simp only [Gh.S, e1] at q0
    | pu d =>
      simp only [Gh.S, e1] at q0
      obtain ⟨v, e2, r⟩ := G.slot i _ e1
      exact key d v e2 (fun n en => by subst en; exact r) (q0 g.As g.M H G Ext.refl).2.2
    | ow d =>
      simp only [Gh.S, e1] at q0
      obtain ⟨p, e2, m, c⟩ := G.slot i _ e1
      exact key d (.ref p) e2 (fun n en => by subst en; exact c.elim) (q0 g.As g.M H G Ext.refl).2.2
theorem psz_augA {i : Nat} {y : Str} (hN : X.N.Nodup) (hi : X.N[i]? = some y) (hx : Loc X.env.scope y) (he : PE X e (Tr X.K w (evalE cl x))) (hf : X.fn y = true ∨ X.env.scope.names.lookup y = some .local := by first | exact .inl rfl | exact .inr rfl | assumption) :
    PS X (.AugAssign (.Name y pos') .Add e pos) (Ts X.K w (exec cl wf (.aug .add i x))) := psz_aug hN hi hx he ip_add (fun a b z h => by
      unfold augD at h
      split at h
      · exact ⟨_, _, rfl, rfl, (Option.some.inj h).symm⟩
      · rename_i hne; cases hne
      · cases h) hf
theorem psz_augS {i : Nat} {y : Str} (hN : X.N.Nodup) (hi : X.N[i]? = some y) (hx : Loc X.env.scope y) (he : PE X e (Tr X.K w (evalE cl x))) (hf : X.fn y = true ∨ X.env.scope.names.lookup y = some .local := by first | exact .inl rfl | exact .inr rfl | assumption) :
    PS X (.AugAssign (.Name y pos') .Sub e pos) (Ts X.K w (exec cl wf (.aug .sub i x))) := psz_aug hN hi hx he ip_sub (fun a b z h => by
      unfold augD at h
      split at h
      · rename_i hne; cases hne
      · exact ⟨_, _, rfl, rfl, (Option.some.inj h).symm⟩
      · cases h) hf
/-! ### expressions alone, return -/
theorem psz_expr (he : PE X e (Tr X.K w (evalE cl x))) (hs : swapsWith e none pos.line X.env = pure false := by rfl) : PS X (.Expr e pos) (Ts X.K w (exec cl wf (.expr x))) := by
  refine (ps_expr (Tr.dat he) hs).weak fun D σ H ⟨g, G, q⟩ => ⟨g, G, ?_⟩
  have q : Ats X.K w (dat (evalE cl x) >>= fun _ => Pure.pure Flow.nx) g σ H _ := q
  exact (Ats.at_ (Ats.bind G q)).imp fun d g1 H1 G1 E1 ⟨_, _, q1⟩ v rv => Ats.pure_ G1 q1
/-- what a return's expression reads as -/
def Trr (K : PySem.W.Frag) (w : WX) (m : M Rs) : TE := fun σ H Q => ∃ g, Good K g σ H ∧ At K w m g σ H fun r g1 H1 => ∀ v, RetR K H g1 σ H1 r v → Q v H1
theorem prz_of (hx : ∀ m, retV x m = m := by intro _; rfl) (he : PE X e (Tr X.K w (evalE cl x))) : PE X e (Trr X.K w (retV x (evalE cl x))) := by
  rw [hx]
  exact he.weak fun σ H Q ⟨g, G, q⟩ => ⟨g, G, q.imp fun r g1 H1 _ _ q1 v rv => q1 v rv.ret⟩
theorem prz_var {y : Str} {m : M Rs} (i : Nat) (hN : X.N[i]? = some y := by rfl) (hv : Vis X.env.scope y := by first | exact Or.inl rfl | exact Or.inr (Or.inl rfl) | exact Or.inr (Or.inr rfl)) (hd : (y == ("__debug__" : Str)) = false := by decide)
    (hcd : (y == ("__classdict__" : Str)) = false := by decide) : PE X (.Name y pos) (Trr X.K w (retV (.var i) m)) := by
  refine (pe_var hN hv hd hcd).weak fun σ H Q ⟨g, G, q⟩ => ?_
  unfold At retV rdRet at q
  cases e : g.ρ[i]? with
  | none => simp only [Gh.S, e] at q
  | some s =>
    cases s with
    | un => simp only [Gh.S, e] at q
    | pu d =>
      simp only [Gh.S, e] at q
      obtain ⟨v, e1, r1⟩ := G.slot i _ e
      exact ⟨v, e1, q g.As g.M H G Ext.refl v r1⟩
    | ow d =>
      simp only [Gh.S, e] at q
      obtain ⟨p, e1, m, c⟩ := G.slot i _ e
      exact ⟨.ref p, e1, q g.As g.M H G Ext.refl (.ref p) ⟨p, rfl, .inl ⟨i, d, e, e1⟩, m, G.oas p ⟨i, d, e, e1⟩, c⟩⟩
theorem psz_ret (he : PE X e (Trr X.K w (retV x (evalE cl x)))) : PS X (.Return (some e) pos) (Ts X.K w (exec cl wf (.ret x))) := by
  refine (ps_ret he).weak fun D σ H ⟨g, G, q⟩ => ⟨g, G, ?_⟩
  have q : Ats X.K w (retV x (evalE cl x) >>= fun r => Pure.pure (Flow.ret r)) g σ H _ := q
  exact (Ats.at_ (Ats.bind G q)).imp fun r g1 H1 G1 E1 ⟨_, _, q1⟩ v rv => Ats.pure_ G1 q1 v rv
theorem psz_retN : PS X (.Return none pos) (Ts X.K w (exec cl wf .retN)) := ps_retN.weak fun D σ H ⟨g, G, q⟩ => Ats.pure_ G (a := Flow.ret (.none, false)) q .non rfl
theorem psz_pass : PS X (.Pass pos) (Ts X.K w (exec cl wf .pass)) := ps_pass.weak fun D σ H ⟨g, G, q⟩ => Ats.pure_ G (a := Flow.nx) q
theorem psz_brk : PS X (.Break pos) (Ts X.K w (exec cl wf .brk)) := ps_break.weak fun D σ H ⟨g, G, q⟩ => Ats.pure_ G (a := Flow.brk) q
theorem psz_cont : PS X (.Continue pos) (Ts X.K w (exec cl wf .cont)) := ps_continue.weak fun D σ H ⟨g, G, q⟩ => Ats.pure_ G (a := Flow.cont) q
theorem psz_if {a b : List Stmt} (hc : PT X c (Tt X.K w (asB (evalE cl xc)))) (ha : PSs X a (Ts X.K w (execs cl wf sa))) (hb : PSs X b (Ts X.K w (execs cl wf sb))) : PS X (.If c a b pos) (Ts X.K w (exec cl wf (.ife xc sa sb))) := by
  refine (ps_if hc ha hb).weak fun D σ H ⟨g, G, q⟩ => ⟨g, G, ?_⟩
  have q : Ats X.K w (asB (evalE cl xc) >>= fun t => if t = true then execs cl wf sa else execs cl wf sb) g σ H _ := q
  have old : ∀ {g1 : Gh} {H1 : Hp} {m : M Flow}, Good X.K g1 σ H1 → Ext g σ H g1 σ H1 → Ats X.K w m g1 σ H1 (fin X.K H D) → Ts X.K w m D σ H1 := fun {g1 H1 m} G1 E1 q1 => ⟨g1, G1, q1.imp fun f g2 σ2 H2 _ _ k => by
    cases f with
    | nx => exact k
    | brk => exact k
    | cont => exact k
    | ret r => exact fun v rv => k v (rv.older E1)⟩
  refine (Ats.at_ (Ats.bind G q)).imp fun t g1 H1 G1 E1 ⟨_, _, q1⟩ => ?_
  cases t with
  | true => exact iteT (old G1 E1 q1)
  | false => exact iteF (old G1 E1 q1)
end
end Z

/-! Z16: lists changed by statements; loops. -/
namespace Z
open PySem PySem.Spec PyProof.Rows L2
section
variable {X : Cx} {w : WX} {cl : CallT} {wf : Nat} {pos apos cpos np : Pos} {e o k c : Expr} {x xo xk xc : Ex} {sb : List Sm} {body : List Stmt} {i : Nat} {y : Str}
/-- xs.append(e) and its like -/
theorem app_core {K : PySem.W.Frag} {g : Gh} {σ : L2.St} {H : Hp} {ds ds' : List D} {p : Addr} {vs' : List V} {kf : Unit → Gh → L2.St → Hp → Prop} (G : Good K g σ H) (hi : g.ρ[i]? = some (.ow (.lst ds))) (hs : σ[i]? = some (some (.ref p)))
    (hr : Reps K g.As (hid g.M H) ds' vs') (h : ∀ σ' As' M' H', Good K ⟨g.ρ.set i (.ow (.lst ds')), g.st, As', M'⟩ σ' H' → Ext g σ H ⟨g.ρ.set i (.ow (.lst ds')), g.st, As', M'⟩ σ' H' → kf () ⟨g.ρ.set i (.ow (.lst ds')), g.st, As', M'⟩ σ' H') :
    ∃ g2, Good K g2 σ (upd H p (.lst vs')) ∧ kf () g2 σ (upd H p (.lst vs')) := by
  obtain ⟨G2, E2⟩ := G.mut (d' := .lst ds') (o := .lst vs') hi hs ⟨vs', upd_same, hr⟩
  exact ⟨_, G2, h _ _ _ _ G2 E2⟩
theorem ow_at {K : PySem.W.Frag} {g : Gh} {σ : L2.St} {H : Hp} {d : D} {p : Addr} (G : Good K g σ H) (hi : g.ρ[i]? = some (.ow d)) (hs : σ[i]? = some (some (.ref p))) : Cel K g.As (hid g.M H) H d p := by
  obtain ⟨p', e, m, c⟩ := G.slot i _ hi
  rw [hs] at e; cases e
  exact c
theorem appTo_sem {K : PySem.W.Frag} {g : Gh} {σ : L2.St} {H : Hp} {d : D} {v : V} {p : Addr} {kf : Unit → Gh → L2.St → Hp → Prop} (G : Good K g σ H) (e2 : σ[i]? = some (some (.ref p))) (rv : Rep K g.As (hid g.M H) d v)
    (h : Ats K w (appTo i d) g σ H kf) : rAppend (.ref p) [v] H fun _ H' => ∃ g2, Good K g2 σ H' ∧ kf () g2 σ H' := by
  unfold Ats appTo at h
  cases e4 : g.ρ[i]? with
  | none => simp only [Gh.S, e4] at h
  | some s =>
    cases s with
    | ow z =>
      cases z with
      | lst ds1 =>
        simp only [Gh.S, e4] at h
        by_cases hz : ds1.length < line
        · rw [if_pos hz] at h
          obtain ⟨vs1, h1, h2⟩ := ow_at G e4 e2
          exact ⟨p, vs1, v, rfl, rfl, h1, line_lt (by rw [h2.length]; exact hz), app_core G e4 e2 (h2.append (.cons rv .nil)) h⟩
        · rw [if_neg hz] at h; exact h.elim
      | _ => simp only [Gh.S, e4] at h
    | _ => simp only [Gh.S, e4] at h
theorem extTo_sem {K : PySem.W.Frag} {g : Gh} {σ : L2.St} {H : Hp} {d : D} {v : V} {p : Addr} {kf : Unit → Gh → L2.St → Hp → Prop} (G : Good K g σ H) (e2 : σ[i]? = some (some (.ref p))) (rv : Rep K g.As (hid g.M H) d v)
    (h : Ats K w (extTo i d) g σ H kf) : rExtend (.ref p) [v] H fun _ H' => ∃ g2, Good K g2 σ H' ∧ kf () g2 σ H' := by
  unfold Ats extTo at h
  cases e4 : g.ρ[i]? with
  | none => simp only [Gh.S, e4] at h
  | some s =>
    cases s with
    | ow z =>
      cases z with
      | lst ds1 =>
        cases d with
        | lst es =>
          simp only [Gh.S, e4] at h
          by_cases hz : ds1.length + es.length ≤ line
          · rw [if_pos hz] at h
            obtain ⟨vs1, h1, h2⟩ := ow_at G e4 e2
            obtain ⟨b, ws, rfl, h3, h4⟩ := rv
            exact ⟨p, b, vs1, ws, rfl, rfl, h1, (hid_of h3).2, line_le (by rw [h2.length, h4.length]; exact hz), app_core G e4 e2 (h2.append h4) h⟩
          · rw [if_neg hz] at h; exact h.elim
        | _ => simp only [Gh.S, e4] at h
      | _ => simp only [Gh.S, e4] at h
    | _ => simp only [Gh.S, e4] at h
theorem insTo_sem {K : PySem.W.Frag} {g : Gh} {σ : L2.St} {H : Hp} {d z : D} {u v : V} {p : Addr} {kf : Unit → Gh → L2.St → Hp → Prop} (G : Good K g σ H) (e2 : σ[i]? = some (some (.ref p))) (ru : Rep K g.As (hid g.M H) z u) (rv : Rep K g.As (hid g.M H) d v)
    (h : Ats K w (insTo i z d) g σ H kf) : ∃ (l : Addr) (xs : List V) (j : Int) (y : V), V.ref p = .ref l ∧ [u, v] = [.int j, y] ∧ H l = some (.lst xs) ∧ xs.length < sizeLine ∧ 0 ≤ j ∧ j < 2 ^ 63 ∧ ∃ g2, Good K g2 σ (upd H l (.lst (xs.take j.toNat ++ [y] ++ xs.drop j.toNat))) ∧ kf () g2 σ (upd H l (.lst (xs.take j.toNat ++ [y] ++ xs.drop j.toNat))) := by
  unfold Ats insTo at h
  cases e4 : g.ρ[i]? with
  | none => simp only [Gh.S, e4] at h
  | some s =>
    cases s with
    | ow t =>
      cases t with
      | lst ds1 =>
        cases z with
        | int j =>
          simp only [Gh.S, e4] at h
          by_cases hz : ds1.length < line ∧ 0 ≤ j ∧ j < 2 ^ 63
          · rw [if_pos hz] at h
            obtain ⟨vs1, h1, h2⟩ := ow_at G e4 e2
            obtain rfl : u = .int j := ru
            exact ⟨p, vs1, j, v, rfl, rfl, h1, line_lt (by rw [h2.length]; exact hz.1), hz.2.1, hz.2.2, app_core G e4 e2 (((h2.take _).append (.cons rv .nil)).append (h2.drop _)) h⟩
          · rw [if_neg hz] at h; exact h.elim
        | _ => simp only [Gh.S, e4] at h
      | _ => simp only [Gh.S, e4] at h
    | _ => simp only [Gh.S, e4] at h
theorem psz_app (ho : PE X (.Name y np) (tVar i)) (he : PE X e (Tr X.K w (evalE cl x)))
    (hbase : attributeBase (.Name y np) "append" X.env (eval (.Name y np) X.env) = eval (.Name y np) X.env := by rfl)
    (hfew : ((backTo cpos (starEach [e] X.env)).all (fun x => !x.1) && (backToKw cpos (keywordEach [] X.env)).all (fun x => x.1.isSome)
      && decide (([e] : List Expr).length + ([] : List Keyword).length + (if ([] : List Keyword).isEmpty then 0 else 1) < 30)) = true := by rfl)
    (hline : (apos.endLine == cpos.line) = true := by rfl) (hs : starEach [e] X.env = (false, eval e X.env) :: starEach [] X.env := by rfl) (hplain : (backTo cpos (starEach [] X.env)).any (·.1) = false := by rfl)
    (hsw : swapsWith (.Call (.Attribute (.Name y np) "append" apos) [e] [] cpos) none pos.line X.env = pure false := by rfl) :
    PS X (.Expr (.Call (.Attribute (.Name y np) "append" apos) [e] [] cpos) pos) (Ts X.K w (exec cl wf (.app i x))) := by
  refine (ps_expr (pe_bm PySem.F.plainAttrs_list PySem.F.slot_list_append PySem.F.type_list_append mt_append ho (pa_cons (Tr.dat he) pa_nil hs) hbase hfew hline hs hplain) hsw).weak fun D σ H ⟨g, G, q⟩ => ?_
  have q : Ats X.K w (ownL i >>= fun _ => dat (evalE cl x) >>= fun d => appTo i d >>= fun _ => Pure.pure Flow.nx) g σ H _ := q
  obtain ⟨ds, p, vs, e1, e2, e3, r, _, _, q1⟩ := At.ownL_ G (Ats.at_ (Ats.bind G q))
  refine ⟨.ref p, e2, .inl ⟨rfl, _, SqL.of e3⟩, g, G, (Ats.at_ (Ats.bind G q1)).imp fun d g1 H1 G1 E1 ⟨_, _, q2⟩ v rv => ?_⟩
  obtain ⟨l, xs, y, a, b, c, d', g2, G2, _, _, k2⟩ := appTo_sem G1 e2 rv (Ats.bind G1 q2)
  exact ⟨l, xs, y, a, b, c, d', Ats.pure_ G2 k2⟩
theorem psz_ext (ho : PE X (.Name y np) (tVar i)) (he : PE X e (Tr X.K w (evalE cl x)))
    (hbase : attributeBase (.Name y np) "extend" X.env (eval (.Name y np) X.env) = eval (.Name y np) X.env := by rfl)
    (hfew : ((backTo cpos (starEach [e] X.env)).all (fun x => !x.1) && (backToKw cpos (keywordEach [] X.env)).all (fun x => x.1.isSome)
      && decide (([e] : List Expr).length + ([] : List Keyword).length + (if ([] : List Keyword).isEmpty then 0 else 1) < 30)) = true := by rfl)
    (hline : (apos.endLine == cpos.line) = true := by rfl) (hs : starEach [e] X.env = (false, eval e X.env) :: starEach [] X.env := by rfl) (hplain : (backTo cpos (starEach [] X.env)).any (·.1) = false := by rfl)
    (hsw : swapsWith (.Call (.Attribute (.Name y np) "extend" apos) [e] [] cpos) none pos.line X.env = pure false := by rfl) :
    PS X (.Expr (.Call (.Attribute (.Name y np) "extend" apos) [e] [] cpos) pos) (Ts X.K w (exec cl wf (.ext i x))) := by
  refine (ps_expr (pe_bm PySem.F.plainAttrs_list PySem.F.slot_list_extend PySem.F.type_list_extend mt_extend ho (pa_cons (Tr.dat he) pa_nil hs) hbase hfew hline hs hplain) hsw).weak fun D σ H ⟨g, G, q⟩ => ?_
  have q : Ats X.K w (ownL i >>= fun _ => dat (evalE cl x) >>= fun d => extTo i d >>= fun _ => Pure.pure Flow.nx) g σ H _ := q
  obtain ⟨ds, p, vs, e1, e2, e3, r, _, _, q1⟩ := At.ownL_ G (Ats.at_ (Ats.bind G q))
  refine ⟨.ref p, e2, .inl ⟨rfl, _, SqL.of e3⟩, g, G, (Ats.at_ (Ats.bind G q1)).imp fun d g1 H1 G1 E1 ⟨_, _, q2⟩ v rv => ?_⟩
  obtain ⟨l, b, xs, zs, a, b', c, c', d', g2, G2, _, _, k2⟩ := extTo_sem G1 e2 rv (Ats.bind G1 q2)
  exact ⟨l, b, xs, zs, a, b', c, c', d', Ats.pure_ G2 k2⟩
theorem psz_ins (ho : PE X (.Name y np) (tVar i)) (hk : PE X k (Tr X.K w (evalE cl xk))) (he : PE X e (Tr X.K w (evalE cl x)))
    (hbase : attributeBase (.Name y np) "insert" X.env (eval (.Name y np) X.env) = eval (.Name y np) X.env := by rfl)
    (hfew : ((backTo cpos (starEach [k, e] X.env)).all (fun x => !x.1) && (backToKw cpos (keywordEach [] X.env)).all (fun x => x.1.isSome)
      && decide (([k, e] : List Expr).length + ([] : List Keyword).length + (if ([] : List Keyword).isEmpty then 0 else 1) < 30)) = true := by rfl)
    (hline : (apos.endLine == cpos.line) = true := by rfl) (hs : starEach [k, e] X.env = (false, eval k X.env) :: starEach [e] X.env := by rfl) (hs2 : starEach [e] X.env = (false, eval e X.env) :: starEach [] X.env := by rfl)
    (hplain : (backTo cpos (starEach [e] X.env)).any (·.1) = false := by rfl)
    (hsw : swapsWith (.Call (.Attribute (.Name y np) "insert" apos) [k, e] [] cpos) none pos.line X.env = pure false := by rfl) :
    PS X (.Expr (.Call (.Attribute (.Name y np) "insert" apos) [k, e] [] cpos) pos) (Ts X.K w (exec cl wf (.ins i xk x))) := by
  refine (ps_expr (pe_bm PySem.F.plainAttrs_list PySem.F.slot_list_insert PySem.F.type_list_insert mt_insert ho (pa_cons (Tr.dat hk) (pa_cons (Tr.dat he) pa_nil hs2) hs) hbase hfew hline hs hplain) hsw).weak fun D σ H ⟨g, G, q⟩ => ?_
  have q : Ats X.K w (ownL i >>= fun _ => dat (evalE cl xk) >>= fun z => dat (evalE cl x) >>= fun d => insTo i z d >>= fun _ => Pure.pure Flow.nx) g σ H _ := q
  obtain ⟨ds, p, vs, e1, e2, e3, r, _, _, q1⟩ := At.ownL_ G (Ats.at_ (Ats.bind G q))
  refine ⟨.ref p, e2, .inl ⟨rfl, _, SqL.of e3⟩, g, G, (Ats.at_ (Ats.bind G q1)).imp fun z g0 H0 G0 E0 ⟨_, _, q2⟩ u ru => ⟨g0, G0, (Ats.at_ (Ats.bind G0 q2)).imp fun d g1 H1 G1 E1 ⟨_, _, q2⟩ v rv => ?_⟩⟩
  obtain ⟨l, xs, j, y, a, b, c, c', d', e', g2, G2, _, _, k2⟩ := insTo_sem G1 e2 (E1.rep ru) rv (Ats.bind G1 q2)
  exact ⟨l, xs, j, y, a, b, c, c', d', e', Ats.pure_ G2 k2⟩
/-- o[k] = e -/
theorem setAt_sem {K : PySem.W.Frag} {g : Gh} {σ : L2.St} {H : Hp} {op : Opd} {z d : D} {vo vk v : V} {kf : Unit → Gh → L2.St → Hp → Prop} (G : Good K g σ H) (ro : RelO K g σ H op vo) (rk : Rep K g.As (hid g.M H) z vk) (rv : Rep K g.As (hid g.M H) d v)
    (h : Ats K w (setAt op z d) g σ H kf) : rSetL vo vk v H fun H' => ∃ g2, Good K g2 σ H' ∧ kf () g2 σ H' := by
  unfold Ats setAt at h
  cases op with
  | val _ => exact h.elim
  | slot i =>
    have ro : σ[i]? = some (some vo) := ro
    dsimp only [Gh.S] at h
    cases e4 : g.ρ[i]? with
    | none => simp only [e4] at h
    | some s =>
      cases s with
      | un => simp only [e4] at h
      | pu t =>
        cases t with
        | obj n =>
          simp only [e4] at h
          cases e5 : g.st[n]? with
          | none => simp only [e5] at h
          | some so =>
            cases so with
            | ins _ _ => simp only [e5] at h
            | lst ds =>
              simp only [e5] at h
              cases z with
              | int j =>
                simp only at h
                cases e6 : ixN ds.length j with
                | none => simp only [e6] at h
                | some m =>
                  simp only [e6] at h
                  obtain ⟨u, e7, a, eu, ea⟩ := G.slot i _ e4
                  rw [ro] at e7; cases e7
                  subst eu
                  obtain ⟨a', e8, vs, h1, h2⟩ := G.sto n _ e5
                  rw [ea] at e8; cases e8
                  obtain rfl : vk = .int j := rk
                  refine ⟨a, vs, j, m, rfl, rfl, h1, by rw [h2.length]; exact e6, ?_⟩
                  obtain ⟨G2, E2⟩ := G.mutS (so' := .lst (ds.set m d)) (o := .lst (vs.set m v)) e5 ea ⟨_, upd_same, h2.set rv m⟩
                  exact ⟨_, G2, h _ _ _ _ G2 E2⟩
              | _ => simp only at h
        | _ => simp only [e4] at h
      | ow t =>
        cases t with
        | lst ds =>
          simp only [e4] at h
          cases z with
          | int j =>
            simp only at h
            cases e6 : ixN ds.length j with
            | none => simp only [e6] at h
            | some m =>
              simp only [e6] at h
              obtain ⟨p, e7, mm, vs, h1, h2⟩ := G.slot i _ e4
              rw [ro] at e7; cases e7
              obtain rfl : vk = .int j := rk
              refine ⟨p, vs, j, m, rfl, rfl, h1, by rw [h2.length]; exact e6, ?_⟩
              exact app_core G e4 ro (h2.set rv m) h
          | _ => simp only at h
        | _ => simp only [e4] at h
theorem psz_setI {spos : Pos} (he : PE X e (Tr X.K w (evalE cl x))) (ho : PE X o (To X.K w (opdV xo (evalE cl xo)))) (hk : PE X k (Tr X.K w (evalE cl xk))) (hg : ∀ {to ti : TE}, PE X o to → PE X k ti → PG X (.Subscript o k spos) (gSub to ti rSetL) := by exact fun a b => pg_sub a b set_list)
    (hs : swapsWithSole [.Subscript o k spos] e pos.line X.env = pure false := by rfl) (hw : swappedStores [.Subscript o k spos] e X.env = pure none := by rfl) (h1 : (assignEach [.Subscript o k spos] X.env).map (·.2) = [assign (.Subscript o k spos) X.env] := by rfl) :
    PS X (.Assign [.Subscript o k spos] e pos) (Ts X.K w (exec cl wf (.setI xo xk x))) := by
  refine (ps_asg (Tr.dat he) (hg ho (Tr.dat hk)) hs hw h1).weak fun D σ H ⟨g, G, q⟩ => ⟨g, G, ?_⟩
  have q : Ats X.K w (dat (evalE cl x) >>= fun d => opdV xo (evalE cl xo) >>= fun o => dat (evalE cl xk) >>= fun z => setAt o z d >>= fun _ => Pure.pure Flow.nx) g σ H _ := q
  refine (Ats.at_ (Ats.bind G q)).imp fun d g1 H1 G1 E1 ⟨_, _, q1⟩ v rv => ⟨g1, G1, (Ats.at_ (Ats.bind G1 q1)).imp fun o' g2 H2 G2 E2 ⟨_, _, q2⟩ vo ro => ⟨g2, G2, (Ats.at_ (Ats.bind G2 q2)).imp fun z g3 H3 G3 E3 ⟨_, _, q3⟩ vk rk => ?_⟩⟩
  have q4 := setAt_sem G3 (ro.ext E3) rk (E3.rep (E2.rep rv)) (Ats.bind G3 q3)
  obtain ⟨p, xs, kk, j, a, b, c, d', g4, G4, _, _, q5⟩ := q4
  exact ⟨p, xs, kk, j, a, b, c, d', Ats.pure_ G4 q5⟩
end
end Z

/-! Z17: loops; defs. -/
namespace Z
open PySem PySem.Spec PyProof.Rows L2
section
variable {K : PySem.W.Frag} {w : WX} {cl : CallT} {wf : Nat}
theorem Ats.later {α : Type} {g : Gh} {σ : L2.St} {H H2 : Hp} {m : M α} {k : α → Gh → L2.St → Hp → Prop} (G : Good K g σ H) (e : Ext g σ H g σ H2) (h : Ats K w m g σ H k) : Ats K w m g σ H2 k := by
  unfold Ats at h ⊢
  cases q : m g.S with
  | bad => rw [q] at h; exact h
  | exc c fs s' => rw [q] at h; exact fun σ' As' M' H' G' E' => h σ' As' M' H' G' (e.trans G E')
  | ok a s1 => rw [q] at h; exact fun σ' As' M' H' G' E' => h σ' As' M' H' G' (e.trans G E')
/-- THE FOR -/
theorem for_sem {tg : Tg} {ik : IK} {src : List Ex} {body : List Sm} {D : Ends} {σ : L2.St} {H : Hp} (h : Ts K w (exec cl wf (.forE tg ik src body)) D σ H) :
    tFor (Ti K w (srcM cl ik src)) (Tgt K tg) (Ts K w (execs cl wf body)) D σ H := by
  obtain ⟨g, G, q⟩ := h
  have e : exec cl wf (.forE tg ik src body) = (srcM cl ik src >>= fun xs => forLoop tg (execs cl wf body) xs) := by
    unfold srcM
    rw [M.assoc]
    rfl
  rw [e] at q
  refine ⟨g, G, (Ats.at_ (Ats.bind G q)).imp fun xs g1 H1 G1 E1 ⟨_, _, q1⟩ J wk => ?_⟩
  let W : Nat → Nat → L2.St → Hp → Prop := fun i m σ' H' => m = xs.length - i ∧ i ≤ xs.length ∧ ∃ g', Good K g' σ' H' ∧ Ext g1 σ H1 g' σ' H' ∧ Ats K w (forLoop tg (execs cl wf body) (xs.drop i)) g' σ' H' (fin K H D)
  refine ⟨W, ⟨_, rfl, Nat.zero_le _, g1, G1, Ext.refl, q1⟩, ?_⟩
  rintro i m σ' H' ⟨hm, hi, g', G', E', q'⟩
  obtain ⟨wgo, wstop, wyld⟩ := wk _ _ H' G' E'.asget E'.same
  by_cases hlt : i < xs.length
  · refine .inr ⟨wgo i hlt, fun σ'' H'' => W (i + 1) (xs.length - (i + 1)) σ'' H'', fun σ'' H'' h => ⟨_, by omega, h⟩, fun x H2 hy => ?_⟩
    obtain ⟨d, hd, hH2, rd⟩ := wyld i x H2 hlt hy
    have hdrop : xs.drop i = d :: xs.drop (i + 1) := by
      rw [List.drop_eq_getElem_cons hlt]
      have : xs[i] = d := by
        rw [List.getElem?_eq_getElem hlt] at hd
        exact Option.some.inj hd
      rw [this]
    have at2 : Good K g' σ' H2 ∧ Ext g' σ' H' g' σ' H2 := by
      rcases hH2 with e | ⟨T, o, hT, e⟩
      · subst e; exact ⟨G', Ext.refl⟩
      · subst e; exact ⟨G'.alloc hT, Ext.alloc G' hT⟩
    obtain ⟨G2, E2⟩ := at2
    rw [hdrop] at q'
    have q' : Ats K w (bindT tg d >>= fun _ => execs cl wf body >>= fun f => (match f with
      | .nx => forLoop tg (execs cl wf body) (xs.drop (i + 1))
      | .cont => forLoop tg (execs cl wf body) (xs.drop (i + 1))
      | .brk => Pure.pure .nx
      | .ret r => Pure.pure (.ret r))) g' σ' H' (fin K H D) := q'
    refine tgt_mono (bindT_sem G2 rd (Ats.bind G2 (q'.later G' E2))) fun σ2 H3 ⟨eH, _, g3, _, _, G3, E3, _, _, q3⟩ => ?_
    subst eH
    refine ⟨g3, G3, (Ats.bind G3 q3).imp fun f g4 σ4 H4 G4 E4 ⟨_, _, q4⟩ => ?_⟩
    have Etot : Ext g1 σ H1 g4 σ4 H4 := ((E'.trans G1 E2).trans G1 E3).trans G1 E4
    cases f with
    | nx => exact ⟨rfl, hlt, g4, G4, Etot, q4⟩
    | cont => exact ⟨rfl, hlt, g4, G4, Etot, q4⟩
    | brk =>
      show D.nx σ4 H4
      exact Ats.pure_ (w := w) (a := Flow.nx) G4 q4
    | ret r =>
      have q5 : ∀ v, RetR K H g4 σ4 H4 r v → D.rt v H4 := Ats.pure_ (w := w) (a := Flow.ret r) G4 q4
      exact fun v rv => q5 v (rv.older (((E1.trans G E').trans G E2).trans G E3))
  · have e : i = xs.length := by omega
    subst e
    refine .inl ⟨wstop _ (Nat.le_refl _), ?_⟩
    rw [List.drop_length] at q'
    exact Ats.pure_ (w := w) (a := Flow.nx) G' q'
/-- THE WHILE -/
theorem while_sem {xc : Ex} {body : List Sm} {D : Ends} {σ : L2.St} {H : Hp} (h : Ts K w (exec cl wf (.whil xc body)) D σ H) : tWhile (Tt K w (asB (evalE cl xc))) (Ts K w (execs cl wf body)) D σ H := by
  obtain ⟨g, G, q⟩ := h
  have q : Ats K w (whileLoop (asB (evalE cl xc)) (execs cl wf body) wf) g σ H (fin K H D) := q
  let W : Nat → L2.St → Hp → Prop := fun n σ' H' => ∃ g', Good K g' σ' H' ∧ Ext g σ H g' σ' H' ∧ Ats K w (whileLoop (asB (evalE cl xc)) (execs cl wf body) n) g' σ' H' (fin K H D)
  refine ⟨W, ⟨wf, g, G, Ext.refl, q⟩, ?_⟩
  rintro n σ' H' ⟨g', G', E', q'⟩
  cases n with
  | zero => exact q'.elim
  | succ n =>
    have q' : Ats K w (asB (evalE cl xc) >>= fun b => if b = true then (execs cl wf body >>= fun f => (match f with
      | .nx => whileLoop (asB (evalE cl xc)) (execs cl wf body) n
      | .cont => whileLoop (asB (evalE cl xc)) (execs cl wf body) n
      | .brk => Pure.pure .nx
      | .ret r => Pure.pure (.ret r))) else Pure.pure .nx) g' σ' H' (fin K H D) := q'
    refine ⟨g', G', (Ats.at_ (Ats.bind G' q')).imp fun b g1 H1 G1 E1 ⟨_, _, q1⟩ => ?_⟩
    have Eg1 : Ext g σ H g1 σ' H1 := E'.trans G E1
    cases b with
    | false => exact iteF (Ats.pure_ (w := w) (a := Flow.nx) G1 q1)
    | true =>
      have q1 : Ats K w (execs cl wf body >>= fun f => (match f with
        | .nx => whileLoop (asB (evalE cl xc)) (execs cl wf body) n
        | .cont => whileLoop (asB (evalE cl xc)) (execs cl wf body) n
        | .brk => Pure.pure .nx
        | .ret r => Pure.pure (.ret r))) g1 σ' H1 (fin K H D) := q1
      refine iteT ⟨fun σ2 H2 => W n σ2 H2, fun σ2 H2 h => ⟨n, Nat.lt_succ_self n, h⟩, g1, G1, (Ats.bind G1 q1).imp fun f g4 σ4 H4 G4 E4 ⟨_, _, q4⟩ => ?_⟩
      have Etot : Ext g σ H g4 σ4 H4 := Eg1.trans G E4
      cases f with
      | nx => exact ⟨g4, G4, Etot, q4⟩
      | cont => exact ⟨g4, G4, Etot, q4⟩
      | brk =>
        show D.nx σ4 H4
        exact Ats.pure_ (w := w) (a := Flow.nx) G4 q4
      | ret r =>
        have q5 : ∀ v, RetR K H g4 σ4 H4 r v → D.rt v H4 := Ats.pure_ (w := w) (a := Flow.ret r) G4 q4
        exact fun v rv => q5 v (rv.older Eg1)
end
section
variable {X : Cx} {w : WX} {cl : CallT} {wf : Nat} {tgE iter c : Expr} {body : List Stmt} {pos : Pos} {tg : Tg} {ik : IK} {src : List Ex} {sb : List Sm} {xc : Ex}
theorem psz_for (hp : PassesOwn (model X.prog X.w) X.A X.env X.xe) (hc : X.calm = true) (hi : PI X tgE iter (Ti X.K w (srcM cl ik src))) (hg : PG X tgE (Tgt X.K tg)) (hb : PSs X body (Ts X.K w (execs cl wf sb)))
    (hs : ∀ x, foldedSetIterable iter X.env x = pure x := by intro _; rfl) : PS X (.For tgE iter body [] pos) (Ts X.K w (exec cl wf (.forE tg ik src sb))) := (ps_for hp hc hi hg hb hs).weak fun D σ H h => for_sem h
theorem psz_while (hp : PassesOwn (model X.prog X.w) X.A X.env X.xe) (hc : PT X c (Tt X.K w (asB (evalE cl xc)))) (hb : PSs X body (Ts X.K w (execs cl wf sb))) : PS X (.While c body [] pos) (Ts X.K w (exec cl wf (.whil xc sb))) :=
  (ps_while hp hc hb).weak fun D σ H h => while_sem h
/-! ### targets, as judgements -/
theorem pgz_nm {x : Str} (i : Nat) (hN : X.N.Nodup) (hi : X.N[i]? = some x := by rfl) (hx : Loc X.env.scope x := by first | exact .inl rfl | exact .inr rfl) (hf : X.fn x = true ∨ X.env.scope.names.lookup x = some .local := by first | exact .inl rfl | exact .inr rfl) : PG X (.Name x pos) (Tgt X.K (.nm i)) := by
  have := pg_name (pos := pos) hN hi hx hf
  unfold Tgt
  exact this
theorem pgzs_nil : PGs X [] (Tgts X.K []) := by unfold Tgts; exact pgs_nil
theorem pgzs_cons {e : Expr} {es : List Expr} {t : Tg} {ts : List Tg} (h1 : PG X e (Tgt X.K t)) (h2 : PGs X es (Tgts X.K ts)) (hs : (assignEach (e :: es) X.env).map (·.2) = assign e X.env :: (assignEach es X.env).map (·.2) := by rfl) : PGs X (e :: es) (Tgts X.K (t :: ts)) := by
  have := pgs_cons h1 h2 hs
  unfold Tgts
  exact this
theorem pgz_tup {es : List Expr} {k : Nat} {ts : List Tg} (hc : X.calm = true) (h : PGs X es (Tgts X.K ts)) (hn : (assignEach es X.env).length = ts.length := by rfl) (hst : (assignEach es X.env).findIdx? (·.1) = none := by rfl) : PG X (.Tuple es k pos) (Tgt X.K (.tup ts)) := by
  have := pg_tup (pos := pos) (k := k) hc h hn hst
  unfold Tgt
  exact this
end
/-! ### a def -/
def wE (K : PySem.W.Frag) (cls : Nat → Value) (E : XK) : WX := fun c fs g' H' => ∀ C dx, XRel K cls g' H' c fs C dx → E C dx H'
theorem wE_E {K : PySem.W.Frag} {cls : Nat → Value} {E : XK} : ∀ c fs g' H' C dx, wE K cls E c fs g' H' → XRel K cls g' H' c fs C dx → E C dx H' := fun _ _ _ _ C dx h x => h C dx x
theorem wN_E {K : PySem.W.Frag} {cls : Nat → Value} {E : XK} : ∀ c fs g' H' C dx, wN c fs g' H' → XRel K cls g' H' c fs C dx → E C dx H' := fun _ _ _ _ _ _ h _ => h.elim
theorem Good.noslots {K : PySem.W.Frag} {ρ : List Slot} {st : List SO} {As M : List Addr} {σ : L2.St} {H : Hp} (G : Good K ⟨ρ, st, As, M⟩ σ H) : Good K ⟨[], st, As, M⟩ [] H :=
  ⟨rfl, fun i s e => by simp at e, fun i j d d' p e => by simp at e, fun p ⟨i, d, e, _⟩ => by simp at e, G.sto, G.asl, G.asn, G.asm, G.trk⟩
theorem Ext.noslots {g : Gh} {ρ1 : List Slot} {st : List SO} {As M : List Addr} {σ σ1 σ0 : L2.St} {H H1 : Hp} {ρ0 : List Slot} (n0 : ∀ p, ¬ Own ρ0 σ0 p) (E : Ext { g with ρ := ρ0 } σ0 H ⟨ρ1, st, As, M⟩ σ1 H1) : Ext g σ H ⟨[], st, As, M⟩ [] H1 :=
  ⟨E.pre, E.vis, fun p hp hA _ => E.kep p hp hA (n0 p), E.trk, fun p ⟨i, d, e, _⟩ => by simp at e⟩
theorem fn_ok {P : Program} {w : World} {K : PySem.W.Frag} {mg : Str → Option Value} {base : Heap} {CX : CXT} {x qual : Str} {params : Arguments} {body : List Stmt} {scope : Scope} {dvs : List V} {kws : List (Str × V)} {f : Addr} {fd : FuncData} {N ps : List Str} {n fid wf : Nat}
    {cls : Nat → Value} {fns : List FnD} {fnd : FnD} (F : FunD K x qual params body scope dvs kws f fd) (S : FnScope N ps scope) (hf : fns[fid]? = some fnd) (hn : fnd.n = N.length) (hp : fnd.np = ps.length)
    (hD : ∀ (cdv : Value) (A : Around) (outer : List Env) (s : Shared) (H : Hp) (E : XK), Room n (A.deeper (envOfC qual scope s.heap.objs.size f cdv)) →
      PSs (cxOf CX P w K mg base N qual scope f cdv A outer s H E) body (Ts K (wE K cls E) (execs (callF fns wf n) wf fnd.body))) :
    FnOk P w K mg base CX (n + 1) f fd ps (spz K cls (callF fns wf (n + 1)) fid ps.length) := by
  refine F.ok S (fun vs H Q E h => h.1) (fun cdv A outer s H vs Q E hr h => ⟨_, hD cdv A outer s H E hr, ?_⟩)
  obtain ⟨hl, g, ds, hρ, G, hc⟩ := h
  have hdl : ds.length = ps.length := by
    have := G.len
    rw [hρ, List.length_map, List.length_map] at this
    omega
  have ec : callF fns wf (n + 1) fid ds g.st = runFn (callF fns wf n) wf fnd ds g.st := by
    show (match fns[fid]? with | some d => runFn (callF fns wf n) wf d ds g.st | none => .bad) = _
    rw [hf]
  rw [ec] at hc
  unfold runFn at hc
  rw [if_pos (by rw [hp]; exact hdl)] at hc
  let ρ0 : List Slot := ds.map .pu ++ List.replicate (fnd.n - fnd.np) Slot.un
  have hpl : ps.length ≤ N.length := by
    have := congrArg List.length S.pre
    rw [List.length_take] at this
    omega
  have no0 : ∀ p, ¬ Own ρ0 (L2.start N vs) p := fun p ⟨i, d, h1, _⟩ => by
    have hm := List.mem_of_getElem? h1
    rcases List.mem_append.mp hm with z | z
    · obtain ⟨y, _, e⟩ := List.mem_map.mp z; cases e
    · have := (List.mem_replicate.mp z).2; cases this
  have G0 : Good K { g with ρ := ρ0 } (L2.start N vs) H := by
    refine ⟨?_, fun i s e => ?_, fun i j d d' p h1 _ h3 _ => absurd ⟨i, d, h1, h3⟩ (no0 p), fun p h => absurd h (no0 p), G.sto, G.asl, G.asn, G.asm, G.trk⟩
    · show (ds.map Slot.pu ++ List.replicate (fnd.n - fnd.np) Slot.un).length = (vs.map some ++ List.replicate (N.length - vs.length) none).length
      simp [hn, hp, hdl, hl]
    · have e : (ds.map Slot.pu ++ List.replicate (fnd.n - fnd.np) Slot.un)[i]? = some s := e
      by_cases hi : i < ds.length
      · rw [List.getElem?_append_left (by simpa using hi)] at e
        have q := G.slot i s (by rw [hρ]; exact e)
        have e2 : (L2.start N vs)[i]? = (vs.map some)[i]? := by
          unfold L2.start
          rw [List.getElem?_append_left (by simp; omega)]
        rw [e2]
        exact q
      · rw [List.getElem?_append_right (by simpa using hi)] at e
        have := (List.mem_replicate.mp (List.mem_of_getElem? e)).2
        subst this
        trivial
  refine ⟨{ g with ρ := ρ0 }, G0, ?_⟩
  unfold Ats
  have hS : ({ g with ρ := ρ0 } : Gh).S = ⟨ds.map .pu ++ List.replicate (fnd.n - fnd.np) Slot.un, g.st⟩ := rfl
  rw [hS]
  cases er : execs (callF fns wf n) wf fnd.body ⟨ds.map .pu ++ List.replicate (fnd.n - fnd.np) Slot.un, g.st⟩ with
  | bad => rw [er] at hc; exact hc
  | exc c fs s' =>
    rw [er] at hc
    intro σ' As' M' H' G' E' C dx xr
    exact hc C dx As' M' H' G'.noslots (E'.noslots no0) xr
  | ok fl s' =>
    rw [er] at hc
    intro σ' As' M' H' G' E'
    cases fl with
    | brk => exact hc.elim
    | cont => exact hc.elim
    | nx => exact hc .non As' M' H' G'.noslots (E'.noslots no0) rfl
    | ret r =>
      intro v rv
      refine hc v As' M' H' G'.noslots (E'.noslots no0) ?_
      unfold RetR at rv
      unfold RelR
      split
      · rename_i hfr
        rw [if_pos hfr] at rv
        obtain ⟨p, e1, o, m, a, c⟩ := rv
        refine ⟨p, e1, ?_, m, a, fun ⟨i, d, e, _⟩ => by simp at e, c⟩
        rcases o with o | o
        · rcases E'.own p o with z | z
          · exact absurd z (no0 p)
          · exact z
        · exact o
      · rename_i hfr
        rw [if_neg hfr] at rv
        exact rv
end Z

/-! Z23: sorted; lists and tuples of ranges. -/
namespace Z
open PySem PySem.Spec PyProof.Rows L2
section
variable {X : Cx}
/-- the pairs of what stands and what it tells, in order -/
def srt (xs : List V) (ds : List D) : List (V × D) := (xs.zip ds).mergeSort (PySem.W.dataLe false fun b => toP b.2)
def rSortZ (K : PySem.W.Frag) : List V → Hp → VK → Prop := fun vs H Q => ∃ (a : Addr) (xs : List V) (ds : List D), vs = [V.ref a] ∧ SqL K H a xs ∧ xs.length = ds.length ∧ (1 < ds.length → DpAll K H xs (toPs ds)) ∧ sortOk ds = true ∧
  ∀ p, H p = none → Q (.ref p) (upd H p (.lst ((srt xs ds).map (·.1))))
theorem toPs_map : ∀ ds : List D, toPs ds = ds.map toP
  | [] => rfl
  | d :: ds => by rw [List.map_cons, ← toPs_map ds]; rfl
theorem each_zip {s : Shared} : ∀ {its : List Value} {xs : List V} {ds : List D}, Vals xs its → xs.length = ds.length → PySem.W.EachIs (fun v (b : V × D) => RelV b.1 v) its (xs.zip ds)
  | _, _, [], .nil, _ => .nil
  | _, _, d :: ds, .cons r t, h => .cons r (each_zip (s := s) t (by simpa using h))
  | _, _, _ :: _, .nil, h => by simp at h
  | _, _, [], .cons r t, h => by simp at h
theorem vals_each : ∀ {its : List Value} {bs : List (V × D)}, PySem.W.EachIs (fun v (b : V × D) => RelV b.1 v) its bs → Vals (bs.map (·.1)) its
  | _, _, .nil => .nil
  | _, _, .cons r t => .cons r (vals_each t)
theorem reads_zip {pins : List (Addr × Obj)} {s : Shared} {σ : L2.St} {H : Hp} (I : Inv X pins σ H s) : ∀ {its : List Value} {xs : List V} {ds : List D}, Vals xs its → xs.length = ds.length → DpAll X.K H xs (toPs ds) → PySem.W.EachIs (fun v (b : V × D) => ∃ as, Reads s.heap v (toP b.2) as) its (xs.zip ds)
  | _, _, [], .nil, _, _ => .nil
  | _, _, d :: ds, .cons r t, h, hd => by
    cases hd with
    | cons h1 h2 => exact .cons (Dp.reads I _ _ _ h1 r) (reads_zip I t (by simpa using h) h2)
  | _, _, _ :: _, .nil, h, _ => by simp at h
  | _, _, [], .cons r t, h, _ => by simp at h
theorem zip_snd {xs : List V} {ds : List D} (h : xs.length = ds.length) : (xs.zip ds).map (·.2) = ds := by
  rw [List.map_snd_zip]
  omega
theorem cr_sortedZ (hu : X.A.units + 65 < cLine) : CallR X (.builtin "sorted") (rSortZ X.K) := by
  intro pins s σ H vs us Q I r h
  obtain ⟨a, xs, ds, rfl, hs, hl, hd, ok, q⟩ := h
  obtain ⟨its, rv, pl, hz⟩ := I.list hs
  rw [Vals.ref1 r]
  have hil : its.length = xs.length := rv.length.symm
  by_cases h1 : ds.length ≤ 1
  · refine SrtO.sorted_ord SrtO.swo_int pl.isList (by omega) (fun h2 => absurd h2 (by omega)) fun out o1 o2 => ?_
    have eo : out = its := by
      have p := o2.perm
      match its, hil, p with
      | [], _, p => exact p.eq_nil
      | [v], _, p => exact List.perm_singleton.mp p
      | _ :: _ :: _, hil, _ => exact absurd hil (by simp; omega)
    have es : (srt xs ds).map (·.1) = xs := by
      unfold srt
      match xs, ds, hl, h1 with
      | [], [], _, _ => simp
      | [x], [d], _, _ => simp
      | _, _ :: _ :: _, _, h1 => exact absurd h1 (by simp)
      | [], [d], h, _ => simp at h
      | _ :: _, [], h, _ => simp at h
      | _ :: _ :: _, [d], h, _ => simp at h
    subst eo
    obtain ⟨ep, he'⟩ := PyProof.Rows.sortedAll_at s.heap out out.toArray
    refine ⟨.ref _, upd H (s.heap.objs.size + 1) (.lst xs), I.laid (t' := s.toks) (fun _ _ => PyProof.Rows.sortedAll_old) (Nat.le_succ _) ⟨hz, out, ep, rv, he'⟩, rfl, ?_⟩
    have := q (s.heap.objs.size + 1) (I.hok.fresh (Nat.le_succ _))
    rw [es] at this
    exact this
  · have ok : (plains ds && ds.all fun d => decide ((toP d).depth ≤ 60)) = true ∧ (alikeD ds && (ds.all isT1 || ds.all isB1)) = true := by
      unfold sortOk at ok
      rw [decide_eq_false h1, Bool.false_or, Bool.and_eq_true] at ok
      exact ok
    obtain ⟨ok1, ok2⟩ := ok
    rw [Bool.and_eq_true] at ok1 ok2
    have em : (xs.zip ds).map (fun b => toP b.2) = ds.map toP := by
      have := congrArg (List.map toP) (zip_snd hl)
      rw [List.map_map] at this
      exact this
    refine PySem.W.sorted_data (bs := xs.zip ds) (enc := fun b => toP b.2) pl.isList (each_zip (s := s) rv hl) (reads_zip I rv hl (hd (by omega))) ?_ ?_ ?_ (fun b hb => ?_) fun out lo ho => ?_
    · rw [em]
      intro d hd d' hd'
      obtain ⟨e, he, rfl⟩ := List.mem_map.mp hd
      obtain ⟨e', he', rfl⟩ := List.mem_map.mp hd'
      exact List.all_eq_true.mp (List.all_eq_true.mp ok2.1 e he) e' he'
    · rw [em]
      rcases Bool.or_eq_true _ _ ▸ ok2.2 with h | h
      · refine .inl fun d hd => ?_
        obtain ⟨e, he, rfl⟩ := List.mem_map.mp hd
        have := List.all_eq_true.mp h e he
        match e, this with
        | .tup (x :: r), _ => exact ⟨toP x, toPs r, rfl⟩
      · refine .inr fun d hd => ?_
        obtain ⟨e, he, rfl⟩ := List.mem_map.mp hd
        have hb := List.all_eq_true.mp h e he
        have hp : plain e = true := by
          have : ∀ {ds : List D}, plains ds = true → ∀ e ∈ ds, plain e = true := by
            intro ds
            induction ds with
            | nil => intro _ e he; cases he
            | cons d ds ih =>
              intro h e he
              have h : (plain d && plains ds) = true := h
              rw [Bool.and_eq_true] at h
              rcases List.mem_cons.mp he with rfl | he
              · exact h.1
              · exact ih h.2 e he
          exact this ok1.1 e he
        cases e with
        | none => cases hb
        | tup _ => cases hb
        | dic _ _ => cases hp
        | obj _ => cases hp
        | scr _ => cases hp
        | bl b => exact ⟨fun z => (by cases z), fun xs z => (by cases z)⟩
        | int b => exact ⟨fun z => (by cases z), fun xs z => (by cases z)⟩
        | str b => exact ⟨fun z => (by cases z), fun xs z => (by cases z)⟩
        | lst b => exact ⟨fun z => (by cases z), fun xs z => (by cases z)⟩
    · rw [List.length_zip]; omega
    · have hm : b.2 ∈ ds := (List.of_mem_zip (show (b.1, b.2) ∈ xs.zip ds from hb)).2
      have := of_decide_eq_true (List.all_eq_true.mp ok1.2 b.2 hm)
      omega
    · have hlen : ((srt xs ds).map (·.1)).length ≤ sizeLine := by
        unfold srt
        rw [List.length_map, List.length_mergeSort, List.length_zip]
        omega
      obtain ⟨ep, he'⟩ := PyProof.Rows.sortedAll_at s.heap its out.toArray
      exact ⟨.ref _, upd H (s.heap.objs.size + 1) (.lst ((srt xs ds).map (·.1))), I.laid (t' := s.toks) (fun _ _ => PyProof.Rows.sortedAll_old) (Nat.le_succ _) ⟨hlen, out, ep, vals_each ho, he'⟩, rfl, q _ (I.hok.fresh (Nat.le_succ _))⟩
/-- a pair's parts stand as they were, in order -/
theorem reps_pairs {K : PySem.W.Frag} {As : List Addr} {H : Hp} : ∀ {l : List (V × D)}, (∀ b ∈ l, Rep K As H b.2 b.1) → Reps K As H (l.map (·.2)) (l.map (·.1))
  | [], _ => rfl
  | b :: l, h => .cons (h b List.mem_cons_self) (reps_pairs fun c hc => h c (List.mem_cons_of_mem _ hc))
theorem reps_zip {K : PySem.W.Frag} {As : List Addr} {H : Hp} : ∀ {ds : List D} {xs : List V}, Reps K As H ds xs → ∀ b ∈ xs.zip ds, Rep K As H b.2 b.1
  | [], xs, h, b, hb => by
    rw [List.zip_nil_right] at hb
    cases hb
  | d :: ds, xs, h, b, hb => by
    obtain ⟨v, ws, rfl, h1, h2⟩ := h
    rw [List.zip_cons_cons] at hb
    rcases List.mem_cons.mp hb with rfl | hb
    · exact h1
    · exact reps_zip h2 b hb
theorem srt_reps {K : PySem.W.Frag} {As : List Addr} {H : Hp} {ds : List D} {xs : List V} (h : Reps K As H ds xs) : Reps K As H (ds.mergeSort leD) ((srt xs ds).map (·.1)) := by
  have e : ds.mergeSort leD = (srt xs ds).map (·.2) := by
    have := List.map_mergeSort (r := fun a b : V × D => leD a.2 b.2) (s := leD) (f := fun b : V × D => b.2) (l := xs.zip ds) (fun a _ b _ => rfl)
    rw [zip_snd h.length] at this
    exact this.symm
  rw [e]
  refine reps_pairs fun b hb => reps_zip h b ?_
  unfold srt at hb
  exact List.mem_mergeSort.mp hb
end
section
variable {X : Cx} {w : WX} {cl : CallT} {e e2 : Expr} {x x2 : Ex} {xs : List Ex} {p p2 pos pos2 : Pos}
theorem pz_sorted (hu : X.A.units + 65 < cLine) (hg : Gl X "sorted") (hm : X.mg "sorted" = none) (ha : PA X [e] (Tos X.K w (evalOs cl xs)))
    (he : starEach [e] X.env = (false, eval e X.env) :: starEach [] X.env := by rfl) (hpl : (backTo pos (starEach [] X.env)).any (·.1) = false := by rfl) : PE X (.Call (.Name "sorted" p) [e] [] pos) (Tr X.K w (evalE cl (.blt .sorted xs))) := by
  refine blt_of (pe_callB (cr_sortedZ hu) hg hm (by decide +kernel) ha (by decide) (by decide) he hpl) fun g0 g σ H0 H ds vs r Q E0 G rb h q => ?_
  obtain ⟨d, rfl, h⟩ := on1_ h
  obtain ⟨v, rfl, rv⟩ := bs1 rb
  cases d with
  | lst ds =>
    have h : (if sortOk ds = true then some ((D.lst (ds.mergeSort leD), true) : Rs) else none) = some r := h
    split at h
    · rename_i ok
      cases h
      obtain ⟨a, ws, rfl, h1, h2⟩ := rv
      refine ⟨a, ws, ds, rfl, SqL.of h1, h2.length, fun hl => ?_, ok, fun l hl => At.lstR E0 G (srt_reps h2) hl q⟩
      have hp : plains ds = true := by
        unfold sortOk at ok
        rw [decide_eq_false (by omega), Bool.false_or, Bool.and_eq_true, Bool.and_eq_true] at ok
        exact ok.1.1
      exact Reps.dp h2 hp
    · cases h
  | _ => cases h
theorem blt1_at {K : PySem.W.Frag} {b : Blt} {g : Gh} {σ : L2.St} {H : Hp} {k : Rs → Gh → Hp → Prop} (G : Good K g σ H) (h : At K w (evalE cl (.blt b [x])) g σ H k) :
    At K w (opdV x (evalE cl x)) g σ H fun o g1 H1 => ∀ v, RelO K g1 σ H1 o v → ∃ d, RepB K g1.As (hid g1.M H1) H1 d v ∧ Good K g1 σ H1 ∧ Ext g σ H g1 σ H1 ∧ At K w (stO (fun st => bltD st b [d]) : M Rs) g1 σ H1 k := by
  have e : evalE cl (.blt b [x]) = (do let o ← opdV x (evalE cl x); let d ← res o; stO fun st => bltD st b [d]) := by
    show ((opdV x (evalE cl x) >>= fun d => (Pure.pure [] : M (List Opd)) >>= fun ds => Pure.pure (d :: ds)) >>= fun os => ress os >>= fun ds => stO fun st => bltD st b ds) = _
    rw [M.assoc]
    refine M.congr fun o => ?_
    show (Pure.pure [o] >>= fun os => ress os >>= fun ds => stO fun st => bltD st b ds) = _
    rw [M.pure_bind]
    show ((res o >>= fun d => (Pure.pure [] : M (List D)) >>= fun ds => Pure.pure (d :: ds)) >>= fun ds => stO fun st => bltD st b ds) = _
    rw [M.assoc]
    rfl
  rw [e] at h
  exact At.op1 G h
theorem rgOk_ok {a b : Int} (h : rgOk a b = true) : RgOk a b := by
  unfold rgOk at h
  unfold RgOk
  simpa using h
theorem rg_reps {K : PySem.W.Frag} {As : List Addr} {H : Hp} (a b : Int) : Reps K As H (rgD a b) (rgV a b) := by
  have : ∀ l : List Nat, Reps K As H (l.map fun (k : Nat) => D.int (a + (k : Int))) (l.map fun (k : Nat) => V.int (a + (k : Int))) := by
    intro l
    induction l with
    | nil => rfl
    | cons n l ih => exact .cons rfl ih
  exact this _
theorem pz_lrg1 (hc : X.calm = true) (hg : Gl X "list") (hm : X.mg "list" = none) (hg2 : Gl X "range") (hm2 : X.mg "range" = none) (ha : PE X e (To X.K w (opdV x (evalE cl x))))
    (na : starEach [e] X.env = (false, eval e X.env) :: starEach [] X.env := by rfl) (na2 : starEach [.Call (.Name "range" p2) [e] [] pos2] X.env = (false, eval (.Call (.Name "range" p2) [e] [] pos2) X.env) :: starEach [] X.env := by rfl) :
    PE X (.Call (.Name "list" p) [.Call (.Name "range" p2) [e] [] pos2] [] pos) (Tr X.K w (evalE cl (.blt .lrg1 [x]))) := by
  refine (pe_listRg hc hg hm (prg_1 hg2 hm2 ha na) na2).weak fun σ H Q ⟨g, G, q⟩ => ⟨g, G, (blt1_at G q).imp fun o g1 H1 _ _ q1 v rv => ?_⟩
  obtain ⟨d, rd, G1, E1, q2⟩ := q1 v rv
  obtain ⟨r, er, q3⟩ := At.stO_ q2
  have er : lrg1D d = some r := er
  cases d with
  | int n =>
    obtain rfl : v = .int n := rd
    have er : (if rgOk 0 n = true then some ((D.lst (rgD 0 n), true) : Rs) else none) = some r := er
    split at er
    · rename_i ok
      cases er
      exact ⟨n, rfl, rgOk_ok ok, fun l hl => At.lstR E1 G1 (rg_reps 0 n) hl q3⟩
    · cases er
  | _ => cases er
theorem pz_trg1 (hc : X.calm = true) (hg : Gl X "tuple") (hm : X.mg "tuple" = none) (hg2 : Gl X "range") (hm2 : X.mg "range" = none) (ha : PE X e (To X.K w (opdV x (evalE cl x))))
    (na : starEach [e] X.env = (false, eval e X.env) :: starEach [] X.env := by rfl) (na2 : starEach [.Call (.Name "range" p2) [e] [] pos2] X.env = (false, eval (.Call (.Name "range" p2) [e] [] pos2) X.env) :: starEach [] X.env := by rfl) :
    PE X (.Call (.Name "tuple" p) [.Call (.Name "range" p2) [e] [] pos2] [] pos) (Tr X.K w (evalE cl (.blt .trg1 [x]))) := by
  refine (pe_tupRg hc hg hm (prg_1 hg2 hm2 ha na) na2).weak fun σ H Q ⟨g, G, q⟩ => ⟨g, G, (blt1_at G q).imp fun o g1 H1 _ _ q1 v rv => ?_⟩
  obtain ⟨d, rd, G1, E1, q2⟩ := q1 v rv
  obtain ⟨r, er, q3⟩ := At.stO_ q2
  have er : trg1D d = some r := er
  cases d with
  | int n =>
    obtain rfl : v = .int n := rd
    have er : (if rgOk 0 n = true then some ((D.tup (rgD 0 n), false) : Rs) else none) = some r := er
    split at er
    · rename_i ok
      cases er
      exact ⟨n, rfl, rgOk_ok ok, fun l hl => At.tupR G1 (rg_reps 0 n) hl q3⟩
    · cases er
  | _ => cases er
/-- o[k] += e, of a list -/
theorem get_list : PGet X (rIxL X.K) := by
  intro pins s σ H x y v u Q I rx ry h
  obtain ⟨p, xs, i, z, rfl, rfl, hq, he, q⟩ := h
  cases rx
  obtain ⟨t, rfl⟩ := ry
  obtain ⟨its, r, pl, hz⟩ := I.list hq
  obtain ⟨j, h1, h2, h3, h4, h5⟩ := atI_get he
  obtain ⟨w, ew, rw'⟩ := r.get h2
  have hl := r.length
  have hn := line63
  have fin : EP X pins σ Q w s := ⟨z, H, I, rw', q⟩
  by_cases h0 : 0 ≤ i
  · have hj : i.toNat = j := by
      rw [seqIndex_of h0 h5] at h1
      exact Option.some.inj h1
    exact wpAny_getItem_list pl.isList h0 (by omega) (by rw [hj]; simpa using ew) fin
  · have hj : (i + (its.toArray.size : Int)).toNat = j := by
      rw [seqIndex_neg (by omega) h4] at h1
      rw [List.size_toArray, ← hl]
      exact Option.some.inj h1
    exact wpAny_getItem_list_neg pl.isList (by omega) (by rw [List.size_toArray]; omega) (by omega) (by rw [hj]; simpa using ew) fin
theorem ipz {op : BOp} {o : Operator} (ho : (op = .add ∧ o = .Add) ∨ (op = .sub ∧ o = .Sub)) : PIp X o (fun a b H Q => ∃ i j, a = .int i ∧ b = .int j ∧ ∀ f, augD op (.int i) (.int j) = some (.int f) → Q (.int f) H) := by
  rcases ho with ⟨rfl, rfl⟩ | ⟨rfl, rfl⟩
  · exact fun pins s σ H x y v u Q I r1 r2 ⟨i, j, e1, e2, q⟩ => ip_add pins s σ H x y v u Q I r1 r2 ⟨i, j, e1, e2, q _ rfl⟩
  · exact fun pins s σ H x y v u Q I r1 r2 ⟨i, j, e1, e2, q⟩ => ip_sub pins s σ H x y v u Q I r1 r2 ⟨i, j, e1, e2, q _ rfl⟩
theorem augD_int {op : BOp} {a b f : D} (h : augD op a b = some f) : ∃ i j k, a = .int i ∧ b = .int j ∧ f = .int k ∧ (op = .add ∨ op = .sub) := by
  unfold augD at h
  split at h
  · cases h; exact ⟨_, _, _, rfl, rfl, rfl, .inl rfl⟩
  · cases h; exact ⟨_, _, _, rfl, rfl, rfl, .inr rfl⟩
  · cases h
theorem psz_augI {wf : Nat} {o k : Expr} {xo xk xe : Ex} {op : BOp} {oo : Operator} {tpos : Pos} (hop : (op = .add ∧ oo = .Add) ∨ (op = .sub ∧ oo = .Sub)) (ho : PE X o (To X.K w (opdV xo (evalE cl xo)))) (hk : PE X k (Tr X.K w (evalE cl xk))) (he : PE X e (Tr X.K w (evalE cl xe)))
    (ha : ∀ ov iv new, augStore k ov iv new = (do holding [new, ov, iv] (setItem ov iv new); release [new, ov, iv] []; pure .next) := by intros; rfl) :
    PS X (.AugAssign (.Subscript o k tpos) oo e pos) (Ts X.K w (exec cl wf (.augI op xo xk xe))) := by
  refine (ps_augS ho (Tr.dat hk) get_list (Tr.dat he) (ipz hop) set_list ha).weak fun D σ H ⟨g, G, q⟩ => ⟨g, G, ?_⟩
  have q : Ats X.K w (opdV xo (evalE cl xo) >>= fun o => dat (evalE cl xk) >>= fun z => res o >>= fun d => liftO (lstAt d z) >>= fun v => dat (evalE cl xe) >>= fun y => liftO (augD op v y) >>= fun u => setAt o z u >>= fun _ => Pure.pure Flow.nx) g σ H _ := q
  refine (Ats.at_ (Ats.bind G q)).imp fun o' g1 H1 G1 E1 ⟨_, _, q1⟩ vo ro => ⟨g1, G1, (Ats.at_ (Ats.bind G1 q1)).imp fun z g2 H2 G2 E2 ⟨_, _, q2⟩ vk rk => ?_⟩
  obtain ⟨d, rd, _, _, q3⟩ := At.res_ G2 (ro.ext E2) (Ats.at_ (Ats.bind G2 q2))
  obtain ⟨c, ec, _, _, q4⟩ := At.liftO_ G2 (Ats.at_ (Ats.bind G2 q3))
  have ec2 : ∃ ds i, d = .lst ds ∧ z = .int i ∧ atI ds i = some c := by
    unfold lstAt at ec
    split at ec
    · exact ⟨_, _, rfl, rfl, ec⟩
    · cases ec
  · clear ec
    obtain ⟨ds, i, rfl, rfl, ec⟩ := ec2
    obtain ⟨p, vs, rfl, h1, h2⟩ := rd
    obtain rfl : vk = .int i := rk
    unfold atI at ec
    cases ej : ixN ds.length i with
    | none => rw [ej] at ec; cases ec
    | some j =>
      rw [ej] at ec
      obtain ⟨u, eu, ru⟩ := h2.get ec
      refine ⟨p, vs, i, u, rfl, rfl, SqL.of h1, by unfold atI; rw [h2.length, ej]; exact eu, g2, G2, (Ats.at_ (Ats.bind G2 q4)).imp fun y g3 H3 G3 E3 ⟨_, _, q5⟩ vy ry => ?_⟩
      obtain ⟨f, ef, _, _, q6⟩ := At.liftO_ G3 (Ats.at_ (Ats.bind G3 q5))
      obtain ⟨a, b, k, rfl, rfl, rfl, _⟩ := augD_int ef
      obtain rfl : u = .int a := ru
      obtain rfl : vy = .int b := ry
      refine ⟨a, b, rfl, rfl, fun f' ef' => ?_⟩
      rw [ef] at ef'
      cases ef'
      have q7 := setAt_sem G3 ((ro.ext E2).ext E3) (show Rep X.K g3.As (hid g3.M H3) (.int i) (.int i) from rfl) (show Rep X.K g3.As (hid g3.M H3) (.int k) (.int k) from rfl) (Ats.bind G3 q6)
      obtain ⟨p', xs, kk, j', a1, b1, c1, d', g4, G4, _, _, q8⟩ := q7
      exact ⟨p', xs, kk, j', a1, b1, c1, d', Ats.pure_ G4 q8⟩
end
end Z

/-! Z24: comprehensions with two fors. -/
namespace Z
open PySem PySem.Spec PyProof.Rows L2
/-- what stood at (gJ, HJ) stands -/
structure Later (gJ : Gh) (HJ : Hp) (g : Gh) (H : Hp) : Prop where
  as : ∀ (i : Nat) (a : Addr), gJ.As[i]? = some a → g.As[i]? = some a
  same : Same (hid gJ.M HJ) (hid g.M H)
theorem Later.refl {g : Gh} {H : Hp} : Later g H g H := ⟨fun _ _ h => h, fun _ _ h => h⟩
theorem Later.ext {gJ g g' : Gh} {HJ H H' : Hp} {σ σ' : L2.St} (l : Later gJ HJ g H) (E : Ext g σ H g' σ' H') : Later gJ HJ g' H' := ⟨fun i a h => E.asget i a (l.as i a h), fun b o h => E.same b o (l.same b o h)⟩
theorem Later.upd {gJ g : Gh} {HJ H : Hp} {p : Addr} {o : HO} (l : Later gJ HJ g H) (m : p ∈ g.M) : Later gJ HJ g (upd H p o) := ⟨l.as, by rw [hid_in m]; exact l.same⟩
theorem wipeρ_sub {own1 own : List Nat} {ρ : List Slot} (h : ∀ i ∈ own1, i ∈ own) : wipeρ own (wipeρ own1 ρ) = wipeρ own ρ := by
  apply List.ext_getElem?
  intro j
  by_cases hj : j ∈ own
  · have l : (wipeρ own (wipeρ own1 ρ)).length = (wipeρ own ρ).length := by rw [wipeρ_len, wipeρ_len, wipeρ_len]
    cases e : (wipeρ own ρ)[j]? with
    | none =>
      rw [List.getElem?_eq_none_iff] at e ⊢
      omega
    | some s =>
      have hl : j < (wipeρ own (wipeρ own1 ρ)).length := by rw [l]; exact (List.getElem?_eq_some_iff.mp e).1
      have e2 := List.getElem?_eq_getElem hl
      rw [e2, wipeρ_in hj e2, wipeρ_in hj e]
  · rw [wipeρ_out hj, wipeρ_out hj, wipeρ_out fun z => hj (h j z)]
theorem wipe_sub {own1 own : List Nat} {σ : L2.St} (h : ∀ i ∈ own1, i ∈ own) : L2.wipe (L2.wipe σ own1) own = L2.wipe σ own := by
  apply List.ext_getElem?
  intro j
  have l : (L2.wipe (L2.wipe σ own1) own).length = (L2.wipe σ own).length := by rw [L2.wipe_length, L2.wipe_length, L2.wipe_length]
  by_cases hj : j ∈ own
  · have key : ∀ (τ : L2.St) (x : Option V), (L2.wipe τ own)[j]? = some x → x = none := fun τ x e => by
      cases x with
      | none => rfl
      | some v => exact absurd hj (L2.wipe_some e).2
    cases e : (L2.wipe σ own)[j]? with
    | none =>
      rw [List.getElem?_eq_none_iff] at e ⊢
      omega
    | some s =>
      have hl : j < (L2.wipe (L2.wipe σ own1) own).length := by rw [l]; exact (List.getElem?_eq_some_iff.mp e).1
      have e2 := List.getElem?_eq_getElem hl
      rw [e2, key _ _ e2, key _ _ e]
  · rw [wipe_out hj, wipe_out hj, wipe_out fun z => hj (h j z)]
section
variable {K : PySem.W.Frag} {cl : CallT}
/-- what a loop of a comprehension leaves -/
def LcAt (K : PySem.W.Frag) (own : List Nat) (gb : Gh) (σb : L2.St) (Hb : Hp) (σ : L2.St) (Dp : Addr) (ds : List D) (s : S) (As M : List Addr) (av : List V) (H : Hp) : Prop :=
  Good K ⟨wipeρ own s.ρ, s.st, As, M⟩ (L2.wipe σ own) H ∧ Ext gb σb Hb ⟨wipeρ own s.ρ, s.st, As, M⟩ (L2.wipe σ own) H ∧ Dp ∈ M ∧ Dp ∉ As ∧ ¬ Own (wipeρ own s.ρ) (L2.wipe σ own) Dp ∧ H Dp = some (.lst av) ∧ Reps K As (hid M H) ds av
theorem inner_walk {elt : Ex} {tg : Tg} {conds : List Ex} {own : List Nat} {σ σb : L2.St} {gb gJ : Gh} {Hb HJ : Hp} {Dp : Addr} {J : It} {xs ds : List D} {sE : S} (hown : ∀ i ∈ slotsT tg, i ∈ own) (Gb : Good K gb σb Hb) (hD : Hb Dp = none) (walks : Walks K J xs gJ HJ) :
    ∃ W : Nat → Nat → Hp → Prop, (∀ s As M acc av H, lcLoop own tg (evalCs cl conds) (dat (evalE cl elt)) xs acc s = .ok ds sE → LcAt K own gb σb Hb σ Dp acc s As M av H → Later gJ HJ ⟨wipeρ own s.ρ, s.st, As, M⟩ H → ∃ m, W 0 m H) ∧
      ∀ i m H, W i m H → (J.stop i H ∧ ∃ As M av, LcAt K own gb σb Hb σ Dp ds sE As M av H) ∨ (J.go i H ∧ ∃ Nx : Hp → Prop, (∀ H', Nx H' → ∃ m', m' < m ∧ W (i + 1) m' H') ∧ ∀ x H', J.yld i H x H' → Tgt K tg x (L2.wipe σ own) H' fun σ2 H2 => L2.wipe σ2 own = L2.wipe σ own ∧ Tcs K cl conds σ2 H2 fun b H3 =>
        if b = true then Td K wN (dat (evalE cl elt)) σ2 H3 fun y H4 => ∃ acc, H4 Dp = some (.lst acc) ∧ acc.length < sizeLine ∧ Nx (upd H4 Dp (.lst (acc ++ [y]))) else Nx H3) := by
  generalize hcond : evalCs cl conds = cond
  generalize helt : dat (evalE cl elt) = eltM
  let W : Nat → Nat → Hp → Prop := fun i m H' => m = xs.length - i ∧ i ≤ xs.length ∧ ∃ (s : S) (As M : List Addr) (acc : List D) (av : List V), lcLoop own tg cond eltM (xs.drop i) acc s = .ok ds sE ∧ LcAt K own gb σb Hb σ Dp acc s As M av H' ∧ Later gJ HJ ⟨wipeρ own s.ρ, s.st, As, M⟩ H'
  refine ⟨W, fun s As M acc av H run L la => ⟨_, rfl, Nat.zero_le _, s, As, M, acc, av, run, L, la⟩, ?_⟩
  rintro i m H' ⟨hm, hi, s, As, M, acc, av, run, ⟨Gs, Es, dM, dA, dO, dH, dR⟩, la⟩
  obtain ⟨wgo, wstop, wyld⟩ := walks _ _ H' Gs la.as la.same
  by_cases hlt : i < xs.length
  · -- a turn
    refine .inr ⟨wgo i hlt, fun H'' => W (i + 1) (xs.length - (i + 1)) H'', fun H'' h => ⟨_, by omega, h⟩, fun x H2 hy => ?_⟩
    obtain ⟨d, hd, hH2, rd⟩ := wyld i x H2 hlt hy
    have hdrop : xs.drop i = d :: xs.drop (i + 1) := by
      rw [List.drop_eq_getElem_cons hlt]
      have : xs[i] = d := by
        rw [List.getElem?_eq_getElem hlt] at hd
        exact Option.some.inj hd
      rw [this]
    have at2 : Good K ⟨wipeρ own s.ρ, s.st, As, M⟩ (L2.wipe σ own) H2 ∧ Ext ⟨wipeρ own s.ρ, s.st, As, M⟩ (L2.wipe σ own) H' ⟨wipeρ own s.ρ, s.st, As, M⟩ (L2.wipe σ own) H2 := by
      rcases hH2 with e | ⟨T, o, hT, e⟩
      · subst e; exact ⟨Gs, Ext.refl⟩
      · subst e; exact ⟨Gs.alloc hT, Ext.alloc Gs hT⟩
    obtain ⟨G2, E2⟩ := at2
    have dH2 := (E2.kep Dp dM dA dO).2
    rw [hdrop] at run
    have run : (wipeS own >>= fun _ => bindT tg d >>= fun _ => cond >>= fun c => if c = true then (eltM >>= fun y => tick acc y >>= fun acc' => lcLoop own tg cond eltM (xs.drop (i + 1)) acc') else lcLoop own tg cond eltM (xs.drop (i + 1)) acc) s = .ok ds sE := run
    rw [bind_run] at run
    have ew : wipeS own s = .ok () ⟨wipeρ own s.ρ, s.st⟩ := rfl
    rw [ew] at run
    dsimp only at run
    rw [bind_run] at run
    cases eb : bindT tg d ⟨wipeρ own s.ρ, s.st⟩ with
    | bad => simp only [eb] at run; cases run
    | exc c fs s => simp only [eb] at run; cases run
    | ok u s2 =>
      simp only [eb] at run
      rw [bind_run] at run
      cases ec : cond s2 with
      | bad => simp only [ec] at run; cases run
      | exc c fs s => simp only [ec] at run; cases run
      | ok c s3 =>
        simp only [ec] at run
        refine tgt_mono (bindT_sem (w := wN) G2 rd (Ats.of_run (g := ⟨wipeρ own s.ρ, s.st, As, M⟩) eb)) fun σ2 H3 ⟨eH, hw, g3, a3, m3, G3, E3, _, hs3⟩ => ?_
        subst eH
        have hwσ : L2.wipe σ2 own = L2.wipe σ own := (hw own hown).trans wipe_idem
        refine ⟨hwσ, g3, G3, ?_⟩
        have dO3 : ¬ Own g3.ρ σ2 Dp := fun z => by
          rcases E3.own Dp z with o | n
          · exact dO o
          · rw [dH2, dH] at n; cases n
        rw [hcond]
        refine (At.of_run (a := c) (s' := s3) (by rw [hs3]; exact ec)).imp fun b g4 H4 G4 E4 ⟨eb4, hs4⟩ => ?_
        subst eb4
        obtain ⟨dM4, dH4⟩ := E4.kep Dp (by rw [m3]; exact dM) (by rw [a3]; exact dA) dO3
        have dO4 : ¬ Own g4.ρ σ2 Dp := fun z => by
          rcases E4.own Dp z with o | n
          · exact dO3 o
          · rw [dH2, dH] at n; cases n
        have asOut : ∀ {ga gb : Gh} {σa σb : L2.St} {Ha Hb : Hp}, Ext ga σa Ha gb σb Hb → Dp ∉ ga.As → Ha Dp ≠ none → Dp ∉ gb.As := fun {ga gb σa σb Ha Hb} E h n z => by
          obtain ⟨more, e, f⟩ := E.pre
          rw [e] at z
          rcases List.mem_append.mp z with z | z
          · exact h z
          · exact n (f _ z)
        have nn : H3 Dp ≠ none := by rw [dH2, dH]; exact fun z => nomatch z
        have dA4 : Dp ∉ g4.As := asOut E4 (by rw [a3]; exact dA) nn
        have Etot : Ext gb σb Hb g4 σ2 H4 := ((Es.trans Gb E2).trans Gb E3).trans Gb E4
        have la4 : Later gJ HJ g4 H4 := ((la.ext E2).ext E3).ext E4
        have next : ∀ (g5 : Gh) (H5 : Hp) (acc' : List D) (av' : List V) (o : HO), Good K g5 σ2 H5 → Ext gb σb Hb g5 σ2 H5 → Later gJ HJ g5 H5 → Dp ∈ g5.M → Dp ∉ g5.As → ¬ Own g5.ρ σ2 Dp →
            o = .lst av' → Reps K g5.As (hid g5.M H5) acc' av' → lcLoop own tg cond eltM (xs.drop (i + 1)) acc' g5.S = .ok ds sE → W (i + 1) (xs.length - (i + 1)) (upd H5 Dp o) := fun g5 H5 acc' av' o G5 E5 la5 m5 a5 o5 eo r5 run5 => by
          subst eo
          obtain ⟨G6, E6⟩ := G5.wipe (own := own)
          rw [hwσ] at G6 E6
          have o6 : ¬ Own (wipeρ own g5.ρ) (L2.wipe σ own) Dp := fun z => by
            rcases E6.own Dp z with o | n
            · exact o5 o
            · exact G5.trk Dp m5 n
          have he : hid g5.M (upd H5 Dp (.lst av')) = hid g5.M H5 := hid_in m5
          exact ⟨rfl, hlt, g5.S, g5.As, g5.M, acc', av', run5, ⟨G6.upx m5 a5 o6, (E5.trans Gb E6).upx Gb hD, m5, a5, o6, upd_same, by rw [he]; exact r5⟩, (la5.ext E6).upd m5⟩
        cases b with
        | false =>
          refine iteF ?_
          have hu : upd H4 Dp (.lst av) = H4 := by
            funext z
            unfold upd
            split
            · rename_i e; rw [e, dH4, dH2, dH]
            · rfl
          have := next g4 H4 acc av (.lst av) G4 Etot la4 dM4 dA4 dO4 rfl (E4.reps (by rw [a3, m3]; exact E2.reps dR)) (by rw [hs4]; exact run)
          rw [hu] at this
          exact this
        | true =>
          refine iteT ⟨g4, G4, ?_⟩
          have run : (eltM >>= fun y => tick acc y >>= fun acc' => lcLoop own tg cond eltM (xs.drop (i + 1)) acc') s3 = .ok ds sE := run
          rw [bind_run] at run
          cases ee : eltM s3 with
          | bad => simp only [ee] at run; cases run
          | exc c fs s => simp only [ee] at run; cases run
          | ok y s4 =>
            simp only [ee] at run
            refine (At.of_run (a := y) (s' := s4) (by rw [hs4]; exact ee)).imp fun y' g5 H5 G5 E5 ⟨ey, hs5⟩ v rv => ?_
            subst ey
            obtain ⟨dM5, dH5⟩ := E5.kep Dp dM4 dA4 dO4
            have nn4 : H4 Dp ≠ none := by rw [dH4, dH2, dH]; exact fun z => nomatch z
            have dO5 : ¬ Own g5.ρ σ2 Dp := fun z => by
              rcases E5.own Dp z with o | n
              · exact dO4 o
              · exact nn4 n
            have run : (tick acc y' >>= fun acc' => lcLoop own tg cond eltM (xs.drop (i + 1)) acc') s4 = .ok ds sE := run
            rw [bind_run] at run
            unfold tick at run
            by_cases hz : acc.length < line
            · rw [if_pos hz] at run
              have r5 : Reps K g5.As (hid g5.M H5) acc av := E5.reps (E4.reps (by rw [a3, m3]; exact E2.reps dR))
              refine ⟨av, by rw [dH5, dH4, dH2, dH], line_lt (by rw [r5.length]; exact hz), ?_⟩
              exact next g5 H5 (acc ++ [y']) (av ++ [v]) _ G5 (Etot.trans Gb E5) (la4.ext E5) dM5 (asOut E5 dA4 nn4) dO5 rfl (r5.append (.cons rv .nil)) (by rw [hs5]; exact run)
            · rw [if_neg hz] at run; cases run
  · -- the end
    have e : i = xs.length := by omega
    subst e
    refine .inl ⟨wstop _ (Nat.le_refl _), ?_⟩
    rw [List.drop_length] at run
    obtain ⟨rfl, rfl⟩ := Out.ok.inj (show Out.ok acc s = .ok ds sE from run)
    exact ⟨As, M, av, Gs, Es, dM, dA, dO, dH, dR⟩
/-- TWO FORS -/
theorem lc2_sem {w : WX} {elt : Ex} {tg tg1 : Tg} {ik ik1 : IK} {src src1 conds conds1 : List Ex} {own own1 : List Nat} {σ : L2.St} {H : Hp} {Q : VK} (hown : ∀ i ∈ slotsT tg, i ∈ own) (hown1 : ∀ i ∈ slotsT tg1, i ∈ own1) (hsub : ∀ i ∈ own1, i ∈ own)
    (h : Tr K w (evalE cl (.lc2 elt tg ik src conds own tg1 ik1 src1 conds1 own1)) σ H Q) :
    tLc2 (Ti K w (srcM cl ik src)) (Tgt K tg) (Tcs K cl conds) (Ti K wN (srcM cl ik1 src1)) (Tgt K tg1) (Tcs K cl conds1) (Td K wN (dat (evalE cl elt))) own own1 σ H Q := by
  obtain ⟨g, G, q⟩ := h
  have e : evalE cl (.lc2 elt tg ik src conds own tg1 ik1 src1 conds1 own1) = (srcM cl ik src >>= fun xs => blk own (calm (lc2Loop own own1 tg (evalCs cl conds) (srcM cl ik1 src1) tg1 (evalCs cl conds1) (dat (evalE cl elt)) xs []))) := by
    unfold srcM
    rw [M.assoc]
    rfl
  rw [e] at q
  clear e
  refine ⟨g, G, (At.bind G q).imp fun xs g1 H1 G1 E1 ⟨_, _, q1⟩ J wk => ?_⟩
  intro Dp hD
  unfold At blk calm at q1
  dsimp only [Gh.S] at q1
  generalize hcond : evalCs cl conds = cond at q1
  generalize hsrc : srcM cl ik1 src1 = srcN at q1
  cases erun : lc2Loop own own1 tg cond srcN tg1 (evalCs cl conds1) (dat (evalE cl elt)) xs [] ⟨g1.ρ, g1.st⟩ with
  | bad => simp only [erun] at q1
  | exc c fs s => simp only [erun] at q1
  | ok ds sE =>
    simp only [erun] at q1
    obtain ⟨Gw, Ew⟩ := G1.wipe (own := own)
    let W : Nat → Nat → Hp → Prop := fun i m H' => m = xs.length - i ∧ i ≤ xs.length ∧ ∃ (s : S) (As M : List Addr) (acc : List D) (av : List V), lc2Loop own own1 tg cond srcN tg1 (evalCs cl conds1) (dat (evalE cl elt)) (xs.drop i) acc s = .ok ds sE ∧
      LcAt K own { g1 with ρ := wipeρ own g1.ρ } (L2.wipe σ own) H1 σ Dp acc s As M av H'
    refine ⟨W, ⟨_, rfl, Nat.zero_le _, ⟨g1.ρ, g1.st⟩, g1.As, Dp :: g1.M, [], [], erun, Gw.allocM hD, Ext.allocM Gw hD, List.mem_cons_self, fun z => G1.trk _ (G1.asm _ z) hD, fun z => (Own.some_ Gw z).2 hD, upd_same, rfl⟩, ?_⟩
    rintro i m H' ⟨hm, hi, s, As, M, acc, av, run, Gs, Es, dM, dA, dO, dH, dR⟩
    obtain ⟨wgo, wstop, wyld⟩ := wk _ _ H' Gs Es.asget Es.same
    by_cases hlt : i < xs.length
    · refine .inr ⟨wgo i hlt, fun H'' => W (i + 1) (xs.length - (i + 1)) H'', fun H'' h => ⟨_, by omega, h⟩, fun x H2 hy => ?_⟩
      obtain ⟨d, hd, hH2, rd⟩ := wyld i x H2 hlt hy
      have hdrop : xs.drop i = d :: xs.drop (i + 1) := by
        rw [List.drop_eq_getElem_cons hlt]
        have : xs[i] = d := by
          rw [List.getElem?_eq_getElem hlt] at hd
          exact Option.some.inj hd
        rw [this]
      have at2 : Good K ⟨wipeρ own s.ρ, s.st, As, M⟩ (L2.wipe σ own) H2 ∧ Ext ⟨wipeρ own s.ρ, s.st, As, M⟩ (L2.wipe σ own) H' ⟨wipeρ own s.ρ, s.st, As, M⟩ (L2.wipe σ own) H2 := by
        rcases hH2 with e | ⟨T, o, hT, e⟩
        · subst e; exact ⟨Gs, Ext.refl⟩
        · subst e; exact ⟨Gs.alloc hT, Ext.alloc Gs hT⟩
      obtain ⟨G2, E2⟩ := at2
      have dH2 := (E2.kep Dp dM dA dO).2
      rw [hdrop] at run
      have run : (wipeS own >>= fun _ => bindT tg d >>= fun _ => cond >>= fun c => if c = true then (srcN >>= fun ys => lcLoop own1 tg1 (evalCs cl conds1) (dat (evalE cl elt)) ys acc >>= fun acc' => lc2Loop own own1 tg cond srcN tg1 (evalCs cl conds1) (dat (evalE cl elt)) (xs.drop (i + 1)) acc') else lc2Loop own own1 tg cond srcN tg1 (evalCs cl conds1) (dat (evalE cl elt)) (xs.drop (i + 1)) acc) s = .ok ds sE := run
      rw [bind_run] at run
      have ew : wipeS own s = .ok () ⟨wipeρ own s.ρ, s.st⟩ := rfl
      rw [ew] at run
      dsimp only at run
      rw [bind_run] at run
      cases eb : bindT tg d ⟨wipeρ own s.ρ, s.st⟩ with
      | bad => simp only [eb] at run; cases run
      | exc c fs s => simp only [eb] at run; cases run
      | ok u s2 =>
        simp only [eb] at run
        rw [bind_run] at run
        cases ec : cond s2 with
        | bad => simp only [ec] at run; cases run
        | exc c fs s => simp only [ec] at run; cases run
        | ok c s3 =>
          simp only [ec] at run
          refine tgt_mono (bindT_sem (w := wN) G2 rd (Ats.of_run (g := ⟨wipeρ own s.ρ, s.st, As, M⟩) eb)) fun σ2 H3 ⟨eH, hw, g3, a3, m3, G3, E3, _, hs3⟩ => ?_
          subst eH
          have hwσ : L2.wipe σ2 own = L2.wipe σ own := (hw own hown).trans wipe_idem
          refine ⟨hwσ, g3, G3, ?_⟩
          have dO3 : ¬ Own g3.ρ σ2 Dp := fun z => by
            rcases E3.own Dp z with o | n
            · exact dO o
            · rw [dH2, dH] at n; cases n
          rw [hcond]
          refine (At.of_run (a := c) (s' := s3) (by rw [hs3]; exact ec)).imp fun b g4 H4 G4 E4 ⟨eb4, hs4⟩ => ?_
          subst eb4
          obtain ⟨dM4, dH4⟩ := E4.kep Dp (by rw [m3]; exact dM) (by rw [a3]; exact dA) dO3
          have dO4 : ¬ Own g4.ρ σ2 Dp := fun z => by
            rcases E4.own Dp z with o | n
            · exact dO3 o
            · rw [dH2, dH] at n; cases n
          have asOut : ∀ {ga gb : Gh} {σa σb : L2.St} {Ha Hb : Hp}, Ext ga σa Ha gb σb Hb → Dp ∉ ga.As → Ha Dp ≠ none → Dp ∉ gb.As := fun {ga gb σa σb Ha Hb} E h n z => by
            obtain ⟨more, e, f⟩ := E.pre
            rw [e] at z
            rcases List.mem_append.mp z with z | z
            · exact h z
            · exact n (f _ z)
          have nn : H3 Dp ≠ none := by rw [dH2, dH]; exact fun z => nomatch z
          have dA4 : Dp ∉ g4.As := asOut E4 (by rw [a3]; exact dA) nn
          have Etot : Ext { g1 with ρ := wipeρ own g1.ρ } (L2.wipe σ own) H1 g4 σ2 H4 := ((Es.trans Gw E2).trans Gw E3).trans Gw E4
          have r4 : Reps K g4.As (hid g4.M H4) acc av := E4.reps (by rw [a3, m3]; exact E2.reps dR)
          cases b with
          | false =>
            refine iteF ?_
            obtain ⟨G6, E6⟩ := G4.wipe (own := own)
            rw [hwσ] at G6 E6
            have o6 : ¬ Own (wipeρ own g4.ρ) (L2.wipe σ own) Dp := fun z => by
              rcases E6.own Dp z with o | n
              · exact dO4 o
              · exact G4.trk Dp dM4 n
            exact ⟨rfl, hlt, g4.S, g4.As, g4.M, acc, av, by rw [hs4]; exact run, G6, Etot.trans Gw E6, dM4, dA4, o6, by rw [dH4, dH2, dH], r4⟩
          | true =>
            refine iteT ?_
            have run : (srcN >>= fun ys => lcLoop own1 tg1 (evalCs cl conds1) (dat (evalE cl elt)) ys acc >>= fun acc' => lc2Loop own own1 tg cond srcN tg1 (evalCs cl conds1) (dat (evalE cl elt)) (xs.drop (i + 1)) acc') s3 = .ok ds sE := run
            rw [bind_run] at run
            cases ey : srcN s3 with
            | bad => simp only [ey] at run; cases run
            | exc c fs s => simp only [ey] at run; cases run
            | ok ys s4 =>
              simp only [ey] at run
              refine ⟨g4, G4, ?_⟩
              refine (At.of_run (a := ys) (s' := s4) (by rw [hs4]; exact ey)).imp fun ys' g5 H5 G5 E5 ⟨eys, hs5⟩ J1 wk1 => ?_
              subst eys
              have run : (lcLoop own1 tg1 (evalCs cl conds1) (dat (evalE cl elt)) ys' acc >>= fun acc' => lc2Loop own own1 tg cond srcN tg1 (evalCs cl conds1) (dat (evalE cl elt)) (xs.drop (i + 1)) acc') s4 = .ok ds sE := run
              rw [bind_run] at run
              cases el : lcLoop own1 tg1 (evalCs cl conds1) (dat (evalE cl elt)) ys' acc s4 with
              | bad => simp only [el] at run; cases run
              | exc c fs s => simp only [el] at run; cases run
              | ok acc2 s5 =>
                simp only [el] at run
                obtain ⟨dM5, dH5⟩ := E5.kep Dp dM4 dA4 dO4
                have nn4 : H4 Dp ≠ none := by rw [dH4, dH2, dH]; exact fun z => nomatch z
                have dO5 : ¬ Own g5.ρ σ2 Dp := fun z => by
                  rcases E5.own Dp z with o | n
                  · exact dO4 o
                  · exact nn4 n
                have dA5 : Dp ∉ g5.As := asOut E5 dA4 nn4
                obtain ⟨G6, E6⟩ := G5.wipe (own := own1)
                have o6 : ¬ Own (wipeρ own1 g5.ρ) (L2.wipe σ2 own1) Dp := fun z => by
                  rcases E6.own Dp z with o | n
                  · exact dO5 o
                  · exact G5.trk Dp dM5 n
                obtain ⟨W1, start, turn⟩ := inner_walk (K := K) (cl := cl) (elt := elt) (conds := conds1) (σ := σ2) (ds := acc2) (sE := s5) (Dp := Dp) hown1 Gw hD wk1
                refine ⟨W1, start g5.S g5.As g5.M acc av H5 (by rw [hs5]; exact el) ⟨G6, (Etot.trans Gw E5).trans Gw E6, dM5, dA5, o6, by rw [dH5, dH4, dH2, dH], E5.reps r4⟩ (Later.refl.ext E6), fun j k H6 h6 => ?_⟩
                rcases turn j k H6 h6 with ⟨st, As7, M7, av7, G7, E7, m7, a7, o7, h7, r7⟩ | go
                · refine .inl ⟨st, ?_⟩
                  obtain ⟨G8, E8⟩ := G7.wipe (own := own)
                  have es : L2.wipe (L2.wipe σ2 own1) own = L2.wipe σ own := (wipe_sub hsub).trans hwσ
                  have er : wipeρ own (wipeρ own1 s5.ρ) = wipeρ own s5.ρ := wipeρ_sub hsub
                  rw [es] at G8 E8
                  have G8 : Good K ⟨wipeρ own s5.ρ, s5.st, As7, M7⟩ (L2.wipe σ own) H6 := by rw [← er]; exact G8
                  have E8 : Ext ⟨wipeρ own1 s5.ρ, s5.st, As7, M7⟩ (L2.wipe σ2 own1) H6 ⟨wipeρ own s5.ρ, s5.st, As7, M7⟩ (L2.wipe σ own) H6 := by rw [← er]; exact E8
                  have o8 : ¬ Own (wipeρ own s5.ρ) (L2.wipe σ own) Dp := fun z => by
                    rcases E8.own Dp z with o | n
                    · exact o7 o
                    · exact G7.trk Dp m7 n
                  exact ⟨rfl, hlt, s5, As7, M7, acc2, av7, run, G8, E7.trans Gw E8, m7, a7, o8, h7, r7⟩
                · exact .inr go
    · have e : i = xs.length := by omega
      subst e
      refine .inl ⟨wstop _ (Nat.le_refl _), ?_⟩
      rw [List.drop_length] at run
      obtain ⟨rfl, rfl⟩ := Out.ok.inj (show Out.ok acc s = .ok ds sE from run)
      obtain ⟨G9, E9⟩ := Good.unwipe G1 Gs Es
      refine q1 As M H' G9 E9 (.ref Dp) ⟨Dp, rfl, E1.fresh hD, dM, dA, fun z => ?_, av, dH, dR⟩
      rcases E9.own Dp z with o | n
      · exact (Own.some_ G1 o).2 hD
      · obtain ⟨j, dd, h1, h2⟩ := z
        by_cases hj : j ∈ own
        · have hl : s.ρ.length = g1.ρ.length := by
            have := Gs.len
            rw [show (Gh.mk (wipeρ own s.ρ) s.st As M).ρ = wipeρ own s.ρ from rfl, wipeρ_len, L2.wipe_length] at this
            rw [this, G1.len]
          have h1 : (Z.unwipe own g1.ρ s.ρ)[j]? = some (.ow dd) := h1
          rw [unwipe_in hl hj] at h1
          exact (Own.some_ G1 ⟨j, dd, h1, h2⟩).2 hD
        · have h1 : (Z.unwipe own g1.ρ s.ρ)[j]? = some (.ow dd) := h1
          rw [unwipe_out hj] at h1
          exact dO ⟨j, dd, by rw [wipeρ_out hj]; exact h1, by rw [wipe_out hj]; exact h2⟩
end
section
variable {X : Cx} {w : WX} {cl : CallT} {wf : Nat}
theorem pz_lc2 {elt tgE iter tgE1 iter1 : Expr} {ifs ifs1 : List Expr} {scope : Scope} {own : List (Str × Nat)} {own1 : List Nat} {pos : Pos} {xe : Ex} {tg tg1 : Tg} {ik ik1 : IK} {src src1 conds conds1 : List Ex} (hc : X.calm = true) (hN : X.N.Nodup) (hi : PI X tgE iter (Ti X.K w (srcM cl ik src))) (ok : BlkOk X.N X.env.scope scope own)
    (hg : ∀ (s : Shared) (H : Hp) (C : Addr) (cc : List (Str × Addr)) (fp : List Addr), PG (X.blk s H scope (compEnvC scope cc C X.env) fp) tgE (Tgt X.K tg))
    (ht : ∀ (s : Shared) (H : Hp) (C : Addr) (cc : List (Str × Addr)) (fp : List Addr), PTs (X.blk s H scope (compEnvC scope cc C X.env) fp) ifs (Tcs X.K cl conds))
    (hi1 : ∀ (s : Shared) (H : Hp) (C : Addr) (cc : List (Str × Addr)) (fp : List Addr), PI (X.blk s H scope (compEnvC scope cc C X.env) fp) tgE1 iter1 (Ti X.K wN (srcM cl ik1 src1)))
    (hg1 : ∀ (s : Shared) (H : Hp) (C : Addr) (cc : List (Str × Addr)) (fp : List Addr), PG (X.blk s H scope (compEnvC scope cc C X.env) fp) tgE1 (Tgt X.K tg1))
    (ht1 : ∀ (s : Shared) (H : Hp) (C : Addr) (cc : List (Str × Addr)) (fp : List Addr), PTs (X.blk s H scope (compEnvC scope cc C X.env) fp) ifs1 (Tcs X.K cl conds1))
    (he : ∀ (s : Shared) (H : Hp) (C : Addr) (cc : List (Str × Addr)) (fp : List Addr), PE (X.blk s H scope (compEnvC scope cc C X.env) fp) elt (Tr X.K wN (evalE cl xe)))
    (hown : ∀ i ∈ slotsT tg, i ∈ own.map (·.2) := by decide) (hown1 : ∀ i ∈ slotsT tg1, i ∈ own1 := by decide) (hsub : ∀ i ∈ own1, i ∈ own.map (·.2) := by decide) (hs : ∀ x, foldedSetIterable iter X.env x = pure x := by intro _; rfl) (hs1 : ∀ env x, foldedSetIterable iter1 env x = pure x := by intro _ _; rfl) :
    PE X (.ListComp elt [⟨tgE, iter, ifs, 0⟩, ⟨tgE1, iter1, ifs1, 0⟩] scope pos) (Tr X.K w (evalE cl (.lc2 xe tg ik src conds (own.map (·.2)) tg1 ik1 src1 conds1 own1))) :=
  (pe_lc2 hc hN hi ok hsub hg ht hi1 hg1 ht1 (fun s H C cc fp => Tr.dat (X := X.blk s H scope (compEnvC scope cc C X.env) fp) (he s H C cc fp)) hs hs1).weak fun σ H Q h => lc2_sem hown hown1 hsub h
theorem psz_asgLc2 {i : Nat} {y : Str} {py : Pos} {elt tgE iter tgE1 iter1 : Expr} {ifs ifs1 : List Expr} {scope : Scope} {own : List (Str × Nat)} {own1 : List Nat} {pos spos : Pos} {xe : Ex} {tg tg1 : Tg} {ik ik1 : IK} {src src1 conds conds1 : List Ex} (hc : X.calm = true) (hN : X.N.Nodup) (hy : X.N[i]? = some y) (hyl : X.env.scope.names.lookup y = some .local)
    (hsw : swapsWith (.ListComp elt [⟨tgE, iter, ifs, 0⟩, ⟨tgE1, iter1, ifs1, 0⟩] scope pos) (some (.Name y py)) spos.line X.env = pure true) (hi : PI X tgE iter (Ti X.K w (srcM cl ik src))) (ok : BlkOk X.N X.env.scope scope own)
    (hg : ∀ (s : Shared) (H : Hp) (C : Addr) (cc : List (Str × Addr)) (fp : List Addr), PG (X.blk s H scope (compEnvC scope cc C X.env) fp) tgE (Tgt X.K tg))
    (ht : ∀ (s : Shared) (H : Hp) (C : Addr) (cc : List (Str × Addr)) (fp : List Addr), PTs (X.blk s H scope (compEnvC scope cc C X.env) fp) ifs (Tcs X.K cl conds))
    (hi1 : ∀ (s : Shared) (H : Hp) (C : Addr) (cc : List (Str × Addr)) (fp : List Addr), PI (X.blk s H scope (compEnvC scope cc C X.env) fp) tgE1 iter1 (Ti X.K wN (srcM cl ik1 src1)))
    (hg1 : ∀ (s : Shared) (H : Hp) (C : Addr) (cc : List (Str × Addr)) (fp : List Addr), PG (X.blk s H scope (compEnvC scope cc C X.env) fp) tgE1 (Tgt X.K tg1))
    (ht1 : ∀ (s : Shared) (H : Hp) (C : Addr) (cc : List (Str × Addr)) (fp : List Addr), PTs (X.blk s H scope (compEnvC scope cc C X.env) fp) ifs1 (Tcs X.K cl conds1))
    (he : ∀ (s : Shared) (H : Hp) (C : Addr) (cc : List (Str × Addr)) (fp : List Addr), PE (X.blk s H scope (compEnvC scope cc C X.env) fp) elt (Tr X.K wN (evalE cl xe)))
    (hown : ∀ i ∈ slotsT tg, i ∈ own.map (·.2) := by decide) (hown1 : ∀ i ∈ slotsT tg1, i ∈ own1 := by decide) (hsub : ∀ i ∈ own1, i ∈ own.map (·.2) := by decide) (hs : ∀ x, foldedSetIterable iter X.env x = pure x := by intro _; rfl) (hs1 : ∀ env x, foldedSetIterable iter1 env x = pure x := by intro _ _; rfl) :
    PS X (.Assign [.Name y py] (.ListComp elt [⟨tgE, iter, ifs, 0⟩, ⟨tgE1, iter1, ifs1, 0⟩] scope pos) spos) (Ts X.K w (exec cl wf (.asg i (.lc2 xe tg ik src conds (own.map (·.2)) tg1 ik1 src1 conds1 own1)))) :=
  (ps_setLc2 hc hN hy hyl hsw hi ok hsub hg ht hi1 hg1 ht1 (fun s H C cc fp => Tr.dat (X := X.blk s H scope (compEnvC scope cc C X.env) fp) (he s H C cc fp)) hs hs1).weak fun D σ H h => lc2_sem hown hown1 hsub (asg_sem h)
end
end Z

/-! Z18: the state at which a law is asked. -/
namespace Z
open PySem PySem.Spec PyProof.Rows L2
theorem entry_good {K : PySem.W.Frag} {H : Hp} {a : Addr} {ns : List Int} (hS : SqL K H a (ns.map V.int)) : Good K ⟨[.pu (.scr ns)], [], [], []⟩ [some (.ref a)] H := by
  have e : hid [] H = H := by
    funext b
    unfold hid
    rw [if_neg (by simp)]
  refine ⟨rfl, fun i s e1 => ?_, fun i j d d' p h1 _ _ _ => ?_, fun p ⟨i, d, h1, _⟩ => ?_, fun i so e1 => ?_, rfl, List.nodup_nil, fun b hb => ?_, fun p hp => ?_⟩
  · cases i with
    | zero =>
      simp at e1
      subst e1
      refine ⟨.ref a, rfl, a, rfl, ?_⟩
      show SqL K (hid [] H) a (ns.map V.int)
      rw [e]
      exact hS
    | succ i => simp at e1
  · cases i with
    | zero => simp at h1
    | succ i => simp at h1
  · cases i with
    | zero => simp at h1
    | succ i => simp at h1
  · simp at e1
  · cases hb
  · cases hp
end Z

/-! Z19: the plain side: what a run of the interpreter ends in. -/
namespace Z
open PySem PySem.Spec PyProof.Rows L2

/-- a mark: a rewriting leaves q alone -/
structure Fx {β : Sort _} (q : β) : Type where
  mk ::
/-- m ends well, and so that Q -/
def Wp {α : Type} (m : M α) (s : S) (Q : α → S → Prop) (_ : Fx Q := ⟨⟩) : Prop := match m s with
  | .ok a s' => Q a s'
  | _ => False
def Rp (r : R) (Q : Rs → List SO → Prop) (_ : Fx Q := ⟨⟩) : Prop := match r with
  | .ok a st => Q a st
  | _ => False
def endQ (Q : Rs → List SO → Prop) : Flow → S → Prop
  | .nx, s => Q (.none, false) s.st
  | .ret r, s => Q r s.st
  | _, _ => False
def Op {α : Type} (o : Option α) (Q : α → Prop) (_ : Fx Q := ⟨⟩) : Prop := match o with
  | some a => Q a
  | none => False
def Ob (d : D) (Q : Bool → Prop) (_ : Fx Q := ⟨⟩) : Prop := match d with
  | .bl b => Q b
  | _ => False
def Oi (d : D) (Q : Int → Prop) (_ : Fx Q := ⟨⟩) : Prop := match d with
  | .int b => Q b
  | _ => False
def Sl (x : Option Slot) (P O : D → Prop) (_ : Fx (P, O) := ⟨⟩) : Prop := match x with
  | some (.pu d) => P d
  | some (.ow d) => O d
  | _ => False
theorem op_some {α : Type} (a : α) (Q : α → Prop) : Op (some a) Q = Q a := rfl
theorem op_none {α : Type} (Q : α → Prop) : Op none Q = False := rfl
theorem op_ite {α : Type} (c : Prop) {_ : Decidable c} (x : Option α) (Q : α → Prop) : Op (if c then x else none) Q = (c ∧ Op x Q) := by
  by_cases h : c <;> simp [h, Op]
theorem ob_bl (b : Bool) (Q : Bool → Prop) : Ob (.bl b) Q = Q b := rfl
theorem oi_int (b : Int) (Q : Int → Prop) : Oi (.int b) Q = Q b := rfl
theorem sl_pu (d : D) (P O : D → Prop) : Sl (some (.pu d)) P O = P d := rfl
theorem sl_ow (d : D) (P O : D → Prop) : Sl (some (.ow d)) P O = O d := rfl
section
variable {α β : Type} {s : S} {Q : α → S → Prop}
theorem Wp.mono {m : M α} {Q Q' : α → S → Prop} (h : Wp m s Q) (i : ∀ a s', Q a s' → Q' a s') : Wp m s Q' := by
  unfold Wp at h ⊢
  cases e : m s with
  | ok a s' => rw [e] at h; exact i _ _ h
  | exc c fs s' => rw [e] at h; exact h
  | bad => rw [e] at h; exact h
theorem Rp.mono {r : R} {Q Q' : Rs → List SO → Prop} (h : Rp r Q) (i : ∀ a s', Q a s' → Q' a s') : Rp r Q' := by
  unfold Rp at h ⊢
  cases r with
  | ok a s' => exact i _ _ h
  | exc c fs s' => exact h
  | bad => exact h
theorem Rp.get {r : R} {Q : Rs → List SO → Prop} (h : Rp r Q) : ∃ a st, r = .ok a st ∧ Q a st := by
  unfold Rp at h
  cases r with
  | ok a s' => exact ⟨a, s', rfl, h⟩
  | exc c fs s' => exact h.elim
  | bad => exact h.elim
theorem Wp.ext {m : M α} {Q Q' : α → S → Prop} (h : ∀ a s, Q a s = Q' a s) : Wp m s Q = Wp m s Q' := by
  have e : Q = Q' := funext fun a => funext fun s => h a s
  subst e
  rfl
theorem wp_bind (m : M β) (f : β → M α) : Wp (m >>= f) s Q = Wp m s fun a s' => Wp (f a) s' Q := by
  unfold Wp
  rw [bind_run]
  cases m s <;> rfl
theorem wp_pure (a : α) : Wp (Pure.pure a) s Q = Q a s := rfl
theorem wp_bad : Wp (bad : M α) s Q = False := rfl
theorem wp_liftO (o : Option α) : Wp (liftO o) s Q = Op o fun a => Q a s := by
  cases o <;> rfl
theorem wp_stO (f : List SO → Option α) : Wp (stO f) s Q = Op (f s.st) fun a => Q a s := by
  unfold Wp stO
  cases f s.st <;> rfl
theorem wp_ite (c : Bool) (m m' : M α) : Wp (if c = true then m else m') s Q = ((c = true → Wp m s Q) ∧ (c = false → Wp m' s Q)) := by
  cases c <;> simp
theorem wp_getS {Q : S → S → Prop} : Wp getS s Q = Q s s := rfl
theorem wp_asB (m : M Rs) {Q : Bool → S → Prop} : Wp (asB m) s Q = Wp m s fun r s' => Ob r.1 fun b => Q b s' := by
  unfold asB
  rw [wp_bind]
  refine Wp.ext fun r s' => ?_
  obtain ⟨d, c⟩ := r
  cases d <;> rfl
theorem wp_ofB (m : M Bool) {Q : Rs → S → Prop} : Wp (ofB m) s Q = Wp m s fun b s' => Q (.bl b, false) s' := by
  unfold ofB
  rw [wp_bind]
  rfl
theorem wp_dat (m : M Rs) {Q : D → S → Prop} : Wp (dat m) s Q = Wp m s fun r s' => Q r.1 s' := by
  unfold dat
  rw [wp_bind]
  rfl
theorem wp_opd (m : M Rs) {Q : Opd → S → Prop} : Wp (opd m) s Q = Wp m s fun r s' => Q (.val r.1) s' := by
  unfold opd
  rw [wp_bind, wp_dat]
  rfl
theorem wp_slotOpd (i : Nat) (ρ : List Slot) (st : List SO) {Q : Opd → S → Prop} : Wp (slotOpd i) ⟨ρ, st⟩ Q = Sl ρ[i]? (fun d => Q (.slot i) ⟨ρ, st⟩) (fun d => Q (.slot i) ⟨ρ, st⟩) := by
  unfold Wp slotOpd
  dsimp only
  cases ρ[i]? with
  | none => rfl
  | some x => cases x <;> rfl
theorem wp_rdSlot (i : Nat) (ρ : List Slot) (st : List SO) {Q : D → S → Prop} : Wp (rdSlot i) ⟨ρ, st⟩ Q = Sl ρ[i]? (fun d => Q d ⟨ρ, st⟩) (fun d => Q d ⟨ρ, st⟩) := by
  unfold Wp rdSlot
  dsimp only
  cases ρ[i]? with
  | none => rfl
  | some x => cases x <;> rfl
theorem wp_rdVar (i : Nat) (ρ : List Slot) (st : List SO) {Q : Rs → S → Prop} : Wp (rdVar i) ⟨ρ, st⟩ Q = Sl ρ[i]? (fun d => Q (d, false) ⟨ρ, st⟩) (fun d => Q (d, false) ⟨ρ.set i (.pu d), st⟩) := by
  unfold Wp rdVar
  dsimp only
  cases ρ[i]? with
  | none => rfl
  | some x => cases x <;> rfl
theorem wp_rdRet (i : Nat) (ρ : List Slot) (st : List SO) {Q : Rs → S → Prop} : Wp (rdRet i) ⟨ρ, st⟩ Q = Sl ρ[i]? (fun d => Q (d, false) ⟨ρ, st⟩) (fun d => Q (d, true) ⟨ρ, st⟩) := by
  unfold Wp rdRet
  dsimp only
  cases ρ[i]? with
  | none => rfl
  | some x => cases x <;> rfl
theorem wp_resV (d : D) {Q : D → S → Prop} : Wp (res (.val d)) s Q = Q d s := rfl
theorem wp_resS (i : Nat) {Q : D → S → Prop} : Wp (res (.slot i)) s Q = Wp (rdSlot i) s Q := rfl
theorem wp_ress0 {Q : List D → S → Prop} : Wp (ress []) s Q = Q [] s := rfl
theorem wp_ress (o : Opd) (os : List Opd) {Q : List D → S → Prop} : Wp (ress (o :: os)) s Q = Wp (res o) s fun d s' => Wp (ress os) s' fun ds s'' => Q (d :: ds) s'' := by
  show Wp (res o >>= fun d => ress os >>= fun ds => Pure.pure (d :: ds)) s Q = _
  rw [wp_bind]
  refine Wp.ext fun a s' => ?_
  rw [wp_bind]
  rfl
theorem wp_setρ (i : Nat) (x : Slot) (ρ : List Slot) (st : List SO) {Q : Unit → S → Prop} : Wp (setρ i x) ⟨ρ, st⟩ Q = (i < ρ.length ∧ Q () ⟨ρ.set i x, st⟩) := by
  unfold Wp setρ
  by_cases h : i < ρ.length
  · simp [h]
  · simp [h]
theorem wp_setR (i : Nat) (r : Rs) (ρ : List Slot) (st : List SO) {Q : Unit → S → Prop} : Wp (setR i r) ⟨ρ, st⟩ Q = (i < ρ.length ∧ Q () ⟨ρ.set i (if r.2 = true then .ow r.1 else .pu r.1), st⟩) := wp_setρ _ _ _ _
theorem wp_call (os : List Opd) (r : R) (ρ : List Slot) (st : List SO) {Q : Rs → S → Prop} : Wp (afterCall os r) ⟨ρ, st⟩ Q = Rp r fun a st' => Q a ⟨if (still a.1 && st'.all stillSO) = true then ρ else letgo ρ os, st'⟩ := by
  unfold Wp afterCall Rp
  cases r with
  | ok a st' =>
    dsimp only
    by_cases h : (still a.1 && st'.all stillSO) = true
    · rw [if_pos h, if_pos h]
    · rw [if_neg h, if_neg h]
  | exc c fs st' => rfl
  | bad => rfl
theorem wp_bindNm (i : Nat) (d : D) {Q : Unit → S → Prop} : Wp (bindT (.nm i) d) s Q = Wp (setρ i (.pu d)) s Q := by
  unfold bindT
  rfl
theorem wp_for0 {tg : Tg} {body : M Flow} {Q : Flow → S → Prop} : Wp (forLoop tg body []) s Q = Q .nx s := rfl
theorem wp_for {tg : Tg} {body : M Flow} {x : D} {xs : List D} {Q : Flow → S → Prop} : Wp (forLoop tg body (x :: xs)) s Q = Wp (bindT tg x) s fun _ s1 => Wp body s1 fun f s2 => (match f with
    | .nx => Wp (forLoop tg body xs) s2 Q
    | .cont => Wp (forLoop tg body xs) s2 Q
    | .brk => Q .nx s2
    | .ret r => Q (.ret r) s2) := by
  show Wp (bindT tg x >>= fun _ => body >>= fun f => (match f with
      | .nx => forLoop tg body xs
      | .cont => forLoop tg body xs
      | .brk => Pure.pure .nx
      | .ret r => Pure.pure (.ret r))) s Q = _
  rw [wp_bind]
  refine Wp.ext fun _ s1 => ?_
  rw [wp_bind]
  refine Wp.ext fun f s2 => ?_
  cases f <;> rfl
/-- a loop whose turns keep I and break nowhere -/
theorem wp_for_inv {tg : Tg} {body : M Flow} {Q : Flow → S → Prop} (I : S → Prop) : ∀ {xs : List D} {s : S}, I s → (∀ x ∈ xs, ∀ s, I s → Wp (bindT tg x) s fun _ s1 => Wp body s1 fun f s2 => (f = .nx ∨ f = .cont) ∧ I s2) → (∀ s, I s → Q .nx s) → Wp (forLoop tg body xs) s Q
  | [], s, h, _, hq => hq s h
  | x :: xs, s, h, hs, hq => by
    rw [wp_for]
    refine (hs x List.mem_cons_self s h).mono fun _ s1 h1 => h1.mono fun f s2 ⟨hf, h2⟩ => ?_
    rcases hf with rfl | rfl
    · exact wp_for_inv I h2 (fun y hy => hs y (List.mem_cons_of_mem _ hy)) hq
    · exact wp_for_inv I h2 (fun y hy => hs y (List.mem_cons_of_mem _ hy)) hq
theorem rp_run (cl : CallT) (wf : Nat) (f : FnD) (ds : List D) (st : List SO) (Q : Rs → List SO → Prop) (h : ds.length = f.np) : Rp (runFn cl wf f ds st) Q = Wp (execs cl wf f.body) ⟨ds.map .pu ++ List.replicate (f.n - f.np) .un, st⟩ (endQ Q) := by
  unfold runFn
  rw [if_pos h]
  unfold Wp Rp
  cases e : execs cl wf f.body ⟨ds.map .pu ++ List.replicate (f.n - f.np) .un, st⟩ with
  | bad => rfl
  | exc c fs s => rfl
  | ok fl s => cases fl <;> rfl
theorem wp_setAtO (i n : Nat) (ds : List D) (z : Int) (d : D) (ρ : List Slot) (st : List SO) {Q : Unit → S → Prop} (h1 : ρ[i]? = some (.pu (.obj n))) (h2 : st[n]? = some (.lst ds)) : Wp (setAt (.slot i) (.int z) d) ⟨ρ, st⟩ Q = Op (ixN ds.length z) fun j => Q () ⟨ρ, st.set n (.lst (ds.set j d))⟩ := by
  unfold Wp setAt
  dsimp only
  rw [h1]
  dsimp only
  rw [h2]
  dsimp only
  cases ixN ds.length z <;> rfl
theorem wp_setAtL (i : Nat) (ds : List D) (z : Int) (d : D) (ρ : List Slot) (st : List SO) {Q : Unit → S → Prop} (h1 : ρ[i]? = some (.ow (.lst ds))) : Wp (setAt (.slot i) (.int z) d) ⟨ρ, st⟩ Q = Op (ixN ds.length z) fun j => Q () ⟨ρ.set i (.ow (.lst (ds.set j d))), st⟩ := by
  unfold Wp setAt
  dsimp only
  rw [h1]
  dsimp only
  cases ixN ds.length z <;> rfl
/-- the list at a slot, owned or shared -/
def Al (x : Option Slot) (st : List SO) (O P : List D → Nat → Prop) (_ : Fx (O, P) := ⟨⟩) : Prop := match x with
  | some (.ow (.lst ds)) => O ds 0
  | some (.pu (.obj n)) => (match st[n]? with
    | some (.lst ds) => P ds n
    | _ => False)
  | _ => False
def So (x : Option SO) (P : List D → Prop) (_ : Fx P := ⟨⟩) : Prop := match x with
  | some (.lst ds) => P ds
  | _ => False
theorem so_lst (ds : List D) (P : List D → Prop) : So (some (.lst ds)) P = P ds := rfl
theorem al_ow (ds : List D) (st : List SO) (O P : List D → Nat → Prop) : Al (some (.ow (.lst ds))) st O P = O ds 0 := rfl
theorem al_obj (n : Nat) (st : List SO) (O P : List D → Nat → Prop) : Al (some (.pu (.obj n))) st O P = So st[n]? fun ds => P ds n := rfl
theorem wp_setAt (i : Nat) (z : D) (d : D) (ρ : List Slot) (st : List SO) {Q : Unit → S → Prop} : Wp (setAt (.slot i) z d) ⟨ρ, st⟩ Q = Al ρ[i]? st (fun ds _ => Oi z fun z => Op (ixN ds.length z) fun j => Q () ⟨ρ.set i (.ow (.lst (ds.set j d))), st⟩) (fun ds n => Oi z fun z => Op (ixN ds.length z) fun j => Q () ⟨ρ, st.set n (.lst (ds.set j d))⟩) := by
  cases e : ρ[i]? with
  | none => unfold Wp setAt; dsimp only; rw [e]; rfl
  | some x =>
    cases x with
    | un => unfold Wp setAt; dsimp only; rw [e]; rfl
    | ow y =>
      cases y with
      | lst ds =>
        cases z with
        | int z => rw [wp_setAtL i ds z d ρ st e]; rfl
        | _ => unfold Wp setAt; dsimp only; rw [e]; rfl
      | _ => unfold Wp setAt; dsimp only; rw [e]; rfl
    | pu y =>
      cases y with
      | obj n =>
        rw [al_obj]
        cases e2 : st[n]? with
        | none => unfold Wp setAt; dsimp only; rw [e]; dsimp only; rw [e2]; rfl
        | some so =>
          cases so with
          | lst ds =>
            cases z with
            | int z => rw [wp_setAtO i n ds z d ρ st e e2]; rfl
            | _ => unfold Wp setAt; dsimp only; rw [e]; dsimp only; rw [e2]; rfl
          | ins c fs => unfold Wp setAt; dsimp only; rw [e]; dsimp only; rw [e2]; rfl
      | _ => unfold Wp setAt; dsimp only; rw [e]; rfl
end
end Z

/-! Z20: the plain side: small laws for stepping. -/
namespace Z
open PySem PySem.Spec PyProof.Rows L2
theorem ixN_at {n : Nat} {i : Int} (h0 : 0 ≤ i) (h1 : i < n) : ixN n i = some i.toNat := by
  unfold ixN
  rw [if_pos h0, if_pos h1]
theorem atI_0 {α : Type} (a : α) (xs : List α) : atI (a :: xs) 0 = some a := by
  unfold atI
  rw [ixN_at (by omega) (by first | (simp; done) | (simp; omega))]
  rfl
theorem atI_1 {α : Type} (a b : α) (xs : List α) : atI (a :: b :: xs) 1 = some b := by
  unfold atI
  rw [ixN_at (by omega) (by first | (simp; done) | (simp; omega))]
  rfl
theorem atI_2 {α : Type} (a b c : α) (xs : List α) : atI (a :: b :: c :: xs) 2 = some c := by
  unfold atI
  rw [ixN_at (by omega) (by first | (simp; done) | (simp; omega))]
  rfl
theorem atI_3 {α : Type} (a b c d : α) (xs : List α) : atI (a :: b :: c :: d :: xs) 3 = some d := by
  unfold atI
  rw [ixN_at (by omega) (by first | (simp; done) | (simp; omega))]
  rfl
theorem atI_in {α : Type} (xs : List α) {i : Int} (h0 : 0 ≤ i) (h1 : i < xs.length) : ∃ a, atI xs i = some a ∧ a ∈ xs := by
  unfold atI
  rw [ixN_at h0 h1]
  have h : i.toNat < xs.length := by omega
  exact ⟨xs[i.toNat], by simp [h], List.getElem_mem h⟩
theorem ixN_3_1 : ixN 3 1 = some 1 := rfl
theorem ixN_3_2 : ixN 3 2 = some 2 := rfl
theorem ixN_3_0 : ixN 3 0 = some 0 := rfl
theorem ex_ite {α : Type} (c : Prop) [Decidable c] (x : α) (Q : α → Prop) : (∃ a, (if c then some x else none) = some a ∧ Q a) = (c ∧ Q x) := by
  by_cases h : c <;> simp [h]
theorem mulOk_l {i j : Int} (h : i.natAbs < 2 ^ 64) : mulOk i j = true := by
  unfold mulOk
  rw [decide_eq_true h]
  rfl
theorem eq_ii (i j : Int) : eqD (.int i) (.int j) = decide (i = j) := by
  show PyData.eqv (.int i) (.int j) = _
  unfold PyData.eqv
  rfl
theorem eq_bb (i j : Bool) : eqD (.bl i) (.bl j) = decide (i = j) := by
  show PyData.eqv (.bool i) (.bool j) = _
  cases i <;> cases j <;> rfl
theorem fit_i (i : Int) : fitD (.int i) = true := rfl
theorem fit_b (i : Bool) : fitD (.bl i) = true := by cases i <;> rfl
theorem fit_n : fitD .none = true := rfl
theorem fit_s (s : Str) : fitD (.str s) = PyData.strOk s := by
  show (PyData.strOk s && decide ((toP (.str s)).depth ≤ 60)) = _
  have : (toP (.str s)).depth ≤ 60 := by show PyData.depth (.str s) ≤ 60; unfold PyData.depth; omega
  rw [decide_eq_true this]
  simp
end Z

/-! Z21: the plain side: each construct's own law. -/
namespace Z
open PySem PySem.Spec PyProof.Rows L2
section
variable {cl : CallT} {wf : Nat} {s : S} {Q : Rs → S → Prop} {P : Flow → S → Prop}
theorem Op.ext {α : Type} {o : Option α} {Q Q' : α → Prop} (h : ∀ a, Q a = Q' a) : Op o Q = Op o Q' := by
  have e : Q = Q' := funext h
  subst e
  rfl
theorem Ob.ext {o : D} {Q Q' : Bool → Prop} (h : ∀ a, Q a = Q' a) : Ob o Q = Ob o Q' := by
  have e : Q = Q' := funext h
  subst e
  rfl
theorem two_imp {a b p p' q q' : Prop} (h : p = p') (h' : q = q') : ((a → p) ∧ (b → q)) = ((a → p') ∧ (b → q')) := by rw [h, h']
theorem wp_pif {α : Type} {s : S} {Q : α → S → Prop} (c : Prop) [Decidable c] (m m' : M α) : Wp (if c then m else m') s Q = ((c → Wp m s Q) ∧ (¬ c → Wp m' s Q)) := by
  by_cases h : c <;> simp [h]
theorem wp_blk (own : List Nat) (m : M (List D)) (ρ : List Slot) (st : List SO) : Wp (blk own (calm m)) ⟨ρ, st⟩ Q = Wp m ⟨ρ, st⟩ fun ds s' => Q (.lst ds, true) ⟨unwipe own ρ s'.ρ, s'.st⟩ := by
  unfold Wp blk calm
  dsimp only
  cases m ⟨ρ, st⟩ <;> rfl
theorem wp_wipe (own : List Nat) (ρ : List Slot) (st : List SO) {Q : Unit → S → Prop} : Wp (wipeS own) ⟨ρ, st⟩ Q = Q () ⟨own.foldr (fun i ρ => ρ.set i .un) ρ, st⟩ := rfl
theorem wp_tick (acc : List D) (y : D) {Q : List D → S → Prop} : Wp (tick acc y) s Q = (acc.length < line ∧ Q (acc ++ [y]) s) := by
  unfold tick
  by_cases h : acc.length < line
  · rw [if_pos h]; simp [h]; rfl
  · rw [if_neg h]; simp [h]; exact fun z => z
theorem wp_lc0 {own : List Nat} {tg : Tg} {cond : M Bool} {elt : M D} {acc : List D} {Q : List D → S → Prop} : Wp (lcLoop own tg cond elt [] acc) s Q = Q acc s := rfl
theorem wp_lc {own : List Nat} {tg : Tg} {cond : M Bool} {elt : M D} {x : D} {xs acc : List D} {Q : List D → S → Prop} : Wp (lcLoop own tg cond elt (x :: xs) acc) s Q = Wp (wipeS own) s fun _ s1 => Wp (bindT tg x) s1 fun _ s2 => Wp cond s2 fun c s3 => ((c = true → Wp elt s3 fun y s4 => (acc.length < line ∧ Wp (lcLoop own tg cond elt xs (acc ++ [y])) s4 Q)) ∧ (c = false → Wp (lcLoop own tg cond elt xs acc) s3 Q)) := by
  rw [lcLoop, wp_bind]
  refine Wp.ext fun _ _ => ?_
  rw [wp_bind]
  refine Wp.ext fun _ _ => ?_
  rw [wp_bind]
  refine Wp.ext fun _ _ => ?_
  rw [wp_ite]
  refine two_imp ?_ rfl
  rw [wp_bind]
  refine Wp.ext fun _ _ => ?_
  rw [wp_bind, wp_tick]
/-- a comprehension without a test whose turns keep I and whose items are so that J -/
theorem wp_lc_inv {own : List Nat} {tg : Tg} {elt : M D} (cond : M Bool) (hc : cond = Pure.pure true) (I : S → Prop) (J : D → Prop) (n : Nat) (hn : n ≤ line) {Q : List D → S → Prop} : ∀ {xs acc : List D} {s : S}, I s → (∀ y ∈ acc, J y) → acc.length + xs.length ≤ n → (∀ x ∈ xs, ∀ s, I s → Wp (wipeS own) s fun _ s1 => Wp (bindT tg x) s1 fun _ s2 => Wp elt s2 fun y s3 => J y ∧ I s3) → (∀ ds s, I s → (∀ y ∈ ds, J y) → ds.length = acc.length + xs.length → Q ds s) → Wp (lcLoop own tg cond elt xs acc) s Q
  | [], acc, s, h, ha, hl, _, hq => hq acc s h ha (by simp)
  | x :: xs, acc, s, h, ha, hl, hs, hq => by
    subst hc
    rw [wp_lc]
    refine (hs x List.mem_cons_self s h).mono fun _ s1 h1 => h1.mono fun _ s2 h2 => ?_
    rw [wp_pure]
    refine ⟨fun _ => h2.mono fun y s3 ⟨hy, h3⟩ => ?_, fun z => nomatch z⟩
    rw [List.length_cons] at hl
    refine ⟨by omega, wp_lc_inv _ rfl I J n hn h3 (fun z hz => ?_) (by rw [List.length_append, List.length_singleton]; omega) (fun y hy => hs y (List.mem_cons_of_mem _ hy)) fun ds s h1 h2 h3 => hq ds s h1 h2 (by rw [List.length_append, List.length_singleton] at h3; rw [List.length_cons]; omega)⟩
    rcases List.mem_append.mp hz with hz | hz
    · exact ha z hz
    · rw [List.mem_singleton.mp hz]; exact hy

theorem w_var {i : Nat} : Wp (Z.evalE cl (.var i)) s Q = Wp (rdVar i) s Q := by
  rw [Z.evalE]
  repeat' (first | rfl | refine Wp.ext fun _ _ => ?_ | refine Op.ext fun _ => ?_ | refine Ob.ext fun _ => ?_ | refine two_imp ?_ ?_ | rw [wp_bind] | rw [wp_asB] | rw [wp_ofB] | rw [wp_dat] | rw [wp_liftO] | rw [wp_stO] | rw [wp_ite] | rw [wp_pif] | rw [wp_pure])
theorem w_con {d : D} : Wp (Z.evalE cl (.con d)) s Q = Q (d, false) s := by
  rw [Z.evalE]
  repeat' (first | rfl | refine Wp.ext fun _ _ => ?_ | refine Op.ext fun _ => ?_ | refine Ob.ext fun _ => ?_ | refine two_imp ?_ ?_ | rw [wp_bind] | rw [wp_asB] | rw [wp_ofB] | rw [wp_dat] | rw [wp_liftO] | rw [wp_stO] | rw [wp_ite] | rw [wp_pif] | rw [wp_pure])
theorem w_tup {es : List Ex} : Wp (Z.evalE cl (.tup es)) s Q = Wp (Z.evalDs cl es) s fun ds s1 => ((ds.length ≤ line → Q (.tup ds, false) s1) ∧ (¬ ds.length ≤ line → Wp bad s1 Q)) := by
  rw [Z.evalE]
  repeat' (first | rfl | refine Wp.ext fun _ _ => ?_ | refine Op.ext fun _ => ?_ | refine Ob.ext fun _ => ?_ | refine two_imp ?_ ?_ | rw [wp_bind] | rw [wp_asB] | rw [wp_ofB] | rw [wp_dat] | rw [wp_liftO] | rw [wp_stO] | rw [wp_ite] | rw [wp_pif] | rw [wp_pure])
theorem w_lst {es : List Ex} : Wp (Z.evalE cl (.lst es)) s Q = Wp (Z.evalDs cl es) s fun ds s1 => ((ds.length ≤ line → Q (.lst ds, true) s1) ∧ (¬ ds.length ≤ line → Wp bad s1 Q)) := by
  rw [Z.evalE]
  repeat' (first | rfl | refine Wp.ext fun _ _ => ?_ | refine Op.ext fun _ => ?_ | refine Ob.ext fun _ => ?_ | refine two_imp ?_ ?_ | rw [wp_bind] | rw [wp_asB] | rw [wp_ofB] | rw [wp_dat] | rw [wp_liftO] | rw [wp_stO] | rw [wp_ite] | rw [wp_pif] | rw [wp_pure])
theorem w_shr {e : Ex} : Wp (Z.evalE cl (.shr e)) s Q = Wp (Z.evalE cl e) s fun r s1 => Wp (shrD r) s1 Q := by
  rw [Z.evalE]
  repeat' (first | rfl | refine Wp.ext fun _ _ => ?_ | refine Op.ext fun _ => ?_ | refine Ob.ext fun _ => ?_ | refine two_imp ?_ ?_ | rw [wp_bind] | rw [wp_asB] | rw [wp_ofB] | rw [wp_dat] | rw [wp_liftO] | rw [wp_stO] | rw [wp_ite] | rw [wp_pif] | rw [wp_pure])
theorem w_bin {op : BOp} {a b : Ex} : Wp (Z.evalE cl (.bin op a b)) s Q = Wp (opdV a (Z.evalE cl a)) s fun x s1 => Wp (opdV b (Z.evalE cl b)) s1 fun y s2 => Wp (res x) s2 fun d s3 => Wp (res y) s3 fun e s4 => Op (binD op d e) fun r => Q r s4 := by
  rw [Z.evalE]
  repeat' (first | rfl | refine Wp.ext fun _ _ => ?_ | refine Op.ext fun _ => ?_ | refine Ob.ext fun _ => ?_ | refine two_imp ?_ ?_ | rw [wp_bind] | rw [wp_asB] | rw [wp_ofB] | rw [wp_dat] | rw [wp_liftO] | rw [wp_stO] | rw [wp_ite] | rw [wp_pif] | rw [wp_pure])
theorem w_cmp {op : COp} {a b : Ex} : Wp (Z.evalE cl (.cmp op a b)) s Q = Wp (opdV a (Z.evalE cl a)) s fun x s1 => Wp (opdV b (Z.evalE cl b)) s1 fun y s2 => Wp (res x) s2 fun d s3 => Wp (res y) s3 fun e s4 => Op (cmpD op d e) fun r => Q (.bl r, false) s4 := by
  rw [Z.evalE]
  repeat' (first | rfl | refine Wp.ext fun _ _ => ?_ | refine Op.ext fun _ => ?_ | refine Ob.ext fun _ => ?_ | refine two_imp ?_ ?_ | rw [wp_bind] | rw [wp_asB] | rw [wp_ofB] | rw [wp_dat] | rw [wp_liftO] | rw [wp_stO] | rw [wp_ite] | rw [wp_pif] | rw [wp_pure])
theorem w_idx {a b : Ex} : Wp (Z.evalE cl (.idx a b)) s Q = Wp (opdV a (Z.evalE cl a)) s fun x s1 => Wp (opdV b (Z.evalE cl b)) s1 fun y s2 => Wp (res x) s2 fun d s3 => Wp (res y) s3 fun e s4 => Op (idxD s4.st d e) fun r => Q (r, false) s4 := by
  rw [Z.evalE]
  repeat' (first | rfl | refine Wp.ext fun _ _ => ?_ | refine Op.ext fun _ => ?_ | refine Ob.ext fun _ => ?_ | refine two_imp ?_ ?_ | rw [wp_bind] | rw [wp_asB] | rw [wp_ofB] | rw [wp_dat] | rw [wp_liftO] | rw [wp_stO] | rw [wp_ite] | rw [wp_pif] | rw [wp_pure])
theorem w_cmp2 {op op2 : COp} {a b c : Ex} : Wp (Z.evalE cl (.cmp2 op op2 a b c)) s Q = Wp (Z.evalE cl a) s fun d s1 => Wp (Z.evalE cl b) s1 fun e s2 => Op (cmpD op d.1 e.1) fun c1 => ((c1 = true → Wp (Z.evalE cl c) s2 fun f s3 => Op (cmpD op2 e.1 f.1) fun c2 => Q (.bl c2, false) s3) ∧ (c1 = false → Q (.bl false, false) s2)) := by
  rw [Z.evalE]
  repeat' (first | rfl | refine Wp.ext fun _ _ => ?_ | refine Op.ext fun _ => ?_ | refine Ob.ext fun _ => ?_ | refine two_imp ?_ ?_ | rw [wp_bind] | rw [wp_asB] | rw [wp_ofB] | rw [wp_dat] | rw [wp_liftO] | rw [wp_stO] | rw [wp_ite] | rw [wp_pif] | rw [wp_pure])
theorem w_and2 {a b : Ex} : Wp (Z.evalE cl (.and2 a b)) s Q = Wp (Z.evalE cl a) s fun r s1 => Ob r.1 fun c => ((c = true → Wp (Z.evalE cl b) s1 fun r s2 => Ob r.1 fun b => Q (.bl b, false) s2) ∧ (c = false → Q (.bl false, false) s1)) := by
  rw [Z.evalE]
  repeat' (first | rfl | refine Wp.ext fun _ _ => ?_ | refine Op.ext fun _ => ?_ | refine Ob.ext fun _ => ?_ | refine two_imp ?_ ?_ | rw [wp_bind] | rw [wp_asB] | rw [wp_ofB] | rw [wp_dat] | rw [wp_liftO] | rw [wp_stO] | rw [wp_ite] | rw [wp_pif] | rw [wp_pure])
theorem w_or2 {a b : Ex} : Wp (Z.evalE cl (.or2 a b)) s Q = Wp (Z.evalE cl a) s fun r s1 => Ob r.1 fun c => ((c = true → Q (.bl true, false) s1) ∧ (c = false → Wp (Z.evalE cl b) s1 fun r s2 => Ob r.1 fun b => Q (.bl b, false) s2)) := by
  rw [Z.evalE]
  repeat' (first | rfl | refine Wp.ext fun _ _ => ?_ | refine Op.ext fun _ => ?_ | refine Ob.ext fun _ => ?_ | refine two_imp ?_ ?_ | rw [wp_bind] | rw [wp_asB] | rw [wp_ofB] | rw [wp_dat] | rw [wp_liftO] | rw [wp_stO] | rw [wp_ite] | rw [wp_pif] | rw [wp_pure])
theorem w_not1 {a : Ex} : Wp (Z.evalE cl (.not1 a)) s Q = Wp (Z.evalE cl a) s fun r s1 => Ob r.1 fun c => Q (.bl (!c), false) s1 := by
  rw [Z.evalE]
  repeat' (first | rfl | refine Wp.ext fun _ _ => ?_ | refine Op.ext fun _ => ?_ | refine Ob.ext fun _ => ?_ | refine two_imp ?_ ?_ | rw [wp_bind] | rw [wp_asB] | rw [wp_ofB] | rw [wp_dat] | rw [wp_liftO] | rw [wp_stO] | rw [wp_ite] | rw [wp_pif] | rw [wp_pure])
theorem w_ife {c a b : Ex} : Wp (Z.evalE cl (.ife c a b)) s Q = Wp (Z.evalE cl c) s fun r s1 => Ob r.1 fun t => ((t = true → Wp (Z.evalE cl a) s1 Q) ∧ (t = false → Wp (Z.evalE cl b) s1 Q)) := by
  rw [Z.evalE]
  repeat' (first | rfl | refine Wp.ext fun _ _ => ?_ | refine Op.ext fun _ => ?_ | refine Ob.ext fun _ => ?_ | refine two_imp ?_ ?_ | rw [wp_bind] | rw [wp_asB] | rw [wp_ofB] | rw [wp_dat] | rw [wp_liftO] | rw [wp_stO] | rw [wp_ite] | rw [wp_pif] | rw [wp_pure])
theorem w_sli {a : Ex} {lo hi : Option Ex} : Wp (Z.evalE cl (.sli a lo hi)) s Q = Wp (opdV a (Z.evalE cl a)) s fun x s1 => Wp (Z.evalPart cl lo) s1 fun l s2 => Wp (Z.evalPart cl hi) s2 fun h s3 => Wp (res x) s3 fun d s4 => Op (sliD d l h) fun r => Q r s4 := by
  rw [Z.evalE]
  repeat' (first | rfl | refine Wp.ext fun _ _ => ?_ | refine Op.ext fun _ => ?_ | refine Ob.ext fun _ => ?_ | refine two_imp ?_ ?_ | rw [wp_bind] | rw [wp_asB] | rw [wp_ofB] | rw [wp_dat] | rw [wp_liftO] | rw [wp_stO] | rw [wp_ite] | rw [wp_pif] | rw [wp_pure])
theorem w_call {f : Nat} {es : List Ex} : Wp (Z.evalE cl (.call f es)) s Q = Wp (Z.evalOs cl es) s fun os s1 => Wp (ress os) s1 fun ds s2 => Wp (afterCall os (cl f ds s2.st)) s2 Q := by
  rw [Z.evalE]
  repeat' (first | rfl | refine Wp.ext fun _ _ => ?_ | refine Op.ext fun _ => ?_ | refine Ob.ext fun _ => ?_ | refine two_imp ?_ ?_ | rw [wp_bind] | rw [wp_asB] | rw [wp_ofB] | rw [wp_dat] | rw [wp_liftO] | rw [wp_stO] | rw [wp_ite] | rw [wp_pif] | rw [wp_pure])
theorem w_blt {b : Blt} {es : List Ex} : Wp (Z.evalE cl (.blt b es)) s Q = Wp (Z.evalOs cl es) s fun os s1 => Wp (ress os) s1 fun ds s2 => Op (bltD s2.st b ds) fun r => Q r s2 := by
  rw [Z.evalE]
  repeat' (first | rfl | refine Wp.ext fun _ _ => ?_ | refine Op.ext fun _ => ?_ | refine Ob.ext fun _ => ?_ | refine two_imp ?_ ?_ | rw [wp_bind] | rw [wp_asB] | rw [wp_ofB] | rw [wp_dat] | rw [wp_liftO] | rw [wp_stO] | rw [wp_ite] | rw [wp_pif] | rw [wp_pure])
theorem w_isi {ts : List Ty} {a : Ex} : Wp (Z.evalE cl (.isi ts a)) s Q = Wp (opdV a (Z.evalE cl a)) s fun x s1 => Wp (res x) s1 fun d s2 => Op (isiD ts d) fun b => Q (.bl b, false) s2 := by
  rw [Z.evalE]
  repeat' (first | rfl | refine Wp.ext fun _ _ => ?_ | refine Op.ext fun _ => ?_ | refine Ob.ext fun _ => ?_ | refine two_imp ?_ ?_ | rw [wp_bind] | rw [wp_asB] | rw [wp_ofB] | rw [wp_dat] | rw [wp_liftO] | rw [wp_stO] | rw [wp_ite] | rw [wp_pif] | rw [wp_pure])
theorem w_lc {elt : Ex} {tg : Tg} {ik : IK} {src conds : List Ex} {own : List Nat} : Wp (Z.evalE cl (.lc elt tg ik src conds own)) s Q = Wp (Z.evalDs cl src) s fun ds s1 => Op (itemsD ik ds) fun xs => Wp (blk own (calm (lcLoop own tg (Z.evalCs cl conds) (dat (Z.evalE cl elt)) xs []))) s1 Q := by
  rw [Z.evalE]
  repeat' (first | rfl | refine Wp.ext fun _ _ => ?_ | refine Op.ext fun _ => ?_ | refine Ob.ext fun _ => ?_ | refine two_imp ?_ ?_ | rw [wp_bind] | rw [wp_asB] | rw [wp_ofB] | rw [wp_dat] | rw [wp_liftO] | rw [wp_stO] | rw [wp_ite] | rw [wp_pif] | rw [wp_pure])
theorem w_popk {i : Nat} {k : Ex} : Wp (Z.evalE cl (.popk i k)) s Q = Wp (ownL i) s fun _ s1 => Wp (Z.evalE cl k) s1 fun d s2 => Wp (popAt i d.1) s2 Q := by
  rw [Z.evalE]
  repeat' (first | rfl | refine Wp.ext fun _ _ => ?_ | refine Op.ext fun _ => ?_ | refine Ob.ext fun _ => ?_ | refine two_imp ?_ ?_ | rw [wp_bind] | rw [wp_asB] | rw [wp_ofB] | rw [wp_dat] | rw [wp_liftO] | rw [wp_stO] | rw [wp_ite] | rw [wp_pif] | rw [wp_pure])
theorem w_popl {i : Nat} : Wp (Z.evalE cl (.popl i)) s Q = Wp (ownL i) s fun _ s1 => Wp (popLast i) s1 Q := by
  rw [Z.evalE]
  repeat' (first | rfl | refine Wp.ext fun _ _ => ?_ | refine Op.ext fun _ => ?_ | refine Ob.ext fun _ => ?_ | refine two_imp ?_ ?_ | rw [wp_bind] | rw [wp_asB] | rw [wp_ofB] | rw [wp_dat] | rw [wp_liftO] | rw [wp_stO] | rw [wp_ite] | rw [wp_pif] | rw [wp_pure])
def Nn (d : D) (P : Prop) (Q : Prop) (_ : Fx (P, Q) := ⟨⟩) : Prop := match d with
  | .none => P
  | _ => Q
theorem nn_none (P Q : Prop) : Nn .none P Q = P := rfl
theorem nn_int (i : Int) (P Q : Prop) : Nn (.int i) P Q = Q := rfl
theorem nn_bl (i : Bool) (P Q : Prop) : Nn (.bl i) P Q = Q := rfl
theorem nn_str (i : Str) (P Q : Prop) : Nn (.str i) P Q = Q := rfl
theorem nn_tup (i : List D) (P Q : Prop) : Nn (.tup i) P Q = Q := rfl
theorem nn_lst (i : List D) (P Q : Prop) : Nn (.lst i) P Q = Q := rfl
theorem w_isN {no : Bool} {a : Ex} : Wp (Z.evalE cl (.isN no a)) s Q = Wp (opdV a (Z.evalE cl a)) s fun x s1 => Wp (res x) s1 fun d s2 => Nn d (Q (.bl (!no), false) s2) (Q (.bl no, false) s2) := by
  rw [Z.evalE, wp_bind]
  refine Wp.ext fun x s1 => ?_
  rw [wp_bind]
  refine Wp.ext fun d s2 => ?_
  cases d <;> rfl
theorem w_neg {a : Ex} : Wp (Z.evalE cl (.neg a)) s Q = Wp (Z.evalE cl a) s fun r s1 => Oi r.1 fun i => Q (.int (-i), false) s1 := by
  rw [Z.evalE, wp_bind, wp_dat]
  refine Wp.ext fun x s1 => ?_
  obtain ⟨d, b⟩ := x
  cases d <;> rfl
def Ol (d : D) (Q : List D → Prop) (_ : Fx Q := ⟨⟩) : Prop := match d with
  | .lst ds => Q ds
  | _ => False
theorem ol_lst (ds : List D) (Q : List D → Prop) : Ol (.lst ds) Q = Q ds := rfl
theorem w_rev {a : Ex} : Wp (Z.evalE cl (.rev a)) s Q = Wp (opdV a (Z.evalE cl a)) s fun x s1 => Wp (res x) s1 fun d s2 => Ol d fun ds => Q (.lst ds.reverse, true) s2 := by
  rw [Z.evalE, wp_bind]
  refine Wp.ext fun x s1 => ?_
  rw [wp_bind]
  refine Wp.ext fun d s2 => ?_
  cases d <;> rfl
theorem w_part1 {e : Ex} {Q : Option Int → S → Prop} : Wp (Z.evalPart cl (some e)) s Q = Wp (Z.evalE cl e) s fun r s1 => Oi r.1 fun i => Q (some i) s1 := by
  rw [Z.evalPart, wp_bind, wp_dat]
  refine Wp.ext fun x s1 => ?_
  obtain ⟨d, b⟩ := x
  cases d <;> rfl
theorem w_part0 {Q : Option Int → S → Prop} : Wp (Z.evalPart cl none) s Q = Q none s := rfl
theorem w_ds0 {Q : List D → S → Prop} : Wp (Z.evalDs cl []) s Q = Q [] s := rfl
theorem w_ds {e : Ex} {es : List Ex} {Q : List D → S → Prop} : Wp (Z.evalDs cl (e :: es)) s Q = Wp (Z.evalE cl e) s fun r s1 => Wp (Z.evalDs cl es) s1 fun ds s2 => Q (r.1 :: ds) s2 := by
  rw [Z.evalDs]
  repeat' (first | rfl | refine Wp.ext fun _ _ => ?_ | refine Op.ext fun _ => ?_ | refine Ob.ext fun _ => ?_ | refine two_imp ?_ ?_ | rw [wp_bind] | rw [wp_asB] | rw [wp_ofB] | rw [wp_dat] | rw [wp_liftO] | rw [wp_stO] | rw [wp_ite] | rw [wp_pif] | rw [wp_pure])
theorem w_os0 {Q : List Opd → S → Prop} : Wp (Z.evalOs cl []) s Q = Q [] s := rfl
theorem w_os {e : Ex} {es : List Ex} {Q : List Opd → S → Prop} : Wp (Z.evalOs cl (e :: es)) s Q = Wp (opdV e (Z.evalE cl e)) s fun r s1 => Wp (Z.evalOs cl es) s1 fun ds s2 => Q (r :: ds) s2 := by
  rw [Z.evalOs]
  repeat' (first | rfl | refine Wp.ext fun _ _ => ?_ | refine Op.ext fun _ => ?_ | refine Ob.ext fun _ => ?_ | refine two_imp ?_ ?_ | rw [wp_bind] | rw [wp_asB] | rw [wp_ofB] | rw [wp_dat] | rw [wp_liftO] | rw [wp_stO] | rw [wp_ite] | rw [wp_pif] | rw [wp_pure])
theorem w_cs0 {Q : Bool → S → Prop} : Wp (Z.evalCs cl []) s Q = Q true s := rfl
theorem w_cs {e : Ex} {es : List Ex} {Q : Bool → S → Prop} : Wp (Z.evalCs cl (e :: es)) s Q = Wp (Z.evalE cl e) s fun r s1 => Ob r.1 fun c => ((c = true → Wp (Z.evalCs cl es) s1 Q) ∧ (c = false → Q false s1)) := by
  rw [Z.evalCs]
  repeat' (first | rfl | refine Wp.ext fun _ _ => ?_ | refine Op.ext fun _ => ?_ | refine Ob.ext fun _ => ?_ | refine two_imp ?_ ?_ | rw [wp_bind] | rw [wp_asB] | rw [wp_ofB] | rw [wp_dat] | rw [wp_liftO] | rw [wp_stO] | rw [wp_ite] | rw [wp_pif] | rw [wp_pure])
theorem wp_shr (ds : List D) (ρ : List Slot) (st : List SO) : Wp (shrD (.lst ds, true)) ⟨ρ, st⟩ Q = Q (.obj st.length, false) ⟨ρ, st ++ [.lst ds]⟩ := rfl
theorem wp_ownL (i : Nat) (ρ : List Slot) (st : List SO) {Q : Unit → S → Prop} : Wp (ownL i) ⟨ρ, st⟩ Q = Al ρ[i]? [] (fun _ _ => Q () ⟨ρ, st⟩) (fun _ _ => False) := by
  unfold Wp ownL
  dsimp only
  cases ρ[i]? with
  | none => rfl
  | some x =>
    cases x with
    | un => rfl
    | ow d => cases d <;> rfl
    | pu d => cases d <;> rfl
theorem wp_popAt (i : Nat) (k : D) (ρ : List Slot) (st : List SO) : Wp (popAt i k) ⟨ρ, st⟩ Q = Al ρ[i]? [] (fun ds _ => Op (ixP ds.length k) fun j => Op ds[j]? fun d => Q (d, false) ⟨ρ.set i (.ow (.lst (ds.eraseIdx j))), st⟩) (fun _ _ => False) := by
  unfold Wp popAt
  dsimp only
  cases ρ[i]? with
  | none => rfl
  | some x =>
    cases x with
    | un => rfl
    | ow d =>
      cases d with
      | lst ds =>
        dsimp only
        show _ = Op (ixP ds.length k) fun j => Op ds[j]? fun d => Q (d, false) ⟨ρ.set i (.ow (.lst (ds.eraseIdx j))), st⟩
        cases ixP ds.length k with
        | none => rfl
        | some j =>
          dsimp only
          show _ = Op ds[j]? fun d => Q (d, false) ⟨ρ.set i (.ow (.lst (ds.eraseIdx j))), st⟩
          cases ds[j]? <;> rfl
      | _ => rfl
    | pu d => cases d <;> rfl
theorem wp_popLast (i : Nat) (ρ : List Slot) (st : List SO) : Wp (popLast i) ⟨ρ, st⟩ Q = Al ρ[i]? [] (fun ds _ => Op ds[ds.length - 1]? fun d => Q (d, false) ⟨ρ.set i (.ow (.lst ds.dropLast)), st⟩) (fun _ _ => False) := by
  unfold Wp popLast
  dsimp only
  cases ρ[i]? with
  | none => rfl
  | some x =>
    cases x with
    | un => rfl
    | ow d =>
      cases d with
      | lst ds =>
        dsimp only
        show _ = Op ds[ds.length - 1]? fun d => Q (d, false) ⟨ρ.set i (.ow (.lst ds.dropLast)), st⟩
        cases ds[ds.length - 1]? <;> rfl
      | _ => rfl
    | pu d => cases d <;> rfl
theorem wp_app (i : Nat) (d : D) (ρ : List Slot) (st : List SO) {Q : Unit → S → Prop} : Wp (appTo i d) ⟨ρ, st⟩ Q = Al ρ[i]? [] (fun ds _ => ds.length < line ∧ Q () ⟨ρ.set i (.ow (.lst (ds ++ [d]))), st⟩) (fun _ _ => False) := by
  unfold Wp appTo
  dsimp only
  cases ρ[i]? with
  | none => rfl
  | some x =>
    cases x with
    | un => rfl
    | ow e =>
      cases e with
      | lst ds =>
        dsimp only
        by_cases h : ds.length < line
        · simp [h, Al]
        · simp [h, Al]
      | _ => rfl
    | pu d => cases d <;> rfl
theorem wp_ins (i : Nat) (z : Int) (d : D) (ρ : List Slot) (st : List SO) {Q : Unit → S → Prop} : Wp (insTo i (.int z) d) ⟨ρ, st⟩ Q = Al ρ[i]? [] (fun ds _ => (ds.length < line ∧ 0 ≤ z ∧ z < 2 ^ 63) ∧ Q () ⟨ρ.set i (.ow (.lst (ds.take z.toNat ++ [d] ++ ds.drop z.toNat))), st⟩) (fun _ _ => False) := by
  unfold Wp insTo
  dsimp only
  cases ρ[i]? with
  | none => rfl
  | some x =>
    cases x with
    | un => rfl
    | ow e =>
      cases e with
      | lst ds =>
        dsimp only
        by_cases h : ds.length < line ∧ 0 ≤ z ∧ z < 2 ^ 63
        · rw [if_pos h]; simp only [Al]; exact propext ⟨fun q => ⟨h, q⟩, fun q => q.2⟩
        · rw [if_neg h]; simp only [Al]; exact propext ⟨fun q => q.elim, fun q => h q.1⟩
      | _ => rfl
    | pu d => cases d <;> rfl
theorem wp_bindTup (ts : List Tg) (ds : List D) {Q : Unit → S → Prop} : Wp (bindT (.tup ts) (.tup ds)) s Q = (ts.length = ds.length ∧ Wp (bindT.bindTs ts ds) s Q) := by
  unfold bindT
  by_cases h : ts.length = ds.length
  · simp [h]
  · simp [h]; exact fun z => z
theorem wp_bindTs0 {Q : Unit → S → Prop} : Wp (bindT.bindTs [] []) s Q = Q () s := by
  unfold bindT.bindTs
  rfl
theorem wp_bindTs (t : Tg) (ts : List Tg) (d : D) (ds : List D) {Q : Unit → S → Prop} : Wp (bindT.bindTs (t :: ts) (d :: ds)) s Q = Wp (bindT t d) s fun _ s1 => Wp (bindT.bindTs ts ds) s1 Q := by
  rw [bindT.bindTs, wp_bind]

theorem w_asg {i : Nat} {e : Ex} : Wp (Z.exec cl wf (.asg i e)) s P = Wp (Z.evalE cl e) s fun r s1 => Wp (setR i r) s1 fun _ s2 => P .nx s2 := by
  rw [Z.exec]
  repeat' (first | rfl | refine Wp.ext fun _ _ => ?_ | refine Op.ext fun _ => ?_ | refine Ob.ext fun _ => ?_ | refine two_imp ?_ ?_ | rw [wp_bind] | rw [wp_asB] | rw [wp_ofB] | rw [wp_dat] | rw [wp_liftO] | rw [wp_stO] | rw [wp_ite] | rw [wp_pif] | rw [wp_pure])
theorem w_asgT {ts : List Tg} {e : Ex} : Wp (Z.exec cl wf (.asgT ts e)) s P = Wp (Z.evalE cl e) s fun r s1 => Wp (bindT (.tup ts) r.1) s1 fun _ s2 => P .nx s2 := by
  rw [Z.exec]
  repeat' (first | rfl | refine Wp.ext fun _ _ => ?_ | refine Op.ext fun _ => ?_ | refine Ob.ext fun _ => ?_ | refine two_imp ?_ ?_ | rw [wp_bind] | rw [wp_asB] | rw [wp_ofB] | rw [wp_dat] | rw [wp_liftO] | rw [wp_stO] | rw [wp_ite] | rw [wp_pif] | rw [wp_pure])
theorem w_aug {op : BOp} {i : Nat} {e : Ex} : Wp (Z.exec cl wf (.aug op i e)) s P = Wp (rdSlot i) s fun d s1 => Wp (Z.evalE cl e) s1 fun r s2 => Op (augD op d r.1) fun x => Wp (setρ i (.pu x)) s2 fun _ s3 => P .nx s3 := by
  rw [Z.exec]
  repeat' (first | rfl | refine Wp.ext fun _ _ => ?_ | refine Op.ext fun _ => ?_ | refine Ob.ext fun _ => ?_ | refine two_imp ?_ ?_ | rw [wp_bind] | rw [wp_asB] | rw [wp_ofB] | rw [wp_dat] | rw [wp_liftO] | rw [wp_stO] | rw [wp_ite] | rw [wp_pif] | rw [wp_pure])
theorem w_setI {o k e : Ex} : Wp (Z.exec cl wf (.setI o k e)) s P = Wp (Z.evalE cl e) s fun r s1 => Wp (opdV o (Z.evalE cl o)) s1 fun x s2 => Wp (Z.evalE cl k) s2 fun z s3 => Wp (setAt x z.1 r.1) s3 fun _ s4 => P .nx s4 := by
  rw [Z.exec]
  repeat' (first | rfl | refine Wp.ext fun _ _ => ?_ | refine Op.ext fun _ => ?_ | refine Ob.ext fun _ => ?_ | refine two_imp ?_ ?_ | rw [wp_bind] | rw [wp_asB] | rw [wp_ofB] | rw [wp_dat] | rw [wp_liftO] | rw [wp_stO] | rw [wp_ite] | rw [wp_pif] | rw [wp_pure])
theorem w_app {i : Nat} {e : Ex} : Wp (Z.exec cl wf (.app i e)) s P = Wp (ownL i) s fun _ s1 => Wp (Z.evalE cl e) s1 fun r s2 => Wp (appTo i r.1) s2 fun _ s3 => P .nx s3 := by
  rw [Z.exec]
  repeat' (first | rfl | refine Wp.ext fun _ _ => ?_ | refine Op.ext fun _ => ?_ | refine Ob.ext fun _ => ?_ | refine two_imp ?_ ?_ | rw [wp_bind] | rw [wp_asB] | rw [wp_ofB] | rw [wp_dat] | rw [wp_liftO] | rw [wp_stO] | rw [wp_ite] | rw [wp_pif] | rw [wp_pure])
theorem w_ins {i : Nat} {k e : Ex} : Wp (Z.exec cl wf (.ins i k e)) s P = Wp (ownL i) s fun _ s1 => Wp (Z.evalE cl k) s1 fun z s2 => Wp (Z.evalE cl e) s2 fun r s3 => Wp (insTo i z.1 r.1) s3 fun _ s4 => P .nx s4 := by
  rw [Z.exec]
  repeat' (first | rfl | refine Wp.ext fun _ _ => ?_ | refine Op.ext fun _ => ?_ | refine Ob.ext fun _ => ?_ | refine two_imp ?_ ?_ | rw [wp_bind] | rw [wp_asB] | rw [wp_ofB] | rw [wp_dat] | rw [wp_liftO] | rw [wp_stO] | rw [wp_ite] | rw [wp_pif] | rw [wp_pure])
theorem w_ext {i : Nat} {e : Ex} : Wp (Z.exec cl wf (.ext i e)) s P = Wp (ownL i) s fun _ s1 => Wp (Z.evalE cl e) s1 fun r s2 => Wp (extTo i r.1) s2 fun _ s3 => P .nx s3 := by
  rw [Z.exec]
  repeat' (first | rfl | refine Wp.ext fun _ _ => ?_ | refine Op.ext fun _ => ?_ | refine Ob.ext fun _ => ?_ | refine two_imp ?_ ?_ | rw [wp_bind] | rw [wp_asB] | rw [wp_ofB] | rw [wp_dat] | rw [wp_liftO] | rw [wp_stO] | rw [wp_ite] | rw [wp_pif] | rw [wp_pure])
theorem w_expr {e : Ex} : Wp (Z.exec cl wf (.expr e)) s P = Wp (Z.evalE cl e) s fun r s1 => P .nx s1 := by
  rw [Z.exec]
  repeat' (first | rfl | refine Wp.ext fun _ _ => ?_ | refine Op.ext fun _ => ?_ | refine Ob.ext fun _ => ?_ | refine two_imp ?_ ?_ | rw [wp_bind] | rw [wp_asB] | rw [wp_ofB] | rw [wp_dat] | rw [wp_liftO] | rw [wp_stO] | rw [wp_ite] | rw [wp_pif] | rw [wp_pure])
theorem w_ret {e : Ex} : Wp (Z.exec cl wf (.ret e)) s P = Wp (retV e (Z.evalE cl e)) s fun r s1 => P (.ret r) s1 := by
  rw [Z.exec]
  repeat' (first | rfl | refine Wp.ext fun _ _ => ?_ | refine Op.ext fun _ => ?_ | refine Ob.ext fun _ => ?_ | refine two_imp ?_ ?_ | rw [wp_bind] | rw [wp_asB] | rw [wp_ofB] | rw [wp_dat] | rw [wp_liftO] | rw [wp_stO] | rw [wp_ite] | rw [wp_pif] | rw [wp_pure])
theorem w_retN : Wp (Z.exec cl wf .retN) s P = P (.ret (.none, false)) s := by
  rw [Z.exec]
  repeat' (first | rfl | refine Wp.ext fun _ _ => ?_ | refine Op.ext fun _ => ?_ | refine Ob.ext fun _ => ?_ | refine two_imp ?_ ?_ | rw [wp_bind] | rw [wp_asB] | rw [wp_ofB] | rw [wp_dat] | rw [wp_liftO] | rw [wp_stO] | rw [wp_ite] | rw [wp_pif] | rw [wp_pure])
theorem w_if {c : Ex} {a b : List Sm} : Wp (Z.exec cl wf (.ife c a b)) s P = Wp (Z.evalE cl c) s fun r s1 => Ob r.1 fun t => ((t = true → Wp (Z.execs cl wf a) s1 P) ∧ (t = false → Wp (Z.execs cl wf b) s1 P)) := by
  rw [Z.exec]
  repeat' (first | rfl | refine Wp.ext fun _ _ => ?_ | refine Op.ext fun _ => ?_ | refine Ob.ext fun _ => ?_ | refine two_imp ?_ ?_ | rw [wp_bind] | rw [wp_asB] | rw [wp_ofB] | rw [wp_dat] | rw [wp_liftO] | rw [wp_stO] | rw [wp_ite] | rw [wp_pif] | rw [wp_pure])
theorem w_forE {tg : Tg} {ik : IK} {src : List Ex} {body : List Sm} : Wp (Z.exec cl wf (.forE tg ik src body)) s P = Wp (Z.evalDs cl src) s fun ds s1 => Op (itemsD ik ds) fun xs => Wp (forLoop tg (Z.execs cl wf body) xs) s1 P := by
  rw [Z.exec]
  repeat' (first | rfl | refine Wp.ext fun _ _ => ?_ | refine Op.ext fun _ => ?_ | refine Ob.ext fun _ => ?_ | refine two_imp ?_ ?_ | rw [wp_bind] | rw [wp_asB] | rw [wp_ofB] | rw [wp_dat] | rw [wp_liftO] | rw [wp_stO] | rw [wp_ite] | rw [wp_pif] | rw [wp_pure])
theorem w_whil {c : Ex} {body : List Sm} : Wp (Z.exec cl wf (.whil c body)) s P = Wp (whileLoop (asB (Z.evalE cl c)) (Z.execs cl wf body) wf) s P := by
  rw [Z.exec]
  repeat' (first | rfl | refine Wp.ext fun _ _ => ?_ | refine Op.ext fun _ => ?_ | refine Ob.ext fun _ => ?_ | refine two_imp ?_ ?_ | rw [wp_bind] | rw [wp_asB] | rw [wp_ofB] | rw [wp_dat] | rw [wp_liftO] | rw [wp_stO] | rw [wp_ite] | rw [wp_pif] | rw [wp_pure])
theorem w_brk : Wp (Z.exec cl wf .brk) s P = P .brk s := by
  rw [Z.exec]
  repeat' (first | rfl | refine Wp.ext fun _ _ => ?_ | refine Op.ext fun _ => ?_ | refine Ob.ext fun _ => ?_ | refine two_imp ?_ ?_ | rw [wp_bind] | rw [wp_asB] | rw [wp_ofB] | rw [wp_dat] | rw [wp_liftO] | rw [wp_stO] | rw [wp_ite] | rw [wp_pif] | rw [wp_pure])
theorem w_cont : Wp (Z.exec cl wf .cont) s P = P .cont s := by
  rw [Z.exec]
  repeat' (first | rfl | refine Wp.ext fun _ _ => ?_ | refine Op.ext fun _ => ?_ | refine Ob.ext fun _ => ?_ | refine two_imp ?_ ?_ | rw [wp_bind] | rw [wp_asB] | rw [wp_ofB] | rw [wp_dat] | rw [wp_liftO] | rw [wp_stO] | rw [wp_ite] | rw [wp_pif] | rw [wp_pure])
theorem w_pass : Wp (Z.exec cl wf .pass) s P = P .nx s := by
  rw [Z.exec]
  repeat' (first | rfl | refine Wp.ext fun _ _ => ?_ | refine Op.ext fun _ => ?_ | refine Ob.ext fun _ => ?_ | refine two_imp ?_ ?_ | rw [wp_bind] | rw [wp_asB] | rw [wp_ofB] | rw [wp_dat] | rw [wp_liftO] | rw [wp_stO] | rw [wp_ite] | rw [wp_pif] | rw [wp_pure])
theorem w_ss0 : Wp (Z.execs cl wf []) s P = P .nx s := rfl
/-- what follows a statement -/
def Fw (f : Flow) (s : S) (N : S → Prop) (P : Flow → S → Prop) (_ : Fx (N, P) := ⟨⟩) : Prop := match f with
  | .nx => N s
  | .brk => P .brk s
  | .cont => P .cont s
  | .ret r => P (.ret r) s
theorem fw_nx (N : S → Prop) (P : Flow → S → Prop) : Fw .nx s N P = N s := rfl
theorem fw_brk (N : S → Prop) (P : Flow → S → Prop) : Fw .brk s N P = P .brk s := rfl
theorem fw_cont (N : S → Prop) (P : Flow → S → Prop) : Fw .cont s N P = P .cont s := rfl
theorem fw_ret (r : Rs) (N : S → Prop) (P : Flow → S → Prop) : Fw (.ret r) s N P = P (.ret r) s := rfl
theorem w_ss {x : Sm} {xs : List Sm} : Wp (Z.execs cl wf (x :: xs)) s P = Wp (Z.exec cl wf x) s fun f s1 => Fw f s1 (fun s1 => Wp (Z.execs cl wf xs) s1 P) P := by
  rw [Z.execs, wp_bind]
  refine Wp.ext fun f s1 => ?_
  cases f <;> rfl
end
end Z

/-! Z22: the plain side: data that are plain and small; tests of kinds. -/
namespace Z
open PySem PySem.Spec PyProof.Rows L2
theorem isi_none_int : isiD [.int] .none = some false := rfl
theorem isi_none_bool : isiD [.bool] .none = some false := rfl
theorem isi_none_str : isiD [.str] .none = some false := rfl
theorem isi_none_tuple : isiD [.tuple] .none = some false := rfl
theorem isi_none_list : isiD [.list] .none = some false := rfl
theorem isi_none_list_tuple : isiD [.list, .tuple] .none = some false := rfl
theorem isi_none_tuple_list : isiD [.tuple, .list] .none = some false := rfl
theorem isi_bl_int {x : Bool} : isiD [.int] (.bl x) = some true := rfl
theorem isi_bl_bool {x : Bool} : isiD [.bool] (.bl x) = some true := rfl
theorem isi_bl_str {x : Bool} : isiD [.str] (.bl x) = some false := rfl
theorem isi_bl_tuple {x : Bool} : isiD [.tuple] (.bl x) = some false := rfl
theorem isi_bl_list {x : Bool} : isiD [.list] (.bl x) = some false := rfl
theorem isi_bl_list_tuple {x : Bool} : isiD [.list, .tuple] (.bl x) = some false := rfl
theorem isi_bl_tuple_list {x : Bool} : isiD [.tuple, .list] (.bl x) = some false := rfl
theorem isi_int_int {x : Int} : isiD [.int] (.int x) = some true := rfl
theorem isi_int_bool {x : Int} : isiD [.bool] (.int x) = some false := rfl
theorem isi_int_str {x : Int} : isiD [.str] (.int x) = some false := rfl
theorem isi_int_tuple {x : Int} : isiD [.tuple] (.int x) = some false := rfl
theorem isi_int_list {x : Int} : isiD [.list] (.int x) = some false := rfl
theorem isi_int_list_tuple {x : Int} : isiD [.list, .tuple] (.int x) = some false := rfl
theorem isi_int_tuple_list {x : Int} : isiD [.tuple, .list] (.int x) = some false := rfl
theorem isi_str_int {x : Str} : isiD [.int] (.str x) = some false := rfl
theorem isi_str_bool {x : Str} : isiD [.bool] (.str x) = some false := rfl
theorem isi_str_str {x : Str} : isiD [.str] (.str x) = some true := rfl
theorem isi_str_tuple {x : Str} : isiD [.tuple] (.str x) = some false := rfl
theorem isi_str_list {x : Str} : isiD [.list] (.str x) = some false := rfl
theorem isi_str_list_tuple {x : Str} : isiD [.list, .tuple] (.str x) = some false := rfl
theorem isi_str_tuple_list {x : Str} : isiD [.tuple, .list] (.str x) = some false := rfl
theorem isi_tup_int {x : List D} : isiD [.int] (.tup x) = some false := rfl
theorem isi_tup_bool {x : List D} : isiD [.bool] (.tup x) = some false := rfl
theorem isi_tup_str {x : List D} : isiD [.str] (.tup x) = some false := rfl
theorem isi_tup_tuple {x : List D} : isiD [.tuple] (.tup x) = some true := rfl
theorem isi_tup_list {x : List D} : isiD [.list] (.tup x) = some false := rfl
theorem isi_tup_list_tuple {x : List D} : isiD [.list, .tuple] (.tup x) = some true := rfl
theorem isi_tup_tuple_list {x : List D} : isiD [.tuple, .list] (.tup x) = some true := rfl
theorem isi_lst_int {x : List D} : isiD [.int] (.lst x) = some false := rfl
theorem isi_lst_bool {x : List D} : isiD [.bool] (.lst x) = some false := rfl
theorem isi_lst_str {x : List D} : isiD [.str] (.lst x) = some false := rfl
theorem isi_lst_tuple {x : List D} : isiD [.tuple] (.lst x) = some false := rfl
theorem isi_lst_list {x : List D} : isiD [.list] (.lst x) = some true := rfl
theorem isi_lst_list_tuple {x : List D} : isiD [.list, .tuple] (.lst x) = some true := rfl
theorem isi_lst_tuple_list {x : List D} : isiD [.tuple, .list] (.lst x) = some true := rfl
theorem cmp_eq_ii {i j : Int} : cmpD .eq (.int i) (.int j) = some (decide (i = j)) := by
  show (if (fitD (.int i) && fitD (.int j)) = true then some (eqD (.int i) (.int j)) else none) = _
  rw [fit_i, fit_i, eq_ii]
  rfl
theorem cmp_ne_ii {i j : Int} : cmpD .ne (.int i) (.int j) = some (!decide (i = j)) := by
  show (if (fitD (.int i) && fitD (.int j)) = true then some (!eqD (.int i) (.int j)) else none) = _
  rw [fit_i, fit_i, eq_ii]
  rfl
theorem cmp_eq_bb {i j : Bool} : cmpD .eq (.bl i) (.bl j) = some (decide (i = j)) := by cases i <;> cases j <;> rfl
theorem cmp_ne_bb {i j : Bool} : cmpD .ne (.bl i) (.bl j) = some (!decide (i = j)) := by cases i <;> cases j <;> rfl
theorem cmp_eq_ss {i j : Str} (h : PyData.strOk i = true) (h' : PyData.strOk j = true) : cmpD .eq (.str i) (.str j) = some (eqD (.str i) (.str j)) := by
  show (if (fitD (.str i) && fitD (.str j)) = true then some (eqD (.str i) (.str j)) else none) = _
  rw [fit_s, fit_s, h, h']
  rfl
theorem cmp_lt {i j : Int} : cmpD .lt (.int i) (.int j) = some (decide (i < j)) := rfl
theorem cmp_le {i j : Int} : cmpD .le (.int i) (.int j) = some (decide (i ≤ j)) := rfl
theorem cmp_gt {i j : Int} : cmpD .gt (.int i) (.int j) = some (decide (j < i)) := rfl
theorem cmp_ge {i j : Int} : cmpD .ge (.int i) (.int j) = some (decide (j ≤ i)) := rfl
theorem fit_t2 {a b : D} (h : plain a = true) (h' : plain b = true) (k : (toP a).depth ≤ 50) (k' : (toP b).depth ≤ 50) : fitD (.tup [a, b]) = true := by
  unfold fitD
  rw [Bool.and_eq_true, decide_eq_true_eq]
  refine ⟨?_, ?_⟩
  · show (plain a && (plain b && true)) = true
    rw [h, h']
    rfl
  · show PyData.depth (.tuple [toP a, toP b]) ≤ 60
    unfold PyData.depth PyData.depthAll PyData.depthAll PyData.depthAll
    omega
theorem cmp_ni_ii {i a b : Int} : cmpD .notin (.int i) (.tup [.int a, .int b]) = some (!(decide (a = i) || decide (b = i))) := by
  show (if (fitD (.int i) && fitD (.tup [.int a, .int b])) = true then some (!([D.int a, .int b].any fun z => eqD z (.int i))) else none) = _
  rw [fit_i, fit_t2 rfl rfl (by show PyData.depth (.int a) ≤ 50; unfold PyData.depth; omega) (by show PyData.depth (.int b) ≤ 50; unfold PyData.depth; omega)]
  simp [eq_ii]
theorem cmp_ni_ss {i a b : Str} (h : PyData.strOk i = true) (h1 : PyData.strOk a = true) (h2 : PyData.strOk b = true) : cmpD .notin (.str i) (.tup [.str a, .str b]) = some (!(eqD (.str a) (.str i) || eqD (.str b) (.str i))) := by
  show (if (fitD (.str i) && fitD (.tup [.str a, .str b])) = true then some (!([D.str a, .str b].any fun z => eqD z (.str i))) else none) = _
  rw [fit_s, h, fit_t2 (a := .str a) (b := .str b) h1 h2 (by show PyData.depth (.str a) ≤ 50; unfold PyData.depth; omega) (by show PyData.depth (.str b) ≤ 50; unfold PyData.depth; omega)]
  simp
/-- plain data, of depth at most k, lists and texts at most L long -/
def Fine (L : Nat) : Nat → D → Prop
  | 0, _ => False
  | _ + 1, .none => True
  | _ + 1, .bl _ => True
  | _ + 1, .int _ => True
  | _ + 1, .str s => PyData.strOk s = true ∧ s.length ≤ L
  | k + 1, .tup ds => ds.length ≤ L ∧ ∀ x ∈ ds, Fine L k x
  | k + 1, .lst ds => ds.length ≤ L ∧ ∀ x ∈ ds, Fine L k x
  | _, _ => False
theorem Fine.mono {L L' : Nat} (hL : L ≤ L') : ∀ {k k' : Nat} {d : D}, k ≤ k' → Fine L k d → Fine L' k' d
  | 0, _, d, _, h => by
    unfold Fine at h
    exact h.elim
  | k + 1, 0, d, hk, h => absurd hk (by omega)
  | k + 1, k' + 1, d, hk, h => by
    cases d with
    | none => unfold Fine; trivial
    | bl b => unfold Fine; trivial
    | int i => unfold Fine; trivial
    | str s =>
      unfold Fine at h ⊢
      exact ⟨h.1, Nat.le_trans h.2 hL⟩
    | tup ds =>
      unfold Fine at h ⊢
      exact ⟨Nat.le_trans h.1 hL, fun x hx => Fine.mono hL (by omega) (h.2 x hx)⟩
    | lst ds =>
      unfold Fine at h ⊢
      exact ⟨Nat.le_trans h.1 hL, fun x hx => Fine.mono hL (by omega) (h.2 x hx)⟩
    | dic _ _ => unfold Fine at h; exact h.elim
    | obj _ => unfold Fine at h; exact h.elim
    | scr _ => unfold Fine at h; exact h.elim
theorem Fine.int {L k : Nat} (i : Int) : Fine L (k + 1) (.int i) := by unfold Fine; trivial
theorem Fine.bl {L k : Nat} (i : Bool) : Fine L (k + 1) (.bl i) := by unfold Fine; trivial
theorem Fine.none {L k : Nat} : Fine L (k + 1) .none := by unfold Fine; trivial
theorem Fine.str {L k : Nat} {s : Str} (h : PyData.strOk s = true) (hl : s.length ≤ L) : Fine L (k + 1) (.str s) := by unfold Fine; exact ⟨h, hl⟩
theorem Fine.tup {L k : Nat} {ds : List D} (hl : ds.length ≤ L) (h : ∀ x ∈ ds, Fine L k x) : Fine L (k + 1) (.tup ds) := by unfold Fine; exact ⟨hl, h⟩
theorem Fine.lst {L k : Nat} {ds : List D} (hl : ds.length ≤ L) (h : ∀ x ∈ ds, Fine L k x) : Fine L (k + 1) (.lst ds) := by unfold Fine; exact ⟨hl, h⟩
theorem Fine.tup2 {L k : Nat} {a b : D} (hl : 2 ≤ L) (h : Fine L k a) (h' : Fine L k b) : Fine L (k + 1) (.tup [a, b]) := .tup hl fun x hx => by
  rcases List.mem_cons.mp hx with rfl | hx
  · exact h
  · rw [List.mem_singleton.mp hx]; exact h'
theorem Fine.tup3 {L k : Nat} {a b c : D} (hl : 3 ≤ L) (h : Fine L k a) (h' : Fine L k b) (h'' : Fine L k c) : Fine L (k + 1) (.tup [a, b, c]) := .tup hl fun x hx => by
  rcases List.mem_cons.mp hx with rfl | hx
  · exact h
  · rcases List.mem_cons.mp hx with rfl | hx
    · exact h'
    · rw [List.mem_singleton.mp hx]; exact h''
/-- a loop whose turns lead from I (j + 1) to I j -/
theorem wp_for_cnt {tg : Tg} {body : M Flow} {Q : Flow → S → Prop} (I : Nat → S → Prop) : ∀ {xs : List D} {s : S}, I xs.length s → (∀ x ∈ xs, ∀ j s, j < xs.length → I (j + 1) s → Wp (bindT tg x) s fun _ s1 => Wp body s1 fun f s2 => f = .nx ∧ I j s2) → (∀ s, I 0 s → Q .nx s) → Wp (forLoop tg body xs) s Q
  | [], s, h, _, hq => hq s h
  | x :: xs, s, h, hs, hq => by
    rw [wp_for]
    refine (hs x List.mem_cons_self _ s (by simp) h).mono fun _ s1 h1 => h1.mono fun f s2 ⟨hf, h2⟩ => ?_
    subst hf
    exact wp_for_cnt I h2 (fun y hy j s hj => hs y (List.mem_cons_of_mem _ hy) j s (by simp; omega)) hq
end Z

/-! Z25: the plain side: loops. -/
namespace Z
open PySem PySem.Spec PyProof.Rows L2
/-- a loop that looks for the first item so that bd, and returns there -/
theorem wp_for_find {tg : Tg} {body : M Flow} {Q : Flow → S → Prop} (bd : D → Bool) (I : S → Prop) (R : Rs → S → Prop) : ∀ {xs : List D} {s : S}, I s → (∀ x ∈ xs, ∀ s, I s → Wp (bindT tg x) s fun _ s1 => Wp body s1 fun f s2 => (bd x = false ∧ f = .nx ∧ I s2) ∨ (bd x = true ∧ ∃ r, f = .ret r ∧ R r s2)) →
    (xs.any bd = false → ∀ s, I s → Q .nx s) → (xs.any bd = true → ∀ r s, R r s → Q (.ret r) s) → Wp (forLoop tg body xs) s Q
  | [], s, h, _, hq, _ => hq rfl s h
  | x :: xs, s, h, hs, hq, hr => by
    rw [wp_for]
    refine (hs x List.mem_cons_self s h).mono fun _ s1 h1 => h1.mono fun f s2 h2 => ?_
    rcases h2 with ⟨hb, rfl, h2⟩ | ⟨hb, r, rfl, h2⟩
    · exact wp_for_find bd I R h2 (fun y hy => hs y (List.mem_cons_of_mem _ hy)) (fun e => hq (by rw [List.any_cons, hb, e]; rfl)) (fun e => hr (by rw [List.any_cons, hb, e]; rfl))
    · exact hr (by rw [List.any_cons, hb]; rfl) r s2 h2
/-- a loop that goes on to the end: what holds of the items done -/
theorem wp_for_fold {tg : Tg} {body : M Flow} {Q : Flow → S → Prop} (I : List D → S → Prop) : ∀ {xs done : List D} {s : S}, I done s → (∀ x ∈ xs, ∀ dn s, I dn s → Wp (bindT tg x) s fun _ s1 => Wp body s1 fun f s2 => (f = .nx ∨ f = .cont) ∧ I (dn ++ [x]) s2) → (∀ s, I (done ++ xs) s → Q .nx s) → Wp (forLoop tg body xs) s Q
  | [], done, s, h, _, hq => hq s (by rw [List.append_nil]; exact h)
  | x :: xs, done, s, h, hs, hq => by
    rw [wp_for]
    refine (hs x List.mem_cons_self done s h).mono fun _ s1 h1 => h1.mono fun f s2 ⟨hf, h2⟩ => ?_
    have go : Wp (forLoop tg body xs) s2 Q := wp_for_fold I h2 (fun y hy => hs y (List.mem_cons_of_mem _ hy)) fun s h => hq s (by rw [List.append_assoc] at h; exact h)
    rcases hf with rfl | rfl
    · exact go
    · exact go
/-- a comprehension over items: which stay, and what they become -/
theorem wp_lc_map {α : Type} {own : List Nat} {tg : Tg} {cond : M Bool} {elt : M D} (en : α → D) (cf : α → Bool) (ef : α → D) (I : S → Prop) {Q : List D → S → Prop} : ∀ {xs : List α} {acc : List D} {s : S}, I s → acc.length + xs.length ≤ line → (∀ x ∈ xs, ∀ s, I s → Wp (wipeS own) s fun _ s1 => Wp (bindT tg (en x)) s1 fun _ s2 => Wp cond s2 fun c s3 => c = cf x ∧ (c = true → Wp elt s3 fun y s4 => y = ef x ∧ I s4) ∧ (c = false → I s3)) →
    (∀ s, I s → Q (acc ++ (xs.filter cf).map ef) s) → Wp (lcLoop own tg cond elt (xs.map en) acc) s Q
  | [], acc, s, h, _, _, hq => by
    have := hq s h
    rw [List.filter_nil, List.map_nil, List.append_nil] at this
    exact this
  | x :: xs, acc, s, h, hl, hs, hq => by
    rw [List.map_cons, wp_lc]
    rw [List.length_cons] at hl
    refine (hs x List.mem_cons_self s h).mono fun _ s1 h1 => h1.mono fun _ s2 h2 => h2.mono fun c s3 ⟨hc, h3, h3'⟩ => ⟨fun e => (h3 e).mono fun y s4 ⟨hy, h4⟩ => ?_, fun e => ?_⟩
    · subst hy
      refine ⟨by omega, wp_lc_map en cf ef I h4 (by rw [List.length_append, List.length_singleton]; omega) (fun y hy => hs y (List.mem_cons_of_mem _ hy)) fun s h => ?_⟩
      have := hq s h
      rw [List.filter_cons, ← hc, if_pos e, List.map_cons] at this
      rw [List.append_assoc]
      exact this
    · refine wp_lc_map en cf ef I (h3' e) (by omega) (fun y hy => hs y (List.mem_cons_of_mem _ hy)) fun s h => ?_
      have := hq s h
      rw [List.filter_cons, ← hc, e] at this
      simpa using this
theorem op_ixN {n : Nat} {i : Int} {Q : Nat → Prop} (h0 : 0 ≤ i) (h1 : i < n) (h : Q i.toNat) : Op (ixN n i) Q := by
  rw [ixN_at h0 h1]
  exact h
theorem boolsD_map {α : Type} (f : α → Bool) : ∀ l : List α, boolsD (l.map fun x => D.bl (f x)) = some (l.map f)
  | [] => rfl
  | x :: l => by
    show (boolsD (l.map fun x => D.bl (f x))).map (f x :: ·) = _
    rw [boolsD_map f l]
    rfl
theorem intsD_map : ∀ l : List Int, intsD (l.map D.int) = some l
  | [] => rfl
  | x :: l => by
    show (intsD (l.map D.int)).map (x :: ·) = _
    rw [intsD_map l]
    rfl
theorem items_rng1i {i : Int} (h0 : 0 ≤ i) (h : i ≤ 1000000000) : itemsD .rng1 [.int i] = some ((List.range i.toNat).map fun (k : Nat) => D.int (k : Int)) := by
  have h1 : -(2 ^ 62) ≤ i ∧ i < 2 ^ 62 := ⟨by omega, by omega⟩
  simp only [itemsD, it1, rng1I]
  rw [if_pos h1]
theorem items_rng1 {n : Nat} (h : n ≤ 1000000000) : itemsD .rng1 [.int (n : Int)] = some ((List.range n).map fun (k : Nat) => D.int (k : Int)) := by
  have := items_rng1i (i := (n : Int)) (by omega) (by omega)
  rw [Int.toNat_natCast] at this
  exact this
/-- a loop over typed items that goes on to the end: what holds of the items done -/
theorem wp_for_foldm {α : Type} {tg : Tg} {body : M Flow} {Q : Flow → S → Prop} (en : α → D) (I : List α → S → Prop) : ∀ {xs done : List α} {s : S}, I done s → (∀ x ∈ xs, ∀ dn s, I dn s → Wp (bindT tg (en x)) s fun _ s1 => Wp body s1 fun f s2 => (f = .nx ∨ f = .cont) ∧ I (dn ++ [x]) s2) → (∀ s, I (done ++ xs) s → Q .nx s) → Wp (forLoop tg body (xs.map en)) s Q
  | [], done, s, h, _, hq => hq s (by rw [List.append_nil]; exact h)
  | x :: xs, done, s, h, hs, hq => by
    rw [List.map_cons, wp_for]
    refine (hs x List.mem_cons_self done s h).mono fun _ s1 h1 => h1.mono fun f s2 ⟨hf, h2⟩ => ?_
    have go : Wp (forLoop tg body (xs.map en)) s2 Q := wp_for_foldm en I h2 (fun y hy => hs y (List.mem_cons_of_mem _ hy)) fun s h => hq s (by rw [List.append_assoc] at h; exact h)
    rcases hf with rfl | rfl
    · exact go
    · exact go
/-- .. with what is left -/
theorem wp_for_foldp {α : Type} {tg : Tg} {body : M Flow} {Q : Flow → S → Prop} (en : α → D) (I : List α → S → Prop) {all : List α} : ∀ {xs done : List α} {s : S}, all = done ++ xs → I done s → (∀ dn x r, all = dn ++ x :: r → ∀ s, I dn s → Wp (bindT tg (en x)) s fun _ s1 => Wp body s1 fun f s2 => (f = .nx ∨ f = .cont) ∧ I (dn ++ [x]) s2) → (∀ s, I all s → Q .nx s) → Wp (forLoop tg body (xs.map en)) s Q
  | [], done, s, e, h, _, hq => hq s (by rw [e, List.append_nil]; exact h)
  | x :: xs, done, s, e, h, hs, hq => by
    rw [List.map_cons, wp_for]
    refine (hs done x xs e s h).mono fun _ s1 h1 => h1.mono fun f s2 ⟨hf, h2⟩ => ?_
    have go : Wp (forLoop tg body (xs.map en)) s2 Q := wp_for_foldp en I (by rw [e, List.append_assoc]; rfl) h2 hs hq
    rcases hf with rfl | rfl
    · exact go
    · exact go
theorem wp_for_fold0 {α : Type} {tg : Tg} {body : M Flow} {Q : Flow → S → Prop} (en : α → D) (I : List α → S → Prop) {xs : List α} {s : S} (h : I [] s) (hs : ∀ dn x r, xs = dn ++ x :: r → ∀ s, I dn s → Wp (bindT tg (en x)) s fun _ s1 => Wp body s1 fun f s2 => (f = .nx ∨ f = .cont) ∧ I (dn ++ [x]) s2) (hq : ∀ s, I xs s → Q .nx s) : Wp (forLoop tg body (xs.map en)) s Q :=
  wp_for_foldp en I (done := []) rfl h hs hq
/-- a loop over typed items that looks for the first so that bd, and returns there -/
theorem wp_for_findm {α : Type} {tg : Tg} {body : M Flow} {Q : Flow → S → Prop} (en : α → D) (bd : α → Bool) (I : S → Prop) (R : α → Rs → S → Prop) : ∀ {xs : List α} {s : S}, I s → (∀ x ∈ xs, ∀ s, I s → Wp (bindT tg (en x)) s fun _ s1 => Wp body s1 fun f s2 => (bd x = false ∧ (f = .nx ∨ f = .cont) ∧ I s2) ∨ (bd x = true ∧ ∃ r, f = .ret r ∧ R x r s2)) →
    (xs.find? bd = none → ∀ s, I s → Q .nx s) → (∀ x, xs.find? bd = some x → ∀ r s, R x r s → Q (.ret r) s) → Wp (forLoop tg body (xs.map en)) s Q
  | [], s, h, _, hq, _ => hq rfl s h
  | x :: xs, s, h, hs, hq, hr => by
    rw [List.map_cons, wp_for]
    refine (hs x List.mem_cons_self s h).mono fun _ s1 h1 => h1.mono fun f s2 h2 => ?_
    rcases h2 with ⟨hb, hf, h2⟩ | ⟨hb, r, rfl, h2⟩
    · have go : Wp (forLoop tg body (xs.map en)) s2 Q := wp_for_findm en bd I R h2 (fun y hy => hs y (List.mem_cons_of_mem _ hy)) (fun e => hq (by rw [List.find?_cons, hb]; exact e)) (fun y e => hr y (by rw [List.find?_cons, hb]; exact e))
      rcases hf with rfl | rfl
      · exact go
      · exact go
    · exact hr x (by rw [List.find?_cons, hb]) r s2 h2
section
variable {cl : CallT} {wf : Nat} {s : S} {Q : Rs → S → Prop} {P : Flow → S → Prop}
theorem w_augI {op : BOp} {o k e : Ex} : Wp (Z.exec cl wf (.augI op o k e)) s P = Wp (opdV o (Z.evalE cl o)) s fun x s1 => Wp (Z.evalE cl k) s1 fun z s2 => Wp (res x) s2 fun d s3 => Op (lstAt d z.1) fun v => Wp (Z.evalE cl e) s3 fun y s4 => Op (augD op v y.1) fun u => Wp (setAt x z.1 u) s4 fun _ s5 => P .nx s5 := by
  rw [Z.exec]
  repeat' (first | rfl | refine Wp.ext fun _ _ => ?_ | refine Op.ext fun _ => ?_ | refine Ob.ext fun _ => ?_ | refine two_imp ?_ ?_ | rw [wp_bind] | rw [wp_asB] | rw [wp_ofB] | rw [wp_dat] | rw [wp_liftO] | rw [wp_stO] | rw [wp_ite] | rw [wp_pif] | rw [wp_pure])
theorem w_lc2 {elt : Ex} {tg tg1 : Tg} {ik ik1 : IK} {src conds src1 conds1 : List Ex} {own own1 : List Nat} : Wp (Z.evalE cl (.lc2 elt tg ik src conds own tg1 ik1 src1 conds1 own1)) s Q = Wp (Z.evalDs cl src) s fun ds s1 => Op (itemsD ik ds) fun xs => Wp (blk own (calm (lc2Loop own own1 tg (Z.evalCs cl conds) (Z.evalDs cl src1 >>= fun ds => liftO (itemsD ik1 ds)) tg1 (Z.evalCs cl conds1) (dat (Z.evalE cl elt)) xs []))) s1 Q := by
  rw [Z.evalE]
  repeat' (first | rfl | refine Wp.ext fun _ _ => ?_ | refine Op.ext fun _ => ?_ | refine Ob.ext fun _ => ?_ | refine two_imp ?_ ?_ | rw [wp_bind] | rw [wp_asB] | rw [wp_ofB] | rw [wp_dat] | rw [wp_liftO] | rw [wp_stO] | rw [wp_ite] | rw [wp_pif] | rw [wp_pure])
end
theorem wp_lc2 {own own1 : List Nat} {tg tg1 : Tg} {cond cond1 : M Bool} {src1 : M (List D)} {elt : M D} {x : D} {xs acc : List D} {s : S} {Q : List D → S → Prop} : Wp (lc2Loop own own1 tg cond src1 tg1 cond1 elt (x :: xs) acc) s Q = Wp (wipeS own) s fun _ s1 => Wp (bindT tg x) s1 fun _ s2 => Wp cond s2 fun c s3 => ((c = true → Wp src1 s3 fun ys s4 => Wp (lcLoop own1 tg1 cond1 elt ys acc) s4 fun acc' s5 => Wp (lc2Loop own own1 tg cond src1 tg1 cond1 elt xs acc') s5 Q) ∧ (c = false → Wp (lc2Loop own own1 tg cond src1 tg1 cond1 elt xs acc) s3 Q)) := by
  rw [lc2Loop, wp_bind]
  refine Wp.ext fun _ _ => ?_
  rw [wp_bind]
  refine Wp.ext fun _ _ => ?_
  rw [wp_bind]
  refine Wp.ext fun _ _ => ?_
  rw [wp_ite]
  refine two_imp ?_ rfl
  rw [wp_bind]
  refine Wp.ext fun _ _ => ?_
  rw [wp_bind]
theorem wp_lc2_0 {own own1 : List Nat} {tg tg1 : Tg} {cond cond1 : M Bool} {src1 : M (List D)} {elt : M D} {acc : List D} {s : S} {Q : List D → S → Prop} : Wp (lc2Loop own own1 tg cond src1 tg1 cond1 elt [] acc) s Q = Q acc s := rfl
/-- a comprehension of two fors over typed items -/
theorem wp_lc2_map {α β : Type} {own own1 : List Nat} {tg tg1 : Tg} {cond cond1 : M Bool} {src1 : M (List D)} {elt : M D} (en : α → D) (en1 : β → D) (cf : α → Bool) (sf : α → List β) (cf1 : α → β → Bool) (ef : α → β → D) (I : S → Prop) (J : α → S → Prop) (hJ : ∀ x s, J x s → I s) {Q : List D → S → Prop} : ∀ {xs : List α} {acc : List D} {s : S}, I s → acc.length + ((xs.map fun x => (sf x).length).sum) ≤ line →
    (∀ x ∈ xs, ∀ s, I s → Wp (wipeS own) s fun _ s1 => Wp (bindT tg (en x)) s1 fun _ s2 => Wp cond s2 fun c s3 => c = cf x ∧ (c = true → Wp src1 s3 fun ys s4 => ys = (sf x).map en1 ∧ J x s4) ∧ (c = false → I s3)) →
    (∀ x ∈ xs, ∀ y ∈ sf x, ∀ s, J x s → Wp (wipeS own1) s fun _ s1 => Wp (bindT tg1 (en1 y)) s1 fun _ s2 => Wp cond1 s2 fun c s3 => c = cf1 x y ∧ (c = true → Wp elt s3 fun y' s4 => y' = ef x y ∧ J x s4) ∧ (c = false → J x s3)) →
    (∀ s, I s → Q (acc ++ (xs.filter cf).flatMap fun x => ((sf x).filter (cf1 x)).map (ef x)) s) → Wp (lc2Loop own own1 tg cond src1 tg1 cond1 elt (xs.map en) acc) s Q
  | [], acc, s, h, _, _, _, hq => by
    have := hq s h
    rw [List.filter_nil, List.flatMap_nil, List.append_nil] at this
    exact this
  | x :: xs, acc, s, h, hl, hs, ht, hq => by
    rw [List.map_cons, wp_lc2]
    rw [List.map_cons, List.sum_cons] at hl
    refine (hs x List.mem_cons_self s h).mono fun _ s1 h1 => h1.mono fun _ s2 h2 => h2.mono fun c s3 ⟨hc, h3, h3'⟩ => ⟨fun e => (h3 e).mono fun ys s4 ⟨hy, h4⟩ => ?_, fun e => ?_⟩
    · subst hy
      refine wp_lc_map en1 (cf1 x) (ef x) (J x) h4 (by omega) (ht x List.mem_cons_self) fun s5 h5 => ?_
      have hf : ((sf x).filter (cf1 x)).length ≤ (sf x).length := List.length_filter_le _ _
      refine wp_lc2_map en en1 cf sf cf1 ef I J hJ (hJ _ _ h5) (by rw [List.length_append, List.length_map]; omega) (fun y hy => hs y (List.mem_cons_of_mem _ hy)) (fun y hy => ht y (List.mem_cons_of_mem _ hy)) fun s h => ?_
      have := hq s h
      rw [List.filter_cons, ← hc, if_pos e, List.flatMap_cons] at this
      rw [List.append_assoc]
      exact this
    · refine wp_lc2_map en en1 cf sf cf1 ef I J hJ (h3' e) (by omega) (fun y hy => hs y (List.mem_cons_of_mem _ hy)) (fun y hy => ht y (List.mem_cons_of_mem _ hy)) fun s h => ?_
      have := hq s h
      rw [List.filter_cons, ← hc, e] at this
      simpa using this
end Z

/-! Z26: the plain side: data of a Lean type. -/
namespace Z
open PySem PySem.Spec PyProof.Rows L2
theorem toPs_eq : ∀ l : List D, toPs l = l.map toP
  | [] => rfl
  | d :: l => by rw [List.map_cons, ← toPs_eq l]; rfl
theorem plains_eq : ∀ l : List D, plains l = l.all plain
  | [] => rfl
  | d :: l => by rw [List.all_cons, ← plains_eq l]; rfl
/-- en tells a Lean type's values as data -/
structure En {α : Type} [DecidableEq α] (en : α → D) (k : Nat) : Prop where
  pl : ∀ a, plain (en a) = true
  eq : ∀ a b, eqD (en a) (en b) = decide (a = b)
  dp : ∀ a, (toP (en a)).depth ≤ k
section
variable {α β : Type} [DecidableEq α] [DecidableEq β] {en : α → D} {en' : β → D} {k k' : Nat}
theorem En.int : En D.int 1 := ⟨fun _ => rfl, fun a b => eq_ii a b, fun a => by show PyData.depth (.int a) ≤ 1; unfold PyData.depth; omega⟩
theorem En.bl : En D.bl 1 := ⟨fun _ => rfl, fun a b => eq_bb a b, fun a => by show PyData.depth (.bool a) ≤ 1; unfold PyData.depth; omega⟩
theorem En.alls (h : En en k) : ∀ l : List α, plains (l.map en) = true
  | [] => rfl
  | a :: l => by
    rw [List.map_cons]
    show (plain (en a) && plains (l.map en)) = true
    rw [h.pl a, h.alls l]
    rfl
theorem En.depths (h : En en k) : ∀ l : List α, PyData.depthAll (toPs (l.map en)) ≤ k
  | [] => by show PyData.depthAll [] ≤ k; rw [PyData.depthAll]; omega
  | a :: l => by
    show PyData.depthAll (toP (en a) :: toPs (l.map en)) ≤ k
    rw [PyData.depthAll]
    have := h.dp a
    have := h.depths l
    omega
theorem En.eqs (h : En en k) : ∀ l m : List α, PyData.eqvAll (toPs (l.map en)) (toPs (m.map en)) = decide (l = m)
  | [], [] => by show PyData.eqvAll [] [] = _; simp [PyData.eqvAll]
  | [], b :: m => by show PyData.eqvAll [] (_ :: _) = _; simp [PyData.eqvAll]
  | a :: l, [] => by show PyData.eqvAll (_ :: _) [] = _; simp [PyData.eqvAll]
  | a :: l, b :: m => by
    show PyData.eqvAll (toP (en a) :: toPs (l.map en)) (toP (en b) :: toPs (m.map en)) = _
    rw [PyData.eqvAll, h.eqs l m]
    have : PyData.eqv (toP (en a)) (toP (en b)) = decide (a = b) := h.eq a b
    rw [this, ← Bool.decide_and]
    exact decide_eq_decide.mpr (by rw [List.cons.injEq])
theorem En.tup (h : En en k) : En (fun l : List α => D.tup (l.map en)) (k + 1) := ⟨fun l => h.alls l, fun l m => by
    show PyData.eqv (.tuple (toPs (l.map en))) (.tuple (toPs (m.map en))) = _
    rw [PyData.eqv]
    exact h.eqs l m, fun l => by
    show PyData.depth (.tuple (toPs (l.map en))) ≤ k + 1
    rw [PyData.depth]
    have := h.depths l
    omega⟩
theorem En.lst (h : En en k) : En (fun l : List α => D.lst (l.map en)) (k + 1) := ⟨fun l => h.alls l, fun l m => by
    show PyData.eqv (.list (toPs (l.map en))) (.list (toPs (m.map en))) = _
    rw [PyData.eqv]
    exact h.eqs l m, fun l => by
    show PyData.depth (.list (toPs (l.map en))) ≤ k + 1
    rw [PyData.depth]
    have := h.depths l
    omega⟩
theorem En.pair (h : En en k) (h' : En en' k') : En (fun p : α × β => D.tup [en p.1, en' p.2]) (max k k' + 1) := ⟨fun p => by
    show (plain (en p.1) && (plain (en' p.2) && true)) = true
    rw [h.pl, h'.pl]
    rfl, fun p q => by
    show PyData.eqv (.tuple [toP (en p.1), toP (en' p.2)]) (.tuple [toP (en q.1), toP (en' q.2)]) = _
    have e1 : PyData.eqv (toP (en p.1)) (toP (en q.1)) = decide (p.1 = q.1) := h.eq _ _
    have e2 : PyData.eqv (toP (en' p.2)) (toP (en' q.2)) = decide (p.2 = q.2) := h'.eq _ _
    rw [PyData.eqv, PyData.eqvAll, PyData.eqvAll, PyData.eqvAll, e1, e2, Bool.and_true, ← Bool.decide_and]
    exact decide_eq_decide.mpr ⟨fun e => Prod.ext e.1 e.2, fun e => by rw [e]; exact ⟨rfl, rfl⟩⟩, fun p => by
    show PyData.depth (.tuple [toP (en p.1), toP (en' p.2)]) ≤ max k k' + 1
    rw [PyData.depth, PyData.depthAll, PyData.depthAll, PyData.depthAll]
    have := h.dp p.1
    have := h'.dp p.2
    omega⟩
theorem En.fit (h : En en k) (hk : k ≤ 60) (a : α) : fitD (en a) = true := by
  unfold fitD
  rw [h.pl a, decide_eq_true (Nat.le_trans (h.dp a) hk)]
  rfl
theorem En.cmp_eq (h : En en k) (hk : k ≤ 60) (a b : α) : cmpD .eq (en a) (en b) = some (decide (a = b)) := by
  show (if (fitD (en a) && fitD (en b)) = true then some (eqD (en a) (en b)) else none) = _
  rw [h.fit hk, h.fit hk, h.eq]
  rfl
theorem En.cmp_ne (h : En en k) (hk : k ≤ 60) (a b : α) : cmpD .ne (en a) (en b) = some (!decide (a = b)) := by
  show (if (fitD (en a) && fitD (en b)) = true then some (!eqD (en a) (en b)) else none) = _
  rw [h.fit hk, h.fit hk, h.eq]
  rfl
theorem En.anys (h : En en k) (a : α) (l : List α) : ((l.map en).any fun z => eqD z (en a)) = decide (a ∈ l) := by
  rw [List.any_map, Bool.eq_iff_iff, List.any_eq_true, decide_eq_true_eq]
  constructor
  · rintro ⟨y, hy, e⟩
    have e' : eqD (en y) (en a) = true := e
    rw [h.eq, decide_eq_true_eq] at e'
    exact e' ▸ hy
  · intro hx
    refine ⟨a, hx, ?_⟩
    show eqD (en a) (en a) = true
    rw [h.eq, decide_eq_true_eq]
theorem isin_lst {d : D} {ds : List D} (h : fitD d = true) (h' : fitD (.lst ds) = true) : cmpD .isin d (.lst ds) = some (ds.any fun z => eqD z d) := by
  have e : cmpD .isin d (.lst ds) = if (fitD d && fitD (.lst ds)) = true then some (ds.any fun z => eqD z d) else none := by cases d <;> rfl
  rw [e, h, h']
  rfl
theorem isin_tup {d : D} {ds : List D} (h : fitD d = true) (h' : fitD (.tup ds) = true) : cmpD .isin d (.tup ds) = some (ds.any fun z => eqD z d) := by
  have e : cmpD .isin d (.tup ds) = if (fitD d && fitD (.tup ds)) = true then some (ds.any fun z => eqD z d) else none := by cases d <;> rfl
  rw [e, h, h']
  rfl
theorem notin_lst {d : D} {ds : List D} (h : fitD d = true) (h' : fitD (.lst ds) = true) : cmpD .notin d (.lst ds) = some (!ds.any fun z => eqD z d) := by
  have e : cmpD .notin d (.lst ds) = if (fitD d && fitD (.lst ds)) = true then some (!ds.any fun z => eqD z d) else none := by cases d <;> rfl
  rw [e, h, h']
  rfl
theorem notin_tup {d : D} {ds : List D} (h : fitD d = true) (h' : fitD (.tup ds) = true) : cmpD .notin d (.tup ds) = some (!ds.any fun z => eqD z d) := by
  have e : cmpD .notin d (.tup ds) = if (fitD d && fitD (.tup ds)) = true then some (!ds.any fun z => eqD z d) else none := by cases d <;> rfl
  rw [e, h, h']
  rfl
theorem En.in_lst (h : En en k) (hk : k < 60) (a : α) (l : List α) : cmpD .isin (en a) (.lst (l.map en)) = some (decide (a ∈ l)) := by
  rw [isin_lst (h.fit (by omega) a) (h.lst.fit (by omega) l), h.anys]
theorem En.in_tup (h : En en k) (hk : k < 60) (a : α) (l : List α) : cmpD .isin (en a) (.tup (l.map en)) = some (decide (a ∈ l)) := by
  rw [isin_tup (h.fit (by omega) a) (h.tup.fit (by omega) l), h.anys]
theorem En.ni_lst (h : En en k) (hk : k < 60) (a : α) (l : List α) : cmpD .notin (en a) (.lst (l.map en)) = some (!decide (a ∈ l)) := by
  rw [notin_lst (h.fit (by omega) a) (h.lst.fit (by omega) l), h.anys]
theorem En.ni_tup (h : En en k) (hk : k < 60) (a : α) (l : List α) : cmpD .notin (en a) (.tup (l.map en)) = some (!decide (a ∈ l)) := by
  rw [notin_tup (h.fit (by omega) a) (h.tup.fit (by omega) l), h.anys]
end
theorem eq_lst_nil (l : List D) : eqD (.lst l) (.lst []) = l.isEmpty := by
  show PyData.eqv (.list (toPs l)) (.list []) = _
  rw [PyData.eqv]
  cases l with
  | nil => simp [toPs, PyData.eqvAll]
  | cons d l => show PyData.eqvAll (_ :: _) [] = _; simp [PyData.eqvAll]
theorem eq_tup_nil (l : List D) : eqD (.tup l) (.tup []) = l.isEmpty := by
  show PyData.eqv (.tuple (toPs l)) (.tuple []) = _
  rw [PyData.eqv]
  cases l with
  | nil => simp [toPs, PyData.eqvAll]
  | cons d l => show PyData.eqvAll (_ :: _) [] = _; simp [PyData.eqvAll]
theorem fit_nil : fitD (.lst []) = true := by decide +kernel
theorem fit_tnil : fitD (.tup []) = true := by decide +kernel
theorem cmp_eq_nil {l : List D} (h : fitD (.lst l) = true) : cmpD .eq (.lst l) (.lst []) = some l.isEmpty := by
  show (if (fitD (.lst l) && fitD (.lst [])) = true then some (eqD (.lst l) (.lst [])) else none) = _
  rw [h, fit_nil, eq_lst_nil]
  rfl
theorem cmp_ne_nil {l : List D} (h : fitD (.lst l) = true) : cmpD .ne (.lst l) (.lst []) = some (!l.isEmpty) := by
  show (if (fitD (.lst l) && fitD (.lst [])) = true then some (!eqD (.lst l) (.lst [])) else none) = _
  rw [h, fit_nil, eq_lst_nil]
  rfl
theorem cmp_ne_tnil {l : List D} (h : fitD (.tup l) = true) : cmpD .ne (.tup l) (.tup []) = some (!l.isEmpty) := by
  show (if (fitD (.tup l) && fitD (.tup [])) = true then some (!eqD (.tup l) (.tup [])) else none) = _
  rw [h, fit_tnil, eq_tup_nil]
  rfl
theorem cmp_eq_tnil {l : List D} (h : fitD (.tup l) = true) : cmpD .eq (.tup l) (.tup []) = some l.isEmpty := by
  show (if (fitD (.tup l) && fitD (.tup [])) = true then some (eqD (.tup l) (.tup [])) else none) = _
  rw [h, fit_tnil, eq_tup_nil]
  rfl
/-- what is equal to itself -/
theorem eq_none : eqD .none .none = true := by
  show PyData.eqv .none .none = true
  rw [PyData.eqv]
theorem eq_str (s : Str) : eqD (.str s) (.str s) = true := by
  show PyData.eqv (.str s) (.str s) = true
  rw [PyData.eqv]
  exact beq_self_eq_true s
end Z

/-! what gen.py printed of the law: the text by places, the defs in the interpreter's language -/
namespace G
open PySem PySem.Spec PyProof.Rows L2 Z
def topS (i : Nat) : Stmt := PySem.Challenge.pw_bracketyard_k40_all_straight_products.main.body.getD i (.Pass ⟨0, 0, 0, 0⟩)
abbrev s_crooked_at : Stmt := topS 4
abbrev s_choices : Stmt := topS 5
abbrev s_count_of : Stmt := topS 6
abbrev s_can_come : Stmt := topS 7
abbrev s_all_straight : Stmt := topS 8
abbrev s__law_draw : Stmt := topS 10
abbrev s__law_like : Stmt := topS 11
abbrev s__law_size : Stmt := topS 12
abbrev s__law_a_bracket : Stmt := topS 13
abbrev s__law_a_product : Stmt := topS 14
abbrev s__law_choices : Stmt := topS 15
abbrev s__law_straight : Stmt := topS 16
abbrev s__law_counts : Stmt := topS 17
abbrev s__law_less : Stmt := topS 18
abbrev s__law_due : Stmt := topS 19
abbrev s_law : Stmt := topS 20
def b_crooked_at : List Sm := [.forE (.nm 2) .rng1 [(.blt .len [(.var 0)])] [.ife (.cmp .gt (.idx (.var 0) (.var 2)) (.idx (.var 1) (.var 2))) [.ret (.var 2)] []],
    .ret (.con .none)]
def b_choices : List Sm := [.asg 2 (.lst [(.tup [])]),
    .forE (.nm 3) .seq [(.var 0)] [.asg 2 (.bin .add (.var 2) (.lc (.bin .add (.var 4) (.tup [(.var 3)])) (.nm 4) .seq [(.var 2)] [(.cmp .lt (.blt .len [(.var 4)]) (.var 1))] [4]))],
    .ret (.blt .sorted [(.lc (.var 4) (.nm 4) .seq [(.var 2)] [(.cmp .eq (.blt .len [(.var 4)]) (.var 1))] [4])])]
def b_count_of : List Sm := [.asg 1 (.bin .mul (.lst [(.con (.int 0))]) (.con (.int 8))),
    .forE (.nm 2) .seq [(.var 0)] [.forE (.nm 3) .seq [(.var 2)] [.augI .add (.var 1) (.var 3) (.con (.int 1))]],
    .ret (.var 1)]
def b_can_come : List Sm := [.ife (.and2 (.cmp .ne (.var 0) (.tup [])) (.isN true (.call 0 [(.idx (.var 0) (.neg (.con (.int 1)))), (.var 1)]))) [.ret (.con (.bl false))] [],
    .asg 3 (.call 2 [(.var 0)]),
    .asg 4 (.lc (.var 5) (.nm 5) .rng1 [(.con (.int 8))] [(.cmp .lt (.idx (.var 3) (.var 5)) (.idx (.var 2) (.var 5)))] [5]),
    .ret (.and2 (.cmp .eq (.idx (.var 1) (.con (.int 0))) (.idx (.var 4) (.con (.int 0)))) (.blt .all [(.lc (.cmp .isin (.var 5) (.var 4)) (.nm 5) .seq [(.var 1)] [] [5])]))]
def b_all_straight : List Sm := [.asg 2 (.blt .sum [(.var 0)]),
    .ife (.or2 (.cmp .ne (.bin .mod (.var 2) (.var 1)) (.con (.int 0))) (.cmp .gt (.var 2) (.bin .mul (.con (.int 4)) (.var 1)))) [.ret (.lst [])] [],
    .asg 3 (.call 1 [(.blt .trg1 [(.con (.int 8))]), (.var 1)]),
    .asg 4 (.lst [(.tup [])]),
    .forE (.nm 5) .rng1 [(.bin .fdiv (.var 2) (.var 1))] [.asg 6 (.lc2 (.tup [(.var 7), (.var 8)]) (.nm 7) .seq [(.var 4)] [] [7, 8] (.nm 8) .seq [(.var 3)] [] [8]),
    .asg 4 (.lc (.bin .add (.var 7) (.tup [(.var 8)])) (.tup [(.nm 7), (.nm 8)]) .seq [(.var 6)] [(.call 3 [(.var 7), (.var 8), (.var 0)])] [7, 8])],
    .ret (.blt .sorted [(.var 4)])]
def b__law_draw : List Sm := [.asg 2 (.con (.int 2305843009213693951)),
    .ife (.cmp .lt (.idx (.var 0) (.con (.int 2))) (.var 1)) [.asg 3 (.con (.int 0)),
    .ife (.cmp .gt (.blt .len [(.idx (.var 0) (.con (.int 0)))]) (.con (.int 0))) [.asg 3 (.idx (.idx (.var 0) (.con (.int 0))) (.bin .mod (.idx (.var 0) (.con (.int 1))) (.blt .len [(.idx (.var 0) (.con (.int 0)))])))] [],
    .ife (.or2 (.cmp .ge (.idx (.var 0) (.con (.int 1))) (.blt .len [(.idx (.var 0) (.con (.int 0)))])) (.cmp .lt (.var 3) (.bin .pow (.con (.int 10)) (.con (.int 18))))) [.asg 3 (.bin .mod (.bin .add (.var 3) (.bin .mul (.con (.int 1000003)) (.idx (.var 0) (.con (.int 1))))) (.var 2)),
    .asg 3 (.bin .mod (.bin .add (.bin .add (.bin .mul (.var 3) (.var 3)) (.bin .mul (.con (.int 1181783497276652981)) (.var 3))) (.con (.int 2049848353892358983))) (.var 2)),
    .asg 3 (.bin .mod (.bin .add (.bin .mul (.var 3) (.var 3)) (.con (.int 1442695040888963407))) (.var 2))] [],
    .setI (.var 0) (.con (.int 1)) (.bin .add (.idx (.var 0) (.con (.int 1))) (.con (.int 1))),
    .setI (.var 0) (.con (.int 2)) (.var 3)] [],
    .asg 4 (.bin .mod (.idx (.var 0) (.con (.int 2))) (.var 1)),
    .setI (.var 0) (.con (.int 2)) (.bin .fdiv (.idx (.var 0) (.con (.int 2))) (.var 1)),
    .ret (.var 4)]
def b__law_like : List Sm := [.ife (.isi [.list, .tuple] (.var 0)) [.ife (.or2 (.cmp .ne (.isi [.list] (.var 0)) (.isi [.list] (.var 1))) (.cmp .ne (.isi [.tuple] (.var 0)) (.isi [.tuple] (.var 1)))) [.ret (.con (.bl false))] [],
    .ife (.cmp .ne (.blt .len [(.var 0)]) (.blt .len [(.var 1)])) [.ret (.con (.bl false))] [],
    .ret (.cmp .eq (.lc (.var 2) (.nm 2) .rng1 [(.blt .len [(.var 0)])] [(.not1 (.call 6 [(.idx (.var 0) (.var 2)), (.idx (.var 1) (.var 2))]))] [2]) (.lst []))] [],
    .ife (.isi [.list, .tuple] (.var 1)) [.ret (.con (.bl false))] [],
    .ret (.and2 (.cmp .eq (.isi [.bool] (.var 0)) (.isi [.bool] (.var 1))) (.cmp .eq (.var 0) (.var 1)))]
def b__law_size : List Sm := [.ret (.bin .add (.con (.int 2)) (.call 5 [(.var 0), (.con (.int 2))]))]
def b__law_a_bracket : List Sm := [.asg 3 (.blt .lrg1 [(.var 2)]),
    .asg 4 (.lc (.popk 3 (.call 5 [(.var 0), (.blt .len [(.var 3)])])) (.nm 5) .rng1 [(.var 1)] [] [5]),
    .ret (.blt .tuple [(.blt .sorted [(.var 4)])])]
def b__law_a_product : List Sm := [.ret (.blt .tuple [(.blt .sorted [(.lc (.call 8 [(.var 0), (.var 1), (.var 2)]) (.nm 4) .rng1 [(.call 5 [(.var 0), (.bin .add (.var 3) (.con (.int 1)))])] [] [4])])])]
def b__law_choices : List Sm := [.ife (.cmp .eq (.var 1) (.con (.int 0))) [.ret (.lst [(.tup [])])] [],
    .asg 2 (.lst []),
    .forE (.nm 3) .rng1 [(.blt .len [(.var 0)])] [.asg 2 (.bin .add (.var 2) (.lc (.bin .add (.tup [(.idx (.var 0) (.var 3))]) (.var 4)) (.nm 4) .seq [(.call 10 [(.sli (.var 0) (some (.bin .add (.var 3) (.con (.int 1)))) none), (.bin .sub (.var 1) (.con (.int 1)))])] [] [4]))],
    .ret (.var 2)]
def b__law_straight : List Sm := [.forE (.nm 1) .rng2 [(.con (.int 1)), (.blt .len [(.var 0)])] [.ife (.cmp .ne (.lc (.var 2) (.nm 2) .rng1 [(.blt .len [(.idx (.var 0) (.var 1))])] [(.cmp .gt (.idx (.idx (.var 0) (.bin .sub (.var 1) (.con (.int 1)))) (.var 2)) (.idx (.idx (.var 0) (.var 1)) (.var 2)))] [2]) (.lst [])) [.ret (.con (.bl false))] []],
    .ret (.con (.bl true))]
def b__law_counts : List Sm := [.asg 1 (.bin .mul (.lst [(.con (.int 0))]) (.con (.int 8))),
    .forE (.nm 2) .seq [(.var 0)] [.forE (.nm 3) .seq [(.var 2)] [.setI (.var 1) (.var 3) (.bin .add (.idx (.var 1) (.var 3)) (.con (.int 1)))]],
    .ret (.blt .tuple [(.var 1)])]
def b__law_less : List Sm := [.ret (.blt .tuple [(.lc (.bin .sub (.idx (.var 0) (.var 2)) (.ife (.cmp .isin (.var 2) (.var 1)) (.con (.int 1)) (.con (.int 0)))) (.nm 2) .rng1 [(.con (.int 8))] [] [2])])]
def b__law_due : List Sm := [.ife (.cmp .eq (.blt .sum [(.var 0)]) (.con (.int 0))) [.ret (.lst [(.tup [])])] [],
    .asg 4 (.lst []),
    .ife (.cmp .eq (.var 3) (.con (.int 0))) [.ret (.var 4)] [],
    .forE (.nm 5) .seq [(.var 2)] [.ife (.cmp .eq (.lc (.var 6) (.nm 6) .seq [(.var 5)] [(.cmp .lt (.idx (.var 0) (.var 6)) (.con (.int 1)))] [6]) (.lst [])) [.forE (.nm 7) .seq [(.call 14 [(.call 13 [(.var 0), (.var 5)]), (.var 1), (.var 2), (.bin .sub (.var 3) (.con (.int 1)))])] [.ife (.call 11 [(.bin .add (.tup [(.var 5)]) (.var 7))]) [.app 4 (.bin .add (.tup [(.var 5)]) (.var 7))] []]] []],
    .ret (.var 4)]
def b_law : List Sm := [.asg 1 (.shr (.lst [(.shr (.blt .list [(.var 0)])), (.con (.int 0)), (.con (.int 0))])),
    .asg 2 (.call 7 [(.var 1)]),
    .asg 3 (.call 5 [(.var 1), (.con (.int 4))]),
    .asg 4 (.call 12 [(.call 9 [(.var 1), (.var 2), (.idx (.lst [(.bin .add (.var 2) (.con (.int 1))), (.con (.int 5)), (.con (.int 6)), (.con (.int 8))]) (.call 5 [(.var 1), (.con (.int 4))])), (.con (.int 3))])]),
    .ife (.cmp .eq (.var 3) (.con (.int 0))) [.asg 4 (.blt .tuple [(.lc (.ife (.cmp .lt (.var 5) (.con (.int 5))) (.call 5 [(.var 1), (.con (.int 3))]) (.con (.int 0))) (.nm 5) .rng1 [(.con (.int 8))] [] [5])])] [.ife (.cmp .eq (.var 3) (.con (.int 1))) [.asg 4 (.blt .tuple [(.lc (.ife (.cmp .lt (.var 5) (.bin .add (.var 2) (.con (.int 1)))) (.call 5 [(.var 1), (.con (.int 5))]) (.con (.int 0))) (.nm 5) .rng1 [(.con (.int 8))] [] [5])])] []],
    .asg 6 (.lst []),
    .ife (.and2 (.cmp .eq (.bin .mod (.blt .sum [(.var 4)]) (.var 2)) (.con (.int 0))) (.cmp .le (.blt .sum [(.var 4)]) (.bin .mul (.con (.int 4)) (.var 2)))) [.asg 7 (.blt .tuple [(.lc (.var 5) (.nm 5) .rng1 [(.con (.int 8))] [(.cmp .gt (.idx (.var 4) (.var 5)) (.con (.int 0)))] [5])]),
    .asg 6 (.call 14 [(.var 4), (.var 2), (.call 10 [(.var 7), (.var 2)]), (.con (.int 4))])] [],
    .asg 8 (.call 4 ([(.var 4)] ++ [(.var 2)])),
    .ife (.not1 (.call 6 [(.var 8), (.blt .sorted [(.var 6)])])) [.ret (.con (.bl false))] [],
    .app 8 (.con (.int 7)),
    .ret (.call 6 [(.call 4 ([(.var 4)] ++ [(.var 2)])), (.blt .sorted [(.var 6)])])]
def fns : List FnD := [⟨3, 2, b_crooked_at⟩,
  ⟨5, 2, b_choices⟩,
  ⟨4, 1, b_count_of⟩,
  ⟨6, 3, b_can_come⟩,
  ⟨9, 2, b_all_straight⟩,
  ⟨5, 2, b__law_draw⟩,
  ⟨3, 2, b__law_like⟩,
  ⟨1, 1, b__law_size⟩,
  ⟨6, 3, b__law_a_bracket⟩,
  ⟨5, 4, b__law_a_product⟩,
  ⟨5, 2, b__law_choices⟩,
  ⟨3, 1, b__law_straight⟩,
  ⟨4, 1, b__law_counts⟩,
  ⟨3, 2, b__law_less⟩,
  ⟨8, 4, b__law_due⟩,
  ⟨9, 1, b_law⟩]
end G

namespace G
open PySem PySem.Spec PyProof.Rows L2 Z
abbrev wf : Nat := 1000000
theorem rp_cl {cl : CallT} {m j : Nat} {ds : List D} {st : List SO} {Q : Rs → List SO → Prop} (e : cl = callF fns wf m) (h : Rp (callF fns wf m j ds st) Q) : Rp (cl j ds st) Q := e ▸ h
abbrev id_crooked_at : Nat := 0
theorem c_crooked_at {n : Nat} {a0 a1 : D} {st : List SO} {Q : Rs → List SO → Prop} (h : ∀ cl : CallT, cl = callF fns wf n → Wp (execs cl wf b_crooked_at) ⟨[.pu a0, .pu a1, .un], st⟩ (endQ Q)) : Rp (callF fns wf (n + 1) 0 [a0, a1] st) Q := by
  have h := h _ rfl
  show Rp (runFn (callF fns wf n) wf ⟨3, 2, b_crooked_at⟩ [a0, a1] st) Q
  rw [rp_run _ _ _ _ _ _ rfl]
  exact h
abbrev id_choices : Nat := 1
theorem c_choices {n : Nat} {a0 a1 : D} {st : List SO} {Q : Rs → List SO → Prop} (h : ∀ cl : CallT, cl = callF fns wf n → Wp (execs cl wf b_choices) ⟨[.pu a0, .pu a1, .un, .un, .un], st⟩ (endQ Q)) : Rp (callF fns wf (n + 1) 1 [a0, a1] st) Q := by
  have h := h _ rfl
  show Rp (runFn (callF fns wf n) wf ⟨5, 2, b_choices⟩ [a0, a1] st) Q
  rw [rp_run _ _ _ _ _ _ rfl]
  exact h
abbrev id_count_of : Nat := 2
theorem c_count_of {n : Nat} {a0 : D} {st : List SO} {Q : Rs → List SO → Prop} (h : ∀ cl : CallT, cl = callF fns wf n → Wp (execs cl wf b_count_of) ⟨[.pu a0, .un, .un, .un], st⟩ (endQ Q)) : Rp (callF fns wf (n + 1) 2 [a0] st) Q := by
  have h := h _ rfl
  show Rp (runFn (callF fns wf n) wf ⟨4, 1, b_count_of⟩ [a0] st) Q
  rw [rp_run _ _ _ _ _ _ rfl]
  exact h
abbrev id_can_come : Nat := 3
theorem c_can_come {n : Nat} {a0 a1 a2 : D} {st : List SO} {Q : Rs → List SO → Prop} (h : ∀ cl : CallT, cl = callF fns wf n → Wp (execs cl wf b_can_come) ⟨[.pu a0, .pu a1, .pu a2, .un, .un, .un], st⟩ (endQ Q)) : Rp (callF fns wf (n + 1) 3 [a0, a1, a2] st) Q := by
  have h := h _ rfl
  show Rp (runFn (callF fns wf n) wf ⟨6, 3, b_can_come⟩ [a0, a1, a2] st) Q
  rw [rp_run _ _ _ _ _ _ rfl]
  exact h
abbrev id_all_straight : Nat := 4
theorem c_all_straight {n : Nat} {a0 a1 : D} {st : List SO} {Q : Rs → List SO → Prop} (h : ∀ cl : CallT, cl = callF fns wf n → Wp (execs cl wf b_all_straight) ⟨[.pu a0, .pu a1, .un, .un, .un, .un, .un, .un, .un], st⟩ (endQ Q)) : Rp (callF fns wf (n + 1) 4 [a0, a1] st) Q := by
  have h := h _ rfl
  show Rp (runFn (callF fns wf n) wf ⟨9, 2, b_all_straight⟩ [a0, a1] st) Q
  rw [rp_run _ _ _ _ _ _ rfl]
  exact h
abbrev id__law_draw : Nat := 5
theorem c__law_draw {n : Nat} {a0 a1 : D} {st : List SO} {Q : Rs → List SO → Prop} (h : ∀ cl : CallT, cl = callF fns wf n → Wp (execs cl wf b__law_draw) ⟨[.pu a0, .pu a1, .un, .un, .un], st⟩ (endQ Q)) : Rp (callF fns wf (n + 1) 5 [a0, a1] st) Q := by
  have h := h _ rfl
  show Rp (runFn (callF fns wf n) wf ⟨5, 2, b__law_draw⟩ [a0, a1] st) Q
  rw [rp_run _ _ _ _ _ _ rfl]
  exact h
abbrev id__law_like : Nat := 6
theorem c__law_like {n : Nat} {a0 a1 : D} {st : List SO} {Q : Rs → List SO → Prop} (h : ∀ cl : CallT, cl = callF fns wf n → Wp (execs cl wf b__law_like) ⟨[.pu a0, .pu a1, .un], st⟩ (endQ Q)) : Rp (callF fns wf (n + 1) 6 [a0, a1] st) Q := by
  have h := h _ rfl
  show Rp (runFn (callF fns wf n) wf ⟨3, 2, b__law_like⟩ [a0, a1] st) Q
  rw [rp_run _ _ _ _ _ _ rfl]
  exact h
abbrev id__law_size : Nat := 7
theorem c__law_size {n : Nat} {a0 : D} {st : List SO} {Q : Rs → List SO → Prop} (h : ∀ cl : CallT, cl = callF fns wf n → Wp (execs cl wf b__law_size) ⟨[.pu a0], st⟩ (endQ Q)) : Rp (callF fns wf (n + 1) 7 [a0] st) Q := by
  have h := h _ rfl
  show Rp (runFn (callF fns wf n) wf ⟨1, 1, b__law_size⟩ [a0] st) Q
  rw [rp_run _ _ _ _ _ _ rfl]
  exact h
abbrev id__law_a_bracket : Nat := 8
theorem c__law_a_bracket {n : Nat} {a0 a1 a2 : D} {st : List SO} {Q : Rs → List SO → Prop} (h : ∀ cl : CallT, cl = callF fns wf n → Wp (execs cl wf b__law_a_bracket) ⟨[.pu a0, .pu a1, .pu a2, .un, .un, .un], st⟩ (endQ Q)) : Rp (callF fns wf (n + 1) 8 [a0, a1, a2] st) Q := by
  have h := h _ rfl
  show Rp (runFn (callF fns wf n) wf ⟨6, 3, b__law_a_bracket⟩ [a0, a1, a2] st) Q
  rw [rp_run _ _ _ _ _ _ rfl]
  exact h
abbrev id__law_a_product : Nat := 9
theorem c__law_a_product {n : Nat} {a0 a1 a2 a3 : D} {st : List SO} {Q : Rs → List SO → Prop} (h : ∀ cl : CallT, cl = callF fns wf n → Wp (execs cl wf b__law_a_product) ⟨[.pu a0, .pu a1, .pu a2, .pu a3, .un], st⟩ (endQ Q)) : Rp (callF fns wf (n + 1) 9 [a0, a1, a2, a3] st) Q := by
  have h := h _ rfl
  show Rp (runFn (callF fns wf n) wf ⟨5, 4, b__law_a_product⟩ [a0, a1, a2, a3] st) Q
  rw [rp_run _ _ _ _ _ _ rfl]
  exact h
abbrev id__law_choices : Nat := 10
theorem c__law_choices {n : Nat} {a0 a1 : D} {st : List SO} {Q : Rs → List SO → Prop} (h : ∀ cl : CallT, cl = callF fns wf n → Wp (execs cl wf b__law_choices) ⟨[.pu a0, .pu a1, .un, .un, .un], st⟩ (endQ Q)) : Rp (callF fns wf (n + 1) 10 [a0, a1] st) Q := by
  have h := h _ rfl
  show Rp (runFn (callF fns wf n) wf ⟨5, 2, b__law_choices⟩ [a0, a1] st) Q
  rw [rp_run _ _ _ _ _ _ rfl]
  exact h
abbrev id__law_straight : Nat := 11
theorem c__law_straight {n : Nat} {a0 : D} {st : List SO} {Q : Rs → List SO → Prop} (h : ∀ cl : CallT, cl = callF fns wf n → Wp (execs cl wf b__law_straight) ⟨[.pu a0, .un, .un], st⟩ (endQ Q)) : Rp (callF fns wf (n + 1) 11 [a0] st) Q := by
  have h := h _ rfl
  show Rp (runFn (callF fns wf n) wf ⟨3, 1, b__law_straight⟩ [a0] st) Q
  rw [rp_run _ _ _ _ _ _ rfl]
  exact h
abbrev id__law_counts : Nat := 12
theorem c__law_counts {n : Nat} {a0 : D} {st : List SO} {Q : Rs → List SO → Prop} (h : ∀ cl : CallT, cl = callF fns wf n → Wp (execs cl wf b__law_counts) ⟨[.pu a0, .un, .un, .un], st⟩ (endQ Q)) : Rp (callF fns wf (n + 1) 12 [a0] st) Q := by
  have h := h _ rfl
  show Rp (runFn (callF fns wf n) wf ⟨4, 1, b__law_counts⟩ [a0] st) Q
  rw [rp_run _ _ _ _ _ _ rfl]
  exact h
abbrev id__law_less : Nat := 13
theorem c__law_less {n : Nat} {a0 a1 : D} {st : List SO} {Q : Rs → List SO → Prop} (h : ∀ cl : CallT, cl = callF fns wf n → Wp (execs cl wf b__law_less) ⟨[.pu a0, .pu a1, .un], st⟩ (endQ Q)) : Rp (callF fns wf (n + 1) 13 [a0, a1] st) Q := by
  have h := h _ rfl
  show Rp (runFn (callF fns wf n) wf ⟨3, 2, b__law_less⟩ [a0, a1] st) Q
  rw [rp_run _ _ _ _ _ _ rfl]
  exact h
abbrev id__law_due : Nat := 14
theorem c__law_due {n : Nat} {a0 a1 a2 a3 : D} {st : List SO} {Q : Rs → List SO → Prop} (h : ∀ cl : CallT, cl = callF fns wf n → Wp (execs cl wf b__law_due) ⟨[.pu a0, .pu a1, .pu a2, .pu a3, .un, .un, .un, .un], st⟩ (endQ Q)) : Rp (callF fns wf (n + 1) 14 [a0, a1, a2, a3] st) Q := by
  have h := h _ rfl
  show Rp (runFn (callF fns wf n) wf ⟨8, 4, b__law_due⟩ [a0, a1, a2, a3] st) Q
  rw [rp_run _ _ _ _ _ _ rfl]
  exact h
abbrev id_law : Nat := 15
theorem c_law {n : Nat} {a0 : D} {st : List SO} {Q : Rs → List SO → Prop} (h : ∀ cl : CallT, cl = callF fns wf n → Wp (execs cl wf b_law) ⟨[.pu a0, .un, .un, .un, .un, .un, .un, .un, .un], st⟩ (endQ Q)) : Rp (callF fns wf (n + 1) 15 [a0] st) Q := by
  have h := h _ rfl
  show Rp (runFn (callF fns wf n) wf ⟨9, 1, b_law⟩ [a0] st) Q
  rw [rp_run _ _ _ _ _ _ rfl]
  exact h
end G

/-! C1: the law's draws; what is like itself (of any law) -/
namespace G
open PySem PySem.Spec PyProof.Rows L2 Z
/-- the script and the tape at their places -/
def Tape (st : List SO) : Prop := ∃ (ns : List Int) (p c : Int), st = [.lst (ns.map .int), .lst [.obj 0, .int p, .int c]] ∧ 0 ≤ p
theorem tape0 (ns : List Int) : Tape [.lst (ns.map .int), .lst [.obj 0, .int 0, .int 0]] := ⟨ns, 0, 0, rfl, by omega⟩
theorem atI_ints {ns : List Int} {i : Int} (h0 : 0 ≤ i) (h1 : i < ns.length) : ∃ x, atI (ns.map D.int) i = some (.int x) := by
  obtain ⟨a, ha, hm⟩ := atI_in (ns.map D.int) h0 (by rw [List.length_map]; exact h1)
  obtain ⟨x, _, rfl⟩ := List.mem_map.mp hm
  exact ⟨x, ha⟩
theorem draw_spec {n : Nat} {st : List SO} {m : Int} {Q : Rs → List SO → Prop} (T : Tape st) (hm : 0 < m) (hl : m.natAbs.log2 < 9000) (h : ∀ (f : Int) st', 0 ≤ f → f < m → Tape st' → Q (.int f, false) st') : Rp (callF fns wf (n + 1) id__law_draw [.obj 1, .int m] st) Q := by
  obtain ⟨ns, p, c, rfl, hp⟩ := T
  with_reducible refine c__law_draw fun cl hcl => ?_
  unfold b__law_draw
  have fin : ∀ (p' c' : Int), 0 ≤ p' → Q (.int (c' % m), false) [.lst (ns.map .int), .lst [.obj 0, .int p', .int (c' / m)]] := fun p' c' h' => h _ _ (Int.emod_nonneg _ (by omega)) (Int.emod_lt_of_pos _ hm) ⟨ns, p', c' / m, rfl, h'⟩
  have ex : ∃ x, 0 < (ns.length : Int) → atI (ns.map D.int) (p % ns.length) = some (.int x) := by
    by_cases h0 : 0 < (ns.length : Int)
    · obtain ⟨x, e⟩ := atI_ints (ns := ns) (Int.emod_nonneg p (by omega)) (Int.emod_lt_of_pos p h0)
      exact ⟨x, fun _ => e⟩
    · exact ⟨0, fun z => absurd z h0⟩
  obtain ⟨x, ex⟩ := ex
  by_cases h0 : 0 < (ns.length : Int)
  · have ex := ex h0
    try simp -implicitDefEqProofs only [wp_bind, wp_pure, wp_bad, wp_getS, wp_asB, wp_slotOpd, wp_rdSlot, wp_rdVar, wp_rdRet, wp_resV, wp_resS, wp_ress0, wp_ress, wp_setR, wp_setρ, wp_call, wp_setAt, wp_opd, wp_dat, wp_shr, wp_ownL, wp_popAt, wp_popLast, wp_app, wp_ins, wp_bindTup, wp_bindTs0, wp_bindTs, wp_bindNm, wp_blk, w_var, w_con, w_tup, w_lst, w_shr, w_bin, w_cmp, w_idx, w_cmp2, w_and2, w_or2, w_not1, w_ife, w_sli, w_call, w_blt, w_isi, w_lc, w_popk, w_popl, w_isN, w_neg, Z.w_rev, w_part0, w_part1, w_ds0, w_ds, w_os0, w_os, w_cs0, w_cs, line, w_asg, w_asgT, w_aug, w_setI, w_augI, w_lc2, w_app, w_ins, w_ext, w_expr, w_ret, w_retN, w_if, w_forE, w_whil, w_brk, w_cont, w_pass, w_ss0, w_ss, fw_nx, fw_brk, fw_cont, fw_ret, nn_none, nn_int, nn_bl, nn_str, nn_tup, nn_lst, ol_lst, op_some, op_none, op_ite, ob_bl, oi_int, sl_pu, sl_ow, al_ow, al_obj, so_lst, opdV, retV, endQ, letgo, ite_self, ixN_3_0, ixN_3_1, ixN_3_2, atI_0, atI_1, atI_2, atI_3, List.getElem?_cons_zero, List.getElem?_cons_succ, List.set_cons_zero, List.set_cons_succ, List.length_cons, List.length_nil, List.length_map, Option.bind_some, Option.map_some, List.nil_append, List.cons_append, List.length_singleton, Nat.zero_add, Nat.reduceAdd, Nat.reduceLT, Nat.reduceLeDiff, Nat.zero_le, if_false, if_true, Bool.false_eq_true, Bool.true_eq_false, Bool.not_true, Bool.not_false, reduceCtorEq, true_and, and_true, forall_const, false_and, and_false, false_implies, not_false_eq_true, not_true_eq_false, decide_true, decide_false, decide_eq_true_eq, decide_eq_false_iff_not, isi_none_int, isi_none_bool, isi_none_str, isi_none_tuple, isi_none_list, isi_none_list_tuple, isi_none_tuple_list, isi_bl_int, isi_bl_bool, isi_bl_str, isi_bl_tuple, isi_bl_list, isi_bl_list_tuple, isi_bl_tuple_list, isi_int_int, isi_int_bool, isi_int_str, isi_int_tuple, isi_int_list, isi_int_list_tuple, isi_int_tuple_list, isi_str_int, isi_str_bool, isi_str_str, isi_str_tuple, isi_str_list, isi_str_list_tuple, isi_str_tuple_list, isi_tup_int, isi_tup_bool, isi_tup_str, isi_tup_tuple, isi_tup_list, isi_tup_list_tuple, isi_tup_tuple_list, isi_lst_int, isi_lst_bool, isi_lst_str, isi_lst_tuple, isi_lst_list, isi_lst_list_tuple, isi_lst_tuple_list, cmp_eq_ii, cmp_ne_ii, cmp_eq_bb, cmp_ne_bb, cmp_lt, cmp_le, cmp_gt, cmp_ge, cmp_ni_ii, binD, cmpD, bltD, on1, on2, idxD, seqD, lenD, ex, h0]
    repeat' (first | exact fin _ _ (by omega) | exact mulOk_l (by omega) | omega | (intro _) | refine ⟨?_, ?_⟩)
  · try simp -implicitDefEqProofs only [wp_bind, wp_pure, wp_bad, wp_getS, wp_asB, wp_slotOpd, wp_rdSlot, wp_rdVar, wp_rdRet, wp_resV, wp_resS, wp_ress0, wp_ress, wp_setR, wp_setρ, wp_call, wp_setAt, wp_opd, wp_dat, wp_shr, wp_ownL, wp_popAt, wp_popLast, wp_app, wp_ins, wp_bindTup, wp_bindTs0, wp_bindTs, wp_bindNm, wp_blk, w_var, w_con, w_tup, w_lst, w_shr, w_bin, w_cmp, w_idx, w_cmp2, w_and2, w_or2, w_not1, w_ife, w_sli, w_call, w_blt, w_isi, w_lc, w_popk, w_popl, w_isN, w_neg, Z.w_rev, w_part0, w_part1, w_ds0, w_ds, w_os0, w_os, w_cs0, w_cs, line, w_asg, w_asgT, w_aug, w_setI, w_augI, w_lc2, w_app, w_ins, w_ext, w_expr, w_ret, w_retN, w_if, w_forE, w_whil, w_brk, w_cont, w_pass, w_ss0, w_ss, fw_nx, fw_brk, fw_cont, fw_ret, nn_none, nn_int, nn_bl, nn_str, nn_tup, nn_lst, ol_lst, op_some, op_none, op_ite, ob_bl, oi_int, sl_pu, sl_ow, al_ow, al_obj, so_lst, opdV, retV, endQ, letgo, ite_self, ixN_3_0, ixN_3_1, ixN_3_2, atI_0, atI_1, atI_2, atI_3, List.getElem?_cons_zero, List.getElem?_cons_succ, List.set_cons_zero, List.set_cons_succ, List.length_cons, List.length_nil, List.length_map, Option.bind_some, Option.map_some, List.nil_append, List.cons_append, List.length_singleton, Nat.zero_add, Nat.reduceAdd, Nat.reduceLT, Nat.reduceLeDiff, Nat.zero_le, if_false, if_true, Bool.false_eq_true, Bool.true_eq_false, Bool.not_true, Bool.not_false, reduceCtorEq, true_and, and_true, forall_const, false_and, and_false, false_implies, not_false_eq_true, not_true_eq_false, decide_true, decide_false, decide_eq_true_eq, decide_eq_false_iff_not, isi_none_int, isi_none_bool, isi_none_str, isi_none_tuple, isi_none_list, isi_none_list_tuple, isi_none_tuple_list, isi_bl_int, isi_bl_bool, isi_bl_str, isi_bl_tuple, isi_bl_list, isi_bl_list_tuple, isi_bl_tuple_list, isi_int_int, isi_int_bool, isi_int_str, isi_int_tuple, isi_int_list, isi_int_list_tuple, isi_int_tuple_list, isi_str_int, isi_str_bool, isi_str_str, isi_str_tuple, isi_str_list, isi_str_list_tuple, isi_str_tuple_list, isi_tup_int, isi_tup_bool, isi_tup_str, isi_tup_tuple, isi_tup_list, isi_tup_list_tuple, isi_tup_tuple_list, isi_lst_int, isi_lst_bool, isi_lst_str, isi_lst_tuple, isi_lst_list, isi_lst_list_tuple, isi_lst_tuple_list, cmp_eq_ii, cmp_ne_ii, cmp_eq_bb, cmp_ne_bb, cmp_lt, cmp_le, cmp_gt, cmp_ge, cmp_ni_ii, binD, cmpD, bltD, on1, on2, idxD, seqD, lenD, h0]
    repeat' (first | exact fin _ _ (by omega) | exact mulOk_l (by omega) | omega | (intro _) | refine ⟨?_, ?_⟩)
theorem op_atI {α : Type} {xs : List α} {i : Int} {Q : α → Prop} (h0 : 0 ≤ i) (h1 : i < xs.length) (h : ∀ a ∈ xs, Q a) : Op (atI xs i) Q := by
  obtain ⟨a, e, m⟩ := atI_in xs h0 h1
  rw [e]
  exact h a m
theorem log_small {m : Int} (h : m.natAbs < 2 ^ 64) : m.natAbs.log2 < 9000 := by
  by_cases h0 : m.natAbs = 0
  · rw [h0]; decide
  · have := (Nat.log2_lt h0).mpr h
    omega
theorem size_spec {n : Nat} {st : List SO} {Q : Rs → List SO → Prop} (T : Tape st) (h : ∀ (b : Int) st', b = 2 ∨ b = 3 → Tape st' → Q (.int b, false) st') : Rp (callF fns wf (n + 2) id__law_size [.obj 1] st) Q := by
  with_reducible refine c__law_size fun cl hcl => ?_
  unfold b__law_size
  try simp -implicitDefEqProofs only [wp_bind, wp_pure, wp_bad, wp_getS, wp_asB, wp_slotOpd, wp_rdSlot, wp_rdVar, wp_rdRet, wp_resV, wp_resS, wp_ress0, wp_ress, wp_setR, wp_setρ, wp_call, wp_setAt, wp_opd, wp_dat, wp_shr, wp_ownL, wp_popAt, wp_popLast, wp_app, wp_ins, wp_bindTup, wp_bindTs0, wp_bindTs, wp_bindNm, wp_blk, w_var, w_con, w_tup, w_lst, w_shr, w_bin, w_cmp, w_idx, w_cmp2, w_and2, w_or2, w_not1, w_ife, w_sli, w_call, w_blt, w_isi, w_lc, w_popk, w_popl, w_isN, w_neg, Z.w_rev, w_part0, w_part1, w_ds0, w_ds, w_os0, w_os, w_cs0, w_cs, line, w_asg, w_asgT, w_aug, w_setI, w_augI, w_lc2, w_app, w_ins, w_ext, w_expr, w_ret, w_retN, w_if, w_forE, w_whil, w_brk, w_cont, w_pass, w_ss0, w_ss, fw_nx, fw_brk, fw_cont, fw_ret, nn_none, nn_int, nn_bl, nn_str, nn_tup, nn_lst, ol_lst, op_some, op_none, op_ite, ob_bl, oi_int, sl_pu, sl_ow, al_ow, al_obj, so_lst, opdV, retV, endQ, letgo, ite_self, ixN_3_0, ixN_3_1, ixN_3_2, atI_0, atI_1, atI_2, atI_3, List.getElem?_cons_zero, List.getElem?_cons_succ, List.set_cons_zero, List.set_cons_succ, List.length_cons, List.length_nil, List.length_map, Option.bind_some, Option.map_some, List.nil_append, List.cons_append, List.length_singleton, Nat.zero_add, Nat.reduceAdd, Nat.reduceLT, Nat.reduceLeDiff, Nat.zero_le, if_false, if_true, Bool.false_eq_true, Bool.true_eq_false, Bool.not_true, Bool.not_false, reduceCtorEq, true_and, and_true, forall_const, false_and, and_false, false_implies, not_false_eq_true, not_true_eq_false, decide_true, decide_false, decide_eq_true_eq, decide_eq_false_iff_not, isi_none_int, isi_none_bool, isi_none_str, isi_none_tuple, isi_none_list, isi_none_list_tuple, isi_none_tuple_list, isi_bl_int, isi_bl_bool, isi_bl_str, isi_bl_tuple, isi_bl_list, isi_bl_list_tuple, isi_bl_tuple_list, isi_int_int, isi_int_bool, isi_int_str, isi_int_tuple, isi_int_list, isi_int_list_tuple, isi_int_tuple_list, isi_str_int, isi_str_bool, isi_str_str, isi_str_tuple, isi_str_list, isi_str_list_tuple, isi_str_tuple_list, isi_tup_int, isi_tup_bool, isi_tup_str, isi_tup_tuple, isi_tup_list, isi_tup_list_tuple, isi_tup_tuple_list, isi_lst_int, isi_lst_bool, isi_lst_str, isi_lst_tuple, isi_lst_list, isi_lst_list_tuple, isi_lst_tuple_list, cmp_eq_ii, cmp_ne_ii, cmp_eq_bb, cmp_ne_bb, cmp_lt, cmp_le, cmp_gt, cmp_ge, cmp_ni_ii, binD]
  with_reducible refine rp_cl hcl (draw_spec T (by decide) (by decide) fun f st1 h0 h1 T1 => ?_)
  try simp -implicitDefEqProofs only [wp_bind, wp_pure, wp_bad, wp_getS, wp_asB, wp_slotOpd, wp_rdSlot, wp_rdVar, wp_rdRet, wp_resV, wp_resS, wp_ress0, wp_ress, wp_setR, wp_setρ, wp_call, wp_setAt, wp_opd, wp_dat, wp_shr, wp_ownL, wp_popAt, wp_popLast, wp_app, wp_ins, wp_bindTup, wp_bindTs0, wp_bindTs, wp_bindNm, wp_blk, w_var, w_con, w_tup, w_lst, w_shr, w_bin, w_cmp, w_idx, w_cmp2, w_and2, w_or2, w_not1, w_ife, w_sli, w_call, w_blt, w_isi, w_lc, w_popk, w_popl, w_isN, w_neg, Z.w_rev, w_part0, w_part1, w_ds0, w_ds, w_os0, w_os, w_cs0, w_cs, line, w_asg, w_asgT, w_aug, w_setI, w_augI, w_lc2, w_app, w_ins, w_ext, w_expr, w_ret, w_retN, w_if, w_forE, w_whil, w_brk, w_cont, w_pass, w_ss0, w_ss, fw_nx, fw_brk, fw_cont, fw_ret, nn_none, nn_int, nn_bl, nn_str, nn_tup, nn_lst, ol_lst, op_some, op_none, op_ite, ob_bl, oi_int, sl_pu, sl_ow, al_ow, al_obj, so_lst, opdV, retV, endQ, letgo, ite_self, ixN_3_0, ixN_3_1, ixN_3_2, atI_0, atI_1, atI_2, atI_3, List.getElem?_cons_zero, List.getElem?_cons_succ, List.set_cons_zero, List.set_cons_succ, List.length_cons, List.length_nil, List.length_map, Option.bind_some, Option.map_some, List.nil_append, List.cons_append, List.length_singleton, Nat.zero_add, Nat.reduceAdd, Nat.reduceLT, Nat.reduceLeDiff, Nat.zero_le, if_false, if_true, Bool.false_eq_true, Bool.true_eq_false, Bool.not_true, Bool.not_false, reduceCtorEq, true_and, and_true, forall_const, false_and, and_false, false_implies, not_false_eq_true, not_true_eq_false, decide_true, decide_false, decide_eq_true_eq, decide_eq_false_iff_not, isi_none_int, isi_none_bool, isi_none_str, isi_none_tuple, isi_none_list, isi_none_list_tuple, isi_none_tuple_list, isi_bl_int, isi_bl_bool, isi_bl_str, isi_bl_tuple, isi_bl_list, isi_bl_list_tuple, isi_bl_tuple_list, isi_int_int, isi_int_bool, isi_int_str, isi_int_tuple, isi_int_list, isi_int_list_tuple, isi_int_tuple_list, isi_str_int, isi_str_bool, isi_str_str, isi_str_tuple, isi_str_list, isi_str_list_tuple, isi_str_tuple_list, isi_tup_int, isi_tup_bool, isi_tup_str, isi_tup_tuple, isi_tup_list, isi_tup_list_tuple, isi_tup_tuple_list, isi_lst_int, isi_lst_bool, isi_lst_str, isi_lst_tuple, isi_lst_list, isi_lst_list_tuple, isi_lst_tuple_list, cmp_eq_ii, cmp_ne_ii, cmp_eq_bb, cmp_ne_bb, cmp_lt, cmp_le, cmp_gt, cmp_ge, cmp_ni_ii, binD]
  exact h _ _ (by omega) T1
/-! like itself -/
theorem cmp_nn : cmpD .eq .none .none = some true := by decide +kernel
theorem atI_nn {α : Type} {xs : List α} {j : Nat} (h : j < xs.length) : atI xs (j : Int) = some xs[j] := atI_nat (List.getElem?_eq_getElem h)
theorem ft_false {α : Type} (l : List α) : l.filter (fun _ => false) = [] := List.filter_eq_nil_iff.mpr fun _ _ => Bool.false_ne_true
theorem ft_true {α : Type} (l : List α) : l.filter (fun _ => true) = l := List.filter_eq_self.mpr fun _ _ => rfl
theorem line_eq' : line = 16777216 := rfl
theorem nil_cmp : cmpD .eq (.lst []) (.lst []) = some true := by decide +kernel
theorem items_rng2 {a b : Int} (h1 : -1000000000 ≤ a) (h2 : a ≤ 1000000000) (h3 : -1000000000 ≤ b) (h4 : b ≤ 1000000000) : itemsD .rng2 [.int a, .int b] = some ((List.range (b - a).toNat).map fun (k : Nat) => D.int (a + (k : Int))) := by
  have h : -(2 ^ 62) ≤ a ∧ a < 2 ^ 62 ∧ -(2 ^ 62) ≤ b ∧ b < 2 ^ 62 := ⟨by omega, by omega, by omega, by omega⟩
  simp only [itemsD, it2, rng2I]
  rw [if_pos h]
theorem filter_find {α : Type} (f : α → Bool) : ∀ l : List α, (l.filter f).isEmpty = (l.find? f).isNone
  | [] => rfl
  | x :: l => by
    rw [List.filter_cons, List.find?_cons]
    cases f x with
    | true => rfl
    | false => exact filter_find f l
theorem like_refl {L : Nat} (hL : L ≤ 16777216) {st : List SO} : ∀ {k n : Nat} {d : D} {Q : Rs → List SO → Prop}, Fine L k d → Q (.bl true, false) st → Rp (callF fns wf (n + k) id__law_like [d, d] st) Q
  | 0, n, d, Q, hd, _ => by unfold Fine at hd; exact hd.elim
  | k + 1, n, d, Q, hd, h => by
    show Rp (callF fns wf ((n + k) + 1) id__law_like [d, d] st) Q
    with_reducible refine c__law_like fun cl hcl => ?_
    unfold b__law_like
    have loop : ∀ (ds : List D) (mk : List D → D), (∀ st i, idxD st (mk ds) i = (match i with | .int k => atI ds k | _ => none)) → ds.length ≤ L → (∀ x ∈ ds, Fine L k x) → Wp (lcLoop [2] (Tg.nm 2) (evalCs cl [Ex.not1 (Ex.call id__law_like [(Ex.var 0).idx (Ex.var 2), (Ex.var 1).idx (Ex.var 2)])]) (dat (evalE cl (Ex.var 2))) ((List.range ds.length).map fun (k : Nat) => D.int (k : Int)) []) ⟨[.pu (mk ds), .pu (mk ds), .un], st⟩ fun l s => l = [] ∧ ∃ y, s = ⟨[.pu (mk ds), .pu (mk ds), y], st⟩ := by
      intro ds mk hix hlen hx
      refine wp_lc_map (fun (k : Nat) => D.int (k : Int)) (fun _ => false) (fun _ => .none) (fun s => ∃ y, s = ⟨[.pu (mk ds), .pu (mk ds), y], st⟩) ⟨_, rfl⟩ (by rw [line_eq']; simp; omega) ?_ ?_
      · rintro j hj s ⟨y, rfl⟩
        have hj : j < ds.length := by simpa using hj
        have e1 : atI ds (j : Int) = some ds[j] := atI_nn hj
        try simp -implicitDefEqProofs only [wp_bind, wp_pure, wp_bad, wp_getS, wp_asB, wp_slotOpd, wp_rdSlot, wp_rdVar, wp_rdRet, wp_resV, wp_resS, wp_ress0, wp_ress, wp_setR, wp_setρ, wp_call, wp_setAt, wp_opd, wp_dat, wp_shr, wp_ownL, wp_popAt, wp_popLast, wp_app, wp_ins, wp_bindTup, wp_bindTs0, wp_bindTs, wp_bindNm, wp_blk, w_var, w_con, w_tup, w_lst, w_shr, w_bin, w_cmp, w_idx, w_cmp2, w_and2, w_or2, w_not1, w_ife, w_sli, w_call, w_blt, w_isi, w_lc, w_popk, w_popl, w_isN, w_neg, Z.w_rev, w_part0, w_part1, w_ds0, w_ds, w_os0, w_os, w_cs0, w_cs, line, w_asg, w_asgT, w_aug, w_setI, w_augI, w_lc2, w_app, w_ins, w_ext, w_expr, w_ret, w_retN, w_if, w_forE, w_whil, w_brk, w_cont, w_pass, w_ss0, w_ss, fw_nx, fw_brk, fw_cont, fw_ret, nn_none, nn_int, nn_bl, nn_str, nn_tup, nn_lst, ol_lst, op_some, op_none, op_ite, ob_bl, oi_int, sl_pu, sl_ow, al_ow, al_obj, so_lst, opdV, retV, endQ, letgo, ite_self, ixN_3_0, ixN_3_1, ixN_3_2, atI_0, atI_1, atI_2, atI_3, List.getElem?_cons_zero, List.getElem?_cons_succ, List.set_cons_zero, List.set_cons_succ, List.length_cons, List.length_nil, List.length_map, Option.bind_some, Option.map_some, List.nil_append, List.cons_append, List.length_singleton, Nat.zero_add, Nat.reduceAdd, Nat.reduceLT, Nat.reduceLeDiff, Nat.zero_le, if_false, if_true, Bool.false_eq_true, Bool.true_eq_false, Bool.not_true, Bool.not_false, reduceCtorEq, true_and, and_true, forall_const, false_and, and_false, false_implies, not_false_eq_true, not_true_eq_false, decide_true, decide_false, decide_eq_true_eq, decide_eq_false_iff_not, isi_none_int, isi_none_bool, isi_none_str, isi_none_tuple, isi_none_list, isi_none_list_tuple, isi_none_tuple_list, isi_bl_int, isi_bl_bool, isi_bl_str, isi_bl_tuple, isi_bl_list, isi_bl_list_tuple, isi_bl_tuple_list, isi_int_int, isi_int_bool, isi_int_str, isi_int_tuple, isi_int_list, isi_int_list_tuple, isi_int_tuple_list, isi_str_int, isi_str_bool, isi_str_str, isi_str_tuple, isi_str_list, isi_str_list_tuple, isi_str_tuple_list, isi_tup_int, isi_tup_bool, isi_tup_str, isi_tup_tuple, isi_tup_list, isi_tup_list_tuple, isi_tup_tuple_list, isi_lst_int, isi_lst_bool, isi_lst_str, isi_lst_tuple, isi_lst_list, isi_lst_list_tuple, isi_lst_tuple_list, cmp_eq_ii, cmp_ne_ii, cmp_eq_bb, cmp_ne_bb, cmp_lt, cmp_le, cmp_gt, cmp_ge, cmp_ni_ii, wp_wipe, List.foldr_cons, List.foldr_nil, hix, e1]
        with_reducible refine rp_cl hcl (like_refl hL (hx _ (List.getElem_mem hj)) ?_)
        try simp -implicitDefEqProofs only [wp_bind, wp_pure, wp_bad, wp_getS, wp_asB, wp_slotOpd, wp_rdSlot, wp_rdVar, wp_rdRet, wp_resV, wp_resS, wp_ress0, wp_ress, wp_setR, wp_setρ, wp_call, wp_setAt, wp_opd, wp_dat, wp_shr, wp_ownL, wp_popAt, wp_popLast, wp_app, wp_ins, wp_bindTup, wp_bindTs0, wp_bindTs, wp_bindNm, wp_blk, w_var, w_con, w_tup, w_lst, w_shr, w_bin, w_cmp, w_idx, w_cmp2, w_and2, w_or2, w_not1, w_ife, w_sli, w_call, w_blt, w_isi, w_lc, w_popk, w_popl, w_isN, w_neg, Z.w_rev, w_part0, w_part1, w_ds0, w_ds, w_os0, w_os, w_cs0, w_cs, line, w_asg, w_asgT, w_aug, w_setI, w_augI, w_lc2, w_app, w_ins, w_ext, w_expr, w_ret, w_retN, w_if, w_forE, w_whil, w_brk, w_cont, w_pass, w_ss0, w_ss, fw_nx, fw_brk, fw_cont, fw_ret, nn_none, nn_int, nn_bl, nn_str, nn_tup, nn_lst, ol_lst, op_some, op_none, op_ite, ob_bl, oi_int, sl_pu, sl_ow, al_ow, al_obj, so_lst, opdV, retV, endQ, letgo, ite_self, ixN_3_0, ixN_3_1, ixN_3_2, atI_0, atI_1, atI_2, atI_3, List.getElem?_cons_zero, List.getElem?_cons_succ, List.set_cons_zero, List.set_cons_succ, List.length_cons, List.length_nil, List.length_map, Option.bind_some, Option.map_some, List.nil_append, List.cons_append, List.length_singleton, Nat.zero_add, Nat.reduceAdd, Nat.reduceLT, Nat.reduceLeDiff, Nat.zero_le, if_false, if_true, Bool.false_eq_true, Bool.true_eq_false, Bool.not_true, Bool.not_false, reduceCtorEq, true_and, and_true, forall_const, false_and, and_false, false_implies, not_false_eq_true, not_true_eq_false, decide_true, decide_false, decide_eq_true_eq, decide_eq_false_iff_not, isi_none_int, isi_none_bool, isi_none_str, isi_none_tuple, isi_none_list, isi_none_list_tuple, isi_none_tuple_list, isi_bl_int, isi_bl_bool, isi_bl_str, isi_bl_tuple, isi_bl_list, isi_bl_list_tuple, isi_bl_tuple_list, isi_int_int, isi_int_bool, isi_int_str, isi_int_tuple, isi_int_list, isi_int_list_tuple, isi_int_tuple_list, isi_str_int, isi_str_bool, isi_str_str, isi_str_tuple, isi_str_list, isi_str_list_tuple, isi_str_tuple_list, isi_tup_int, isi_tup_bool, isi_tup_str, isi_tup_tuple, isi_tup_list, isi_tup_list_tuple, isi_tup_tuple_list, isi_lst_int, isi_lst_bool, isi_lst_str, isi_lst_tuple, isi_lst_list, isi_lst_list_tuple, isi_lst_tuple_list, cmp_eq_ii, cmp_ne_ii, cmp_eq_bb, cmp_ne_bb, cmp_lt, cmp_le, cmp_gt, cmp_ge, cmp_ni_ii]
        exact ⟨_, rfl⟩
      · rintro s ⟨y, rfl⟩
        rw [ft_false]
        exact ⟨rfl, _, rfl⟩
    cases d with
    | dic _ _ => unfold Fine at hd; exact hd.elim
    | obj _ => unfold Fine at hd; exact hd.elim
    | scr _ => unfold Fine at hd; exact hd.elim
    | none => try simp -implicitDefEqProofs only [wp_bind, wp_pure, wp_bad, wp_getS, wp_asB, wp_slotOpd, wp_rdSlot, wp_rdVar, wp_rdRet, wp_resV, wp_resS, wp_ress0, wp_ress, wp_setR, wp_setρ, wp_call, wp_setAt, wp_opd, wp_dat, wp_shr, wp_ownL, wp_popAt, wp_popLast, wp_app, wp_ins, wp_bindTup, wp_bindTs0, wp_bindTs, wp_bindNm, wp_blk, w_var, w_con, w_tup, w_lst, w_shr, w_bin, w_cmp, w_idx, w_cmp2, w_and2, w_or2, w_not1, w_ife, w_sli, w_call, w_blt, w_isi, w_lc, w_popk, w_popl, w_isN, w_neg, Z.w_rev, w_part0, w_part1, w_ds0, w_ds, w_os0, w_os, w_cs0, w_cs, line, w_asg, w_asgT, w_aug, w_setI, w_augI, w_lc2, w_app, w_ins, w_ext, w_expr, w_ret, w_retN, w_if, w_forE, w_whil, w_brk, w_cont, w_pass, w_ss0, w_ss, fw_nx, fw_brk, fw_cont, fw_ret, nn_none, nn_int, nn_bl, nn_str, nn_tup, nn_lst, ol_lst, op_some, op_none, op_ite, ob_bl, oi_int, sl_pu, sl_ow, al_ow, al_obj, so_lst, opdV, retV, endQ, letgo, ite_self, ixN_3_0, ixN_3_1, ixN_3_2, atI_0, atI_1, atI_2, atI_3, List.getElem?_cons_zero, List.getElem?_cons_succ, List.set_cons_zero, List.set_cons_succ, List.length_cons, List.length_nil, List.length_map, Option.bind_some, Option.map_some, List.nil_append, List.cons_append, List.length_singleton, Nat.zero_add, Nat.reduceAdd, Nat.reduceLT, Nat.reduceLeDiff, Nat.zero_le, if_false, if_true, Bool.false_eq_true, Bool.true_eq_false, Bool.not_true, Bool.not_false, reduceCtorEq, true_and, and_true, forall_const, false_and, and_false, false_implies, not_false_eq_true, not_true_eq_false, decide_true, decide_false, decide_eq_true_eq, decide_eq_false_iff_not, isi_none_int, isi_none_bool, isi_none_str, isi_none_tuple, isi_none_list, isi_none_list_tuple, isi_none_tuple_list, isi_bl_int, isi_bl_bool, isi_bl_str, isi_bl_tuple, isi_bl_list, isi_bl_list_tuple, isi_bl_tuple_list, isi_int_int, isi_int_bool, isi_int_str, isi_int_tuple, isi_int_list, isi_int_list_tuple, isi_int_tuple_list, isi_str_int, isi_str_bool, isi_str_str, isi_str_tuple, isi_str_list, isi_str_list_tuple, isi_str_tuple_list, isi_tup_int, isi_tup_bool, isi_tup_str, isi_tup_tuple, isi_tup_list, isi_tup_list_tuple, isi_tup_tuple_list, isi_lst_int, isi_lst_bool, isi_lst_str, isi_lst_tuple, isi_lst_list, isi_lst_list_tuple, isi_lst_tuple_list, cmp_eq_ii, cmp_ne_ii, cmp_eq_bb, cmp_ne_bb, cmp_lt, cmp_le, cmp_gt, cmp_ge, cmp_ni_ii, cmp_nn]; exact h
    | bl b => try simp -implicitDefEqProofs only [wp_bind, wp_pure, wp_bad, wp_getS, wp_asB, wp_slotOpd, wp_rdSlot, wp_rdVar, wp_rdRet, wp_resV, wp_resS, wp_ress0, wp_ress, wp_setR, wp_setρ, wp_call, wp_setAt, wp_opd, wp_dat, wp_shr, wp_ownL, wp_popAt, wp_popLast, wp_app, wp_ins, wp_bindTup, wp_bindTs0, wp_bindTs, wp_bindNm, wp_blk, w_var, w_con, w_tup, w_lst, w_shr, w_bin, w_cmp, w_idx, w_cmp2, w_and2, w_or2, w_not1, w_ife, w_sli, w_call, w_blt, w_isi, w_lc, w_popk, w_popl, w_isN, w_neg, Z.w_rev, w_part0, w_part1, w_ds0, w_ds, w_os0, w_os, w_cs0, w_cs, line, w_asg, w_asgT, w_aug, w_setI, w_augI, w_lc2, w_app, w_ins, w_ext, w_expr, w_ret, w_retN, w_if, w_forE, w_whil, w_brk, w_cont, w_pass, w_ss0, w_ss, fw_nx, fw_brk, fw_cont, fw_ret, nn_none, nn_int, nn_bl, nn_str, nn_tup, nn_lst, ol_lst, op_some, op_none, op_ite, ob_bl, oi_int, sl_pu, sl_ow, al_ow, al_obj, so_lst, opdV, retV, endQ, letgo, ite_self, ixN_3_0, ixN_3_1, ixN_3_2, atI_0, atI_1, atI_2, atI_3, List.getElem?_cons_zero, List.getElem?_cons_succ, List.set_cons_zero, List.set_cons_succ, List.length_cons, List.length_nil, List.length_map, Option.bind_some, Option.map_some, List.nil_append, List.cons_append, List.length_singleton, Nat.zero_add, Nat.reduceAdd, Nat.reduceLT, Nat.reduceLeDiff, Nat.zero_le, if_false, if_true, Bool.false_eq_true, Bool.true_eq_false, Bool.not_true, Bool.not_false, reduceCtorEq, true_and, and_true, forall_const, false_and, and_false, false_implies, not_false_eq_true, not_true_eq_false, decide_true, decide_false, decide_eq_true_eq, decide_eq_false_iff_not, isi_none_int, isi_none_bool, isi_none_str, isi_none_tuple, isi_none_list, isi_none_list_tuple, isi_none_tuple_list, isi_bl_int, isi_bl_bool, isi_bl_str, isi_bl_tuple, isi_bl_list, isi_bl_list_tuple, isi_bl_tuple_list, isi_int_int, isi_int_bool, isi_int_str, isi_int_tuple, isi_int_list, isi_int_list_tuple, isi_int_tuple_list, isi_str_int, isi_str_bool, isi_str_str, isi_str_tuple, isi_str_list, isi_str_list_tuple, isi_str_tuple_list, isi_tup_int, isi_tup_bool, isi_tup_str, isi_tup_tuple, isi_tup_list, isi_tup_list_tuple, isi_tup_tuple_list, isi_lst_int, isi_lst_bool, isi_lst_str, isi_lst_tuple, isi_lst_list, isi_lst_list_tuple, isi_lst_tuple_list, cmp_eq_ii, cmp_ne_ii, cmp_eq_bb, cmp_ne_bb, cmp_lt, cmp_le, cmp_gt, cmp_ge, cmp_ni_ii]; exact h
    | int b => try simp -implicitDefEqProofs only [wp_bind, wp_pure, wp_bad, wp_getS, wp_asB, wp_slotOpd, wp_rdSlot, wp_rdVar, wp_rdRet, wp_resV, wp_resS, wp_ress0, wp_ress, wp_setR, wp_setρ, wp_call, wp_setAt, wp_opd, wp_dat, wp_shr, wp_ownL, wp_popAt, wp_popLast, wp_app, wp_ins, wp_bindTup, wp_bindTs0, wp_bindTs, wp_bindNm, wp_blk, w_var, w_con, w_tup, w_lst, w_shr, w_bin, w_cmp, w_idx, w_cmp2, w_and2, w_or2, w_not1, w_ife, w_sli, w_call, w_blt, w_isi, w_lc, w_popk, w_popl, w_isN, w_neg, Z.w_rev, w_part0, w_part1, w_ds0, w_ds, w_os0, w_os, w_cs0, w_cs, line, w_asg, w_asgT, w_aug, w_setI, w_augI, w_lc2, w_app, w_ins, w_ext, w_expr, w_ret, w_retN, w_if, w_forE, w_whil, w_brk, w_cont, w_pass, w_ss0, w_ss, fw_nx, fw_brk, fw_cont, fw_ret, nn_none, nn_int, nn_bl, nn_str, nn_tup, nn_lst, ol_lst, op_some, op_none, op_ite, ob_bl, oi_int, sl_pu, sl_ow, al_ow, al_obj, so_lst, opdV, retV, endQ, letgo, ite_self, ixN_3_0, ixN_3_1, ixN_3_2, atI_0, atI_1, atI_2, atI_3, List.getElem?_cons_zero, List.getElem?_cons_succ, List.set_cons_zero, List.set_cons_succ, List.length_cons, List.length_nil, List.length_map, Option.bind_some, Option.map_some, List.nil_append, List.cons_append, List.length_singleton, Nat.zero_add, Nat.reduceAdd, Nat.reduceLT, Nat.reduceLeDiff, Nat.zero_le, if_false, if_true, Bool.false_eq_true, Bool.true_eq_false, Bool.not_true, Bool.not_false, reduceCtorEq, true_and, and_true, forall_const, false_and, and_false, false_implies, not_false_eq_true, not_true_eq_false, decide_true, decide_false, decide_eq_true_eq, decide_eq_false_iff_not, isi_none_int, isi_none_bool, isi_none_str, isi_none_tuple, isi_none_list, isi_none_list_tuple, isi_none_tuple_list, isi_bl_int, isi_bl_bool, isi_bl_str, isi_bl_tuple, isi_bl_list, isi_bl_list_tuple, isi_bl_tuple_list, isi_int_int, isi_int_bool, isi_int_str, isi_int_tuple, isi_int_list, isi_int_list_tuple, isi_int_tuple_list, isi_str_int, isi_str_bool, isi_str_str, isi_str_tuple, isi_str_list, isi_str_list_tuple, isi_str_tuple_list, isi_tup_int, isi_tup_bool, isi_tup_str, isi_tup_tuple, isi_tup_list, isi_tup_list_tuple, isi_tup_tuple_list, isi_lst_int, isi_lst_bool, isi_lst_str, isi_lst_tuple, isi_lst_list, isi_lst_list_tuple, isi_lst_tuple_list, cmp_eq_ii, cmp_ne_ii, cmp_eq_bb, cmp_ne_bb, cmp_lt, cmp_le, cmp_gt, cmp_ge, cmp_ni_ii]; exact h
    | str b =>
      unfold Fine at hd
      try simp -implicitDefEqProofs only [wp_bind, wp_pure, wp_bad, wp_getS, wp_asB, wp_slotOpd, wp_rdSlot, wp_rdVar, wp_rdRet, wp_resV, wp_resS, wp_ress0, wp_ress, wp_setR, wp_setρ, wp_call, wp_setAt, wp_opd, wp_dat, wp_shr, wp_ownL, wp_popAt, wp_popLast, wp_app, wp_ins, wp_bindTup, wp_bindTs0, wp_bindTs, wp_bindNm, wp_blk, w_var, w_con, w_tup, w_lst, w_shr, w_bin, w_cmp, w_idx, w_cmp2, w_and2, w_or2, w_not1, w_ife, w_sli, w_call, w_blt, w_isi, w_lc, w_popk, w_popl, w_isN, w_neg, Z.w_rev, w_part0, w_part1, w_ds0, w_ds, w_os0, w_os, w_cs0, w_cs, line, w_asg, w_asgT, w_aug, w_setI, w_augI, w_lc2, w_app, w_ins, w_ext, w_expr, w_ret, w_retN, w_if, w_forE, w_whil, w_brk, w_cont, w_pass, w_ss0, w_ss, fw_nx, fw_brk, fw_cont, fw_ret, nn_none, nn_int, nn_bl, nn_str, nn_tup, nn_lst, ol_lst, op_some, op_none, op_ite, ob_bl, oi_int, sl_pu, sl_ow, al_ow, al_obj, so_lst, opdV, retV, endQ, letgo, ite_self, ixN_3_0, ixN_3_1, ixN_3_2, atI_0, atI_1, atI_2, atI_3, List.getElem?_cons_zero, List.getElem?_cons_succ, List.set_cons_zero, List.set_cons_succ, List.length_cons, List.length_nil, List.length_map, Option.bind_some, Option.map_some, List.nil_append, List.cons_append, List.length_singleton, Nat.zero_add, Nat.reduceAdd, Nat.reduceLT, Nat.reduceLeDiff, Nat.zero_le, if_false, if_true, Bool.false_eq_true, Bool.true_eq_false, Bool.not_true, Bool.not_false, reduceCtorEq, true_and, and_true, forall_const, false_and, and_false, false_implies, not_false_eq_true, not_true_eq_false, decide_true, decide_false, decide_eq_true_eq, decide_eq_false_iff_not, isi_none_int, isi_none_bool, isi_none_str, isi_none_tuple, isi_none_list, isi_none_list_tuple, isi_none_tuple_list, isi_bl_int, isi_bl_bool, isi_bl_str, isi_bl_tuple, isi_bl_list, isi_bl_list_tuple, isi_bl_tuple_list, isi_int_int, isi_int_bool, isi_int_str, isi_int_tuple, isi_int_list, isi_int_list_tuple, isi_int_tuple_list, isi_str_int, isi_str_bool, isi_str_str, isi_str_tuple, isi_str_list, isi_str_list_tuple, isi_str_tuple_list, isi_tup_int, isi_tup_bool, isi_tup_str, isi_tup_tuple, isi_tup_list, isi_tup_list_tuple, isi_tup_tuple_list, isi_lst_int, isi_lst_bool, isi_lst_str, isi_lst_tuple, isi_lst_list, isi_lst_list_tuple, isi_lst_tuple_list, cmp_eq_ii, cmp_ne_ii, cmp_eq_bb, cmp_ne_bb, cmp_lt, cmp_le, cmp_gt, cmp_ge, cmp_ni_ii, cmp_eq_ss hd.1 hd.1, Z.eq_str]
      exact h
    | tup ds =>
      unfold Fine at hd
      try simp -implicitDefEqProofs only [wp_bind, wp_pure, wp_bad, wp_getS, wp_asB, wp_slotOpd, wp_rdSlot, wp_rdVar, wp_rdRet, wp_resV, wp_resS, wp_ress0, wp_ress, wp_setR, wp_setρ, wp_call, wp_setAt, wp_opd, wp_dat, wp_shr, wp_ownL, wp_popAt, wp_popLast, wp_app, wp_ins, wp_bindTup, wp_bindTs0, wp_bindTs, wp_bindNm, wp_blk, w_var, w_con, w_tup, w_lst, w_shr, w_bin, w_cmp, w_idx, w_cmp2, w_and2, w_or2, w_not1, w_ife, w_sli, w_call, w_blt, w_isi, w_lc, w_popk, w_popl, w_isN, w_neg, Z.w_rev, w_part0, w_part1, w_ds0, w_ds, w_os0, w_os, w_cs0, w_cs, line, w_asg, w_asgT, w_aug, w_setI, w_augI, w_lc2, w_app, w_ins, w_ext, w_expr, w_ret, w_retN, w_if, w_forE, w_whil, w_brk, w_cont, w_pass, w_ss0, w_ss, fw_nx, fw_brk, fw_cont, fw_ret, nn_none, nn_int, nn_bl, nn_str, nn_tup, nn_lst, ol_lst, op_some, op_none, op_ite, ob_bl, oi_int, sl_pu, sl_ow, al_ow, al_obj, so_lst, opdV, retV, endQ, letgo, ite_self, ixN_3_0, ixN_3_1, ixN_3_2, atI_0, atI_1, atI_2, atI_3, List.getElem?_cons_zero, List.getElem?_cons_succ, List.set_cons_zero, List.set_cons_succ, List.length_cons, List.length_nil, List.length_map, Option.bind_some, Option.map_some, List.nil_append, List.cons_append, List.length_singleton, Nat.zero_add, Nat.reduceAdd, Nat.reduceLT, Nat.reduceLeDiff, Nat.zero_le, if_false, if_true, Bool.false_eq_true, Bool.true_eq_false, Bool.not_true, Bool.not_false, reduceCtorEq, true_and, and_true, forall_const, false_and, and_false, false_implies, not_false_eq_true, not_true_eq_false, decide_true, decide_false, decide_eq_true_eq, decide_eq_false_iff_not, isi_none_int, isi_none_bool, isi_none_str, isi_none_tuple, isi_none_list, isi_none_list_tuple, isi_none_tuple_list, isi_bl_int, isi_bl_bool, isi_bl_str, isi_bl_tuple, isi_bl_list, isi_bl_list_tuple, isi_bl_tuple_list, isi_int_int, isi_int_bool, isi_int_str, isi_int_tuple, isi_int_list, isi_int_list_tuple, isi_int_tuple_list, isi_str_int, isi_str_bool, isi_str_str, isi_str_tuple, isi_str_list, isi_str_list_tuple, isi_str_tuple_list, isi_tup_int, isi_tup_bool, isi_tup_str, isi_tup_tuple, isi_tup_list, isi_tup_list_tuple, isi_tup_tuple_list, isi_lst_int, isi_lst_bool, isi_lst_str, isi_lst_tuple, isi_lst_list, isi_lst_list_tuple, isi_lst_tuple_list, cmp_eq_ii, cmp_ne_ii, cmp_eq_bb, cmp_ne_bb, cmp_lt, cmp_le, cmp_gt, cmp_ge, cmp_ni_ii, bltD, on1, lenD, seqD, items_rng1 (n := ds.length) (by omega)]
      refine (loop ds D.tup (fun st i => by cases i <;> rfl) hd.1 hd.2).mono ?_
      rintro l s ⟨rfl, y, rfl⟩
      try simp -implicitDefEqProofs only [wp_bind, wp_pure, wp_bad, wp_getS, wp_asB, wp_slotOpd, wp_rdSlot, wp_rdVar, wp_rdRet, wp_resV, wp_resS, wp_ress0, wp_ress, wp_setR, wp_setρ, wp_call, wp_setAt, wp_opd, wp_dat, wp_shr, wp_ownL, wp_popAt, wp_popLast, wp_app, wp_ins, wp_bindTup, wp_bindTs0, wp_bindTs, wp_bindNm, wp_blk, w_var, w_con, w_tup, w_lst, w_shr, w_bin, w_cmp, w_idx, w_cmp2, w_and2, w_or2, w_not1, w_ife, w_sli, w_call, w_blt, w_isi, w_lc, w_popk, w_popl, w_isN, w_neg, Z.w_rev, w_part0, w_part1, w_ds0, w_ds, w_os0, w_os, w_cs0, w_cs, line, w_asg, w_asgT, w_aug, w_setI, w_augI, w_lc2, w_app, w_ins, w_ext, w_expr, w_ret, w_retN, w_if, w_forE, w_whil, w_brk, w_cont, w_pass, w_ss0, w_ss, fw_nx, fw_brk, fw_cont, fw_ret, nn_none, nn_int, nn_bl, nn_str, nn_tup, nn_lst, ol_lst, op_some, op_none, op_ite, ob_bl, oi_int, sl_pu, sl_ow, al_ow, al_obj, so_lst, opdV, retV, endQ, letgo, ite_self, ixN_3_0, ixN_3_1, ixN_3_2, atI_0, atI_1, atI_2, atI_3, List.getElem?_cons_zero, List.getElem?_cons_succ, List.set_cons_zero, List.set_cons_succ, List.length_cons, List.length_nil, List.length_map, Option.bind_some, Option.map_some, List.nil_append, List.cons_append, List.length_singleton, Nat.zero_add, Nat.reduceAdd, Nat.reduceLT, Nat.reduceLeDiff, Nat.zero_le, if_false, if_true, Bool.false_eq_true, Bool.true_eq_false, Bool.not_true, Bool.not_false, reduceCtorEq, true_and, and_true, forall_const, false_and, and_false, false_implies, not_false_eq_true, not_true_eq_false, decide_true, decide_false, decide_eq_true_eq, decide_eq_false_iff_not, isi_none_int, isi_none_bool, isi_none_str, isi_none_tuple, isi_none_list, isi_none_list_tuple, isi_none_tuple_list, isi_bl_int, isi_bl_bool, isi_bl_str, isi_bl_tuple, isi_bl_list, isi_bl_list_tuple, isi_bl_tuple_list, isi_int_int, isi_int_bool, isi_int_str, isi_int_tuple, isi_int_list, isi_int_list_tuple, isi_int_tuple_list, isi_str_int, isi_str_bool, isi_str_str, isi_str_tuple, isi_str_list, isi_str_list_tuple, isi_str_tuple_list, isi_tup_int, isi_tup_bool, isi_tup_str, isi_tup_tuple, isi_tup_list, isi_tup_list_tuple, isi_tup_tuple_list, isi_lst_int, isi_lst_bool, isi_lst_str, isi_lst_tuple, isi_lst_list, isi_lst_list_tuple, isi_lst_tuple_list, cmp_eq_ii, cmp_ne_ii, cmp_eq_bb, cmp_ne_bb, cmp_lt, cmp_le, cmp_gt, cmp_ge, cmp_ni_ii, unwipe, List.foldr_cons, List.foldr_nil, nil_cmp]
      exact h
    | lst ds =>
      unfold Fine at hd
      try simp -implicitDefEqProofs only [wp_bind, wp_pure, wp_bad, wp_getS, wp_asB, wp_slotOpd, wp_rdSlot, wp_rdVar, wp_rdRet, wp_resV, wp_resS, wp_ress0, wp_ress, wp_setR, wp_setρ, wp_call, wp_setAt, wp_opd, wp_dat, wp_shr, wp_ownL, wp_popAt, wp_popLast, wp_app, wp_ins, wp_bindTup, wp_bindTs0, wp_bindTs, wp_bindNm, wp_blk, w_var, w_con, w_tup, w_lst, w_shr, w_bin, w_cmp, w_idx, w_cmp2, w_and2, w_or2, w_not1, w_ife, w_sli, w_call, w_blt, w_isi, w_lc, w_popk, w_popl, w_isN, w_neg, Z.w_rev, w_part0, w_part1, w_ds0, w_ds, w_os0, w_os, w_cs0, w_cs, line, w_asg, w_asgT, w_aug, w_setI, w_augI, w_lc2, w_app, w_ins, w_ext, w_expr, w_ret, w_retN, w_if, w_forE, w_whil, w_brk, w_cont, w_pass, w_ss0, w_ss, fw_nx, fw_brk, fw_cont, fw_ret, nn_none, nn_int, nn_bl, nn_str, nn_tup, nn_lst, ol_lst, op_some, op_none, op_ite, ob_bl, oi_int, sl_pu, sl_ow, al_ow, al_obj, so_lst, opdV, retV, endQ, letgo, ite_self, ixN_3_0, ixN_3_1, ixN_3_2, atI_0, atI_1, atI_2, atI_3, List.getElem?_cons_zero, List.getElem?_cons_succ, List.set_cons_zero, List.set_cons_succ, List.length_cons, List.length_nil, List.length_map, Option.bind_some, Option.map_some, List.nil_append, List.cons_append, List.length_singleton, Nat.zero_add, Nat.reduceAdd, Nat.reduceLT, Nat.reduceLeDiff, Nat.zero_le, if_false, if_true, Bool.false_eq_true, Bool.true_eq_false, Bool.not_true, Bool.not_false, reduceCtorEq, true_and, and_true, forall_const, false_and, and_false, false_implies, not_false_eq_true, not_true_eq_false, decide_true, decide_false, decide_eq_true_eq, decide_eq_false_iff_not, isi_none_int, isi_none_bool, isi_none_str, isi_none_tuple, isi_none_list, isi_none_list_tuple, isi_none_tuple_list, isi_bl_int, isi_bl_bool, isi_bl_str, isi_bl_tuple, isi_bl_list, isi_bl_list_tuple, isi_bl_tuple_list, isi_int_int, isi_int_bool, isi_int_str, isi_int_tuple, isi_int_list, isi_int_list_tuple, isi_int_tuple_list, isi_str_int, isi_str_bool, isi_str_str, isi_str_tuple, isi_str_list, isi_str_list_tuple, isi_str_tuple_list, isi_tup_int, isi_tup_bool, isi_tup_str, isi_tup_tuple, isi_tup_list, isi_tup_list_tuple, isi_tup_tuple_list, isi_lst_int, isi_lst_bool, isi_lst_str, isi_lst_tuple, isi_lst_list, isi_lst_list_tuple, isi_lst_tuple_list, cmp_eq_ii, cmp_ne_ii, cmp_eq_bb, cmp_ne_bb, cmp_lt, cmp_le, cmp_gt, cmp_ge, cmp_ni_ii, bltD, on1, lenD, seqD, items_rng1 (n := ds.length) (by omega)]
      refine (loop ds D.lst (fun st i => by cases i <;> rfl) hd.1 hd.2).mono ?_
      rintro l s ⟨rfl, y, rfl⟩
      try simp -implicitDefEqProofs only [wp_bind, wp_pure, wp_bad, wp_getS, wp_asB, wp_slotOpd, wp_rdSlot, wp_rdVar, wp_rdRet, wp_resV, wp_resS, wp_ress0, wp_ress, wp_setR, wp_setρ, wp_call, wp_setAt, wp_opd, wp_dat, wp_shr, wp_ownL, wp_popAt, wp_popLast, wp_app, wp_ins, wp_bindTup, wp_bindTs0, wp_bindTs, wp_bindNm, wp_blk, w_var, w_con, w_tup, w_lst, w_shr, w_bin, w_cmp, w_idx, w_cmp2, w_and2, w_or2, w_not1, w_ife, w_sli, w_call, w_blt, w_isi, w_lc, w_popk, w_popl, w_isN, w_neg, Z.w_rev, w_part0, w_part1, w_ds0, w_ds, w_os0, w_os, w_cs0, w_cs, line, w_asg, w_asgT, w_aug, w_setI, w_augI, w_lc2, w_app, w_ins, w_ext, w_expr, w_ret, w_retN, w_if, w_forE, w_whil, w_brk, w_cont, w_pass, w_ss0, w_ss, fw_nx, fw_brk, fw_cont, fw_ret, nn_none, nn_int, nn_bl, nn_str, nn_tup, nn_lst, ol_lst, op_some, op_none, op_ite, ob_bl, oi_int, sl_pu, sl_ow, al_ow, al_obj, so_lst, opdV, retV, endQ, letgo, ite_self, ixN_3_0, ixN_3_1, ixN_3_2, atI_0, atI_1, atI_2, atI_3, List.getElem?_cons_zero, List.getElem?_cons_succ, List.set_cons_zero, List.set_cons_succ, List.length_cons, List.length_nil, List.length_map, Option.bind_some, Option.map_some, List.nil_append, List.cons_append, List.length_singleton, Nat.zero_add, Nat.reduceAdd, Nat.reduceLT, Nat.reduceLeDiff, Nat.zero_le, if_false, if_true, Bool.false_eq_true, Bool.true_eq_false, Bool.not_true, Bool.not_false, reduceCtorEq, true_and, and_true, forall_const, false_and, and_false, false_implies, not_false_eq_true, not_true_eq_false, decide_true, decide_false, decide_eq_true_eq, decide_eq_false_iff_not, isi_none_int, isi_none_bool, isi_none_str, isi_none_tuple, isi_none_list, isi_none_list_tuple, isi_none_tuple_list, isi_bl_int, isi_bl_bool, isi_bl_str, isi_bl_tuple, isi_bl_list, isi_bl_list_tuple, isi_bl_tuple_list, isi_int_int, isi_int_bool, isi_int_str, isi_int_tuple, isi_int_list, isi_int_list_tuple, isi_int_tuple_list, isi_str_int, isi_str_bool, isi_str_str, isi_str_tuple, isi_str_list, isi_str_list_tuple, isi_str_tuple_list, isi_tup_int, isi_tup_bool, isi_tup_str, isi_tup_tuple, isi_tup_list, isi_tup_list_tuple, isi_tup_tuple_list, isi_lst_int, isi_lst_bool, isi_lst_str, isi_lst_tuple, isi_lst_list, isi_lst_list_tuple, isi_lst_tuple_list, cmp_eq_ii, cmp_ne_ii, cmp_eq_bb, cmp_ne_bb, cmp_lt, cmp_le, cmp_gt, cmp_ge, cmp_ni_ii, unwipe, List.foldr_cons, List.foldr_nil, nil_cmp]
      exact h
/-- a comprehension without a test: what holds of what is made so far -/
theorem wp_lc_acc {own : List Nat} {tg : Tg} {elt : M D} (cond : M Bool) (hc : cond = Pure.pure true) (I : List D → S → Prop) (N : Nat) (hn : N ≤ line) {Q : List D → S → Prop} : ∀ {xs acc : List D} {s : S}, I acc s → acc.length + xs.length = N → (∀ x ∈ xs, ∀ acc s, acc.length < N → I acc s → Wp (wipeS own) s fun _ s1 => Wp (bindT tg x) s1 fun _ s2 => Wp elt s2 fun y s3 => I (acc ++ [y]) s3) → (∀ acc s, acc.length = N → I acc s → Q acc s) → Wp (lcLoop own tg cond elt xs acc) s Q
  | [], acc, s, h, hl, _, hq => hq acc s (by simpa using hl) h
  | x :: xs, acc, s, h, hl, hs, hq => by
    subst hc
    rw [wp_lc]
    rw [List.length_cons] at hl
    refine (hs x List.mem_cons_self acc s (by omega) h).mono fun _ s1 h1 => h1.mono fun _ s2 h2 => ?_
    rw [wp_pure]
    refine ⟨fun _ => h2.mono fun y s3 h3 => ⟨by omega, wp_lc_acc _ rfl I N hn h3 (by rw [List.length_append, List.length_singleton]; omega) (fun y hy => hs y (List.mem_cons_of_mem _ hy)) hq⟩, fun z => nomatch z⟩
theorem ixP_at {n : Nat} {f : Int} (h0 : 0 ≤ f) (h1 : f < n) (hn : n ≤ 1000000000) : ixP n (.int f) = some f.toNat := by
  show (if -(2 ^ 63) ≤ f ∧ f < 2 ^ 63 then ixN n f else none) = _
  have h : -(2 ^ 63) ≤ f ∧ f < 2 ^ 63 := ⟨by omega, by omega⟩
  rw [if_pos h, ixN_at h0 h1]
theorem stills_ints : ∀ ns : List Int, stills (ns.map .int) = true
  | [] => rfl
  | n :: ns => by
    show (still (.int n) && stills (ns.map .int)) = true
    rw [stills_ints ns]
    rfl
theorem Tape.still {st : List SO} (T : Tape st) : st.all stillSO = true := by
  obtain ⟨ns, p, c, rfl, _⟩ := T
  show (stills (ns.map D.int) && (stills [.obj 0, .int p, .int c] && true)) = true
  rw [stills_ints]
  rfl
theorem still_bl (b : Bool) : still (.bl b) = true := rfl
end G

/-! straight products: the two enumerations have the same members -/
namespace SP
abbrev B := List Int
abbrev P := List B
def pts : List Int := [0, 1, 2, 3, 4, 5, 6, 7]
def ok (a b : B) : Bool := (a.zip b).all fun x => decide (x.1 ≤ x.2)
def str : P → Bool
  | a :: b :: r => ok a b && str (b :: r)
  | _ => true
def cnt (p : P) (k : Int) : Int := ((p.countP fun b => decide (k ∈ b) : Nat) : Int)
def get (c : List Int) (k : Int) : Int := (c[k.toNat]?).getD 0
/-- a bracket: s points, rising -/
structure Br (s : Nat) (b : B) : Prop where
  len : b.length = s
  ris : b.Pairwise (· < ·)
  pt : ∀ k ∈ b, k ∈ pts
def left (p : P) (c : List Int) : List Int := pts.filter fun k => decide (cnt p k < get c k)
def cc (c : List Int) (p : P) (b : B) : Bool := (match p.getLast? with
  | none => true
  | some a => ok a b) && (decide (b.head? = (left p c).head?) && b.all fun k => decide (k ∈ left p c))
def A (c : List Int) (bs : List B) : Nat → List P
  | 0 => [[]]
  | t + 1 => (A c bs t).flatMap fun p => (bs.filter fun b => cc c p b).map fun b => p ++ [b]
theorem A_mem {c : List Int} {bs : List B} : ∀ {t : Nat} {p : P}, p ∈ A c bs t ↔ p.length = t ∧ (∀ b ∈ p, b ∈ bs) ∧ ∀ q b r, p = q ++ b :: r → cc c q b = true
  | 0, p => by
    unfold A
    rw [List.mem_singleton]
    constructor
    · rintro rfl
      exact ⟨rfl, fun b hb => (by cases hb), fun q b r e => (by simp at e)⟩
    · intro h
      exact List.length_eq_zero_iff.mp h.1
  | t + 1, p => by
    unfold A
    rw [List.mem_flatMap]
    constructor
    · rintro ⟨p', hp', hm⟩
      obtain ⟨b, hb, rfl⟩ := List.mem_map.mp hm
      obtain ⟨hb1, hb2⟩ := List.mem_filter.mp hb
      obtain ⟨h1, h2, h3⟩ := A_mem.mp hp'
      refine ⟨by rw [List.length_append, h1]; rfl, fun x hx => ?_, fun q b' r e => ?_⟩
      · rcases List.mem_append.mp hx with hx | hx
        · exact h2 x hx
        · rw [List.mem_singleton.mp hx]; exact hb1
      · rcases List.eq_nil_or_concat r with rfl | ⟨r', y, rfl⟩
        · have := List.append_inj' (s₁ := p') (t₁ := [b]) (s₂ := q) (t₂ := [b']) e rfl
          obtain ⟨rfl, e2⟩ := this
          cases e2
          exact hb2
        · have e : p' ++ [b] = (q ++ b' :: r') ++ [y] := by rw [e]; simp
          obtain ⟨e1, e2⟩ := List.append_inj' e rfl
          exact h3 q b' r' e1
    · rintro ⟨h1, h2, h3⟩
      rcases List.eq_nil_or_concat p with rfl | ⟨p', b, rfl⟩
      · simp at h1
      · rw [List.concat_eq_append] at h1 h2 h3 ⊢
        refine ⟨p', A_mem.mpr ⟨by simp at h1; exact h1, fun x hx => h2 x (List.mem_append_left _ hx), fun q b' r e => h3 q b' (r ++ [b]) (by rw [e]; simp)⟩, ?_⟩
        exact List.mem_map.mpr ⟨b, List.mem_filter.mpr ⟨h2 b (by simp), h3 p' b [] rfl⟩, rfl⟩
theorem A_nodup {c : List Int} {bs : List B} (hb : bs.Nodup) : ∀ t, (A c bs t).Nodup
  | 0 => by unfold A; simp
  | t + 1 => by
    unfold A
    unfold List.Nodup
    rw [List.pairwise_flatMap]
    refine ⟨fun p _ => ?_, ?_⟩
    · have : (bs.filter fun b => cc c p b).Nodup := List.Nodup.sublist List.filter_sublist hb
      exact List.pairwise_map.mpr (this.imp fun h e => h (by simpa using e))
    · refine (A_nodup hb t).imp fun {p q} hpq x hx y hy e => ?_
      obtain ⟨b, _, rfl⟩ := List.mem_map.mp hx
      obtain ⟨b', _, rfl⟩ := List.mem_map.mp hy
      exact hpq (List.append_inj' e rfl).1
theorem cnt_append (p q : P) (k : Int) : cnt (p ++ q) k = cnt p k + cnt q k := by
  unfold cnt
  rw [List.countP_append]
  omega
theorem cnt_cons (b : B) (q : P) (k : Int) : cnt (b :: q) k = (if k ∈ b then 1 else 0) + cnt q k := by
  unfold cnt
  rw [List.countP_cons]
  by_cases h : k ∈ b <;> simp [h] <;> omega
theorem cnt_nonneg (p : P) (k : Int) : 0 ≤ cnt p k := by unfold cnt; omega
theorem cnt_pos {p : P} {k : Int} (h : 0 < cnt p k) : ∃ b ∈ p, k ∈ b := by
  unfold cnt at h
  have : 0 < p.countP fun b => decide (k ∈ b) := by omega
  obtain ⟨b, hb, h2⟩ := List.countP_pos_iff.mp this
  exact ⟨b, hb, of_decide_eq_true h2⟩
theorem str_cons {b : B} {r : P} (h : str (b :: r) = true) : str r = true := by
  cases r with
  | nil => rfl
  | cons a r =>
    unfold str at h
    rw [Bool.and_eq_true] at h
    exact h.2
theorem str_mid : ∀ {q : P} {a b : B} {r : P}, str (q ++ a :: b :: r) = true → ok a b = true
  | [], a, b, r, h => by
    have h : (ok a b && str (b :: r)) = true := h
    rw [Bool.and_eq_true] at h
    exact h.1
  | x :: q, a, b, r, h => str_mid (q := q) (str_cons (b := x) h)
theorem str_right : ∀ {q r : P}, str (q ++ r) = true → str r = true
  | [], r, h => h
  | x :: q, r, h => str_right (q := q) (str_cons (b := x) h)
theorem str_snoc {p : P} {b : B} (h : str p = true) (hl : ∀ a, p.getLast? = some a → ok a b = true) : str (p ++ [b]) = true := by
  induction p with
  | nil => rfl
  | cons a p ih =>
    cases p with
    | nil =>
      show (ok a b && true) = true
      rw [hl a rfl]
      rfl
    | cons a' p =>
      have h : (ok a a' && str (a' :: p)) = true := h
      rw [Bool.and_eq_true] at h
      show (ok a a' && str (a' :: (p ++ [b]))) = true
      rw [h.1]
      exact ih h.2 fun x hx => hl x (by rw [List.getLast?_cons_cons]; exact hx)
theorem ok_head {a b : B} {x y : Int} {xs ys : List Int} (h : ok (x :: xs) (y :: ys) = true) : x ≤ y := by
  unfold ok at h
  rw [List.zip_cons_cons, List.all_cons, Bool.and_eq_true] at h
  exact of_decide_eq_true h.1
/-- in a straight product the first point of the first bracket is the least -/
theorem least {s : Nat} (hs : 0 < s) : ∀ {r : P} {h : Int} {tl : List Int}, str ((h :: tl) :: r) = true → (∀ b ∈ (h :: tl) :: r, Br s b) → ∀ b ∈ (h :: tl) :: r, ∀ k ∈ b, h ≤ k
  | [], h, tl, _, hb, b, m, k, hk => by
    rw [List.mem_singleton.mp m] at hk
    have := (hb _ List.mem_cons_self).ris
    rw [List.pairwise_cons] at this
    rcases List.mem_cons.mp hk with rfl | hk
    · omega
    · have := this.1 k hk; omega
  | b2 :: r, h, tl, st, hb, b, m, k, hk => by
    have first : ∀ k ∈ h :: tl, h ≤ k := fun k hk => by
      have := (hb _ List.mem_cons_self).ris
      rw [List.pairwise_cons] at this
      rcases List.mem_cons.mp hk with rfl | hk
      · omega
      · have := this.1 k hk; omega
    rcases List.mem_cons.mp m with rfl | m
    · exact first k hk
    · have l2 := (hb b2 (by simp)).len
      cases b2 with
      | nil => simp at l2; omega
      | cons h2 t2 =>
        have o : ok (h :: tl) (h2 :: t2) = true := str_mid (q := []) st
        have := ok_head (a := []) (b := []) o
        have := least hs (str_cons st) (fun b hb' => hb b (List.mem_cons_of_mem _ hb')) b m k hk
        omega
theorem head_least {l : List Int} {h : Int} (hr : l.Pairwise (· < ·)) (hm : h ∈ l) (hl : ∀ k ∈ l, h ≤ k) : l.head? = some h := by
  cases l with
  | nil => cases hm
  | cons x xs =>
    rw [List.pairwise_cons] at hr
    rcases List.mem_cons.mp hm with rfl | hm
    · rfl
    · have h1 := hr.1 h hm
      have h2 := hl x List.mem_cons_self
      omega
theorem pts_ris : pts.Pairwise (· < ·) := by decide
theorem good_cc {s : Nat} (hs : 0 < s) {c : List Int} {p : P} (hb : ∀ b ∈ p, Br s b) (st : str p = true) (hc : ∀ k ∈ pts, cnt p k = get c k) : ∀ q b r, p = q ++ b :: r → cc c q b = true := by
  rintro q b r rfl
  have hb' : ∀ x ∈ b :: r, Br s x := fun x hx => hb x (List.mem_append_right _ hx)
  have hbb := hb' b List.mem_cons_self
  have inl : ∀ k ∈ b, k ∈ left q c := fun k hk => by
    unfold left
    refine List.mem_filter.mpr ⟨hbb.pt k hk, decide_eq_true ?_⟩
    have e := hc k (hbb.pt k hk)
    rw [cnt_append, cnt_cons, if_pos hk] at e
    have := cnt_nonneg r k
    omega
  unfold cc
  rw [Bool.and_eq_true, Bool.and_eq_true]
  refine ⟨?_, decide_eq_true ?_, List.all_eq_true.mpr fun k hk => decide_eq_true (inl k hk)⟩
  · rcases List.eq_nil_or_concat q with rfl | ⟨q', a, rfl⟩
    · rfl
    · rw [List.concat_eq_append] at st ⊢
      rw [List.getLast?_append]
      simp
      exact str_mid (q := q') (r := r) (by rw [List.append_assoc] at st; exact st)
  · have l := hbb.len
    cases b with
    | nil => simp at l; omega
    | cons h tl =>
      symm
      refine head_least (pts_ris.sublist List.filter_sublist) (inl h List.mem_cons_self) fun k hk => ?_
      obtain ⟨k1, k2⟩ := List.mem_filter.mp hk
      have k2 := of_decide_eq_true k2
      have e := hc k k1
      rw [cnt_append] at e
      obtain ⟨b', m, hk'⟩ := cnt_pos (p := (h :: tl) :: r) (k := k) (by omega)
      exact least hs (str_right st) hb' b' m k hk'
end SP

namespace SP
theorem sorted_ext : ∀ {l m : List Int}, l.Pairwise (· < ·) → m.Pairwise (· < ·) → (∀ k, k ∈ l ↔ k ∈ m) → l = m
  | [], m, _, _, h => by
    cases m with
    | nil => rfl
    | cons x m => exact absurd ((h x).mpr List.mem_cons_self) (by simp)
  | x :: l, m, hl, hm, h => by
    cases m with
    | nil => exact absurd ((h x).mp List.mem_cons_self) (by simp)
    | cons y m =>
      rw [List.pairwise_cons] at hl hm
      have hxy : x = y := by
        rcases List.mem_cons.mp ((h x).mp List.mem_cons_self) with e | e
        · exact e
        · rcases List.mem_cons.mp ((h y).mpr List.mem_cons_self) with e' | e'
          · exact e'.symm
          · have := hm.1 x e; have := hl.1 y e'; omega
      subst hxy
      have : l = m := sorted_ext hl.2 hm.2 fun k => by
        have := h k
        simp only [List.mem_cons] at this
        constructor
        · intro hk
          rcases this.mp (.inr hk) with e | e
          · have := hl.1 k hk; omega
          · exact e
        · intro hk
          rcases this.mpr (.inr hk) with e | e
          · have := hm.1 k hk; omega
          · exact e
      rw [this]
theorem sum_ite (b : B) : ∀ l : List Int, (l.map fun k => if k ∈ b then (1 : Int) else 0).sum = ((l.filter fun k => decide (k ∈ b)).length : Nat)
  | [] => rfl
  | x :: l => by
    rw [List.map_cons, List.sum_cons, sum_ite b l, List.filter_cons]
    by_cases h : x ∈ b
    · simp [h]; omega
    · simp [h]
theorem br_sum {s : Nat} {b : B} (h : Br s b) : (pts.map fun k => if k ∈ b then (1 : Int) else 0).sum = s := by
  rw [sum_ite]
  have e : pts.filter (fun k => decide (k ∈ b)) = b := sorted_ext (pts_ris.sublist List.filter_sublist) h.ris fun k => by
    rw [List.mem_filter]
    exact ⟨fun z => of_decide_eq_true z.2, fun z => ⟨h.pt k z, decide_eq_true z⟩⟩
  rw [e, h.len]
theorem sum_add (f g : Int → Int) : ∀ l : List Int, (l.map fun k => f k + g k).sum = (l.map f).sum + (l.map g).sum
  | [] => rfl
  | x :: l => by
    simp only [List.map_cons, List.sum_cons, sum_add f g l]
    omega
theorem cnt_sum {s : Nat} : ∀ {p : P}, (∀ b ∈ p, Br s b) → (pts.map (cnt p)).sum = (s : Int) * (p.length : Nat)
  | [], _ => by simp [cnt, pts]
  | b :: p, h => by
    have e : cnt (b :: p) = fun k => (if k ∈ b then 1 else 0) + cnt p k := funext fun k => cnt_cons b p k
    rw [e, sum_add, br_sum (h b List.mem_cons_self), cnt_sum fun x hx => h x (List.mem_cons_of_mem _ hx), List.length_cons]
    have : (s : Int) * ((p.length + 1 : Nat) : Int) = (s : Int) * (p.length : Int) + s := by
      rw [Int.natCast_add, Int.mul_add]; simp
    omega
theorem sum_le_eq {f g : Int → Int} : ∀ {l : List Int}, (∀ k ∈ l, f k ≤ g k) → (l.map f).sum ≤ (l.map g).sum ∧ ((l.map f).sum = (l.map g).sum → ∀ k ∈ l, f k = g k)
  | [], _ => ⟨Int.le_refl _, fun _ k hk => by cases hk⟩
  | x :: l, h => by
    obtain ⟨h1, h2⟩ := sum_le_eq (l := l) fun k hk => h k (List.mem_cons_of_mem _ hk)
    have hx := h x List.mem_cons_self
    simp only [List.map_cons, List.sum_cons]
    refine ⟨by omega, fun e k hk => ?_⟩
    rcases List.mem_cons.mp hk with rfl | hk
    · omega
    · exact h2 (by omega) k hk
theorem pref_le {c : List Int} (hc : ∀ k ∈ pts, 0 ≤ get c k) : ∀ {n : Nat} {p : P}, p.length = n → (∀ q b r, p = q ++ b :: r → cc c q b = true) → (∀ k ∈ pts, cnt p k ≤ get c k) ∧ str p = true
  | 0, p, hn, h => by
    obtain rfl := List.length_eq_zero_iff.mp hn
    exact ⟨fun k hk => by have := hc k hk; simpa [cnt] using this, rfl⟩
  | n + 1, p, hn, h => by
    rcases List.eq_nil_or_concat p with rfl | ⟨q, b, rfl⟩
    · simp at hn
    · rw [List.concat_eq_append] at hn h ⊢
      have h0 := h q b [] rfl
      obtain ⟨i1, i2⟩ := pref_le hc (n := n) (p := q) (by simp at hn; exact hn) fun q' b' r e => h q' b' (r ++ [b]) (by rw [e]; simp)
      unfold cc at h0
      rw [Bool.and_eq_true, Bool.and_eq_true] at h0
      obtain ⟨c1, c2, c3⟩ := h0
      refine ⟨fun k hk => ?_, str_snoc i2 fun a e => ?_⟩
      · rw [cnt_append, cnt_cons]
        have hz : cnt [] k = 0 := rfl
        by_cases hkb : k ∈ b
        · have := of_decide_eq_true (List.all_eq_true.mp c3 k hkb)
          have := of_decide_eq_true (List.mem_filter.mp this).2
          rw [if_pos hkb]; omega
        · have := i1 k hk
          rw [if_neg hkb]; omega
      · rw [e] at c1
        exact c1
/-- what the program's turns leave -/
theorem A_good {s : Nat} (hs : 0 < s) {c : List Int} {bs : List B} {T : Nat} (hb : ∀ b ∈ bs, Br s b) (hc : ∀ k ∈ pts, 0 ≤ get c k) (hT : (pts.map (get c)).sum = (s : Int) * T) {p : P} :
    p ∈ A c bs T ↔ (∀ b ∈ p, b ∈ bs) ∧ str p = true ∧ ∀ k ∈ pts, cnt p k = get c k := by
  rw [A_mem]
  constructor
  · rintro ⟨h1, h2, h3⟩
    obtain ⟨i1, i2⟩ := pref_le hc h1 h3
    refine ⟨h2, i2, (sum_le_eq i1).2 ?_⟩
    rw [hT, cnt_sum fun b hb' => hb b (h2 b hb'), h1]
  · rintro ⟨h1, h2, h3⟩
    have hbp : ∀ b ∈ p, Br s b := fun b hb' => hb b (h1 b hb')
    refine ⟨?_, h1, good_cc hs hbp h2 h3⟩
    have e : (pts.map (cnt p)).sum = (pts.map (get c)).sum := by
      congr 1
      exact List.map_congr_left h3
    rw [hT, cnt_sum hbp] at e
    have : (p.length : Int) = T := Int.eq_of_mul_eq_mul_left (by omega) e
    omega
/-- before the last turn something is left -/
theorem A_left {s : Nat} (hs : 0 < s) {c : List Int} {bs : List B} {t T : Nat} (hb : ∀ b ∈ bs, Br s b) (hc : ∀ k ∈ pts, 0 ≤ get c k) (hT : (pts.map (get c)).sum = (s : Int) * T) (ht : t < T) {p : P} (h : p ∈ A c bs t) : left p c ≠ [] := by
  intro e
  obtain ⟨h1, h2, h3⟩ := A_mem.mp h
  have hle : ∀ k ∈ pts, get c k ≤ cnt p k := fun k hk => by
    by_cases q : cnt p k < get c k
    · have : k ∈ left p c := List.mem_filter.mpr ⟨hk, decide_eq_true q⟩
      rw [e] at this
      cases this
    · omega
  have := (sum_le_eq hle).1
  rw [hT, cnt_sum fun b hb' => hb b (h2 b hb'), h1] at this
  have h5 : (s : Int) * t < (s : Int) * T := Int.mul_lt_mul_of_pos_left (by omega) (by omega)
  omega
/-! the law's own way -/
def less (c : List Int) (b : B) : List Int := pts.map fun k => get c k - (if k ∈ b then 1 else 0)
def due (bs : List B) : Nat → List Int → List P
  | 0, c => if c.sum = 0 then [[]] else []
  | m + 1, c => if c.sum = 0 then [[]] else bs.flatMap fun b => if (b.all fun k => decide (1 ≤ get c k)) = true then ((due bs m (less c b)).filter fun r => str (b :: r)).map fun r => b :: r else []
theorem get_pts (f : Int → Int) {k : Int} (h : k ∈ pts) : get (pts.map f) k = f k := by
  have h : k = 0 ∨ k = 1 ∨ k = 2 ∨ k = 3 ∨ k = 4 ∨ k = 5 ∨ k = 6 ∨ k = 7 := by simpa [pts] using h
  rcases h with rfl | rfl | rfl | rfl | rfl | rfl | rfl | rfl <;> rfl
theorem pts_get {c : List Int} (h : c.length = 8) : pts.map (get c) = c := by
  match c, h with
  | [a, b, d, e, f, g, i, j], _ => rfl
theorem due_mem {s : Nat} (hs : 0 < s) {bs : List B} (hb : ∀ b ∈ bs, Br s b) : ∀ {m : Nat} {c : List Int} {p : P}, c.length = 8 → (∀ k ∈ pts, 0 ≤ get c k) → (p ∈ due bs m c ↔ p.length ≤ m ∧ (∀ b ∈ p, b ∈ bs) ∧ str p = true ∧ ∀ k ∈ pts, cnt p k = get c k) := by
  have zero : ∀ {m : Nat} {c : List Int} {p : P}, c.length = 8 → (∀ k ∈ pts, 0 ≤ get c k) → c.sum = 0 → (p ∈ [([] : P)] ↔ p.length ≤ m ∧ (∀ b ∈ p, b ∈ bs) ∧ str p = true ∧ ∀ k ∈ pts, cnt p k = get c k) := by
    intro m c p h8 hc h0
    have e0 : ∀ k ∈ pts, 0 = get c k := by
      refine (sum_le_eq (f := fun _ => 0) (g := get c) hc).2 ?_
      rw [pts_get h8, h0]
      decide
    rw [List.mem_singleton]
    constructor
    · rintro rfl
      exact ⟨Nat.zero_le _, fun b hb => (by cases hb), rfl, fun k hk => by rw [← e0 k hk]; rfl⟩
    · rintro ⟨_, h1, _, h3⟩
      cases p with
      | nil => rfl
      | cons b p =>
        have hbb := hb b (h1 b List.mem_cons_self)
        have l := hbb.len
        cases b with
        | nil => simp at l; omega
        | cons k t =>
          have e := h3 k (hbb.pt k List.mem_cons_self)
          rw [cnt_cons, if_pos List.mem_cons_self, ← e0 k (hbb.pt k List.mem_cons_self)] at e
          have := cnt_nonneg p k
          omega
  have nonz : ∀ {c : List Int}, c.length = 8 → ¬ c.sum = 0 → ¬ ∀ k ∈ pts, cnt [] k = get c k := by
    intro c h8 h0 h
    apply h0
    rw [← pts_get h8]
    have : pts.map (get c) = pts.map (fun _ => (0 : Int)) := List.map_congr_left fun k hk => (h k hk).symm
    rw [this]
    decide
  intro m
  induction m with
  | zero =>
    intro c p h8 hc
    unfold due
    split
    · rename_i h0
      exact zero h8 hc h0
    · rename_i h0
      constructor
      · intro h; cases h
      · rintro ⟨h1, _, _, h4⟩
        obtain rfl := List.length_eq_zero_iff.mp (Nat.le_zero.mp h1)
        exact (nonz h8 h0 h4).elim
  | succ m ih =>
    intro c p h8 hc
    unfold due
    split
    · rename_i h0
      exact zero h8 hc h0
    · rename_i h0
      rw [List.mem_flatMap]
      have gl : ∀ (b : B) k, k ∈ pts → get (less c b) k = get c k - (if k ∈ b then 1 else 0) := fun b k hk => get_pts (fun k => get c k - (if k ∈ b then 1 else 0)) hk
      constructor
      · rintro ⟨b, hbm, h⟩
        split at h
        · rename_i hall
          obtain ⟨r, hr, rfl⟩ := List.mem_map.mp h
          obtain ⟨hr1, hr2⟩ := List.mem_filter.mp hr
          have hc' : ∀ k ∈ pts, 0 ≤ get (less c b) k := fun k hk => by
            rw [gl b k hk]
            by_cases hkb : k ∈ b
            · have := of_decide_eq_true (List.all_eq_true.mp hall k hkb)
              rw [if_pos hkb]; omega
            · have := hc k hk
              rw [if_neg hkb]; omega
          obtain ⟨i1, i2, i3, i4⟩ := (ih (c := less c b) (by simp [less, pts]) hc').mp hr1
          refine ⟨by rw [List.length_cons]; omega, fun x hx => ?_, hr2, fun k hk => ?_⟩
          · rcases List.mem_cons.mp hx with rfl | hx
            · exact hbm
            · exact i2 x hx
          · rw [cnt_cons, i4 k hk, gl b k hk]; omega
        · cases h
      · rintro ⟨h1, h2, h3, h4⟩
        cases p with
        | nil => exact (nonz h8 h0 h4).elim
        | cons b r =>
          have hbm := h2 b List.mem_cons_self
          refine ⟨b, hbm, ?_⟩
          have hall : (b.all fun k => decide (1 ≤ get c k)) = true := List.all_eq_true.mpr fun k hk => decide_eq_true (by
            have e := h4 k ((hb b hbm).pt k hk)
            rw [cnt_cons, if_pos hk] at e
            have := cnt_nonneg r k
            omega)
          rw [if_pos hall]
          have hc' : ∀ k ∈ pts, cnt r k = get (less c b) k := fun k hk => by
            have e := h4 k hk
            rw [cnt_cons] at e
            rw [gl b k hk]; omega
          refine List.mem_map.mpr ⟨r, List.mem_filter.mpr ⟨(ih (c := less c b) (by simp [less, pts]) fun k hk => by rw [← hc' k hk]; exact cnt_nonneg r k).mpr ⟨by rw [List.length_cons] at h1; omega, fun x hx => h2 x (List.mem_cons_of_mem _ hx), str_cons h3, hc'⟩, h3⟩, rfl⟩
theorem due_nodup {bs : List B} (hb : bs.Nodup) : ∀ (m : Nat) (c : List Int), (due bs m c).Nodup
  | 0, c => by unfold due; split <;> simp
  | m + 1, c => by
    unfold due
    split
    · simp
    · unfold List.Nodup
      rw [List.pairwise_flatMap]
      refine ⟨fun b _ => ?_, hb.imp fun {x y} hxy p hp q hq e => ?_⟩
      · split
        · have : ((due bs m (less c b)).filter fun r => str (b :: r)).Nodup := List.Nodup.sublist List.filter_sublist (due_nodup hb m (less c b))
          exact List.pairwise_map.mpr (this.imp fun h e => h (by simpa using e))
        · simp
      · split at hp
        · split at hq
          · obtain ⟨_, _, rfl⟩ := List.mem_map.mp hp
            obtain ⟨_, _, rfl⟩ := List.mem_map.mp hq
            exact hxy (by simp at e; exact e.1)
          · cases hq
        · cases hp
end SP

namespace SP
/-- so many of a row's points, each once, in their order -/
def lch : Nat → List Int → List B
  | 0, _ => [[]]
  | m + 1, pool => (List.range pool.length).flatMap fun a => (lch m (pool.drop (a + 1))).map fun r => (pool[a]?.getD 0) :: r
def chs (many : Nat) : List Int → List B → List B
  | [], found => found
  | k :: ks, found => chs many ks (found ++ (found.filter fun b => decide (b.length < many)).map fun b => b ++ [k])
def brs (s : Nat) : List B := (chs s pts [[]]).filter fun b => decide (b.length = s)
def inL (b : B) (l : List Int) : Bool := b.all fun k => decide (k ∈ l)
theorem lch_br : ∀ s, s = 2 ∨ s = 3 → ∀ b ∈ lch s pts, Br s b := by
  have h : ∀ s ∈ [2, 3], ∀ b ∈ lch s pts, b.length = s ∧ b.Pairwise (· < ·) ∧ ∀ k ∈ b, k ∈ pts := by decide +kernel
  intro s hs b hb
  obtain ⟨h1, h2, h3⟩ := h s (by rcases hs with rfl | rfl <;> simp) b hb
  exact ⟨h1, h2, h3⟩
theorem lch_nodup : ∀ s, s = 2 ∨ s = 3 → (lch s pts).Nodup := by
  have h : ∀ s ∈ [2, 3], (lch s pts).Nodup := by decide +kernel
  intro s hs
  exact h s (by rcases hs with rfl | rfl <;> simp)
def sel (bs : List Bool) : List Int := ((pts.zip bs).filter (·.2)).map (·.1)
theorem sel_filter (p : Int → Bool) : pts.filter p = sel (pts.map p) := by
  have : ∀ l : List Int, l.filter p = ((l.zip (l.map p)).filter (·.2)).map (·.1) := by
    intro l
    induction l with
    | nil => rfl
    | cons x l ih =>
      rw [List.map_cons, List.zip_cons_cons, List.filter_cons, List.filter_cons, ih]
      by_cases h : p x = true
      · rw [if_pos h, if_pos h]; rfl
      · rw [if_neg h, if_neg h]
  exact this pts
theorem lch_sel : ∀ s, s = 2 ∨ s = 3 → ∀ a b c d e f g h : Bool, lch s (sel [a, b, c, d, e, f, g, h]) = (lch s pts).filter fun x => inL x (sel [a, b, c, d, e, f, g, h]) := by
  have k : ∀ s ∈ [2, 3], ∀ a b c d e f g h : Bool, lch s (sel [a, b, c, d, e, f, g, h]) = (lch s pts).filter fun x => inL x (sel [a, b, c, d, e, f, g, h]) := by decide +kernel
  intro s hs
  exact k s (by rcases hs with rfl | rfl <;> simp)
theorem brs_perm : ∀ s, s = 2 ∨ s = 3 → (brs s).Perm (lch s pts) := by
  have h : ∀ s ∈ [2, 3], (brs s).isPerm (lch s pts) = true := by decide +kernel
  intro s hs
  exact List.isPerm_iff.mp (h s (by rcases hs with rfl | rfl <;> simp))
def supp (c : List Int) : List Int := pts.filter fun k => decide (0 < get c k)
theorem lch_supp {s : Nat} (hs : s = 2 ∨ s = 3) (c : List Int) : lch s (supp c) = (lch s pts).filter fun x => inL x (supp c) := by
  unfold supp
  rw [sel_filter]
  exact lch_sel s hs _ _ _ _ _ _ _ _
theorem same {s T : Nat} (hs : s = 2 ∨ s = 3) {c : List Int} (h8 : c.length = 8) (hc : ∀ k ∈ pts, 0 ≤ get c k) (hT : c.sum = (s : Int) * T) (h4 : T ≤ 4) {bs : List B} (hb : bs.Perm (lch s pts)) : (A c bs T).Perm (due (lch s (supp c)) 4 c) := by
  have hbr : ∀ b ∈ bs, Br s b := fun b hm => lch_br s hs b (hb.mem_iff.mp hm)
  have hs0 : 0 < s := by omega
  have hT' : (pts.map (get c)).sum = (s : Int) * T := by rw [pts_get h8]; exact hT
  have hn2 : (lch s (supp c)).Nodup := by
    rw [lch_supp hs]
    exact List.Nodup.sublist List.filter_sublist (lch_nodup s hs)
  have hm2 : ∀ b, b ∈ lch s (supp c) ↔ b ∈ lch s pts ∧ ∀ k ∈ b, k ∈ supp c := fun b => by
    rw [lch_supp hs, List.mem_filter]
    unfold inL
    rw [List.all_eq_true]
    simp
  have hbr2 : ∀ b ∈ lch s (supp c), Br s b := fun b h => lch_br s hs b ((hm2 b).mp h).1
  refine (List.perm_ext_iff_of_nodup (A_nodup (hb.nodup_iff.mpr (lch_nodup s hs)) T) (due_nodup hn2 4 c)).mpr fun p => ?_
  rw [due_mem hs0 hbr2 h8 hc, A_good hs0 hbr hc hT']
  constructor
  · rintro ⟨h1, h2, h3⟩
    have hp := (A_good hs0 hbr hc hT').mpr ⟨h1, h2, h3⟩
    refine ⟨by have := (A_mem.mp hp).1; omega, fun b hbm => (hm2 b).mpr ⟨hb.mem_iff.mp (h1 b hbm), fun k hk => ?_⟩, h2, h3⟩
    have hkp := (hbr b (h1 b hbm)).pt k hk
    refine List.mem_filter.mpr ⟨hkp, decide_eq_true ?_⟩
    rw [← h3 k hkp]
    obtain ⟨q, r, rfl⟩ := List.append_of_mem hbm
    rw [cnt_append, cnt_cons, if_pos hk]
    have := cnt_nonneg q k
    have := cnt_nonneg r k
    omega
  · rintro ⟨_, h1, h2, h3⟩
    exact ⟨fun b hbm => hb.mem_iff.mpr ((hm2 b).mp (h1 b hbm)).1, h2, h3⟩
end SP

namespace SP
open PySem PySem.Spec PyProof.Rows L2 Z
def encB (b : B) : D := .tup (b.map .int)
def encP (p : P) : D := .tup (p.map encB)
theorem toPs_ints : ∀ b : List Int, toPs (b.map D.int) = b.map PyData.int
  | [] => rfl
  | x :: b => by rw [List.map_cons, List.map_cons, ← toPs_ints b]; rfl
theorem toPs_map (f : B → D) : ∀ p : P, toPs (p.map f) = p.map fun b => toP (f b)
  | [] => rfl
  | x :: b => by rw [List.map_cons, List.map_cons, ← toPs_map f b]; rfl
/-- the signs of a bracket -/
def tb : B → List (Int ⊕ List Nat)
  | [] => [.inl 0]
  | n :: b => .inl 1 :: .inl n :: tb b
def tp : P → List (Int ⊕ List Nat)
  | [] => [.inl 0]
  | b :: p => .inl 1 :: (tb b ++ tp p)
theorem toks_b : ∀ b : B, PySem.W.keyToksAll (b.map PyData.int) = tb b
  | [] => rfl
  | n :: b => by rw [List.map_cons, PySem.W.keyToksAll, toks_b b]; rfl
theorem toks_p : ∀ p : P, PySem.W.keyToks (toP (encP p)) = tp p := by
  intro p
  show PySem.W.keyToksAll (toPs (p.map encB)) = tp p
  rw [toPs_map]
  induction p with
  | nil => rfl
  | cons b p ih =>
    rw [List.map_cons, PySem.W.keyToksAll, ih]
    show .inl 1 :: (PySem.W.keyToksAll (toPs (b.map D.int)) ++ tp p) = _
    rw [toPs_ints, toks_b]
    rfl
theorem tb_inj : ∀ {a b : B} {l m : List (Int ⊕ List Nat)}, tb a ++ l = tb b ++ m → a = b ∧ l = m
  | [], [], l, m, h => ⟨rfl, by simpa [tb] using h⟩
  | [], y :: b, l, m, h => by simp [tb] at h
  | x :: a, [], l, m, h => by simp [tb] at h
  | x :: a, y :: b, l, m, h => by
    simp only [tb, List.cons_append, List.cons.injEq, true_and, Sum.inl.injEq] at h
    obtain ⟨rfl, h⟩ := h
    obtain ⟨rfl, h2⟩ := tb_inj h
    exact ⟨rfl, h2⟩
theorem tp_inj : ∀ {p q : P}, tp p = tp q → p = q
  | [], [], _ => rfl
  | [], y :: b, h => by simp [tp] at h
  | x :: a, [], h => by simp [tp] at h
  | x :: a, y :: b, h => by
    simp only [tp, List.cons.injEq, true_and] at h
    obtain ⟨rfl, h2⟩ := tb_inj h
    rw [tp_inj h2]
theorem le_anti {p q : P} (h1 : leD (encP p) (encP q) = true) (h2 : leD (encP q) (encP p) = true) : p = q := by
  have h1 : (!(PyProof.Rows.listOrd PyProof.Rows.itemOrd).blt (PySem.W.keyToks (toP (encP q))) (PySem.W.keyToks (toP (encP p)))) = true := h1
  have h2 : (!(PyProof.Rows.listOrd PyProof.Rows.itemOrd).blt (PySem.W.keyToks (toP (encP p))) (PySem.W.keyToks (toP (encP q)))) = true := h2
  rw [Bool.not_eq_true'] at h1 h2
  have e := (PyProof.Rows.listOrd PyProof.Rows.itemOrd).total _ _ h2 h1
  rw [toks_p, toks_p] at e
  exact tp_inj e
theorem le_trans (a b c : D) (h1 : leD a b = true) (h2 : leD b c = true) : leD a c = true := (PySem.W.sortLe_total (PyProof.Rows.listOrd PyProof.Rows.itemOrd) false (fun d => PySem.W.keyToks (toP d))).trans a b c h1 h2
theorem le_total (a b : D) : (leD a b || leD b a) = true := by
  rcases (PySem.W.sortLe_total (PyProof.Rows.listOrd PyProof.Rows.itemOrd) false (fun d => PySem.W.keyToks (toP d))).total a b with h | h
  · have : leD a b = true := h
    rw [this]; rfl
  · have : leD b a = true := h
    rw [this]; simp
/-- the same products sorted are the same list -/
theorem sort_perm {l m : List P} (h : l.Perm m) : (l.map encP).mergeSort leD = (m.map encP).mergeSort leD := by
  have h1 := List.mergeSort_perm (l.map encP) leD
  have h2 := List.mergeSort_perm (m.map encP) leD
  refine List.Perm.eq_of_pairwise (le := fun a b => leD a b = true) (fun a b ha hb q1 q2 => ?_) (List.pairwise_mergeSort le_trans le_total _) (List.pairwise_mergeSort le_trans le_total _) ((h1.trans (h.map encP)).trans h2.symm)
  obtain ⟨p, _, rfl⟩ := List.mem_map.mp (h1.mem_iff.mp ha)
  obtain ⟨q, _, rfl⟩ := List.mem_map.mp (h2.mem_iff.mp hb)
  rw [le_anti q1 q2]
theorem alike_ints : ∀ a b : List Int, PySem.W.alikeAll (a.map PyData.int) (b.map PyData.int) = true
  | [], _ => by rw [List.map_nil, PySem.W.alikeAll]
  | x :: a, [] => by rw [List.map_nil, List.map_cons, PySem.W.alikeAll]
  | x :: a, y :: b => by rw [List.map_cons, List.map_cons, PySem.W.alikeAll, alike_ints a b]; rfl
theorem alike_b (a b : B) : PySem.W.alike (toP (encB a)) (toP (encB b)) = true := by
  show PySem.W.alikeAll (toPs (a.map D.int)) (toPs (b.map D.int)) = true
  rw [toPs_ints, toPs_ints]
  exact alike_ints a b
theorem alike_p (p q : P) : PySem.W.alike (toP (encP p)) (toP (encP q)) = true := by
  show PySem.W.alikeAll (toPs (p.map encB)) (toPs (q.map encB)) = true
  rw [toPs_map, toPs_map]
  induction p generalizing q with
  | nil => rw [List.map_nil, PySem.W.alikeAll]
  | cons a p ih =>
    cases q with
    | nil => rw [List.map_nil, List.map_cons, PySem.W.alikeAll]
    | cons b q => rw [List.map_cons, List.map_cons, PySem.W.alikeAll, alike_b, ih q]; rfl
theorem plain_ints : ∀ b : List Int, plains (b.map D.int) = true
  | [] => rfl
  | x :: b => by
    show (plain (.int x) && plains (b.map D.int)) = true
    rw [plain_ints b]; rfl
theorem plain_bs : ∀ b : P, plains (b.map encB) = true
  | [] => rfl
  | x :: b => by
    show (plains (x.map D.int) && plains (b.map encB)) = true
    rw [plain_bs b, plain_ints]; rfl
theorem plain_ps : ∀ b : List P, plains (b.map encP) = true
  | [] => rfl
  | x :: b => by
    show (plains (x.map encB) && plains (b.map encP)) = true
    rw [plain_ps b, plain_bs]; rfl
theorem depth_ints : ∀ b : List Int, PyData.depthAll (b.map PyData.int) ≤ 1
  | [] => by rw [List.map_nil, PyData.depthAll]; omega
  | x :: b => by
    rw [List.map_cons, PyData.depthAll]
    have := depth_ints b
    have e : PyData.depth (.int x) ≤ 1 := by unfold PyData.depth; omega
    omega
theorem depth_b (b : B) : (toP (encB b)).depth ≤ 2 := by
  show PyData.depth (.tuple (toPs (b.map D.int))) ≤ 2
  rw [toPs_ints]
  unfold PyData.depth
  have := depth_ints b
  omega
theorem depth_bs : ∀ p : P, PyData.depthAll (p.map fun b => toP (encB b)) ≤ 2
  | [] => by rw [List.map_nil, PyData.depthAll]; omega
  | x :: b => by
    rw [List.map_cons, PyData.depthAll]
    have := depth_bs b
    have e := depth_b x
    omega
theorem depth_p (p : P) : (toP (encP p)).depth ≤ 3 := by
  show PyData.depth (.tuple (toPs (p.map encB))) ≤ 3
  rw [toPs_map]
  unfold PyData.depth
  have := depth_bs p
  omega
theorem sortOk_p {l : List P} (h : ∀ p ∈ l, p ≠ []) : sortOk (l.map encP) = true := by
  unfold sortOk
  rw [Bool.or_eq_true]
  right
  rw [Bool.and_eq_true, Bool.and_eq_true, Bool.and_eq_true]
  refine ⟨⟨plain_ps l, List.all_eq_true.mpr fun d hd => ?_⟩, ?_, ?_⟩
  · obtain ⟨p, _, rfl⟩ := List.mem_map.mp hd
    have := depth_p p
    exact decide_eq_true (by omega)
  · unfold alikeD
    refine List.all_eq_true.mpr fun d hd => List.all_eq_true.mpr fun e he => ?_
    obtain ⟨p, _, rfl⟩ := List.mem_map.mp hd
    obtain ⟨q, _, rfl⟩ := List.mem_map.mp he
    exact alike_p p q
  · rw [Bool.or_eq_true]
    left
    refine List.all_eq_true.mpr fun d hd => ?_
    obtain ⟨p, hp, rfl⟩ := List.mem_map.mp hd
    cases p with
    | nil => exact absurd rfl (h [] hp)
    | cons a p => rfl
theorem sortOk_b {l : List B} (h : ∀ p ∈ l, p ≠ []) : sortOk (l.map encB) = true := by
  unfold sortOk
  rw [Bool.or_eq_true]
  right
  rw [Bool.and_eq_true, Bool.and_eq_true, Bool.and_eq_true]
  refine ⟨⟨plain_bs l, List.all_eq_true.mpr fun d hd => ?_⟩, ?_, ?_⟩
  · obtain ⟨p, _, rfl⟩ := List.mem_map.mp hd
    have := depth_b p
    exact decide_eq_true (by omega)
  · unfold alikeD
    refine List.all_eq_true.mpr fun d hd => List.all_eq_true.mpr fun e he => ?_
    obtain ⟨p, _, rfl⟩ := List.mem_map.mp hd
    obtain ⟨q, _, rfl⟩ := List.mem_map.mp he
    exact alike_b p q
  · rw [Bool.or_eq_true]
    left
    refine List.all_eq_true.mpr fun d hd => ?_
    obtain ⟨p, hp, rfl⟩ := List.mem_map.mp hd
    cases p with
    | nil => exact absurd rfl (h [] hp)
    | cons a p => rfl
theorem sortOk_i {l : List Int} : sortOk (l.map D.int) = true := by
  unfold sortOk
  rw [Bool.or_eq_true]
  right
  rw [Bool.and_eq_true, Bool.and_eq_true, Bool.and_eq_true]
  refine ⟨⟨plain_ints l, List.all_eq_true.mpr fun d hd => ?_⟩, ?_, ?_⟩
  · obtain ⟨p, _, rfl⟩ := List.mem_map.mp hd
    refine decide_eq_true ?_
    show PyData.depth (.int p) ≤ 60
    unfold PyData.depth
    omega
  · unfold alikeD
    refine List.all_eq_true.mpr fun d hd => List.all_eq_true.mpr fun e he => ?_
    obtain ⟨p, _, rfl⟩ := List.mem_map.mp hd
    obtain ⟨q, _, rfl⟩ := List.mem_map.mp he
    rfl
  · rw [Bool.or_eq_true]
    right
    refine List.all_eq_true.mpr fun d hd => ?_
    obtain ⟨p, hp, rfl⟩ := List.mem_map.mp hd
    rfl
theorem sortOk_1 {l : List D} (h : l.length ≤ 1) : sortOk l = true := by
  unfold sortOk
  rw [decide_eq_true h]
  rfl
/-- what is sorted of brackets is a list of them -/
theorem sort_b (l : List B) : ∃ m : List B, m.Perm l ∧ (l.map encB).mergeSort leD = m.map encB :=
  ⟨l.mergeSort (fun a b => leD (encB a) (encB b)), List.mergeSort_perm _ _, (List.map_mergeSort (f := encB) (r := fun a b => leD (encB a) (encB b)) (s := leD) (l := l) (fun a _ b _ => rfl)).symm⟩
end SP

namespace G
open PySem PySem.Spec PyProof.Rows L2 Z SP
theorem enB : En encB 2 := En.int.tup
theorem enP : En encP 3 := enB.tup
theorem atI_lt {α : Type} {xs : List α} {i : Int} (h0 : 0 ≤ i) (h1 : i.toNat < xs.length) : atI xs i = some xs[i.toNat] := by
  have e : i = ((i.toNat : Nat) : Int) := by omega
  have := atI_nn h1
  rw [← e] at this
  exact this
theorem atI_last {α : Type} (xs : List α) (a : α) : atI (xs ++ [a]) (-1) = some a := by
  unfold atI ixN
  rw [if_neg (by omega), if_pos (by simp; omega)]
  have e : (-1 + (((xs ++ [a]).length : Nat) : Int)).toNat = xs.length := by rw [List.length_append, List.length_singleton]; omega
  rw [e]
  simp
theorem ok_find {a b : B} (hl : a.length ≤ b.length) : ((List.range a.length).find? fun k => decide ((b[k]?.getD 0) < (a[k]?.getD 0))).isNone = ok a b := by
  have h : (List.range a.length).any (fun k => decide ((b[k]?.getD 0) < (a[k]?.getD 0))) = !ok a b := by
    induction a generalizing b with
    | nil => rfl
    | cons x a ih =>
      cases b with
      | nil => simp at hl
      | cons y b =>
        rw [List.length_cons, List.range_succ_eq_map, List.any_cons, List.any_map]
        have := ih (b := b) (by simpa using hl)
        show (decide (y < x) || (List.range a.length).any fun k => decide ((b[k]?.getD 0) < (a[k]?.getD 0))) = !(decide (x ≤ y) && ok a b)
        rw [this]
        by_cases h : x ≤ y
        · rw [decide_eq_true h, decide_eq_false (by omega)]; simp
        · rw [decide_eq_false h, decide_eq_true (by omega)]; simp
  cases e : (List.range a.length).find? fun k => decide ((b[k]?.getD 0) < (a[k]?.getD 0)) with
  | none =>
    rw [List.find?_eq_none] at e
    have : (List.range a.length).any (fun k => decide ((b[k]?.getD 0) < (a[k]?.getD 0))) = false := by
      rw [List.any_eq_false]
      intro x hx
      simpa using e x hx
    rw [this] at h
    have : ok a b = true := by simpa using h.symm
    rw [this]
    rfl
  | some k =>
    have h1 := List.find?_some e
    have h2 := List.mem_of_find?_eq_some e
    have : (List.range a.length).any (fun k => decide ((b[k]?.getD 0) < (a[k]?.getD 0))) = true := List.any_eq_true.mpr ⟨k, h2, h1⟩
    rw [this] at h
    have : ok a b = false := by simpa using h.symm
    rw [this]
    rfl
/-- crooked_at: None or a place -/
theorem crooked_spec {n : Nat} {st : List SO} {a b : B} {Q : Rs → List SO → Prop} (hl : a.length ≤ b.length) (h60 : a.length ≤ 1000) (h1 : ok a b = true → Q (.none, false) st) (h2 : ok a b = false → ∀ k : Int, Q (.int k, false) st) : Rp (callF fns wf (n + 1) 0 [encB a, encB b] st) Q := by
  with_reducible refine c_crooked_at fun cl hcl => ?_
  unfold b_crooked_at encB
  try simp -implicitDefEqProofs only [wp_bind, wp_pure, wp_bad, wp_getS, wp_asB, wp_slotOpd, wp_rdSlot, wp_rdVar, wp_rdRet, wp_resV, wp_resS, wp_ress0, wp_ress, wp_setR, wp_setρ, wp_call, wp_setAt, wp_opd, wp_dat, wp_shr, wp_ownL, wp_popAt, wp_popLast, wp_app, wp_ins, wp_bindTup, wp_bindTs0, wp_bindTs, wp_bindNm, wp_blk, w_var, w_con, w_tup, w_lst, w_shr, w_bin, w_cmp, w_idx, w_cmp2, w_and2, w_or2, w_not1, w_ife, w_sli, w_call, w_blt, w_isi, w_lc, w_popk, w_popl, w_isN, w_neg, Z.w_rev, w_part0, w_part1, w_ds0, w_ds, w_os0, w_os, w_cs0, w_cs, line, w_asg, w_asgT, w_aug, w_setI, w_augI, w_lc2, w_app, w_ins, w_ext, w_expr, w_ret, w_retN, w_if, w_forE, w_whil, w_brk, w_cont, w_pass, w_ss0, w_ss, fw_nx, fw_brk, fw_cont, fw_ret, nn_none, nn_int, nn_bl, nn_str, nn_tup, nn_lst, ol_lst, op_some, op_none, op_ite, ob_bl, oi_int, sl_pu, sl_ow, al_ow, al_obj, so_lst, opdV, retV, endQ, letgo, ite_self, ixN_3_0, ixN_3_1, ixN_3_2, atI_0, atI_1, atI_2, atI_3, List.getElem?_cons_zero, List.getElem?_cons_succ, List.set_cons_zero, List.set_cons_succ, List.length_cons, List.length_nil, List.length_map, Option.bind_some, Option.map_some, List.nil_append, List.cons_append, List.length_singleton, Nat.zero_add, Nat.reduceAdd, Nat.reduceLT, Nat.reduceLeDiff, Nat.zero_le, if_false, if_true, Bool.false_eq_true, Bool.true_eq_false, Bool.not_true, Bool.not_false, reduceCtorEq, true_and, and_true, forall_const, false_and, and_false, false_implies, not_false_eq_true, not_true_eq_false, decide_true, decide_false, decide_eq_true_eq, decide_eq_false_iff_not, isi_none_int, isi_none_bool, isi_none_str, isi_none_tuple, isi_none_list, isi_none_list_tuple, isi_none_tuple_list, isi_bl_int, isi_bl_bool, isi_bl_str, isi_bl_tuple, isi_bl_list, isi_bl_list_tuple, isi_bl_tuple_list, isi_int_int, isi_int_bool, isi_int_str, isi_int_tuple, isi_int_list, isi_int_list_tuple, isi_int_tuple_list, isi_str_int, isi_str_bool, isi_str_str, isi_str_tuple, isi_str_list, isi_str_list_tuple, isi_str_tuple_list, isi_tup_int, isi_tup_bool, isi_tup_str, isi_tup_tuple, isi_tup_list, isi_tup_list_tuple, isi_tup_tuple_list, isi_lst_int, isi_lst_bool, isi_lst_str, isi_lst_tuple, isi_lst_list, isi_lst_list_tuple, isi_lst_tuple_list, cmp_eq_ii, cmp_ne_ii, cmp_eq_bb, cmp_ne_bb, cmp_lt, cmp_le, cmp_gt, cmp_ge, cmp_ni_ii, bltD, on1, lenD, seqD, items_rng1 (n := a.length) (by omega)]
  refine wp_for_findm (fun (k : Nat) => D.int (k : Int)) (fun k => decide ((b[k]?.getD 0) < (a[k]?.getD 0))) (fun s => ∃ x, s = ⟨[.pu (.tup (a.map .int)), .pu (.tup (b.map .int)), x], st⟩) (fun k r s => r = (.int (k : Int), false) ∧ s.st = st) ⟨_, rfl⟩ ?_ ?_ ?_
  · rintro k hk s ⟨y, rfl⟩
    have hk : k < a.length := by simpa using hk
    have hk2 : k < b.length := by omega
    have e1 : atI (a.map D.int) (k : Int) = some (.int a[k]) := by rw [atI_nn (by simpa using hk)]; simp
    have e2 : atI (b.map D.int) (k : Int) = some (.int b[k]) := by rw [atI_nn (by simpa using hk2)]; simp
    try simp -implicitDefEqProofs only [wp_bind, wp_pure, wp_bad, wp_getS, wp_asB, wp_slotOpd, wp_rdSlot, wp_rdVar, wp_rdRet, wp_resV, wp_resS, wp_ress0, wp_ress, wp_setR, wp_setρ, wp_call, wp_setAt, wp_opd, wp_dat, wp_shr, wp_ownL, wp_popAt, wp_popLast, wp_app, wp_ins, wp_bindTup, wp_bindTs0, wp_bindTs, wp_bindNm, wp_blk, w_var, w_con, w_tup, w_lst, w_shr, w_bin, w_cmp, w_idx, w_cmp2, w_and2, w_or2, w_not1, w_ife, w_sli, w_call, w_blt, w_isi, w_lc, w_popk, w_popl, w_isN, w_neg, Z.w_rev, w_part0, w_part1, w_ds0, w_ds, w_os0, w_os, w_cs0, w_cs, line, w_asg, w_asgT, w_aug, w_setI, w_augI, w_lc2, w_app, w_ins, w_ext, w_expr, w_ret, w_retN, w_if, w_forE, w_whil, w_brk, w_cont, w_pass, w_ss0, w_ss, fw_nx, fw_brk, fw_cont, fw_ret, nn_none, nn_int, nn_bl, nn_str, nn_tup, nn_lst, ol_lst, op_some, op_none, op_ite, ob_bl, oi_int, sl_pu, sl_ow, al_ow, al_obj, so_lst, opdV, retV, endQ, letgo, ite_self, ixN_3_0, ixN_3_1, ixN_3_2, atI_0, atI_1, atI_2, atI_3, List.getElem?_cons_zero, List.getElem?_cons_succ, List.set_cons_zero, List.set_cons_succ, List.length_cons, List.length_nil, List.length_map, Option.bind_some, Option.map_some, List.nil_append, List.cons_append, List.length_singleton, Nat.zero_add, Nat.reduceAdd, Nat.reduceLT, Nat.reduceLeDiff, Nat.zero_le, if_false, if_true, Bool.false_eq_true, Bool.true_eq_false, Bool.not_true, Bool.not_false, reduceCtorEq, true_and, and_true, forall_const, false_and, and_false, false_implies, not_false_eq_true, not_true_eq_false, decide_true, decide_false, decide_eq_true_eq, decide_eq_false_iff_not, isi_none_int, isi_none_bool, isi_none_str, isi_none_tuple, isi_none_list, isi_none_list_tuple, isi_none_tuple_list, isi_bl_int, isi_bl_bool, isi_bl_str, isi_bl_tuple, isi_bl_list, isi_bl_list_tuple, isi_bl_tuple_list, isi_int_int, isi_int_bool, isi_int_str, isi_int_tuple, isi_int_list, isi_int_list_tuple, isi_int_tuple_list, isi_str_int, isi_str_bool, isi_str_str, isi_str_tuple, isi_str_list, isi_str_list_tuple, isi_str_tuple_list, isi_tup_int, isi_tup_bool, isi_tup_str, isi_tup_tuple, isi_tup_list, isi_tup_list_tuple, isi_tup_tuple_list, isi_lst_int, isi_lst_bool, isi_lst_str, isi_lst_tuple, isi_lst_list, isi_lst_list_tuple, isi_lst_tuple_list, cmp_eq_ii, cmp_ne_ii, cmp_eq_bb, cmp_ne_bb, cmp_lt, cmp_le, cmp_gt, cmp_ge, cmp_ni_ii, idxD, seqD, e1, e2]
    have g1 : a[k]?.getD 0 = a[k] := by simp [hk]
    have g2 : b[k]?.getD 0 = b[k] := by simp [hk2]
    rw [g1, g2]
    exact ⟨fun c => .inr ⟨c, _, rfl, rfl⟩, fun c => .inl ⟨c, (by first | exact Or.inl rfl | exact trivial | exact Or.inl trivial | simp), _, rfl⟩⟩
  · rintro e s ⟨y, rfl⟩
    try simp -implicitDefEqProofs only [wp_bind, wp_pure, wp_bad, wp_getS, wp_asB, wp_slotOpd, wp_rdSlot, wp_rdVar, wp_rdRet, wp_resV, wp_resS, wp_ress0, wp_ress, wp_setR, wp_setρ, wp_call, wp_setAt, wp_opd, wp_dat, wp_shr, wp_ownL, wp_popAt, wp_popLast, wp_app, wp_ins, wp_bindTup, wp_bindTs0, wp_bindTs, wp_bindNm, wp_blk, w_var, w_con, w_tup, w_lst, w_shr, w_bin, w_cmp, w_idx, w_cmp2, w_and2, w_or2, w_not1, w_ife, w_sli, w_call, w_blt, w_isi, w_lc, w_popk, w_popl, w_isN, w_neg, Z.w_rev, w_part0, w_part1, w_ds0, w_ds, w_os0, w_os, w_cs0, w_cs, line, w_asg, w_asgT, w_aug, w_setI, w_augI, w_lc2, w_app, w_ins, w_ext, w_expr, w_ret, w_retN, w_if, w_forE, w_whil, w_brk, w_cont, w_pass, w_ss0, w_ss, fw_nx, fw_brk, fw_cont, fw_ret, nn_none, nn_int, nn_bl, nn_str, nn_tup, nn_lst, ol_lst, op_some, op_none, op_ite, ob_bl, oi_int, sl_pu, sl_ow, al_ow, al_obj, so_lst, opdV, retV, endQ, letgo, ite_self, ixN_3_0, ixN_3_1, ixN_3_2, atI_0, atI_1, atI_2, atI_3, List.getElem?_cons_zero, List.getElem?_cons_succ, List.set_cons_zero, List.set_cons_succ, List.length_cons, List.length_nil, List.length_map, Option.bind_some, Option.map_some, List.nil_append, List.cons_append, List.length_singleton, Nat.zero_add, Nat.reduceAdd, Nat.reduceLT, Nat.reduceLeDiff, Nat.zero_le, if_false, if_true, Bool.false_eq_true, Bool.true_eq_false, Bool.not_true, Bool.not_false, reduceCtorEq, true_and, and_true, forall_const, false_and, and_false, false_implies, not_false_eq_true, not_true_eq_false, decide_true, decide_false, decide_eq_true_eq, decide_eq_false_iff_not, isi_none_int, isi_none_bool, isi_none_str, isi_none_tuple, isi_none_list, isi_none_list_tuple, isi_none_tuple_list, isi_bl_int, isi_bl_bool, isi_bl_str, isi_bl_tuple, isi_bl_list, isi_bl_list_tuple, isi_bl_tuple_list, isi_int_int, isi_int_bool, isi_int_str, isi_int_tuple, isi_int_list, isi_int_list_tuple, isi_int_tuple_list, isi_str_int, isi_str_bool, isi_str_str, isi_str_tuple, isi_str_list, isi_str_list_tuple, isi_str_tuple_list, isi_tup_int, isi_tup_bool, isi_tup_str, isi_tup_tuple, isi_tup_list, isi_tup_list_tuple, isi_tup_tuple_list, isi_lst_int, isi_lst_bool, isi_lst_str, isi_lst_tuple, isi_lst_list, isi_lst_list_tuple, isi_lst_tuple_list, cmp_eq_ii, cmp_ne_ii, cmp_eq_bb, cmp_ne_bb, cmp_lt, cmp_le, cmp_gt, cmp_ge, cmp_ni_ii]
    refine h1 ?_
    have := ok_find hl
    rw [e] at this
    exact this.symm
  · rintro k e r s ⟨rfl, hs⟩
    try simp -implicitDefEqProofs only [wp_bind, wp_pure, wp_bad, wp_getS, wp_asB, wp_slotOpd, wp_rdSlot, wp_rdVar, wp_rdRet, wp_resV, wp_resS, wp_ress0, wp_ress, wp_setR, wp_setρ, wp_call, wp_setAt, wp_opd, wp_dat, wp_shr, wp_ownL, wp_popAt, wp_popLast, wp_app, wp_ins, wp_bindTup, wp_bindTs0, wp_bindTs, wp_bindNm, wp_blk, w_var, w_con, w_tup, w_lst, w_shr, w_bin, w_cmp, w_idx, w_cmp2, w_and2, w_or2, w_not1, w_ife, w_sli, w_call, w_blt, w_isi, w_lc, w_popk, w_popl, w_isN, w_neg, Z.w_rev, w_part0, w_part1, w_ds0, w_ds, w_os0, w_os, w_cs0, w_cs, line, w_asg, w_asgT, w_aug, w_setI, w_augI, w_lc2, w_app, w_ins, w_ext, w_expr, w_ret, w_retN, w_if, w_forE, w_whil, w_brk, w_cont, w_pass, w_ss0, w_ss, fw_nx, fw_brk, fw_cont, fw_ret, nn_none, nn_int, nn_bl, nn_str, nn_tup, nn_lst, ol_lst, op_some, op_none, op_ite, ob_bl, oi_int, sl_pu, sl_ow, al_ow, al_obj, so_lst, opdV, retV, endQ, letgo, ite_self, ixN_3_0, ixN_3_1, ixN_3_2, atI_0, atI_1, atI_2, atI_3, List.getElem?_cons_zero, List.getElem?_cons_succ, List.set_cons_zero, List.set_cons_succ, List.length_cons, List.length_nil, List.length_map, Option.bind_some, Option.map_some, List.nil_append, List.cons_append, List.length_singleton, Nat.zero_add, Nat.reduceAdd, Nat.reduceLT, Nat.reduceLeDiff, Nat.zero_le, if_false, if_true, Bool.false_eq_true, Bool.true_eq_false, Bool.not_true, Bool.not_false, reduceCtorEq, true_and, and_true, forall_const, false_and, and_false, false_implies, not_false_eq_true, not_true_eq_false, decide_true, decide_false, decide_eq_true_eq, decide_eq_false_iff_not, isi_none_int, isi_none_bool, isi_none_str, isi_none_tuple, isi_none_list, isi_none_list_tuple, isi_none_tuple_list, isi_bl_int, isi_bl_bool, isi_bl_str, isi_bl_tuple, isi_bl_list, isi_bl_list_tuple, isi_bl_tuple_list, isi_int_int, isi_int_bool, isi_int_str, isi_int_tuple, isi_int_list, isi_int_list_tuple, isi_int_tuple_list, isi_str_int, isi_str_bool, isi_str_str, isi_str_tuple, isi_str_list, isi_str_list_tuple, isi_str_tuple_list, isi_tup_int, isi_tup_bool, isi_tup_str, isi_tup_tuple, isi_tup_list, isi_tup_list_tuple, isi_tup_tuple_list, isi_lst_int, isi_lst_bool, isi_lst_str, isi_lst_tuple, isi_lst_list, isi_lst_list_tuple, isi_lst_tuple_list, cmp_eq_ii, cmp_ne_ii, cmp_eq_bb, cmp_ne_bb, cmp_lt, cmp_le, cmp_gt, cmp_ge, cmp_ni_ii]
    rw [hs]
    refine h2 ?_ k
    have := ok_find hl
    rw [e] at this
    exact this.symm
/-! counts -/
def cf (l : List Int) : List Int := pts.map fun j => (l.count j : Int)
theorem pts_cases {k : Int} (h : k ∈ pts) : k = 0 ∨ k = 1 ∨ k = 2 ∨ k = 3 ∨ k = 4 ∨ k = 5 ∨ k = 6 ∨ k = 7 := by simpa [pts] using h
theorem cf_get {l : List Int} {k : Int} (h : k ∈ pts) : atI ((cf l).map D.int) k = some (.int (l.count k)) := by
  have hl : ((cf l).map D.int).length = 8 := rfl
  rcases pts_cases h with rfl | rfl | rfl | rfl | rfl | rfl | rfl | rfl <;> rfl
theorem cf_set {l : List Int} {k : Int} (h : k ∈ pts) : ((cf l).map D.int).set k.toNat (.int ((l.count k : Int) + 1)) = (cf (l ++ [k])).map D.int := by
  unfold cf
  rcases pts_cases h with rfl | rfl | rfl | rfl | rfl | rfl | rfl | rfl <;> simp [pts, List.count_append, List.count_singleton]
theorem mul08 : binD .mul (.lst [.int 0]) (.int 8) = some (.lst ((cf []).map .int), true) := by
  show (if -(2 ^ 63) ≤ (8 : Int) ∧ (8 : Int) < 2 ^ 63 ∧ [D.int 0].length * (8 : Int).toNat ≤ line then some (D.lst (List.replicate (8 : Int).toNat [D.int 0]).flatten, true) else none) = _
  rw [if_pos (by decide)]
  rfl
theorem ix_pts {k : Int} (h : k ∈ pts) : ixN 8 k = some k.toNat := by
  rcases pts_cases h with rfl | rfl | rfl | rfl | rfl | rfl | rfl | rfl <;> rfl
theorem count_of_spec {n : Nat} {st : List SO} {p : P} {Q : Rs → List SO → Prop} (hp : ∀ b ∈ p, ∀ k ∈ b, k ∈ pts) (h : Q (.lst ((cf p.flatten).map .int), true) st) : Rp (callF fns wf (n + 1) 2 [encP p] st) Q := by
  with_reducible refine c_count_of fun cl hcl => ?_
  unfold b_count_of encP
  try simp -implicitDefEqProofs only [wp_bind, wp_pure, wp_bad, wp_getS, wp_asB, wp_slotOpd, wp_rdSlot, wp_rdVar, wp_rdRet, wp_resV, wp_resS, wp_ress0, wp_ress, wp_setR, wp_setρ, wp_call, wp_setAt, wp_opd, wp_dat, wp_shr, wp_ownL, wp_popAt, wp_popLast, wp_app, wp_ins, wp_bindTup, wp_bindTs0, wp_bindTs, wp_bindNm, wp_blk, w_var, w_con, w_tup, w_lst, w_shr, w_bin, w_cmp, w_idx, w_cmp2, w_and2, w_or2, w_not1, w_ife, w_sli, w_call, w_blt, w_isi, w_lc, w_popk, w_popl, w_isN, w_neg, Z.w_rev, w_part0, w_part1, w_ds0, w_ds, w_os0, w_os, w_cs0, w_cs, line, w_asg, w_asgT, w_aug, w_setI, w_augI, w_lc2, w_app, w_ins, w_ext, w_expr, w_ret, w_retN, w_if, w_forE, w_whil, w_brk, w_cont, w_pass, w_ss0, w_ss, fw_nx, fw_brk, fw_cont, fw_ret, nn_none, nn_int, nn_bl, nn_str, nn_tup, nn_lst, ol_lst, op_some, op_none, op_ite, ob_bl, oi_int, sl_pu, sl_ow, al_ow, al_obj, so_lst, opdV, retV, endQ, letgo, ite_self, ixN_3_0, ixN_3_1, ixN_3_2, atI_0, atI_1, atI_2, atI_3, List.getElem?_cons_zero, List.getElem?_cons_succ, List.set_cons_zero, List.set_cons_succ, List.length_cons, List.length_nil, List.length_map, Option.bind_some, Option.map_some, List.nil_append, List.cons_append, List.length_singleton, Nat.zero_add, Nat.reduceAdd, Nat.reduceLT, Nat.reduceLeDiff, Nat.zero_le, if_false, if_true, Bool.false_eq_true, Bool.true_eq_false, Bool.not_true, Bool.not_false, reduceCtorEq, true_and, and_true, forall_const, false_and, and_false, false_implies, not_false_eq_true, not_true_eq_false, decide_true, decide_false, decide_eq_true_eq, decide_eq_false_iff_not, isi_none_int, isi_none_bool, isi_none_str, isi_none_tuple, isi_none_list, isi_none_list_tuple, isi_none_tuple_list, isi_bl_int, isi_bl_bool, isi_bl_str, isi_bl_tuple, isi_bl_list, isi_bl_list_tuple, isi_bl_tuple_list, isi_int_int, isi_int_bool, isi_int_str, isi_int_tuple, isi_int_list, isi_int_list_tuple, isi_int_tuple_list, isi_str_int, isi_str_bool, isi_str_str, isi_str_tuple, isi_str_list, isi_str_list_tuple, isi_str_tuple_list, isi_tup_int, isi_tup_bool, isi_tup_str, isi_tup_tuple, isi_tup_list, isi_tup_list_tuple, isi_tup_tuple_list, isi_lst_int, isi_lst_bool, isi_lst_str, isi_lst_tuple, isi_lst_list, isi_lst_list_tuple, isi_lst_tuple_list, cmp_eq_ii, cmp_ne_ii, cmp_eq_bb, cmp_ne_bb, cmp_lt, cmp_le, cmp_gt, cmp_ge, cmp_ni_ii, mul08, itemsD, it1, seqI]
  refine wp_for_foldm encB (fun dn s => ∃ x y, s = ⟨[.pu (.tup (p.map encB)), .ow (.lst ((cf dn.flatten).map .int)), x, y], st⟩) (done := []) ⟨_, _, rfl⟩ ?_ ?_
  · rintro b hb dn s ⟨x, y, rfl⟩
    unfold encB
    try simp -implicitDefEqProofs only [wp_bind, wp_pure, wp_bad, wp_getS, wp_asB, wp_slotOpd, wp_rdSlot, wp_rdVar, wp_rdRet, wp_resV, wp_resS, wp_ress0, wp_ress, wp_setR, wp_setρ, wp_call, wp_setAt, wp_opd, wp_dat, wp_shr, wp_ownL, wp_popAt, wp_popLast, wp_app, wp_ins, wp_bindTup, wp_bindTs0, wp_bindTs, wp_bindNm, wp_blk, w_var, w_con, w_tup, w_lst, w_shr, w_bin, w_cmp, w_idx, w_cmp2, w_and2, w_or2, w_not1, w_ife, w_sli, w_call, w_blt, w_isi, w_lc, w_popk, w_popl, w_isN, w_neg, Z.w_rev, w_part0, w_part1, w_ds0, w_ds, w_os0, w_os, w_cs0, w_cs, line, w_asg, w_asgT, w_aug, w_setI, w_augI, w_lc2, w_app, w_ins, w_ext, w_expr, w_ret, w_retN, w_if, w_forE, w_whil, w_brk, w_cont, w_pass, w_ss0, w_ss, fw_nx, fw_brk, fw_cont, fw_ret, nn_none, nn_int, nn_bl, nn_str, nn_tup, nn_lst, ol_lst, op_some, op_none, op_ite, ob_bl, oi_int, sl_pu, sl_ow, al_ow, al_obj, so_lst, opdV, retV, endQ, letgo, ite_self, ixN_3_0, ixN_3_1, ixN_3_2, atI_0, atI_1, atI_2, atI_3, List.getElem?_cons_zero, List.getElem?_cons_succ, List.set_cons_zero, List.set_cons_succ, List.length_cons, List.length_nil, List.length_map, Option.bind_some, Option.map_some, List.nil_append, List.cons_append, List.length_singleton, Nat.zero_add, Nat.reduceAdd, Nat.reduceLT, Nat.reduceLeDiff, Nat.zero_le, if_false, if_true, Bool.false_eq_true, Bool.true_eq_false, Bool.not_true, Bool.not_false, reduceCtorEq, true_and, and_true, forall_const, false_and, and_false, false_implies, not_false_eq_true, not_true_eq_false, decide_true, decide_false, decide_eq_true_eq, decide_eq_false_iff_not, isi_none_int, isi_none_bool, isi_none_str, isi_none_tuple, isi_none_list, isi_none_list_tuple, isi_none_tuple_list, isi_bl_int, isi_bl_bool, isi_bl_str, isi_bl_tuple, isi_bl_list, isi_bl_list_tuple, isi_bl_tuple_list, isi_int_int, isi_int_bool, isi_int_str, isi_int_tuple, isi_int_list, isi_int_list_tuple, isi_int_tuple_list, isi_str_int, isi_str_bool, isi_str_str, isi_str_tuple, isi_str_list, isi_str_list_tuple, isi_str_tuple_list, isi_tup_int, isi_tup_bool, isi_tup_str, isi_tup_tuple, isi_tup_list, isi_tup_list_tuple, isi_tup_tuple_list, isi_lst_int, isi_lst_bool, isi_lst_str, isi_lst_tuple, isi_lst_list, isi_lst_list_tuple, isi_lst_tuple_list, cmp_eq_ii, cmp_ne_ii, cmp_eq_bb, cmp_ne_bb, cmp_lt, cmp_le, cmp_gt, cmp_ge, cmp_ni_ii, itemsD, it1, seqI]
    refine wp_for_foldm D.int (fun bn s => ∃ y, s = ⟨[.pu (.tup (p.map fun b => .tup (b.map .int))), .ow (.lst ((cf (dn.flatten ++ bn)).map .int)), .pu (.tup (b.map .int)), y], st⟩) (done := []) ⟨_, by rw [List.append_nil]⟩ ?_ ?_
    · rintro k hk bn s ⟨y, rfl⟩
      have hk := hp b hb k hk
      have hl : ∀ l, ((cf l).map D.int).length = 8 := fun _ => rfl
      try simp -implicitDefEqProofs only [wp_bind, wp_pure, wp_bad, wp_getS, wp_asB, wp_slotOpd, wp_rdSlot, wp_rdVar, wp_rdRet, wp_resV, wp_resS, wp_ress0, wp_ress, wp_setR, wp_setρ, wp_call, wp_setAt, wp_opd, wp_dat, wp_shr, wp_ownL, wp_popAt, wp_popLast, wp_app, wp_ins, wp_bindTup, wp_bindTs0, wp_bindTs, wp_bindNm, wp_blk, w_var, w_con, w_tup, w_lst, w_shr, w_bin, w_cmp, w_idx, w_cmp2, w_and2, w_or2, w_not1, w_ife, w_sli, w_call, w_blt, w_isi, w_lc, w_popk, w_popl, w_isN, w_neg, Z.w_rev, w_part0, w_part1, w_ds0, w_ds, w_os0, w_os, w_cs0, w_cs, line, w_asg, w_asgT, w_aug, w_setI, w_augI, w_lc2, w_app, w_ins, w_ext, w_expr, w_ret, w_retN, w_if, w_forE, w_whil, w_brk, w_cont, w_pass, w_ss0, w_ss, fw_nx, fw_brk, fw_cont, fw_ret, nn_none, nn_int, nn_bl, nn_str, nn_tup, nn_lst, ol_lst, op_some, op_none, op_ite, ob_bl, oi_int, sl_pu, sl_ow, al_ow, al_obj, so_lst, opdV, retV, endQ, letgo, ite_self, ixN_3_0, ixN_3_1, ixN_3_2, atI_0, atI_1, atI_2, atI_3, List.getElem?_cons_zero, List.getElem?_cons_succ, List.set_cons_zero, List.set_cons_succ, List.length_cons, List.length_nil, List.length_map, Option.bind_some, Option.map_some, List.nil_append, List.cons_append, List.length_singleton, Nat.zero_add, Nat.reduceAdd, Nat.reduceLT, Nat.reduceLeDiff, Nat.zero_le, if_false, if_true, Bool.false_eq_true, Bool.true_eq_false, Bool.not_true, Bool.not_false, reduceCtorEq, true_and, and_true, forall_const, false_and, and_false, false_implies, not_false_eq_true, not_true_eq_false, decide_true, decide_false, decide_eq_true_eq, decide_eq_false_iff_not, isi_none_int, isi_none_bool, isi_none_str, isi_none_tuple, isi_none_list, isi_none_list_tuple, isi_none_tuple_list, isi_bl_int, isi_bl_bool, isi_bl_str, isi_bl_tuple, isi_bl_list, isi_bl_list_tuple, isi_bl_tuple_list, isi_int_int, isi_int_bool, isi_int_str, isi_int_tuple, isi_int_list, isi_int_list_tuple, isi_int_tuple_list, isi_str_int, isi_str_bool, isi_str_str, isi_str_tuple, isi_str_list, isi_str_list_tuple, isi_str_tuple_list, isi_tup_int, isi_tup_bool, isi_tup_str, isi_tup_tuple, isi_tup_list, isi_tup_list_tuple, isi_tup_tuple_list, isi_lst_int, isi_lst_bool, isi_lst_str, isi_lst_tuple, isi_lst_list, isi_lst_list_tuple, isi_lst_tuple_list, cmp_eq_ii, cmp_ne_ii, cmp_eq_bb, cmp_ne_bb, cmp_lt, cmp_le, cmp_gt, cmp_ge, cmp_ni_ii, lstAt, cf_get hk, augD, hl, ix_pts hk, cf_set hk]
      exact ⟨(by first | exact Or.inl rfl | exact trivial | exact Or.inl trivial | simp), _, by rw [List.append_assoc]⟩
    · rintro s ⟨y, rfl⟩
      refine ⟨(by first | exact Or.inl rfl | exact trivial | exact Or.inl trivial | simp), .pu (.tup (b.map .int)), y, by rw [List.flatten_append, List.flatten_cons, List.flatten_nil, List.append_nil]; rfl⟩
  · rintro s ⟨x, y, rfl⟩
    try simp -implicitDefEqProofs only [wp_bind, wp_pure, wp_bad, wp_getS, wp_asB, wp_slotOpd, wp_rdSlot, wp_rdVar, wp_rdRet, wp_resV, wp_resS, wp_ress0, wp_ress, wp_setR, wp_setρ, wp_call, wp_setAt, wp_opd, wp_dat, wp_shr, wp_ownL, wp_popAt, wp_popLast, wp_app, wp_ins, wp_bindTup, wp_bindTs0, wp_bindTs, wp_bindNm, wp_blk, w_var, w_con, w_tup, w_lst, w_shr, w_bin, w_cmp, w_idx, w_cmp2, w_and2, w_or2, w_not1, w_ife, w_sli, w_call, w_blt, w_isi, w_lc, w_popk, w_popl, w_isN, w_neg, Z.w_rev, w_part0, w_part1, w_ds0, w_ds, w_os0, w_os, w_cs0, w_cs, line, w_asg, w_asgT, w_aug, w_setI, w_augI, w_lc2, w_app, w_ins, w_ext, w_expr, w_ret, w_retN, w_if, w_forE, w_whil, w_brk, w_cont, w_pass, w_ss0, w_ss, fw_nx, fw_brk, fw_cont, fw_ret, nn_none, nn_int, nn_bl, nn_str, nn_tup, nn_lst, ol_lst, op_some, op_none, op_ite, ob_bl, oi_int, sl_pu, sl_ow, al_ow, al_obj, so_lst, opdV, retV, endQ, letgo, ite_self, ixN_3_0, ixN_3_1, ixN_3_2, atI_0, atI_1, atI_2, atI_3, List.getElem?_cons_zero, List.getElem?_cons_succ, List.set_cons_zero, List.set_cons_succ, List.length_cons, List.length_nil, List.length_map, Option.bind_some, Option.map_some, List.nil_append, List.cons_append, List.length_singleton, Nat.zero_add, Nat.reduceAdd, Nat.reduceLT, Nat.reduceLeDiff, Nat.zero_le, if_false, if_true, Bool.false_eq_true, Bool.true_eq_false, Bool.not_true, Bool.not_false, reduceCtorEq, true_and, and_true, forall_const, false_and, and_false, false_implies, not_false_eq_true, not_true_eq_false, decide_true, decide_false, decide_eq_true_eq, decide_eq_false_iff_not, isi_none_int, isi_none_bool, isi_none_str, isi_none_tuple, isi_none_list, isi_none_list_tuple, isi_none_tuple_list, isi_bl_int, isi_bl_bool, isi_bl_str, isi_bl_tuple, isi_bl_list, isi_bl_list_tuple, isi_bl_tuple_list, isi_int_int, isi_int_bool, isi_int_str, isi_int_tuple, isi_int_list, isi_int_list_tuple, isi_int_tuple_list, isi_str_int, isi_str_bool, isi_str_str, isi_str_tuple, isi_str_list, isi_str_list_tuple, isi_str_tuple_list, isi_tup_int, isi_tup_bool, isi_tup_str, isi_tup_tuple, isi_tup_list, isi_tup_list_tuple, isi_tup_tuple_list, isi_lst_int, isi_lst_bool, isi_lst_str, isi_lst_tuple, isi_lst_list, isi_lst_list_tuple, isi_lst_tuple_list, cmp_eq_ii, cmp_ne_ii, cmp_eq_bb, cmp_ne_bb, cmp_lt, cmp_le, cmp_gt, cmp_ge, cmp_ni_ii]
    exact h
theorem cf_cnt {s : Nat} : ∀ {p : P}, (∀ b ∈ p, Br s b) → ∀ {k : Int}, (p.flatten.count k : Int) = cnt p k
  | [], _, k => rfl
  | b :: p, h, k => by
    rw [List.flatten_cons, List.count_append, SP.cnt_cons, ← cf_cnt (fun x hx => h x (List.mem_cons_of_mem _ hx))]
    have hn : b.Nodup := (h b List.mem_cons_self).ris.imp fun h e => by omega
    by_cases hk : k ∈ b
    · rw [if_pos hk, hn.count, if_pos hk]; omega
    · rw [if_neg hk, List.count_eq_zero.mpr hk]; omega
end G

namespace G
open PySem PySem.Spec PyProof.Rows L2 Z SP
theorem nn_ret (ok : Bool) (d : D) (P R : Prop) (h : d = .none ∨ ∃ k, d = .int k) : Nn d P R = if d matches .none then P else R := by
  rcases h with rfl | ⟨k, rfl⟩ <;> rfl
theorem pts_items : itemsD .rng1 [.int 8] = some (pts.map .int) := rfl
theorem get_at {c : List Int} (h : c.length = 8) {k : Int} (hk : k ∈ pts) : atI (c.map D.int) k = some (.int (get c k)) := by
  match c, h with
  | [a0, a1, a2, a3, a4, a5, a6, a7], _ => rcases pts_cases hk with rfl | rfl | rfl | rfl | rfl | rfl | rfl | rfl <;> rfl
theorem fl_map (l : List Int) (f : Int → Bool) : (l.filter f).map D.int = ((l.filter f).map fun x => D.int x) := rfl
theorem count_of_spec2 {n s : Nat} {st : List SO} {p : P} {Q : Rs → List SO → Prop} (hp : ∀ b ∈ p, Br s b) (h : Q (.lst ((pts.map (SP.cnt p)).map .int), true) st) : Rp (callF fns wf (n + 1) 2 [encP p] st) Q := by
  have e : cf p.flatten = pts.map (SP.cnt p) := List.map_congr_left fun k _ => cf_cnt hp
  rw [← e] at h
  exact count_of_spec (fun b hb => (hp b hb).pt) h
def lastOk (p : P) (b : B) : Bool := match p.getLast? with
  | none => true
  | some a => ok a b
theorem cc_eq (c : List Int) (p : P) (b : B) : cc c p b = (lastOk p b && (decide (b.head? = (left p c).head?) && b.all fun k => decide (k ∈ left p c))) := rfl
/-- can_come behind its first test -/
theorem can_come_fin {n s : Nat} {cl : CallT} (hcl : cl = callF fns wf (n + 1)) {st : List SO} {p : P} {b : B} {c : List Int} {x3 x4 x5 : Slot} {Q : Rs → List SO → Prop} (hs : s = 2 ∨ s = 3) (hp : ∀ x ∈ p, Br s x) (hb : Br s b) (hc : c.length = 8) (hne : left p c ≠ []) (h : Q (.bl (decide (b.head? = (left p c).head?) && b.all fun k => decide (k ∈ left p c)), false) st) :
    Wp (Z.execs cl wf b_can_come.tail) ⟨[.pu (encP p), .pu (encB b), .pu (.tup (c.map .int)), x3, x4, x5], st⟩ (endQ Q) := by
  unfold b_can_come
  rw [List.tail_cons]
  try simp -implicitDefEqProofs only [wp_bind, wp_pure, wp_bad, wp_getS, wp_asB, wp_slotOpd, wp_rdSlot, wp_rdVar, wp_rdRet, wp_resV, wp_resS, wp_ress0, wp_ress, wp_setR, wp_setρ, wp_call, wp_setAt, wp_opd, wp_dat, wp_shr, wp_ownL, wp_popAt, wp_popLast, wp_app, wp_ins, wp_bindTup, wp_bindTs0, wp_bindTs, wp_bindNm, wp_blk, w_var, w_con, w_tup, w_lst, w_shr, w_bin, w_cmp, w_idx, w_cmp2, w_and2, w_or2, w_not1, w_ife, w_sli, w_call, w_blt, w_isi, w_lc, w_popk, w_popl, w_isN, w_neg, Z.w_rev, w_part0, w_part1, w_ds0, w_ds, w_os0, w_os, w_cs0, w_cs, line, w_asg, w_asgT, w_aug, w_setI, w_augI, w_lc2, w_app, w_ins, w_ext, w_expr, w_ret, w_retN, w_if, w_forE, w_whil, w_brk, w_cont, w_pass, w_ss0, w_ss, fw_nx, fw_brk, fw_cont, fw_ret, nn_none, nn_int, nn_bl, nn_str, nn_tup, nn_lst, ol_lst, op_some, op_none, op_ite, ob_bl, oi_int, sl_pu, sl_ow, al_ow, al_obj, so_lst, opdV, retV, endQ, letgo, ite_self, ixN_3_0, ixN_3_1, ixN_3_2, atI_0, atI_1, atI_2, atI_3, List.getElem?_cons_zero, List.getElem?_cons_succ, List.set_cons_zero, List.set_cons_succ, List.length_cons, List.length_nil, List.length_map, Option.bind_some, Option.map_some, List.nil_append, List.cons_append, List.length_singleton, Nat.zero_add, Nat.reduceAdd, Nat.reduceLT, Nat.reduceLeDiff, Nat.zero_le, if_false, if_true, Bool.false_eq_true, Bool.true_eq_false, Bool.not_true, Bool.not_false, reduceCtorEq, true_and, and_true, forall_const, false_and, and_false, false_implies, not_false_eq_true, not_true_eq_false, decide_true, decide_false, decide_eq_true_eq, decide_eq_false_iff_not, isi_none_int, isi_none_bool, isi_none_str, isi_none_tuple, isi_none_list, isi_none_list_tuple, isi_none_tuple_list, isi_bl_int, isi_bl_bool, isi_bl_str, isi_bl_tuple, isi_bl_list, isi_bl_list_tuple, isi_bl_tuple_list, isi_int_int, isi_int_bool, isi_int_str, isi_int_tuple, isi_int_list, isi_int_list_tuple, isi_int_tuple_list, isi_str_int, isi_str_bool, isi_str_str, isi_str_tuple, isi_str_list, isi_str_list_tuple, isi_str_tuple_list, isi_tup_int, isi_tup_bool, isi_tup_str, isi_tup_tuple, isi_tup_list, isi_tup_list_tuple, isi_tup_tuple_list, isi_lst_int, isi_lst_bool, isi_lst_str, isi_lst_tuple, isi_lst_list, isi_lst_list_tuple, isi_lst_tuple_list, cmp_eq_ii, cmp_ne_ii, cmp_eq_bb, cmp_ne_bb, cmp_lt, cmp_le, cmp_gt, cmp_ge, cmp_ni_ii]
  with_reducible refine rp_cl hcl (count_of_spec2 hp ?_)
  try simp -implicitDefEqProofs only [wp_bind, wp_pure, wp_bad, wp_getS, wp_asB, wp_slotOpd, wp_rdSlot, wp_rdVar, wp_rdRet, wp_resV, wp_resS, wp_ress0, wp_ress, wp_setR, wp_setρ, wp_call, wp_setAt, wp_opd, wp_dat, wp_shr, wp_ownL, wp_popAt, wp_popLast, wp_app, wp_ins, wp_bindTup, wp_bindTs0, wp_bindTs, wp_bindNm, wp_blk, w_var, w_con, w_tup, w_lst, w_shr, w_bin, w_cmp, w_idx, w_cmp2, w_and2, w_or2, w_not1, w_ife, w_sli, w_call, w_blt, w_isi, w_lc, w_popk, w_popl, w_isN, w_neg, Z.w_rev, w_part0, w_part1, w_ds0, w_ds, w_os0, w_os, w_cs0, w_cs, line, w_asg, w_asgT, w_aug, w_setI, w_augI, w_lc2, w_app, w_ins, w_ext, w_expr, w_ret, w_retN, w_if, w_forE, w_whil, w_brk, w_cont, w_pass, w_ss0, w_ss, fw_nx, fw_brk, fw_cont, fw_ret, nn_none, nn_int, nn_bl, nn_str, nn_tup, nn_lst, ol_lst, op_some, op_none, op_ite, ob_bl, oi_int, sl_pu, sl_ow, al_ow, al_obj, so_lst, opdV, retV, endQ, letgo, ite_self, ixN_3_0, ixN_3_1, ixN_3_2, atI_0, atI_1, atI_2, atI_3, List.getElem?_cons_zero, List.getElem?_cons_succ, List.set_cons_zero, List.set_cons_succ, List.length_cons, List.length_nil, List.length_map, Option.bind_some, Option.map_some, List.nil_append, List.cons_append, List.length_singleton, Nat.zero_add, Nat.reduceAdd, Nat.reduceLT, Nat.reduceLeDiff, Nat.zero_le, if_false, if_true, Bool.false_eq_true, Bool.true_eq_false, Bool.not_true, Bool.not_false, reduceCtorEq, true_and, and_true, forall_const, false_and, and_false, false_implies, not_false_eq_true, not_true_eq_false, decide_true, decide_false, decide_eq_true_eq, decide_eq_false_iff_not, isi_none_int, isi_none_bool, isi_none_str, isi_none_tuple, isi_none_list, isi_none_list_tuple, isi_none_tuple_list, isi_bl_int, isi_bl_bool, isi_bl_str, isi_bl_tuple, isi_bl_list, isi_bl_list_tuple, isi_bl_tuple_list, isi_int_int, isi_int_bool, isi_int_str, isi_int_tuple, isi_int_list, isi_int_list_tuple, isi_int_tuple_list, isi_str_int, isi_str_bool, isi_str_str, isi_str_tuple, isi_str_list, isi_str_list_tuple, isi_str_tuple_list, isi_tup_int, isi_tup_bool, isi_tup_str, isi_tup_tuple, isi_tup_list, isi_tup_list_tuple, isi_tup_tuple_list, isi_lst_int, isi_lst_bool, isi_lst_str, isi_lst_tuple, isi_lst_list, isi_lst_list_tuple, isi_lst_tuple_list, cmp_eq_ii, cmp_ne_ii, cmp_eq_bb, cmp_ne_bb, cmp_lt, cmp_le, cmp_gt, cmp_ge, cmp_ni_ii, pts_items]
  refine wp_lc_map (own := [5]) D.int (fun k => decide (SP.cnt p k < get c k)) D.int (fun s => ∃ y, s = ⟨[.pu (encP p), .pu (encB b), .pu (.tup (c.map .int)), .ow (.lst ((pts.map (SP.cnt p)).map .int)), x4, y], st⟩) ⟨_, rfl⟩ (by decide) ?_ ?_
  · rintro k hk s ⟨y, rfl⟩
    have e1 : atI ((pts.map (SP.cnt p)).map D.int) k = some (.int (SP.cnt p k)) := by
      rw [get_at (c := pts.map (SP.cnt p)) rfl hk, get_pts (SP.cnt p) hk]
    try simp -implicitDefEqProofs only [wp_bind, wp_pure, wp_bad, wp_getS, wp_asB, wp_slotOpd, wp_rdSlot, wp_rdVar, wp_rdRet, wp_resV, wp_resS, wp_ress0, wp_ress, wp_setR, wp_setρ, wp_call, wp_setAt, wp_opd, wp_dat, wp_shr, wp_ownL, wp_popAt, wp_popLast, wp_app, wp_ins, wp_bindTup, wp_bindTs0, wp_bindTs, wp_bindNm, wp_blk, w_var, w_con, w_tup, w_lst, w_shr, w_bin, w_cmp, w_idx, w_cmp2, w_and2, w_or2, w_not1, w_ife, w_sli, w_call, w_blt, w_isi, w_lc, w_popk, w_popl, w_isN, w_neg, Z.w_rev, w_part0, w_part1, w_ds0, w_ds, w_os0, w_os, w_cs0, w_cs, line, w_asg, w_asgT, w_aug, w_setI, w_augI, w_lc2, w_app, w_ins, w_ext, w_expr, w_ret, w_retN, w_if, w_forE, w_whil, w_brk, w_cont, w_pass, w_ss0, w_ss, fw_nx, fw_brk, fw_cont, fw_ret, nn_none, nn_int, nn_bl, nn_str, nn_tup, nn_lst, ol_lst, op_some, op_none, op_ite, ob_bl, oi_int, sl_pu, sl_ow, al_ow, al_obj, so_lst, opdV, retV, endQ, letgo, ite_self, ixN_3_0, ixN_3_1, ixN_3_2, atI_0, atI_1, atI_2, atI_3, List.getElem?_cons_zero, List.getElem?_cons_succ, List.set_cons_zero, List.set_cons_succ, List.length_cons, List.length_nil, List.length_map, Option.bind_some, Option.map_some, List.nil_append, List.cons_append, List.length_singleton, Nat.zero_add, Nat.reduceAdd, Nat.reduceLT, Nat.reduceLeDiff, Nat.zero_le, if_false, if_true, Bool.false_eq_true, Bool.true_eq_false, Bool.not_true, Bool.not_false, reduceCtorEq, true_and, and_true, forall_const, false_and, and_false, false_implies, not_false_eq_true, not_true_eq_false, decide_true, decide_false, decide_eq_true_eq, decide_eq_false_iff_not, isi_none_int, isi_none_bool, isi_none_str, isi_none_tuple, isi_none_list, isi_none_list_tuple, isi_none_tuple_list, isi_bl_int, isi_bl_bool, isi_bl_str, isi_bl_tuple, isi_bl_list, isi_bl_list_tuple, isi_bl_tuple_list, isi_int_int, isi_int_bool, isi_int_str, isi_int_tuple, isi_int_list, isi_int_list_tuple, isi_int_tuple_list, isi_str_int, isi_str_bool, isi_str_str, isi_str_tuple, isi_str_list, isi_str_list_tuple, isi_str_tuple_list, isi_tup_int, isi_tup_bool, isi_tup_str, isi_tup_tuple, isi_tup_list, isi_tup_list_tuple, isi_tup_tuple_list, isi_lst_int, isi_lst_bool, isi_lst_str, isi_lst_tuple, isi_lst_list, isi_lst_list_tuple, isi_lst_tuple_list, cmp_eq_ii, cmp_ne_ii, cmp_eq_bb, cmp_ne_bb, cmp_lt, cmp_le, cmp_gt, cmp_ge, cmp_ni_ii, wp_wipe, List.foldr_cons, List.foldr_nil, idxD, seqD, e1, get_at hc hk]
    exact ⟨fun e => ⟨(decide_eq_true e).symm, _, rfl⟩, fun e => ⟨(decide_eq_false e).symm, _, rfl⟩⟩
  · rintro s ⟨y, rfl⟩
    have hleft : (pts.filter fun k => decide (SP.cnt p k < get c k)) = left p c := rfl
    rw [hleft]
    obtain ⟨l0, lr, el⟩ := List.exists_cons_of_ne_nil hne
    have hlen := hb.len
    obtain ⟨b0, br, rfl⟩ : ∃ b0 br, b = b0 :: br := by
      cases b with
      | nil => simp at hlen; omega
      | cons b0 br => exact ⟨b0, br, rfl⟩
    rw [el] at h ⊢
    unfold encB
    try simp -implicitDefEqProofs only [wp_bind, wp_pure, wp_bad, wp_getS, wp_asB, wp_slotOpd, wp_rdSlot, wp_rdVar, wp_rdRet, wp_resV, wp_resS, wp_ress0, wp_ress, wp_setR, wp_setρ, wp_call, wp_setAt, wp_opd, wp_dat, wp_shr, wp_ownL, wp_popAt, wp_popLast, wp_app, wp_ins, wp_bindTup, wp_bindTs0, wp_bindTs, wp_bindNm, wp_blk, w_var, w_con, w_tup, w_lst, w_shr, w_bin, w_cmp, w_idx, w_cmp2, w_and2, w_or2, w_not1, w_ife, w_sli, w_call, w_blt, w_isi, w_lc, w_popk, w_popl, w_isN, w_neg, Z.w_rev, w_part0, w_part1, w_ds0, w_ds, w_os0, w_os, w_cs0, w_cs, line, w_asg, w_asgT, w_aug, w_setI, w_augI, w_lc2, w_app, w_ins, w_ext, w_expr, w_ret, w_retN, w_if, w_forE, w_whil, w_brk, w_cont, w_pass, w_ss0, w_ss, fw_nx, fw_brk, fw_cont, fw_ret, nn_none, nn_int, nn_bl, nn_str, nn_tup, nn_lst, ol_lst, op_some, op_none, op_ite, ob_bl, oi_int, sl_pu, sl_ow, al_ow, al_obj, so_lst, opdV, retV, endQ, letgo, ite_self, ixN_3_0, ixN_3_1, ixN_3_2, atI_0, atI_1, atI_2, atI_3, List.getElem?_cons_zero, List.getElem?_cons_succ, List.set_cons_zero, List.set_cons_succ, List.length_cons, List.length_nil, List.length_map, Option.bind_some, Option.map_some, List.nil_append, List.cons_append, List.length_singleton, Nat.zero_add, Nat.reduceAdd, Nat.reduceLT, Nat.reduceLeDiff, Nat.zero_le, if_false, if_true, Bool.false_eq_true, Bool.true_eq_false, Bool.not_true, Bool.not_false, reduceCtorEq, true_and, and_true, forall_const, false_and, and_false, false_implies, not_false_eq_true, not_true_eq_false, decide_true, decide_false, decide_eq_true_eq, decide_eq_false_iff_not, isi_none_int, isi_none_bool, isi_none_str, isi_none_tuple, isi_none_list, isi_none_list_tuple, isi_none_tuple_list, isi_bl_int, isi_bl_bool, isi_bl_str, isi_bl_tuple, isi_bl_list, isi_bl_list_tuple, isi_bl_tuple_list, isi_int_int, isi_int_bool, isi_int_str, isi_int_tuple, isi_int_list, isi_int_list_tuple, isi_int_tuple_list, isi_str_int, isi_str_bool, isi_str_str, isi_str_tuple, isi_str_list, isi_str_list_tuple, isi_str_tuple_list, isi_tup_int, isi_tup_bool, isi_tup_str, isi_tup_tuple, isi_tup_list, isi_tup_list_tuple, isi_tup_tuple_list, isi_lst_int, isi_lst_bool, isi_lst_str, isi_lst_tuple, isi_lst_list, isi_lst_list_tuple, isi_lst_tuple_list, cmp_eq_ii, cmp_ne_ii, cmp_eq_bb, cmp_ne_bb, cmp_lt, cmp_le, cmp_gt, cmp_ge, cmp_ni_ii, unwipe, List.foldr_cons, List.foldr_nil, idxD, seqD, List.map_cons]
    refine ⟨fun e => ?_, fun e => ?_⟩
    · try simp -implicitDefEqProofs only [wp_bind, wp_pure, wp_bad, wp_getS, wp_asB, wp_slotOpd, wp_rdSlot, wp_rdVar, wp_rdRet, wp_resV, wp_resS, wp_ress0, wp_ress, wp_setR, wp_setρ, wp_call, wp_setAt, wp_opd, wp_dat, wp_shr, wp_ownL, wp_popAt, wp_popLast, wp_app, wp_ins, wp_bindTup, wp_bindTs0, wp_bindTs, wp_bindNm, wp_blk, w_var, w_con, w_tup, w_lst, w_shr, w_bin, w_cmp, w_idx, w_cmp2, w_and2, w_or2, w_not1, w_ife, w_sli, w_call, w_blt, w_isi, w_lc, w_popk, w_popl, w_isN, w_neg, Z.w_rev, w_part0, w_part1, w_ds0, w_ds, w_os0, w_os, w_cs0, w_cs, line, w_asg, w_asgT, w_aug, w_setI, w_augI, w_lc2, w_app, w_ins, w_ext, w_expr, w_ret, w_retN, w_if, w_forE, w_whil, w_brk, w_cont, w_pass, w_ss0, w_ss, fw_nx, fw_brk, fw_cont, fw_ret, nn_none, nn_int, nn_bl, nn_str, nn_tup, nn_lst, ol_lst, op_some, op_none, op_ite, ob_bl, oi_int, sl_pu, sl_ow, al_ow, al_obj, so_lst, opdV, retV, endQ, letgo, ite_self, ixN_3_0, ixN_3_1, ixN_3_2, atI_0, atI_1, atI_2, atI_3, List.getElem?_cons_zero, List.getElem?_cons_succ, List.set_cons_zero, List.set_cons_succ, List.length_cons, List.length_nil, List.length_map, Option.bind_some, Option.map_some, List.nil_append, List.cons_append, List.length_singleton, Nat.zero_add, Nat.reduceAdd, Nat.reduceLT, Nat.reduceLeDiff, Nat.zero_le, if_false, if_true, Bool.false_eq_true, Bool.true_eq_false, Bool.not_true, Bool.not_false, reduceCtorEq, true_and, and_true, forall_const, false_and, and_false, false_implies, not_false_eq_true, not_true_eq_false, decide_true, decide_false, decide_eq_true_eq, decide_eq_false_iff_not, isi_none_int, isi_none_bool, isi_none_str, isi_none_tuple, isi_none_list, isi_none_list_tuple, isi_none_tuple_list, isi_bl_int, isi_bl_bool, isi_bl_str, isi_bl_tuple, isi_bl_list, isi_bl_list_tuple, isi_bl_tuple_list, isi_int_int, isi_int_bool, isi_int_str, isi_int_tuple, isi_int_list, isi_int_list_tuple, isi_int_tuple_list, isi_str_int, isi_str_bool, isi_str_str, isi_str_tuple, isi_str_list, isi_str_list_tuple, isi_str_tuple_list, isi_tup_int, isi_tup_bool, isi_tup_str, isi_tup_tuple, isi_tup_list, isi_tup_list_tuple, isi_tup_tuple_list, isi_lst_int, isi_lst_bool, isi_lst_str, isi_lst_tuple, isi_lst_list, isi_lst_list_tuple, isi_lst_tuple_list, cmp_eq_ii, cmp_ne_ii, cmp_eq_bb, cmp_ne_bb, cmp_lt, cmp_le, cmp_gt, cmp_ge, cmp_ni_ii, itemsD, it1, seqI]
      refine wp_lc_map (own := [5]) D.int (fun _ => true) (fun k => .bl (decide (k ∈ l0 :: lr))) (fun s => ∃ y, s = ⟨[.pu (encP p), .pu (.tup ((b0 :: br).map .int)), .pu (.tup (c.map .int)), .ow (.lst ((pts.map (SP.cnt p)).map .int)), .ow (.lst ((l0 :: lr).map .int)), y], st⟩) (xs := b0 :: br) ⟨_, rfl⟩ (by rw [line_eq']; simp at hlen ⊢; omega) ?_ ?_
      · rintro k hk s ⟨y, rfl⟩
        have ein := En.int.in_lst (by decide) k (l0 :: lr)
        rw [List.map_cons] at ein
        try simp -implicitDefEqProofs only [wp_bind, wp_pure, wp_bad, wp_getS, wp_asB, wp_slotOpd, wp_rdSlot, wp_rdVar, wp_rdRet, wp_resV, wp_resS, wp_ress0, wp_ress, wp_setR, wp_setρ, wp_call, wp_setAt, wp_opd, wp_dat, wp_shr, wp_ownL, wp_popAt, wp_popLast, wp_app, wp_ins, wp_bindTup, wp_bindTs0, wp_bindTs, wp_bindNm, wp_blk, w_var, w_con, w_tup, w_lst, w_shr, w_bin, w_cmp, w_idx, w_cmp2, w_and2, w_or2, w_not1, w_ife, w_sli, w_call, w_blt, w_isi, w_lc, w_popk, w_popl, w_isN, w_neg, Z.w_rev, w_part0, w_part1, w_ds0, w_ds, w_os0, w_os, w_cs0, w_cs, line, w_asg, w_asgT, w_aug, w_setI, w_augI, w_lc2, w_app, w_ins, w_ext, w_expr, w_ret, w_retN, w_if, w_forE, w_whil, w_brk, w_cont, w_pass, w_ss0, w_ss, fw_nx, fw_brk, fw_cont, fw_ret, nn_none, nn_int, nn_bl, nn_str, nn_tup, nn_lst, ol_lst, op_some, op_none, op_ite, ob_bl, oi_int, sl_pu, sl_ow, al_ow, al_obj, so_lst, opdV, retV, endQ, letgo, ite_self, ixN_3_0, ixN_3_1, ixN_3_2, atI_0, atI_1, atI_2, atI_3, List.getElem?_cons_zero, List.getElem?_cons_succ, List.set_cons_zero, List.set_cons_succ, List.length_cons, List.length_nil, List.length_map, Option.bind_some, Option.map_some, List.nil_append, List.cons_append, List.length_singleton, Nat.zero_add, Nat.reduceAdd, Nat.reduceLT, Nat.reduceLeDiff, Nat.zero_le, if_false, if_true, Bool.false_eq_true, Bool.true_eq_false, Bool.not_true, Bool.not_false, reduceCtorEq, true_and, and_true, forall_const, false_and, and_false, false_implies, not_false_eq_true, not_true_eq_false, decide_true, decide_false, decide_eq_true_eq, decide_eq_false_iff_not, isi_none_int, isi_none_bool, isi_none_str, isi_none_tuple, isi_none_list, isi_none_list_tuple, isi_none_tuple_list, isi_bl_int, isi_bl_bool, isi_bl_str, isi_bl_tuple, isi_bl_list, isi_bl_list_tuple, isi_bl_tuple_list, isi_int_int, isi_int_bool, isi_int_str, isi_int_tuple, isi_int_list, isi_int_list_tuple, isi_int_tuple_list, isi_str_int, isi_str_bool, isi_str_str, isi_str_tuple, isi_str_list, isi_str_list_tuple, isi_str_tuple_list, isi_tup_int, isi_tup_bool, isi_tup_str, isi_tup_tuple, isi_tup_list, isi_tup_list_tuple, isi_tup_tuple_list, isi_lst_int, isi_lst_bool, isi_lst_str, isi_lst_tuple, isi_lst_list, isi_lst_list_tuple, isi_lst_tuple_list, cmp_eq_ii, cmp_ne_ii, cmp_eq_bb, cmp_ne_bb, cmp_lt, cmp_le, cmp_gt, cmp_ge, cmp_ni_ii, wp_wipe, List.foldr_cons, List.foldr_nil, List.map_cons, ein]
        exact ⟨_, rfl⟩
      · rintro s ⟨y, rfl⟩
        have ft : ∀ l : List Int, l.filter (fun _ => true) = l := fun l => List.filter_eq_self.mpr fun _ _ => rfl
        rw [ft]
        try simp -implicitDefEqProofs only [wp_bind, wp_pure, wp_bad, wp_getS, wp_asB, wp_slotOpd, wp_rdSlot, wp_rdVar, wp_rdRet, wp_resV, wp_resS, wp_ress0, wp_ress, wp_setR, wp_setρ, wp_call, wp_setAt, wp_opd, wp_dat, wp_shr, wp_ownL, wp_popAt, wp_popLast, wp_app, wp_ins, wp_bindTup, wp_bindTs0, wp_bindTs, wp_bindNm, wp_blk, w_var, w_con, w_tup, w_lst, w_shr, w_bin, w_cmp, w_idx, w_cmp2, w_and2, w_or2, w_not1, w_ife, w_sli, w_call, w_blt, w_isi, w_lc, w_popk, w_popl, w_isN, w_neg, Z.w_rev, w_part0, w_part1, w_ds0, w_ds, w_os0, w_os, w_cs0, w_cs, line, w_asg, w_asgT, w_aug, w_setI, w_augI, w_lc2, w_app, w_ins, w_ext, w_expr, w_ret, w_retN, w_if, w_forE, w_whil, w_brk, w_cont, w_pass, w_ss0, w_ss, fw_nx, fw_brk, fw_cont, fw_ret, nn_none, nn_int, nn_bl, nn_str, nn_tup, nn_lst, ol_lst, op_some, op_none, op_ite, ob_bl, oi_int, sl_pu, sl_ow, al_ow, al_obj, so_lst, opdV, retV, endQ, letgo, ite_self, ixN_3_0, ixN_3_1, ixN_3_2, atI_0, atI_1, atI_2, atI_3, List.getElem?_cons_zero, List.getElem?_cons_succ, List.set_cons_zero, List.set_cons_succ, List.length_cons, List.length_nil, List.length_map, Option.bind_some, Option.map_some, List.nil_append, List.cons_append, List.length_singleton, Nat.zero_add, Nat.reduceAdd, Nat.reduceLT, Nat.reduceLeDiff, Nat.zero_le, if_false, if_true, Bool.false_eq_true, Bool.true_eq_false, Bool.not_true, Bool.not_false, reduceCtorEq, true_and, and_true, forall_const, false_and, and_false, false_implies, not_false_eq_true, not_true_eq_false, decide_true, decide_false, decide_eq_true_eq, decide_eq_false_iff_not, isi_none_int, isi_none_bool, isi_none_str, isi_none_tuple, isi_none_list, isi_none_list_tuple, isi_none_tuple_list, isi_bl_int, isi_bl_bool, isi_bl_str, isi_bl_tuple, isi_bl_list, isi_bl_list_tuple, isi_bl_tuple_list, isi_int_int, isi_int_bool, isi_int_str, isi_int_tuple, isi_int_list, isi_int_list_tuple, isi_int_tuple_list, isi_str_int, isi_str_bool, isi_str_str, isi_str_tuple, isi_str_list, isi_str_list_tuple, isi_str_tuple_list, isi_tup_int, isi_tup_bool, isi_tup_str, isi_tup_tuple, isi_tup_list, isi_tup_list_tuple, isi_tup_tuple_list, isi_lst_int, isi_lst_bool, isi_lst_str, isi_lst_tuple, isi_lst_list, isi_lst_list_tuple, isi_lst_tuple_list, cmp_eq_ii, cmp_ne_ii, cmp_eq_bb, cmp_ne_bb, cmp_lt, cmp_le, cmp_gt, cmp_ge, cmp_ni_ii, unwipe, List.foldr_cons, List.foldr_nil, bltD, on1, allD, boolsD_map]
        subst e
        have e2 : (((b0 :: br).map fun k => decide (k ∈ b0 :: lr)).all id) = (b0 :: br).all fun k => decide (k ∈ b0 :: lr) := by rw [List.all_map]; rfl
        have e3 : decide ((b0 :: br).head? = (b0 :: lr).head?) = true := decide_eq_true rfl
        rw [e3, Bool.true_and] at h
        rw [e2]
        exact h
    · have e3 : decide ((b0 :: br).head? = (l0 :: lr).head?) = false := decide_eq_false fun z => e (by simpa using z)
      rw [e3, Bool.false_and] at h
      exact h
theorem br_le {s : Nat} (hs : s = 2 ∨ s = 3) {a b : B} (ha : Br s a) (hb : Br s b) : a.length ≤ b.length ∧ a.length ≤ 1000 := by
  have := ha.len
  have := hb.len
  omega
theorem ne_nilP : cmpD .ne (encP []) (.tup []) = some false := by
  have := enP.cmp_ne (by decide) [] []
  rw [decide_eq_true rfl] at this
  exact this
theorem ne_consP {q : P} {a : B} : cmpD .ne (encP (q ++ [a])) (.tup []) = some true := by
  have := enP.cmp_ne (by decide) (q ++ [a]) []
  rw [decide_eq_false (by simp)] at this
  exact this
theorem idx_lastP {st : List SO} {q : P} {a : B} : idxD st (encP (q ++ [a])) (.int (-1)) = some (encB a) := by
  show atI ((q ++ [a]).map encB) (-1) = _
  rw [List.map_append]
  exact atI_last _ _
theorem cc_head {n s : Nat} {cl : CallT} (hcl : cl = callF fns wf (n + 1)) {st : List SO} {p : P} {b : B} {c : List Int} {tl : List Sm} {Q : Rs → List SO → Prop} (hs : s = 2 ∨ s = 3) (hp : ∀ x ∈ p, Br s x) (hb : Br s b) (h1 : lastOk p b = false → Q (.bl false, false) st)
    (h2 : lastOk p b = true → ∀ x3 x4 x5, Wp (Z.execs cl wf tl) ⟨[.pu (encP p), .pu (encB b), .pu (.tup (c.map .int)), x3, x4, x5], st⟩ (endQ Q)) :
    Wp (Z.execs cl wf (.ife (.and2 (.cmp .ne (.var 0) (.tup [])) (.isN true (.call 0 [(.idx (.var 0) (.neg (.con (.int 1)))), (.var 1)]))) [.ret (.con (.bl false))] [] :: tl)) ⟨[.pu (encP p), .pu (encB b), .pu (.tup (c.map .int)), .un, .un, .un], st⟩ (endQ Q) := by
  rcases List.eq_nil_or_concat p with rfl | ⟨q, a, rfl⟩
  · try simp -implicitDefEqProofs only [wp_bind, wp_pure, wp_bad, wp_getS, wp_asB, wp_slotOpd, wp_rdSlot, wp_rdVar, wp_rdRet, wp_resV, wp_resS, wp_ress0, wp_ress, wp_setR, wp_setρ, wp_call, wp_setAt, wp_opd, wp_dat, wp_shr, wp_ownL, wp_popAt, wp_popLast, wp_app, wp_ins, wp_bindTup, wp_bindTs0, wp_bindTs, wp_bindNm, wp_blk, w_var, w_con, w_tup, w_lst, w_shr, w_bin, w_cmp, w_idx, w_cmp2, w_and2, w_or2, w_not1, w_ife, w_sli, w_call, w_blt, w_isi, w_lc, w_popk, w_popl, w_isN, w_neg, Z.w_rev, w_part0, w_part1, w_ds0, w_ds, w_os0, w_os, w_cs0, w_cs, line, w_asg, w_asgT, w_aug, w_setI, w_augI, w_lc2, w_app, w_ins, w_ext, w_expr, w_ret, w_retN, w_if, w_forE, w_whil, w_brk, w_cont, w_pass, w_ss0, w_ss, fw_nx, fw_brk, fw_cont, fw_ret, nn_none, nn_int, nn_bl, nn_str, nn_tup, nn_lst, ol_lst, op_some, op_none, op_ite, ob_bl, oi_int, sl_pu, sl_ow, al_ow, al_obj, so_lst, opdV, retV, endQ, letgo, ite_self, ixN_3_0, ixN_3_1, ixN_3_2, atI_0, atI_1, atI_2, atI_3, List.getElem?_cons_zero, List.getElem?_cons_succ, List.set_cons_zero, List.set_cons_succ, List.length_cons, List.length_nil, List.length_map, Option.bind_some, Option.map_some, List.nil_append, List.cons_append, List.length_singleton, Nat.zero_add, Nat.reduceAdd, Nat.reduceLT, Nat.reduceLeDiff, Nat.zero_le, if_false, if_true, Bool.false_eq_true, Bool.true_eq_false, Bool.not_true, Bool.not_false, reduceCtorEq, true_and, and_true, forall_const, false_and, and_false, false_implies, not_false_eq_true, not_true_eq_false, decide_true, decide_false, decide_eq_true_eq, decide_eq_false_iff_not, isi_none_int, isi_none_bool, isi_none_str, isi_none_tuple, isi_none_list, isi_none_list_tuple, isi_none_tuple_list, isi_bl_int, isi_bl_bool, isi_bl_str, isi_bl_tuple, isi_bl_list, isi_bl_list_tuple, isi_bl_tuple_list, isi_int_int, isi_int_bool, isi_int_str, isi_int_tuple, isi_int_list, isi_int_list_tuple, isi_int_tuple_list, isi_str_int, isi_str_bool, isi_str_str, isi_str_tuple, isi_str_list, isi_str_list_tuple, isi_str_tuple_list, isi_tup_int, isi_tup_bool, isi_tup_str, isi_tup_tuple, isi_tup_list, isi_tup_list_tuple, isi_tup_tuple_list, isi_lst_int, isi_lst_bool, isi_lst_str, isi_lst_tuple, isi_lst_list, isi_lst_list_tuple, isi_lst_tuple_list, cmp_eq_ii, cmp_ne_ii, cmp_eq_bb, cmp_ne_bb, cmp_lt, cmp_le, cmp_gt, cmp_ge, cmp_ni_ii, ne_nilP]
    exact h2 rfl _ _ _
  · rw [List.concat_eq_append] at *
    have hl : lastOk (q ++ [a]) b = ok a b := by
      unfold lastOk
      rw [List.getLast?_append]
      rfl
    obtain ⟨l1, l2⟩ := br_le hs (hp a (by simp)) hb
    rw [hl] at h1 h2
    try simp -implicitDefEqProofs only [wp_bind, wp_pure, wp_bad, wp_getS, wp_asB, wp_slotOpd, wp_rdSlot, wp_rdVar, wp_rdRet, wp_resV, wp_resS, wp_ress0, wp_ress, wp_setR, wp_setρ, wp_call, wp_setAt, wp_opd, wp_dat, wp_shr, wp_ownL, wp_popAt, wp_popLast, wp_app, wp_ins, wp_bindTup, wp_bindTs0, wp_bindTs, wp_bindNm, wp_blk, w_var, w_con, w_tup, w_lst, w_shr, w_bin, w_cmp, w_idx, w_cmp2, w_and2, w_or2, w_not1, w_ife, w_sli, w_call, w_blt, w_isi, w_lc, w_popk, w_popl, w_isN, w_neg, Z.w_rev, w_part0, w_part1, w_ds0, w_ds, w_os0, w_os, w_cs0, w_cs, line, w_asg, w_asgT, w_aug, w_setI, w_augI, w_lc2, w_app, w_ins, w_ext, w_expr, w_ret, w_retN, w_if, w_forE, w_whil, w_brk, w_cont, w_pass, w_ss0, w_ss, fw_nx, fw_brk, fw_cont, fw_ret, nn_none, nn_int, nn_bl, nn_str, nn_tup, nn_lst, ol_lst, op_some, op_none, op_ite, ob_bl, oi_int, sl_pu, sl_ow, al_ow, al_obj, so_lst, opdV, retV, endQ, letgo, ite_self, ixN_3_0, ixN_3_1, ixN_3_2, atI_0, atI_1, atI_2, atI_3, List.getElem?_cons_zero, List.getElem?_cons_succ, List.set_cons_zero, List.set_cons_succ, List.length_cons, List.length_nil, List.length_map, Option.bind_some, Option.map_some, List.nil_append, List.cons_append, List.length_singleton, Nat.zero_add, Nat.reduceAdd, Nat.reduceLT, Nat.reduceLeDiff, Nat.zero_le, if_false, if_true, Bool.false_eq_true, Bool.true_eq_false, Bool.not_true, Bool.not_false, reduceCtorEq, true_and, and_true, forall_const, false_and, and_false, false_implies, not_false_eq_true, not_true_eq_false, decide_true, decide_false, decide_eq_true_eq, decide_eq_false_iff_not, isi_none_int, isi_none_bool, isi_none_str, isi_none_tuple, isi_none_list, isi_none_list_tuple, isi_none_tuple_list, isi_bl_int, isi_bl_bool, isi_bl_str, isi_bl_tuple, isi_bl_list, isi_bl_list_tuple, isi_bl_tuple_list, isi_int_int, isi_int_bool, isi_int_str, isi_int_tuple, isi_int_list, isi_int_list_tuple, isi_int_tuple_list, isi_str_int, isi_str_bool, isi_str_str, isi_str_tuple, isi_str_list, isi_str_list_tuple, isi_str_tuple_list, isi_tup_int, isi_tup_bool, isi_tup_str, isi_tup_tuple, isi_tup_list, isi_tup_list_tuple, isi_tup_tuple_list, isi_lst_int, isi_lst_bool, isi_lst_str, isi_lst_tuple, isi_lst_list, isi_lst_list_tuple, isi_lst_tuple_list, cmp_eq_ii, cmp_ne_ii, cmp_eq_bb, cmp_ne_bb, cmp_lt, cmp_le, cmp_gt, cmp_ge, cmp_ni_ii, ne_consP, idx_lastP]
    with_reducible refine rp_cl hcl (crooked_spec l1 l2 (fun ho => ?_) (fun ho k => ?_))
    · try simp -implicitDefEqProofs only [wp_bind, wp_pure, wp_bad, wp_getS, wp_asB, wp_slotOpd, wp_rdSlot, wp_rdVar, wp_rdRet, wp_resV, wp_resS, wp_ress0, wp_ress, wp_setR, wp_setρ, wp_call, wp_setAt, wp_opd, wp_dat, wp_shr, wp_ownL, wp_popAt, wp_popLast, wp_app, wp_ins, wp_bindTup, wp_bindTs0, wp_bindTs, wp_bindNm, wp_blk, w_var, w_con, w_tup, w_lst, w_shr, w_bin, w_cmp, w_idx, w_cmp2, w_and2, w_or2, w_not1, w_ife, w_sli, w_call, w_blt, w_isi, w_lc, w_popk, w_popl, w_isN, w_neg, Z.w_rev, w_part0, w_part1, w_ds0, w_ds, w_os0, w_os, w_cs0, w_cs, line, w_asg, w_asgT, w_aug, w_setI, w_augI, w_lc2, w_app, w_ins, w_ext, w_expr, w_ret, w_retN, w_if, w_forE, w_whil, w_brk, w_cont, w_pass, w_ss0, w_ss, fw_nx, fw_brk, fw_cont, fw_ret, nn_none, nn_int, nn_bl, nn_str, nn_tup, nn_lst, ol_lst, op_some, op_none, op_ite, ob_bl, oi_int, sl_pu, sl_ow, al_ow, al_obj, so_lst, opdV, retV, endQ, letgo, ite_self, ixN_3_0, ixN_3_1, ixN_3_2, atI_0, atI_1, atI_2, atI_3, List.getElem?_cons_zero, List.getElem?_cons_succ, List.set_cons_zero, List.set_cons_succ, List.length_cons, List.length_nil, List.length_map, Option.bind_some, Option.map_some, List.nil_append, List.cons_append, List.length_singleton, Nat.zero_add, Nat.reduceAdd, Nat.reduceLT, Nat.reduceLeDiff, Nat.zero_le, if_false, if_true, Bool.false_eq_true, Bool.true_eq_false, Bool.not_true, Bool.not_false, reduceCtorEq, true_and, and_true, forall_const, false_and, and_false, false_implies, not_false_eq_true, not_true_eq_false, decide_true, decide_false, decide_eq_true_eq, decide_eq_false_iff_not, isi_none_int, isi_none_bool, isi_none_str, isi_none_tuple, isi_none_list, isi_none_list_tuple, isi_none_tuple_list, isi_bl_int, isi_bl_bool, isi_bl_str, isi_bl_tuple, isi_bl_list, isi_bl_list_tuple, isi_bl_tuple_list, isi_int_int, isi_int_bool, isi_int_str, isi_int_tuple, isi_int_list, isi_int_list_tuple, isi_int_tuple_list, isi_str_int, isi_str_bool, isi_str_str, isi_str_tuple, isi_str_list, isi_str_list_tuple, isi_str_tuple_list, isi_tup_int, isi_tup_bool, isi_tup_str, isi_tup_tuple, isi_tup_list, isi_tup_list_tuple, isi_tup_tuple_list, isi_lst_int, isi_lst_bool, isi_lst_str, isi_lst_tuple, isi_lst_list, isi_lst_list_tuple, isi_lst_tuple_list, cmp_eq_ii, cmp_ne_ii, cmp_eq_bb, cmp_ne_bb, cmp_lt, cmp_le, cmp_gt, cmp_ge, cmp_ni_ii]
      exact h2 ho _ _ _
    · try simp -implicitDefEqProofs only [wp_bind, wp_pure, wp_bad, wp_getS, wp_asB, wp_slotOpd, wp_rdSlot, wp_rdVar, wp_rdRet, wp_resV, wp_resS, wp_ress0, wp_ress, wp_setR, wp_setρ, wp_call, wp_setAt, wp_opd, wp_dat, wp_shr, wp_ownL, wp_popAt, wp_popLast, wp_app, wp_ins, wp_bindTup, wp_bindTs0, wp_bindTs, wp_bindNm, wp_blk, w_var, w_con, w_tup, w_lst, w_shr, w_bin, w_cmp, w_idx, w_cmp2, w_and2, w_or2, w_not1, w_ife, w_sli, w_call, w_blt, w_isi, w_lc, w_popk, w_popl, w_isN, w_neg, Z.w_rev, w_part0, w_part1, w_ds0, w_ds, w_os0, w_os, w_cs0, w_cs, line, w_asg, w_asgT, w_aug, w_setI, w_augI, w_lc2, w_app, w_ins, w_ext, w_expr, w_ret, w_retN, w_if, w_forE, w_whil, w_brk, w_cont, w_pass, w_ss0, w_ss, fw_nx, fw_brk, fw_cont, fw_ret, nn_none, nn_int, nn_bl, nn_str, nn_tup, nn_lst, ol_lst, op_some, op_none, op_ite, ob_bl, oi_int, sl_pu, sl_ow, al_ow, al_obj, so_lst, opdV, retV, endQ, letgo, ite_self, ixN_3_0, ixN_3_1, ixN_3_2, atI_0, atI_1, atI_2, atI_3, List.getElem?_cons_zero, List.getElem?_cons_succ, List.set_cons_zero, List.set_cons_succ, List.length_cons, List.length_nil, List.length_map, Option.bind_some, Option.map_some, List.nil_append, List.cons_append, List.length_singleton, Nat.zero_add, Nat.reduceAdd, Nat.reduceLT, Nat.reduceLeDiff, Nat.zero_le, if_false, if_true, Bool.false_eq_true, Bool.true_eq_false, Bool.not_true, Bool.not_false, reduceCtorEq, true_and, and_true, forall_const, false_and, and_false, false_implies, not_false_eq_true, not_true_eq_false, decide_true, decide_false, decide_eq_true_eq, decide_eq_false_iff_not, isi_none_int, isi_none_bool, isi_none_str, isi_none_tuple, isi_none_list, isi_none_list_tuple, isi_none_tuple_list, isi_bl_int, isi_bl_bool, isi_bl_str, isi_bl_tuple, isi_bl_list, isi_bl_list_tuple, isi_bl_tuple_list, isi_int_int, isi_int_bool, isi_int_str, isi_int_tuple, isi_int_list, isi_int_list_tuple, isi_int_tuple_list, isi_str_int, isi_str_bool, isi_str_str, isi_str_tuple, isi_str_list, isi_str_list_tuple, isi_str_tuple_list, isi_tup_int, isi_tup_bool, isi_tup_str, isi_tup_tuple, isi_tup_list, isi_tup_list_tuple, isi_tup_tuple_list, isi_lst_int, isi_lst_bool, isi_lst_str, isi_lst_tuple, isi_lst_list, isi_lst_list_tuple, isi_lst_tuple_list, cmp_eq_ii, cmp_ne_ii, cmp_eq_bb, cmp_ne_bb, cmp_lt, cmp_le, cmp_gt, cmp_ge, cmp_ni_ii]
      exact h1 ho
theorem can_come_spec {n s : Nat} {st : List SO} {p : P} {b : B} {c : List Int} {Q : Rs → List SO → Prop} (hs : s = 2 ∨ s = 3) (hp : ∀ x ∈ p, Br s x) (hb : Br s b) (hc : c.length = 8) (hne : left p c ≠ []) (h : Q (.bl (cc c p b), false) st) : Rp (callF fns wf (n + 2) 3 [encP p, encB b, .tup (c.map .int)] st) Q := by
  with_reducible refine c_can_come fun cl hcl => ?_
  rw [cc_eq] at h
  have e : b_can_come = .ife (.and2 (.cmp .ne (.var 0) (.tup [])) (.isN true (.call 0 [(.idx (.var 0) (.neg (.con (.int 1)))), (.var 1)]))) [.ret (.con (.bl false))] [] :: b_can_come.tail := rfl
  rw [e]
  refine cc_head hcl hs hp hb (fun ho => ?_) (fun ho x3 x4 x5 => ?_)
  · rw [ho, Bool.false_and] at h
    exact h
  · rw [ho, Bool.true_and] at h
    exact can_come_fin hcl hs hp hb hc hne h
end G

namespace G
open PySem PySem.Spec PyProof.Rows L2 Z SP
theorem pow2_line {k : Nat} (h : k ≤ 23) : 2 ^ k ≤ 8388608 := by
  have : (2 : Nat) ^ k ≤ 2 ^ 23 := Nat.pow_le_pow_right (by decide) h
  omega
theorem sorted_list {d' : List SO} {ds : List D} (h : sortOk ds = true) : bltD d' .sorted [.lst ds] = some (.lst (ds.mergeSort leD), true) := by
  show (if sortOk ds = true then some (D.lst (ds.mergeSort leD), true) else none) = _
  rw [if_pos h]
theorem bin_ll {x y : List D} (h : x.length + y.length ≤ line) : binD .add (.lst x) (.lst y) = some (.lst (x ++ y), true) := by
  show (if x.length + y.length ≤ line then some (D.lst (x ++ y), true) else none) = _
  rw [if_pos h]
theorem bin_tt {x y : List D} (h : x.length + y.length ≤ line) : binD .add (.tup x) (.tup y) = some (.tup (x ++ y), false) := by
  show (if x.length + y.length ≤ line then some (D.tup (x ++ y), false) else none) = _
  rw [if_pos h]
theorem chs_len (many : Nat) : ∀ (ks : List Int) (found : List B), (chs many ks found).length ≤ found.length * 2 ^ ks.length
  | [], found => by simp [chs]
  | k :: ks, found => by
    unfold chs
    have := chs_len many ks (found ++ (found.filter fun b => decide (b.length < many)).map fun b => b ++ [k])
    have h2 := List.length_filter_le (fun b : B => decide (b.length < many)) found
    rw [List.length_append, List.length_map] at this
    refine Nat.le_trans this ?_
    rw [List.length_cons, Nat.pow_succ]
    have : (found.length + (found.filter fun b => decide (b.length < many)).length) * 2 ^ ks.length ≤ (found.length * 2) * 2 ^ ks.length := Nat.mul_le_mul_right _ (by omega)
    rw [Nat.mul_assoc, Nat.mul_comm 2] at this
    exact this
theorem chs_snoc (many : Nat) : ∀ (ks : List Int) (found : List B) (k : Int), chs many (ks ++ [k]) found = (chs many ks found) ++ ((chs many ks found).filter fun b => decide (b.length < many)).map fun b => b ++ [k]
  | [], found, k => by simp [chs]
  | x :: ks, found, k => by
    rw [List.cons_append]
    unfold chs
    exact chs_snoc many ks _ k
/-- choices: some order of them -/
theorem choices_spec {n m : Nat} {many : Int} (hmm : many = (m : Int)) {st : List SO} {row : List Int} {Q : Rs → List SO → Prop} (hr : row.length ≤ 8) (hm : 0 < m) (hm2 : m ≤ 1000) (h : ∀ l : List B, l.Perm ((chs m row [[]]).filter fun b => decide (b.length = m)) → Q (.lst (l.map encB), true) st) : Rp (callF fns wf (n + 1) 1 [.tup (row.map .int), .int many] st) Q := by
  with_reducible refine c_choices fun cl hcl => ?_
  unfold b_choices
  try simp -implicitDefEqProofs only [wp_bind, wp_pure, wp_bad, wp_getS, wp_asB, wp_slotOpd, wp_rdSlot, wp_rdVar, wp_rdRet, wp_resV, wp_resS, wp_ress0, wp_ress, wp_setR, wp_setρ, wp_call, wp_setAt, wp_opd, wp_dat, wp_shr, wp_ownL, wp_popAt, wp_popLast, wp_app, wp_ins, wp_bindTup, wp_bindTs0, wp_bindTs, wp_bindNm, wp_blk, w_var, w_con, w_tup, w_lst, w_shr, w_bin, w_cmp, w_idx, w_cmp2, w_and2, w_or2, w_not1, w_ife, w_sli, w_call, w_blt, w_isi, w_lc, w_popk, w_popl, w_isN, w_neg, Z.w_rev, w_part0, w_part1, w_ds0, w_ds, w_os0, w_os, w_cs0, w_cs, line, w_asg, w_asgT, w_aug, w_setI, w_augI, w_lc2, w_app, w_ins, w_ext, w_expr, w_ret, w_retN, w_if, w_forE, w_whil, w_brk, w_cont, w_pass, w_ss0, w_ss, fw_nx, fw_brk, fw_cont, fw_ret, nn_none, nn_int, nn_bl, nn_str, nn_tup, nn_lst, ol_lst, op_some, op_none, op_ite, ob_bl, oi_int, sl_pu, sl_ow, al_ow, al_obj, so_lst, opdV, retV, endQ, letgo, ite_self, ixN_3_0, ixN_3_1, ixN_3_2, atI_0, atI_1, atI_2, atI_3, List.getElem?_cons_zero, List.getElem?_cons_succ, List.set_cons_zero, List.set_cons_succ, List.length_cons, List.length_nil, List.length_map, Option.bind_some, Option.map_some, List.nil_append, List.cons_append, List.length_singleton, Nat.zero_add, Nat.reduceAdd, Nat.reduceLT, Nat.reduceLeDiff, Nat.zero_le, if_false, if_true, Bool.false_eq_true, Bool.true_eq_false, Bool.not_true, Bool.not_false, reduceCtorEq, true_and, and_true, forall_const, false_and, and_false, false_implies, not_false_eq_true, not_true_eq_false, decide_true, decide_false, decide_eq_true_eq, decide_eq_false_iff_not, isi_none_int, isi_none_bool, isi_none_str, isi_none_tuple, isi_none_list, isi_none_list_tuple, isi_none_tuple_list, isi_bl_int, isi_bl_bool, isi_bl_str, isi_bl_tuple, isi_bl_list, isi_bl_list_tuple, isi_bl_tuple_list, isi_int_int, isi_int_bool, isi_int_str, isi_int_tuple, isi_int_list, isi_int_list_tuple, isi_int_tuple_list, isi_str_int, isi_str_bool, isi_str_str, isi_str_tuple, isi_str_list, isi_str_list_tuple, isi_str_tuple_list, isi_tup_int, isi_tup_bool, isi_tup_str, isi_tup_tuple, isi_tup_list, isi_tup_list_tuple, isi_tup_tuple_list, isi_lst_int, isi_lst_bool, isi_lst_str, isi_lst_tuple, isi_lst_list, isi_lst_list_tuple, isi_lst_tuple_list, cmp_eq_ii, cmp_ne_ii, cmp_eq_bb, cmp_ne_bb, cmp_lt, cmp_le, cmp_gt, cmp_ge, cmp_ni_ii, itemsD, it1, seqI]
  have lenok : ∀ ks : List Int, ks.length ≤ 8 → (chs m ks [[]]).length ≤ 256 := fun ks hk => by
    have := chs_len m ks [[]]
    have h2 : 2 ^ ks.length ≤ 2 ^ 8 := Nat.pow_le_pow_right (by decide) hk
    simp only [List.length_singleton, Nat.one_mul] at this
    omega
  refine wp_for_fold0 D.int (fun dn s => ∃ x y, s = ⟨[.pu (.tup (row.map .int)), .pu (.int many), .ow (.lst ((chs m dn [[]]).map encB)), x, y], st⟩) ⟨_, _, rfl⟩ ?_ ?_
  · rintro dn k r hr' s ⟨x, y0, rfl⟩
    have hdn : dn.length ≤ 8 := by
      rw [hr', List.length_append] at hr
      omega
    try simp -implicitDefEqProofs only [wp_bind, wp_pure, wp_bad, wp_getS, wp_asB, wp_slotOpd, wp_rdSlot, wp_rdVar, wp_rdRet, wp_resV, wp_resS, wp_ress0, wp_ress, wp_setR, wp_setρ, wp_call, wp_setAt, wp_opd, wp_dat, wp_shr, wp_ownL, wp_popAt, wp_popLast, wp_app, wp_ins, wp_bindTup, wp_bindTs0, wp_bindTs, wp_bindNm, wp_blk, w_var, w_con, w_tup, w_lst, w_shr, w_bin, w_cmp, w_idx, w_cmp2, w_and2, w_or2, w_not1, w_ife, w_sli, w_call, w_blt, w_isi, w_lc, w_popk, w_popl, w_isN, w_neg, Z.w_rev, w_part0, w_part1, w_ds0, w_ds, w_os0, w_os, w_cs0, w_cs, line, w_asg, w_asgT, w_aug, w_setI, w_augI, w_lc2, w_app, w_ins, w_ext, w_expr, w_ret, w_retN, w_if, w_forE, w_whil, w_brk, w_cont, w_pass, w_ss0, w_ss, fw_nx, fw_brk, fw_cont, fw_ret, nn_none, nn_int, nn_bl, nn_str, nn_tup, nn_lst, ol_lst, op_some, op_none, op_ite, ob_bl, oi_int, sl_pu, sl_ow, al_ow, al_obj, so_lst, opdV, retV, endQ, letgo, ite_self, ixN_3_0, ixN_3_1, ixN_3_2, atI_0, atI_1, atI_2, atI_3, List.getElem?_cons_zero, List.getElem?_cons_succ, List.set_cons_zero, List.set_cons_succ, List.length_cons, List.length_nil, List.length_map, Option.bind_some, Option.map_some, List.nil_append, List.cons_append, List.length_singleton, Nat.zero_add, Nat.reduceAdd, Nat.reduceLT, Nat.reduceLeDiff, Nat.zero_le, if_false, if_true, Bool.false_eq_true, Bool.true_eq_false, Bool.not_true, Bool.not_false, reduceCtorEq, true_and, and_true, forall_const, false_and, and_false, false_implies, not_false_eq_true, not_true_eq_false, decide_true, decide_false, decide_eq_true_eq, decide_eq_false_iff_not, isi_none_int, isi_none_bool, isi_none_str, isi_none_tuple, isi_none_list, isi_none_list_tuple, isi_none_tuple_list, isi_bl_int, isi_bl_bool, isi_bl_str, isi_bl_tuple, isi_bl_list, isi_bl_list_tuple, isi_bl_tuple_list, isi_int_int, isi_int_bool, isi_int_str, isi_int_tuple, isi_int_list, isi_int_list_tuple, isi_int_tuple_list, isi_str_int, isi_str_bool, isi_str_str, isi_str_tuple, isi_str_list, isi_str_list_tuple, isi_str_tuple_list, isi_tup_int, isi_tup_bool, isi_tup_str, isi_tup_tuple, isi_tup_list, isi_tup_list_tuple, isi_tup_tuple_list, isi_lst_int, isi_lst_bool, isi_lst_str, isi_lst_tuple, isi_lst_list, isi_lst_list_tuple, isi_lst_tuple_list, cmp_eq_ii, cmp_ne_ii, cmp_eq_bb, cmp_ne_bb, cmp_lt, cmp_le, cmp_gt, cmp_ge, cmp_ni_ii, itemsD, it1, seqI]
    refine wp_lc_map encB (fun b => decide (b.length < m)) (fun b => encB (b ++ [k])) (fun s => ∃ y, s = ⟨[.pu (.tup (row.map .int)), .pu (.int many), .pu (.lst ((chs m dn [[]]).map encB)), .pu (.int k), y], st⟩) ⟨_, rfl⟩ (by have := lenok dn hdn; rw [line_eq']; simp; omega) ?_ ?_
    · rintro b hb s ⟨y, rfl⟩
      unfold encB
      try simp -implicitDefEqProofs only [wp_bind, wp_pure, wp_bad, wp_getS, wp_asB, wp_slotOpd, wp_rdSlot, wp_rdVar, wp_rdRet, wp_resV, wp_resS, wp_ress0, wp_ress, wp_setR, wp_setρ, wp_call, wp_setAt, wp_opd, wp_dat, wp_shr, wp_ownL, wp_popAt, wp_popLast, wp_app, wp_ins, wp_bindTup, wp_bindTs0, wp_bindTs, wp_bindNm, wp_blk, w_var, w_con, w_tup, w_lst, w_shr, w_bin, w_cmp, w_idx, w_cmp2, w_and2, w_or2, w_not1, w_ife, w_sli, w_call, w_blt, w_isi, w_lc, w_popk, w_popl, w_isN, w_neg, Z.w_rev, w_part0, w_part1, w_ds0, w_ds, w_os0, w_os, w_cs0, w_cs, line, w_asg, w_asgT, w_aug, w_setI, w_augI, w_lc2, w_app, w_ins, w_ext, w_expr, w_ret, w_retN, w_if, w_forE, w_whil, w_brk, w_cont, w_pass, w_ss0, w_ss, fw_nx, fw_brk, fw_cont, fw_ret, nn_none, nn_int, nn_bl, nn_str, nn_tup, nn_lst, ol_lst, op_some, op_none, op_ite, ob_bl, oi_int, sl_pu, sl_ow, al_ow, al_obj, so_lst, opdV, retV, endQ, letgo, ite_self, ixN_3_0, ixN_3_1, ixN_3_2, atI_0, atI_1, atI_2, atI_3, List.getElem?_cons_zero, List.getElem?_cons_succ, List.set_cons_zero, List.set_cons_succ, List.length_cons, List.length_nil, List.length_map, Option.bind_some, Option.map_some, List.nil_append, List.cons_append, List.length_singleton, Nat.zero_add, Nat.reduceAdd, Nat.reduceLT, Nat.reduceLeDiff, Nat.zero_le, if_false, if_true, Bool.false_eq_true, Bool.true_eq_false, Bool.not_true, Bool.not_false, reduceCtorEq, true_and, and_true, forall_const, false_and, and_false, false_implies, not_false_eq_true, not_true_eq_false, decide_true, decide_false, decide_eq_true_eq, decide_eq_false_iff_not, isi_none_int, isi_none_bool, isi_none_str, isi_none_tuple, isi_none_list, isi_none_list_tuple, isi_none_tuple_list, isi_bl_int, isi_bl_bool, isi_bl_str, isi_bl_tuple, isi_bl_list, isi_bl_list_tuple, isi_bl_tuple_list, isi_int_int, isi_int_bool, isi_int_str, isi_int_tuple, isi_int_list, isi_int_list_tuple, isi_int_tuple_list, isi_str_int, isi_str_bool, isi_str_str, isi_str_tuple, isi_str_list, isi_str_list_tuple, isi_str_tuple_list, isi_tup_int, isi_tup_bool, isi_tup_str, isi_tup_tuple, isi_tup_list, isi_tup_list_tuple, isi_tup_tuple_list, isi_lst_int, isi_lst_bool, isi_lst_str, isi_lst_tuple, isi_lst_list, isi_lst_list_tuple, isi_lst_tuple_list, cmp_eq_ii, cmp_ne_ii, cmp_eq_bb, cmp_ne_bb, cmp_lt, cmp_le, cmp_gt, cmp_ge, cmp_ni_ii, wp_wipe, List.foldr_cons, List.foldr_nil, bltD, on1, lenD, seqD]
      refine ⟨fun e => ?_, fun e => ?_⟩
      · have e' : b.length < m := by omega
        try simp -implicitDefEqProofs only [wp_bind, wp_pure, wp_bad, wp_getS, wp_asB, wp_slotOpd, wp_rdSlot, wp_rdVar, wp_rdRet, wp_resV, wp_resS, wp_ress0, wp_ress, wp_setR, wp_setρ, wp_call, wp_setAt, wp_opd, wp_dat, wp_shr, wp_ownL, wp_popAt, wp_popLast, wp_app, wp_ins, wp_bindTup, wp_bindTs0, wp_bindTs, wp_bindNm, wp_blk, w_var, w_con, w_tup, w_lst, w_shr, w_bin, w_cmp, w_idx, w_cmp2, w_and2, w_or2, w_not1, w_ife, w_sli, w_call, w_blt, w_isi, w_lc, w_popk, w_popl, w_isN, w_neg, Z.w_rev, w_part0, w_part1, w_ds0, w_ds, w_os0, w_os, w_cs0, w_cs, line, w_asg, w_asgT, w_aug, w_setI, w_augI, w_lc2, w_app, w_ins, w_ext, w_expr, w_ret, w_retN, w_if, w_forE, w_whil, w_brk, w_cont, w_pass, w_ss0, w_ss, fw_nx, fw_brk, fw_cont, fw_ret, nn_none, nn_int, nn_bl, nn_str, nn_tup, nn_lst, ol_lst, op_some, op_none, op_ite, ob_bl, oi_int, sl_pu, sl_ow, al_ow, al_obj, so_lst, opdV, retV, endQ, letgo, ite_self, ixN_3_0, ixN_3_1, ixN_3_2, atI_0, atI_1, atI_2, atI_3, List.getElem?_cons_zero, List.getElem?_cons_succ, List.set_cons_zero, List.set_cons_succ, List.length_cons, List.length_nil, List.length_map, Option.bind_some, Option.map_some, List.nil_append, List.cons_append, List.length_singleton, Nat.zero_add, Nat.reduceAdd, Nat.reduceLT, Nat.reduceLeDiff, Nat.zero_le, if_false, if_true, Bool.false_eq_true, Bool.true_eq_false, Bool.not_true, Bool.not_false, reduceCtorEq, true_and, and_true, forall_const, false_and, and_false, false_implies, not_false_eq_true, not_true_eq_false, decide_true, decide_false, decide_eq_true_eq, decide_eq_false_iff_not, isi_none_int, isi_none_bool, isi_none_str, isi_none_tuple, isi_none_list, isi_none_list_tuple, isi_none_tuple_list, isi_bl_int, isi_bl_bool, isi_bl_str, isi_bl_tuple, isi_bl_list, isi_bl_list_tuple, isi_bl_tuple_list, isi_int_int, isi_int_bool, isi_int_str, isi_int_tuple, isi_int_list, isi_int_list_tuple, isi_int_tuple_list, isi_str_int, isi_str_bool, isi_str_str, isi_str_tuple, isi_str_list, isi_str_list_tuple, isi_str_tuple_list, isi_tup_int, isi_tup_bool, isi_tup_str, isi_tup_tuple, isi_tup_list, isi_tup_list_tuple, isi_tup_tuple_list, isi_lst_int, isi_lst_bool, isi_lst_str, isi_lst_tuple, isi_lst_list, isi_lst_list_tuple, isi_lst_tuple_list, cmp_eq_ii, cmp_ne_ii, cmp_eq_bb, cmp_ne_bb, cmp_lt, cmp_le, cmp_gt, cmp_ge, cmp_ni_ii, bin_tt (x := b.map D.int) (y := [D.int k]) (by rw [line_eq']; simp; omega)]
        refine ⟨(decide_eq_true e').symm, by rw [List.map_append]; rfl, _, rfl⟩
      · exact ⟨(decide_eq_false (by omega)).symm, _, rfl⟩
    · rintro s ⟨y, rfl⟩
      have hl : ((chs m dn [[]]).filter fun b => decide (b.length < m)).length ≤ (chs m dn [[]]).length := List.length_filter_le _ _
      try simp -implicitDefEqProofs only [wp_bind, wp_pure, wp_bad, wp_getS, wp_asB, wp_slotOpd, wp_rdSlot, wp_rdVar, wp_rdRet, wp_resV, wp_resS, wp_ress0, wp_ress, wp_setR, wp_setρ, wp_call, wp_setAt, wp_opd, wp_dat, wp_shr, wp_ownL, wp_popAt, wp_popLast, wp_app, wp_ins, wp_bindTup, wp_bindTs0, wp_bindTs, wp_bindNm, wp_blk, w_var, w_con, w_tup, w_lst, w_shr, w_bin, w_cmp, w_idx, w_cmp2, w_and2, w_or2, w_not1, w_ife, w_sli, w_call, w_blt, w_isi, w_lc, w_popk, w_popl, w_isN, w_neg, Z.w_rev, w_part0, w_part1, w_ds0, w_ds, w_os0, w_os, w_cs0, w_cs, line, w_asg, w_asgT, w_aug, w_setI, w_augI, w_lc2, w_app, w_ins, w_ext, w_expr, w_ret, w_retN, w_if, w_forE, w_whil, w_brk, w_cont, w_pass, w_ss0, w_ss, fw_nx, fw_brk, fw_cont, fw_ret, nn_none, nn_int, nn_bl, nn_str, nn_tup, nn_lst, ol_lst, op_some, op_none, op_ite, ob_bl, oi_int, sl_pu, sl_ow, al_ow, al_obj, so_lst, opdV, retV, endQ, letgo, ite_self, ixN_3_0, ixN_3_1, ixN_3_2, atI_0, atI_1, atI_2, atI_3, List.getElem?_cons_zero, List.getElem?_cons_succ, List.set_cons_zero, List.set_cons_succ, List.length_cons, List.length_nil, List.length_map, Option.bind_some, Option.map_some, List.nil_append, List.cons_append, List.length_singleton, Nat.zero_add, Nat.reduceAdd, Nat.reduceLT, Nat.reduceLeDiff, Nat.zero_le, if_false, if_true, Bool.false_eq_true, Bool.true_eq_false, Bool.not_true, Bool.not_false, reduceCtorEq, true_and, and_true, forall_const, false_and, and_false, false_implies, not_false_eq_true, not_true_eq_false, decide_true, decide_false, decide_eq_true_eq, decide_eq_false_iff_not, isi_none_int, isi_none_bool, isi_none_str, isi_none_tuple, isi_none_list, isi_none_list_tuple, isi_none_tuple_list, isi_bl_int, isi_bl_bool, isi_bl_str, isi_bl_tuple, isi_bl_list, isi_bl_list_tuple, isi_bl_tuple_list, isi_int_int, isi_int_bool, isi_int_str, isi_int_tuple, isi_int_list, isi_int_list_tuple, isi_int_tuple_list, isi_str_int, isi_str_bool, isi_str_str, isi_str_tuple, isi_str_list, isi_str_list_tuple, isi_str_tuple_list, isi_tup_int, isi_tup_bool, isi_tup_str, isi_tup_tuple, isi_tup_list, isi_tup_list_tuple, isi_tup_tuple_list, isi_lst_int, isi_lst_bool, isi_lst_str, isi_lst_tuple, isi_lst_list, isi_lst_list_tuple, isi_lst_tuple_list, cmp_eq_ii, cmp_ne_ii, cmp_eq_bb, cmp_ne_bb, cmp_lt, cmp_le, cmp_gt, cmp_ge, cmp_ni_ii, unwipe, List.foldr_cons, List.foldr_nil, bin_ll (x := (chs m dn [[]]).map encB) (y := (((chs m dn [[]]).filter fun b => decide (b.length < m)).map fun b => encB (b ++ [k]))) (by have := lenok dn hdn; rw [line_eq']; simp; omega)]
      refine ⟨(by first | exact Or.inl rfl | exact trivial | exact Or.inl trivial | simp), .pu (.int k), y0, ?_⟩
      rw [chs_snoc, List.map_append, List.map_map]
      rfl
  · rintro s ⟨x, y, rfl⟩
    try simp -implicitDefEqProofs only [wp_bind, wp_pure, wp_bad, wp_getS, wp_asB, wp_slotOpd, wp_rdSlot, wp_rdVar, wp_rdRet, wp_resV, wp_resS, wp_ress0, wp_ress, wp_setR, wp_setρ, wp_call, wp_setAt, wp_opd, wp_dat, wp_shr, wp_ownL, wp_popAt, wp_popLast, wp_app, wp_ins, wp_bindTup, wp_bindTs0, wp_bindTs, wp_bindNm, wp_blk, w_var, w_con, w_tup, w_lst, w_shr, w_bin, w_cmp, w_idx, w_cmp2, w_and2, w_or2, w_not1, w_ife, w_sli, w_call, w_blt, w_isi, w_lc, w_popk, w_popl, w_isN, w_neg, Z.w_rev, w_part0, w_part1, w_ds0, w_ds, w_os0, w_os, w_cs0, w_cs, line, w_asg, w_asgT, w_aug, w_setI, w_augI, w_lc2, w_app, w_ins, w_ext, w_expr, w_ret, w_retN, w_if, w_forE, w_whil, w_brk, w_cont, w_pass, w_ss0, w_ss, fw_nx, fw_brk, fw_cont, fw_ret, nn_none, nn_int, nn_bl, nn_str, nn_tup, nn_lst, ol_lst, op_some, op_none, op_ite, ob_bl, oi_int, sl_pu, sl_ow, al_ow, al_obj, so_lst, opdV, retV, endQ, letgo, ite_self, ixN_3_0, ixN_3_1, ixN_3_2, atI_0, atI_1, atI_2, atI_3, List.getElem?_cons_zero, List.getElem?_cons_succ, List.set_cons_zero, List.set_cons_succ, List.length_cons, List.length_nil, List.length_map, Option.bind_some, Option.map_some, List.nil_append, List.cons_append, List.length_singleton, Nat.zero_add, Nat.reduceAdd, Nat.reduceLT, Nat.reduceLeDiff, Nat.zero_le, if_false, if_true, Bool.false_eq_true, Bool.true_eq_false, Bool.not_true, Bool.not_false, reduceCtorEq, true_and, and_true, forall_const, false_and, and_false, false_implies, not_false_eq_true, not_true_eq_false, decide_true, decide_false, decide_eq_true_eq, decide_eq_false_iff_not, isi_none_int, isi_none_bool, isi_none_str, isi_none_tuple, isi_none_list, isi_none_list_tuple, isi_none_tuple_list, isi_bl_int, isi_bl_bool, isi_bl_str, isi_bl_tuple, isi_bl_list, isi_bl_list_tuple, isi_bl_tuple_list, isi_int_int, isi_int_bool, isi_int_str, isi_int_tuple, isi_int_list, isi_int_list_tuple, isi_int_tuple_list, isi_str_int, isi_str_bool, isi_str_str, isi_str_tuple, isi_str_list, isi_str_list_tuple, isi_str_tuple_list, isi_tup_int, isi_tup_bool, isi_tup_str, isi_tup_tuple, isi_tup_list, isi_tup_list_tuple, isi_tup_tuple_list, isi_lst_int, isi_lst_bool, isi_lst_str, isi_lst_tuple, isi_lst_list, isi_lst_list_tuple, isi_lst_tuple_list, cmp_eq_ii, cmp_ne_ii, cmp_eq_bb, cmp_ne_bb, cmp_lt, cmp_le, cmp_gt, cmp_ge, cmp_ni_ii, itemsD, it1, seqI]
    refine wp_lc_map encB (fun b => decide (b.length = m)) encB (fun s => ∃ y, s = ⟨[.pu (.tup (row.map .int)), .pu (.int many), .pu (.lst ((chs m row [[]]).map encB)), x, y], st⟩) ⟨_, rfl⟩ (by have := lenok row hr; rw [line_eq']; simp; omega) ?_ ?_
    · rintro b hb s ⟨y, rfl⟩
      have hfit := enB.fit (by decide) b
      try simp -implicitDefEqProofs only [wp_bind, wp_pure, wp_bad, wp_getS, wp_asB, wp_slotOpd, wp_rdSlot, wp_rdVar, wp_rdRet, wp_resV, wp_resS, wp_ress0, wp_ress, wp_setR, wp_setρ, wp_call, wp_setAt, wp_opd, wp_dat, wp_shr, wp_ownL, wp_popAt, wp_popLast, wp_app, wp_ins, wp_bindTup, wp_bindTs0, wp_bindTs, wp_bindNm, wp_blk, w_var, w_con, w_tup, w_lst, w_shr, w_bin, w_cmp, w_idx, w_cmp2, w_and2, w_or2, w_not1, w_ife, w_sli, w_call, w_blt, w_isi, w_lc, w_popk, w_popl, w_isN, w_neg, Z.w_rev, w_part0, w_part1, w_ds0, w_ds, w_os0, w_os, w_cs0, w_cs, line, w_asg, w_asgT, w_aug, w_setI, w_augI, w_lc2, w_app, w_ins, w_ext, w_expr, w_ret, w_retN, w_if, w_forE, w_whil, w_brk, w_cont, w_pass, w_ss0, w_ss, fw_nx, fw_brk, fw_cont, fw_ret, nn_none, nn_int, nn_bl, nn_str, nn_tup, nn_lst, ol_lst, op_some, op_none, op_ite, ob_bl, oi_int, sl_pu, sl_ow, al_ow, al_obj, so_lst, opdV, retV, endQ, letgo, ite_self, ixN_3_0, ixN_3_1, ixN_3_2, atI_0, atI_1, atI_2, atI_3, List.getElem?_cons_zero, List.getElem?_cons_succ, List.set_cons_zero, List.set_cons_succ, List.length_cons, List.length_nil, List.length_map, Option.bind_some, Option.map_some, List.nil_append, List.cons_append, List.length_singleton, Nat.zero_add, Nat.reduceAdd, Nat.reduceLT, Nat.reduceLeDiff, Nat.zero_le, if_false, if_true, Bool.false_eq_true, Bool.true_eq_false, Bool.not_true, Bool.not_false, reduceCtorEq, true_and, and_true, forall_const, false_and, and_false, false_implies, not_false_eq_true, not_true_eq_false, decide_true, decide_false, decide_eq_true_eq, decide_eq_false_iff_not, isi_none_int, isi_none_bool, isi_none_str, isi_none_tuple, isi_none_list, isi_none_list_tuple, isi_none_tuple_list, isi_bl_int, isi_bl_bool, isi_bl_str, isi_bl_tuple, isi_bl_list, isi_bl_list_tuple, isi_bl_tuple_list, isi_int_int, isi_int_bool, isi_int_str, isi_int_tuple, isi_int_list, isi_int_list_tuple, isi_int_tuple_list, isi_str_int, isi_str_bool, isi_str_str, isi_str_tuple, isi_str_list, isi_str_list_tuple, isi_str_tuple_list, isi_tup_int, isi_tup_bool, isi_tup_str, isi_tup_tuple, isi_tup_list, isi_tup_list_tuple, isi_tup_tuple_list, isi_lst_int, isi_lst_bool, isi_lst_str, isi_lst_tuple, isi_lst_list, isi_lst_list_tuple, isi_lst_tuple_list, cmp_eq_ii, cmp_ne_ii, cmp_eq_bb, cmp_ne_bb, cmp_lt, cmp_le, cmp_gt, cmp_ge, cmp_ni_ii, wp_wipe, List.foldr_cons, List.foldr_nil, bltD, on1, lenD, seqD, encB]
      refine ⟨fun e => ⟨(decide_eq_true (by omega)).symm, _, rfl⟩, fun e => ⟨(decide_eq_false (by omega)).symm, _, rfl⟩⟩
    · rintro s ⟨y, rfl⟩
      have hok : sortOk ((((chs m row [[]]).filter fun b => decide (b.length = m))).map encB) = true := sortOk_b fun p hp e => by
        have := of_decide_eq_true (List.mem_filter.mp hp).2
        rw [e] at this
        simp at this
        omega
      obtain ⟨l, hl, el⟩ := sort_b ((chs m row [[]]).filter fun b => decide (b.length = m))
      try simp -implicitDefEqProofs only [wp_bind, wp_pure, wp_bad, wp_getS, wp_asB, wp_slotOpd, wp_rdSlot, wp_rdVar, wp_rdRet, wp_resV, wp_resS, wp_ress0, wp_ress, wp_setR, wp_setρ, wp_call, wp_setAt, wp_opd, wp_dat, wp_shr, wp_ownL, wp_popAt, wp_popLast, wp_app, wp_ins, wp_bindTup, wp_bindTs0, wp_bindTs, wp_bindNm, wp_blk, w_var, w_con, w_tup, w_lst, w_shr, w_bin, w_cmp, w_idx, w_cmp2, w_and2, w_or2, w_not1, w_ife, w_sli, w_call, w_blt, w_isi, w_lc, w_popk, w_popl, w_isN, w_neg, Z.w_rev, w_part0, w_part1, w_ds0, w_ds, w_os0, w_os, w_cs0, w_cs, line, w_asg, w_asgT, w_aug, w_setI, w_augI, w_lc2, w_app, w_ins, w_ext, w_expr, w_ret, w_retN, w_if, w_forE, w_whil, w_brk, w_cont, w_pass, w_ss0, w_ss, fw_nx, fw_brk, fw_cont, fw_ret, nn_none, nn_int, nn_bl, nn_str, nn_tup, nn_lst, ol_lst, op_some, op_none, op_ite, ob_bl, oi_int, sl_pu, sl_ow, al_ow, al_obj, so_lst, opdV, retV, endQ, letgo, ite_self, ixN_3_0, ixN_3_1, ixN_3_2, atI_0, atI_1, atI_2, atI_3, List.getElem?_cons_zero, List.getElem?_cons_succ, List.set_cons_zero, List.set_cons_succ, List.length_cons, List.length_nil, List.length_map, Option.bind_some, Option.map_some, List.nil_append, List.cons_append, List.length_singleton, Nat.zero_add, Nat.reduceAdd, Nat.reduceLT, Nat.reduceLeDiff, Nat.zero_le, if_false, if_true, Bool.false_eq_true, Bool.true_eq_false, Bool.not_true, Bool.not_false, reduceCtorEq, true_and, and_true, forall_const, false_and, and_false, false_implies, not_false_eq_true, not_true_eq_false, decide_true, decide_false, decide_eq_true_eq, decide_eq_false_iff_not, isi_none_int, isi_none_bool, isi_none_str, isi_none_tuple, isi_none_list, isi_none_list_tuple, isi_none_tuple_list, isi_bl_int, isi_bl_bool, isi_bl_str, isi_bl_tuple, isi_bl_list, isi_bl_list_tuple, isi_bl_tuple_list, isi_int_int, isi_int_bool, isi_int_str, isi_int_tuple, isi_int_list, isi_int_list_tuple, isi_int_tuple_list, isi_str_int, isi_str_bool, isi_str_str, isi_str_tuple, isi_str_list, isi_str_list_tuple, isi_str_tuple_list, isi_tup_int, isi_tup_bool, isi_tup_str, isi_tup_tuple, isi_tup_list, isi_tup_list_tuple, isi_tup_tuple_list, isi_lst_int, isi_lst_bool, isi_lst_str, isi_lst_tuple, isi_lst_list, isi_lst_list_tuple, isi_lst_tuple_list, cmp_eq_ii, cmp_ne_ii, cmp_eq_bb, cmp_ne_bb, cmp_lt, cmp_le, cmp_gt, cmp_ge, cmp_ni_ii, sorted_list hok, el]
      exact h l hl
theorem A_len {c : List Int} {bs : List B} (hb : bs.length = 28 ∨ bs.length = 56) : ∀ t, (A c bs t).length ≤ 56 ^ t
  | 0 => by unfold A; simp
  | t + 1 => by
    unfold A
    rw [List.length_flatMap]
    have h : ∀ l : List P, (l.map fun p => ((bs.filter fun b => cc c p b).map fun b => p ++ [b]).length).sum ≤ l.length * 56 := by
      intro l
      induction l with
      | nil => simp
      | cons p l ih =>
        rw [List.map_cons, List.sum_cons, List.length_cons, List.length_map]
        have := List.length_filter_le (fun b => cc c p b) bs
        omega
    have := h (A c bs t)
    have := A_len (c := c) hb t
    rw [Nat.pow_succ]
    omega
theorem ints_sum {c : List Int} {st : List SO} : bltD st .sum [.tup (c.map .int)] = some (.int c.sum, false) := by
  show ((intsD (c.map D.int)).map fun ns => ((D.int ns.sum, false) : Rs)) = _
  rw [intsD_map]
  rfl
theorem flat_map_A (c : List Int) (bs : List B) (l : List P) : (((l.flatMap fun p => bs.map fun b => (p, b)).filter fun x => cc c x.1 x.2).map fun x => x.1 ++ [x.2]) = l.flatMap fun p => (bs.filter fun b => cc c p b).map fun b => p ++ [b] := by
  induction l with
  | nil => rfl
  | cons p l ih =>
    rw [List.flatMap_cons, List.filter_append, List.map_append, ih, List.flatMap_cons]
    congr 1
    rw [List.filter_map, List.map_map]
    rfl
def enPB (x : P × B) : D := .tup [encP x.1, encB x.2]
/-- all_straight: the program's turns, sorted -/
theorem all_straight_spec {n s T : Nat} {big : Int} {st : List SO} {c : List Int} {Q : Rs → List SO → Prop} (hs : s = 2 ∨ s = 3) (hb : big = (s : Int)) (h8 : c.length = 8) (hc : ∀ k ∈ pts, 0 ≤ get c k) (hT : c.sum = (s : Int) * T) (h4 : T ≤ 4)
    (h : ∀ bs : List B, bs.Perm (brs s) → Q (.lst (((A c bs T).map encP).mergeSort leD), true) st) : Rp (callF fns wf (n + 3) 4 [.tup (c.map .int), .int big] st) Q := by
  with_reducible refine c_all_straight fun cl hcl => ?_
  unfold b_all_straight
  have hs0 : 0 < big := by omega
  have e1 : big.natAbs.log2 < 9000 := by
    rcases hs with rfl | rfl <;> subst hb <;> decide
  have e2 : c.sum % big = 0 := by rw [hT, hb]; exact Int.mul_emod_right _ _
  have e3 : c.sum / big = (T : Int) := by rw [hT, hb]; exact Int.mul_ediv_cancel_left _ (by omega)
  have e4 : ¬ 4 * big < c.sum := by
    rw [hT, hb]
    have : (s : Int) * T ≤ (s : Int) * 4 := Int.mul_le_mul_of_nonneg_left (by omega) (by omega)
    omega
  have m4 : mulOk 4 big = true := mulOk_l (by decide)
  have hp8 : bltD st .trg1 [.int 8] = some (.tup (pts.map .int), false) := rfl
  try simp -implicitDefEqProofs only [wp_bind, wp_pure, wp_bad, wp_getS, wp_asB, wp_slotOpd, wp_rdSlot, wp_rdVar, wp_rdRet, wp_resV, wp_resS, wp_ress0, wp_ress, wp_setR, wp_setρ, wp_call, wp_setAt, wp_opd, wp_dat, wp_shr, wp_ownL, wp_popAt, wp_popLast, wp_app, wp_ins, wp_bindTup, wp_bindTs0, wp_bindTs, wp_bindNm, wp_blk, w_var, w_con, w_tup, w_lst, w_shr, w_bin, w_cmp, w_idx, w_cmp2, w_and2, w_or2, w_not1, w_ife, w_sli, w_call, w_blt, w_isi, w_lc, w_popk, w_popl, w_isN, w_neg, Z.w_rev, w_part0, w_part1, w_ds0, w_ds, w_os0, w_os, w_cs0, w_cs, line, w_asg, w_asgT, w_aug, w_setI, w_augI, w_lc2, w_app, w_ins, w_ext, w_expr, w_ret, w_retN, w_if, w_forE, w_whil, w_brk, w_cont, w_pass, w_ss0, w_ss, fw_nx, fw_brk, fw_cont, fw_ret, nn_none, nn_int, nn_bl, nn_str, nn_tup, nn_lst, ol_lst, op_some, op_none, op_ite, ob_bl, oi_int, sl_pu, sl_ow, al_ow, al_obj, so_lst, opdV, retV, endQ, letgo, ite_self, ixN_3_0, ixN_3_1, ixN_3_2, atI_0, atI_1, atI_2, atI_3, List.getElem?_cons_zero, List.getElem?_cons_succ, List.set_cons_zero, List.set_cons_succ, List.length_cons, List.length_nil, List.length_map, Option.bind_some, Option.map_some, List.nil_append, List.cons_append, List.length_singleton, Nat.zero_add, Nat.reduceAdd, Nat.reduceLT, Nat.reduceLeDiff, Nat.zero_le, if_false, if_true, Bool.false_eq_true, Bool.true_eq_false, Bool.not_true, Bool.not_false, reduceCtorEq, true_and, and_true, forall_const, false_and, and_false, false_implies, not_false_eq_true, not_true_eq_false, decide_true, decide_false, decide_eq_true_eq, decide_eq_false_iff_not, isi_none_int, isi_none_bool, isi_none_str, isi_none_tuple, isi_none_list, isi_none_list_tuple, isi_none_tuple_list, isi_bl_int, isi_bl_bool, isi_bl_str, isi_bl_tuple, isi_bl_list, isi_bl_list_tuple, isi_bl_tuple_list, isi_int_int, isi_int_bool, isi_int_str, isi_int_tuple, isi_int_list, isi_int_list_tuple, isi_int_tuple_list, isi_str_int, isi_str_bool, isi_str_str, isi_str_tuple, isi_str_list, isi_str_list_tuple, isi_str_tuple_list, isi_tup_int, isi_tup_bool, isi_tup_str, isi_tup_tuple, isi_tup_list, isi_tup_list_tuple, isi_tup_tuple_list, isi_lst_int, isi_lst_bool, isi_lst_str, isi_lst_tuple, isi_lst_list, isi_lst_list_tuple, isi_lst_tuple_list, cmp_eq_ii, cmp_ne_ii, cmp_eq_bb, cmp_ne_bb, cmp_lt, cmp_le, cmp_gt, cmp_ge, cmp_ni_ii, ints_sum, binD, hs0, e1, e2, e3, e4, m4, hp8]
  with_reducible refine rp_cl hcl (choices_spec hb (row := pts) (by decide) (by omega) (by omega) fun bs hbs => ?_)
  have hbs : bs.Perm (brs s) := hbs
  have hbr : ∀ b ∈ bs, Br s b := fun b hm => lch_br s hs b (((hbs.trans (brs_perm s hs)).mem_iff).mp hm)
  have hbl : bs.length = 28 ∨ bs.length = 56 := by
    rw [hbs.length_eq]
    rcases hs with rfl | rfl
    · left; decide +kernel
    · right; decide +kernel
  have hT' : (pts.map (get c)).sum = (s : Int) * T := by rw [pts_get h8]; exact hT
  have Alen : ∀ t, t ≤ T → (A c bs t).length ≤ 9834496 := fun t ht => by
    have h1 := A_len (c := c) hbl t
    have h2 : 56 ^ t ≤ 56 ^ 4 := Nat.pow_le_pow_right (by decide) (by omega)
    have h3 : (56 : Nat) ^ 4 = 9834496 := by decide
    omega
  have Alen3 : ∀ t, t < T → (A c bs t).length * 56 ≤ 9834496 := fun t ht => by
    have h1 := A_len (c := c) hbl t
    have h2 : 56 ^ t ≤ 56 ^ 3 := Nat.pow_le_pow_right (by decide) (by omega)
    have h3 : (56 : Nat) ^ 3 = 175616 := by decide
    omega
  have Abr : ∀ t, ∀ p ∈ A c bs t, ∀ b ∈ p, Br s b := fun t p hp b hb => hbr b ((A_mem.mp hp).2.1 b hb)
  try simp -implicitDefEqProofs only [wp_bind, wp_pure, wp_bad, wp_getS, wp_asB, wp_slotOpd, wp_rdSlot, wp_rdVar, wp_rdRet, wp_resV, wp_resS, wp_ress0, wp_ress, wp_setR, wp_setρ, wp_call, wp_setAt, wp_opd, wp_dat, wp_shr, wp_ownL, wp_popAt, wp_popLast, wp_app, wp_ins, wp_bindTup, wp_bindTs0, wp_bindTs, wp_bindNm, wp_blk, w_var, w_con, w_tup, w_lst, w_shr, w_bin, w_cmp, w_idx, w_cmp2, w_and2, w_or2, w_not1, w_ife, w_sli, w_call, w_blt, w_isi, w_lc, w_popk, w_popl, w_isN, w_neg, Z.w_rev, w_part0, w_part1, w_ds0, w_ds, w_os0, w_os, w_cs0, w_cs, line, w_asg, w_asgT, w_aug, w_setI, w_augI, w_lc2, w_app, w_ins, w_ext, w_expr, w_ret, w_retN, w_if, w_forE, w_whil, w_brk, w_cont, w_pass, w_ss0, w_ss, fw_nx, fw_brk, fw_cont, fw_ret, nn_none, nn_int, nn_bl, nn_str, nn_tup, nn_lst, ol_lst, op_some, op_none, op_ite, ob_bl, oi_int, sl_pu, sl_ow, al_ow, al_obj, so_lst, opdV, retV, endQ, letgo, ite_self, ixN_3_0, ixN_3_1, ixN_3_2, atI_0, atI_1, atI_2, atI_3, List.getElem?_cons_zero, List.getElem?_cons_succ, List.set_cons_zero, List.set_cons_succ, List.length_cons, List.length_nil, List.length_map, Option.bind_some, Option.map_some, List.nil_append, List.cons_append, List.length_singleton, Nat.zero_add, Nat.reduceAdd, Nat.reduceLT, Nat.reduceLeDiff, Nat.zero_le, if_false, if_true, Bool.false_eq_true, Bool.true_eq_false, Bool.not_true, Bool.not_false, reduceCtorEq, true_and, and_true, forall_const, false_and, and_false, false_implies, not_false_eq_true, not_true_eq_false, decide_true, decide_false, decide_eq_true_eq, decide_eq_false_iff_not, isi_none_int, isi_none_bool, isi_none_str, isi_none_tuple, isi_none_list, isi_none_list_tuple, isi_none_tuple_list, isi_bl_int, isi_bl_bool, isi_bl_str, isi_bl_tuple, isi_bl_list, isi_bl_list_tuple, isi_bl_tuple_list, isi_int_int, isi_int_bool, isi_int_str, isi_int_tuple, isi_int_list, isi_int_list_tuple, isi_int_tuple_list, isi_str_int, isi_str_bool, isi_str_str, isi_str_tuple, isi_str_list, isi_str_list_tuple, isi_str_tuple_list, isi_tup_int, isi_tup_bool, isi_tup_str, isi_tup_tuple, isi_tup_list, isi_tup_list_tuple, isi_tup_tuple_list, isi_lst_int, isi_lst_bool, isi_lst_str, isi_lst_tuple, isi_lst_list, isi_lst_list_tuple, isi_lst_tuple_list, cmp_eq_ii, cmp_ne_ii, cmp_eq_bb, cmp_ne_bb, cmp_lt, cmp_le, cmp_gt, cmp_ge, cmp_ni_ii, binD, hs0, e1, e3, items_rng1 (n := T) (by omega)]
  refine wp_for_fold0 (fun (k : Nat) => D.int (k : Int)) (fun dn s => ∃ x3 x5 x6 x7 x8, s = ⟨[.pu (.tup (c.map .int)), .pu (.int big), .pu (.int c.sum), x3, .ow (.lst ((A c bs dn.length).map encP)), x5, x6, x7, x8], st⟩ ∧ (x3 = .ow (.lst (bs.map encB)) ∨ x3 = .pu (.lst (bs.map encB)))) ⟨_, _, _, _, _, rfl, .inl rfl⟩ ?_ ?_
  · rintro dn k r hr s' ⟨x3, x5, x6, x7, x8, rfl, h3⟩
    have hdn : dn.length < T := by
      have := congrArg List.length hr
      simp at this
      omega
    try simp -implicitDefEqProofs only [wp_bind, wp_pure, wp_bad, wp_getS, wp_asB, wp_slotOpd, wp_rdSlot, wp_rdVar, wp_rdRet, wp_resV, wp_resS, wp_ress0, wp_ress, wp_setR, wp_setρ, wp_call, wp_setAt, wp_opd, wp_dat, wp_shr, wp_ownL, wp_popAt, wp_popLast, wp_app, wp_ins, wp_bindTup, wp_bindTs0, wp_bindTs, wp_bindNm, wp_blk, w_var, w_con, w_tup, w_lst, w_shr, w_bin, w_cmp, w_idx, w_cmp2, w_and2, w_or2, w_not1, w_ife, w_sli, w_call, w_blt, w_isi, w_lc, w_popk, w_popl, w_isN, w_neg, Z.w_rev, w_part0, w_part1, w_ds0, w_ds, w_os0, w_os, w_cs0, w_cs, line, w_asg, w_asgT, w_aug, w_setI, w_augI, w_lc2, w_app, w_ins, w_ext, w_expr, w_ret, w_retN, w_if, w_forE, w_whil, w_brk, w_cont, w_pass, w_ss0, w_ss, fw_nx, fw_brk, fw_cont, fw_ret, nn_none, nn_int, nn_bl, nn_str, nn_tup, nn_lst, ol_lst, op_some, op_none, op_ite, ob_bl, oi_int, sl_pu, sl_ow, al_ow, al_obj, so_lst, opdV, retV, endQ, letgo, ite_self, ixN_3_0, ixN_3_1, ixN_3_2, atI_0, atI_1, atI_2, atI_3, List.getElem?_cons_zero, List.getElem?_cons_succ, List.set_cons_zero, List.set_cons_succ, List.length_cons, List.length_nil, List.length_map, Option.bind_some, Option.map_some, List.nil_append, List.cons_append, List.length_singleton, Nat.zero_add, Nat.reduceAdd, Nat.reduceLT, Nat.reduceLeDiff, Nat.zero_le, if_false, if_true, Bool.false_eq_true, Bool.true_eq_false, Bool.not_true, Bool.not_false, reduceCtorEq, true_and, and_true, forall_const, false_and, and_false, false_implies, not_false_eq_true, not_true_eq_false, decide_true, decide_false, decide_eq_true_eq, decide_eq_false_iff_not, isi_none_int, isi_none_bool, isi_none_str, isi_none_tuple, isi_none_list, isi_none_list_tuple, isi_none_tuple_list, isi_bl_int, isi_bl_bool, isi_bl_str, isi_bl_tuple, isi_bl_list, isi_bl_list_tuple, isi_bl_tuple_list, isi_int_int, isi_int_bool, isi_int_str, isi_int_tuple, isi_int_list, isi_int_list_tuple, isi_int_tuple_list, isi_str_int, isi_str_bool, isi_str_str, isi_str_tuple, isi_str_list, isi_str_list_tuple, isi_str_tuple_list, isi_tup_int, isi_tup_bool, isi_tup_str, isi_tup_tuple, isi_tup_list, isi_tup_list_tuple, isi_tup_tuple_list, isi_lst_int, isi_lst_bool, isi_lst_str, isi_lst_tuple, isi_lst_list, isi_lst_list_tuple, isi_lst_tuple_list, cmp_eq_ii, cmp_ne_ii, cmp_eq_bb, cmp_ne_bb, cmp_lt, cmp_le, cmp_gt, cmp_ge, cmp_ni_ii, itemsD, it1, seqI]
    refine wp_lc2_map encP encB (fun _ => true) (fun _ => bs) (fun _ _ => true) (fun p b => .tup [encP p, encB b]) (fun s => ∃ x3 x7 x8, s = ⟨[.pu (.tup (c.map .int)), .pu (.int big), .pu (.int c.sum), x3, .pu (.lst ((A c bs dn.length).map encP)), .pu (.int k), x6, x7, x8], st⟩ ∧ (x3 = .ow (.lst (bs.map encB)) ∨ x3 = .pu (.lst (bs.map encB)))) (fun p s => ∃ x8, s = ⟨[.pu (.tup (c.map .int)), .pu (.int big), .pu (.int c.sum), .pu (.lst (bs.map encB)), .pu (.lst ((A c bs dn.length).map encP)), .pu (.int k), x6, .pu (encP p), x8], st⟩) ?hJ ⟨_, _, _, rfl, h3⟩ ?hl ?h1 ?h2 ?h3
    case hJ => rintro p s ⟨x8, rfl⟩; exact ⟨_, _, _, rfl, .inr rfl⟩
    case hl =>
      have h5 := Alen3 dn.length hdn
      have e : ((A c bs dn.length).map fun x => bs.length).sum = (A c bs dn.length).length * bs.length := by
        generalize A c bs dn.length = l
        induction l with
        | nil => simp
        | cons p l ih => rw [List.map_cons, List.sum_cons, ih, List.length_cons, Nat.succ_mul]; omega
      rw [e, line_eq', List.length_nil]
      have : (A c bs dn.length).length * bs.length ≤ (A c bs dn.length).length * 56 := Nat.mul_le_mul_left _ (by omega)
      omega
    case h1 =>
      rintro p hp s ⟨x3, x7, x8, rfl, h3⟩
      rcases h3 with rfl | rfl
      · try simp -implicitDefEqProofs only [wp_bind, wp_pure, wp_bad, wp_getS, wp_asB, wp_slotOpd, wp_rdSlot, wp_rdVar, wp_rdRet, wp_resV, wp_resS, wp_ress0, wp_ress, wp_setR, wp_setρ, wp_call, wp_setAt, wp_opd, wp_dat, wp_shr, wp_ownL, wp_popAt, wp_popLast, wp_app, wp_ins, wp_bindTup, wp_bindTs0, wp_bindTs, wp_bindNm, wp_blk, w_var, w_con, w_tup, w_lst, w_shr, w_bin, w_cmp, w_idx, w_cmp2, w_and2, w_or2, w_not1, w_ife, w_sli, w_call, w_blt, w_isi, w_lc, w_popk, w_popl, w_isN, w_neg, Z.w_rev, w_part0, w_part1, w_ds0, w_ds, w_os0, w_os, w_cs0, w_cs, line, w_asg, w_asgT, w_aug, w_setI, w_augI, w_lc2, w_app, w_ins, w_ext, w_expr, w_ret, w_retN, w_if, w_forE, w_whil, w_brk, w_cont, w_pass, w_ss0, w_ss, fw_nx, fw_brk, fw_cont, fw_ret, nn_none, nn_int, nn_bl, nn_str, nn_tup, nn_lst, ol_lst, op_some, op_none, op_ite, ob_bl, oi_int, sl_pu, sl_ow, al_ow, al_obj, so_lst, opdV, retV, endQ, letgo, ite_self, ixN_3_0, ixN_3_1, ixN_3_2, atI_0, atI_1, atI_2, atI_3, List.getElem?_cons_zero, List.getElem?_cons_succ, List.set_cons_zero, List.set_cons_succ, List.length_cons, List.length_nil, List.length_map, Option.bind_some, Option.map_some, List.nil_append, List.cons_append, List.length_singleton, Nat.zero_add, Nat.reduceAdd, Nat.reduceLT, Nat.reduceLeDiff, Nat.zero_le, if_false, if_true, Bool.false_eq_true, Bool.true_eq_false, Bool.not_true, Bool.not_false, reduceCtorEq, true_and, and_true, forall_const, false_and, and_false, false_implies, not_false_eq_true, not_true_eq_false, decide_true, decide_false, decide_eq_true_eq, decide_eq_false_iff_not, isi_none_int, isi_none_bool, isi_none_str, isi_none_tuple, isi_none_list, isi_none_list_tuple, isi_none_tuple_list, isi_bl_int, isi_bl_bool, isi_bl_str, isi_bl_tuple, isi_bl_list, isi_bl_list_tuple, isi_bl_tuple_list, isi_int_int, isi_int_bool, isi_int_str, isi_int_tuple, isi_int_list, isi_int_list_tuple, isi_int_tuple_list, isi_str_int, isi_str_bool, isi_str_str, isi_str_tuple, isi_str_list, isi_str_list_tuple, isi_str_tuple_list, isi_tup_int, isi_tup_bool, isi_tup_str, isi_tup_tuple, isi_tup_list, isi_tup_list_tuple, isi_tup_tuple_list, isi_lst_int, isi_lst_bool, isi_lst_str, isi_lst_tuple, isi_lst_list, isi_lst_list_tuple, isi_lst_tuple_list, cmp_eq_ii, cmp_ne_ii, cmp_eq_bb, cmp_ne_bb, cmp_lt, cmp_le, cmp_gt, cmp_ge, cmp_ni_ii, wp_wipe, List.foldr_cons, List.foldr_nil, itemsD, it1, seqI, wp_liftO]
        exact ⟨_, rfl⟩
      · try simp -implicitDefEqProofs only [wp_bind, wp_pure, wp_bad, wp_getS, wp_asB, wp_slotOpd, wp_rdSlot, wp_rdVar, wp_rdRet, wp_resV, wp_resS, wp_ress0, wp_ress, wp_setR, wp_setρ, wp_call, wp_setAt, wp_opd, wp_dat, wp_shr, wp_ownL, wp_popAt, wp_popLast, wp_app, wp_ins, wp_bindTup, wp_bindTs0, wp_bindTs, wp_bindNm, wp_blk, w_var, w_con, w_tup, w_lst, w_shr, w_bin, w_cmp, w_idx, w_cmp2, w_and2, w_or2, w_not1, w_ife, w_sli, w_call, w_blt, w_isi, w_lc, w_popk, w_popl, w_isN, w_neg, Z.w_rev, w_part0, w_part1, w_ds0, w_ds, w_os0, w_os, w_cs0, w_cs, line, w_asg, w_asgT, w_aug, w_setI, w_augI, w_lc2, w_app, w_ins, w_ext, w_expr, w_ret, w_retN, w_if, w_forE, w_whil, w_brk, w_cont, w_pass, w_ss0, w_ss, fw_nx, fw_brk, fw_cont, fw_ret, nn_none, nn_int, nn_bl, nn_str, nn_tup, nn_lst, ol_lst, op_some, op_none, op_ite, ob_bl, oi_int, sl_pu, sl_ow, al_ow, al_obj, so_lst, opdV, retV, endQ, letgo, ite_self, ixN_3_0, ixN_3_1, ixN_3_2, atI_0, atI_1, atI_2, atI_3, List.getElem?_cons_zero, List.getElem?_cons_succ, List.set_cons_zero, List.set_cons_succ, List.length_cons, List.length_nil, List.length_map, Option.bind_some, Option.map_some, List.nil_append, List.cons_append, List.length_singleton, Nat.zero_add, Nat.reduceAdd, Nat.reduceLT, Nat.reduceLeDiff, Nat.zero_le, if_false, if_true, Bool.false_eq_true, Bool.true_eq_false, Bool.not_true, Bool.not_false, reduceCtorEq, true_and, and_true, forall_const, false_and, and_false, false_implies, not_false_eq_true, not_true_eq_false, decide_true, decide_false, decide_eq_true_eq, decide_eq_false_iff_not, isi_none_int, isi_none_bool, isi_none_str, isi_none_tuple, isi_none_list, isi_none_list_tuple, isi_none_tuple_list, isi_bl_int, isi_bl_bool, isi_bl_str, isi_bl_tuple, isi_bl_list, isi_bl_list_tuple, isi_bl_tuple_list, isi_int_int, isi_int_bool, isi_int_str, isi_int_tuple, isi_int_list, isi_int_list_tuple, isi_int_tuple_list, isi_str_int, isi_str_bool, isi_str_str, isi_str_tuple, isi_str_list, isi_str_list_tuple, isi_str_tuple_list, isi_tup_int, isi_tup_bool, isi_tup_str, isi_tup_tuple, isi_tup_list, isi_tup_list_tuple, isi_tup_tuple_list, isi_lst_int, isi_lst_bool, isi_lst_str, isi_lst_tuple, isi_lst_list, isi_lst_list_tuple, isi_lst_tuple_list, cmp_eq_ii, cmp_ne_ii, cmp_eq_bb, cmp_ne_bb, cmp_lt, cmp_le, cmp_gt, cmp_ge, cmp_ni_ii, wp_wipe, List.foldr_cons, List.foldr_nil, itemsD, it1, seqI, wp_liftO]
        exact ⟨_, rfl⟩
    case h2 =>
      rintro p hp b hb s ⟨x8, rfl⟩
      try simp -implicitDefEqProofs only [wp_bind, wp_pure, wp_bad, wp_getS, wp_asB, wp_slotOpd, wp_rdSlot, wp_rdVar, wp_rdRet, wp_resV, wp_resS, wp_ress0, wp_ress, wp_setR, wp_setρ, wp_call, wp_setAt, wp_opd, wp_dat, wp_shr, wp_ownL, wp_popAt, wp_popLast, wp_app, wp_ins, wp_bindTup, wp_bindTs0, wp_bindTs, wp_bindNm, wp_blk, w_var, w_con, w_tup, w_lst, w_shr, w_bin, w_cmp, w_idx, w_cmp2, w_and2, w_or2, w_not1, w_ife, w_sli, w_call, w_blt, w_isi, w_lc, w_popk, w_popl, w_isN, w_neg, Z.w_rev, w_part0, w_part1, w_ds0, w_ds, w_os0, w_os, w_cs0, w_cs, line, w_asg, w_asgT, w_aug, w_setI, w_augI, w_lc2, w_app, w_ins, w_ext, w_expr, w_ret, w_retN, w_if, w_forE, w_whil, w_brk, w_cont, w_pass, w_ss0, w_ss, fw_nx, fw_brk, fw_cont, fw_ret, nn_none, nn_int, nn_bl, nn_str, nn_tup, nn_lst, ol_lst, op_some, op_none, op_ite, ob_bl, oi_int, sl_pu, sl_ow, al_ow, al_obj, so_lst, opdV, retV, endQ, letgo, ite_self, ixN_3_0, ixN_3_1, ixN_3_2, atI_0, atI_1, atI_2, atI_3, List.getElem?_cons_zero, List.getElem?_cons_succ, List.set_cons_zero, List.set_cons_succ, List.length_cons, List.length_nil, List.length_map, Option.bind_some, Option.map_some, List.nil_append, List.cons_append, List.length_singleton, Nat.zero_add, Nat.reduceAdd, Nat.reduceLT, Nat.reduceLeDiff, Nat.zero_le, if_false, if_true, Bool.false_eq_true, Bool.true_eq_false, Bool.not_true, Bool.not_false, reduceCtorEq, true_and, and_true, forall_const, false_and, and_false, false_implies, not_false_eq_true, not_true_eq_false, decide_true, decide_false, decide_eq_true_eq, decide_eq_false_iff_not, isi_none_int, isi_none_bool, isi_none_str, isi_none_tuple, isi_none_list, isi_none_list_tuple, isi_none_tuple_list, isi_bl_int, isi_bl_bool, isi_bl_str, isi_bl_tuple, isi_bl_list, isi_bl_list_tuple, isi_bl_tuple_list, isi_int_int, isi_int_bool, isi_int_str, isi_int_tuple, isi_int_list, isi_int_list_tuple, isi_int_tuple_list, isi_str_int, isi_str_bool, isi_str_str, isi_str_tuple, isi_str_list, isi_str_list_tuple, isi_str_tuple_list, isi_tup_int, isi_tup_bool, isi_tup_str, isi_tup_tuple, isi_tup_list, isi_tup_list_tuple, isi_tup_tuple_list, isi_lst_int, isi_lst_bool, isi_lst_str, isi_lst_tuple, isi_lst_list, isi_lst_list_tuple, isi_lst_tuple_list, cmp_eq_ii, cmp_ne_ii, cmp_eq_bb, cmp_ne_bb, cmp_lt, cmp_le, cmp_gt, cmp_ge, cmp_ni_ii, wp_wipe, List.foldr_cons, List.foldr_nil]
      exact ⟨_, rfl⟩
    case h3 =>
      rintro s ⟨x3, x7, x8, rfl, h3⟩
      have ft : ∀ {α : Type} (l : List α), l.filter (fun _ => true) = l := fun l => List.filter_eq_self.mpr fun _ _ => rfl
      have e6 : ([] ++ ((A c bs dn.length).filter fun x => true).flatMap fun x => (bs.filter fun x => true).map fun b => D.tup [encP x, encB b]) = ((A c bs dn.length).flatMap fun p => bs.map fun b => (p, b)).map enPB := by
        rw [ft, ft, List.nil_append, List.map_flatMap]
        congr 1
        funext p
        rw [List.map_map]
        rfl
      rw [e6]
      have hlen : ((A c bs dn.length).flatMap fun p => bs.map fun b => (p, b)).length ≤ 9834496 := by
        have h5 := Alen3 dn.length hdn
        have e : ((A c bs dn.length).flatMap fun p => bs.map fun b => (p, b)).length = (A c bs dn.length).length * bs.length := by
          generalize A c bs dn.length = l
          induction l with
          | nil => simp
          | cons p l ih => rw [List.flatMap_cons, List.length_append, ih, List.length_map, List.length_cons, Nat.succ_mul]; omega
        rw [e]
        have : (A c bs dn.length).length * bs.length ≤ (A c bs dn.length).length * 56 := Nat.mul_le_mul_left _ (by omega)
        omega
      have hmem : ∀ x ∈ (A c bs dn.length).flatMap fun p => bs.map fun b => (p, b), x.1 ∈ A c bs dn.length ∧ x.2 ∈ bs := fun x hx => by
        obtain ⟨p, hp, hx⟩ := List.mem_flatMap.mp hx
        obtain ⟨b, hb, rfl⟩ := List.mem_map.mp hx
        exact ⟨hp, hb⟩
      have hfin := flat_map_A c bs (A c bs dn.length)
      generalize (A c bs dn.length).flatMap (fun p => bs.map fun b => (p, b)) = prs at hlen hmem hfin ⊢
      try simp -implicitDefEqProofs only [wp_bind, wp_pure, wp_bad, wp_getS, wp_asB, wp_slotOpd, wp_rdSlot, wp_rdVar, wp_rdRet, wp_resV, wp_resS, wp_ress0, wp_ress, wp_setR, wp_setρ, wp_call, wp_setAt, wp_opd, wp_dat, wp_shr, wp_ownL, wp_popAt, wp_popLast, wp_app, wp_ins, wp_bindTup, wp_bindTs0, wp_bindTs, wp_bindNm, wp_blk, w_var, w_con, w_tup, w_lst, w_shr, w_bin, w_cmp, w_idx, w_cmp2, w_and2, w_or2, w_not1, w_ife, w_sli, w_call, w_blt, w_isi, w_lc, w_popk, w_popl, w_isN, w_neg, Z.w_rev, w_part0, w_part1, w_ds0, w_ds, w_os0, w_os, w_cs0, w_cs, line, w_asg, w_asgT, w_aug, w_setI, w_augI, w_lc2, w_app, w_ins, w_ext, w_expr, w_ret, w_retN, w_if, w_forE, w_whil, w_brk, w_cont, w_pass, w_ss0, w_ss, fw_nx, fw_brk, fw_cont, fw_ret, nn_none, nn_int, nn_bl, nn_str, nn_tup, nn_lst, ol_lst, op_some, op_none, op_ite, ob_bl, oi_int, sl_pu, sl_ow, al_ow, al_obj, so_lst, opdV, retV, endQ, letgo, ite_self, ixN_3_0, ixN_3_1, ixN_3_2, atI_0, atI_1, atI_2, atI_3, List.getElem?_cons_zero, List.getElem?_cons_succ, List.set_cons_zero, List.set_cons_succ, List.length_cons, List.length_nil, List.length_map, Option.bind_some, Option.map_some, List.nil_append, List.cons_append, List.length_singleton, Nat.zero_add, Nat.reduceAdd, Nat.reduceLT, Nat.reduceLeDiff, Nat.zero_le, if_false, if_true, Bool.false_eq_true, Bool.true_eq_false, Bool.not_true, Bool.not_false, reduceCtorEq, true_and, and_true, forall_const, false_and, and_false, false_implies, not_false_eq_true, not_true_eq_false, decide_true, decide_false, decide_eq_true_eq, decide_eq_false_iff_not, isi_none_int, isi_none_bool, isi_none_str, isi_none_tuple, isi_none_list, isi_none_list_tuple, isi_none_tuple_list, isi_bl_int, isi_bl_bool, isi_bl_str, isi_bl_tuple, isi_bl_list, isi_bl_list_tuple, isi_bl_tuple_list, isi_int_int, isi_int_bool, isi_int_str, isi_int_tuple, isi_int_list, isi_int_list_tuple, isi_int_tuple_list, isi_str_int, isi_str_bool, isi_str_str, isi_str_tuple, isi_str_list, isi_str_list_tuple, isi_str_tuple_list, isi_tup_int, isi_tup_bool, isi_tup_str, isi_tup_tuple, isi_tup_list, isi_tup_list_tuple, isi_tup_tuple_list, isi_lst_int, isi_lst_bool, isi_lst_str, isi_lst_tuple, isi_lst_list, isi_lst_list_tuple, isi_lst_tuple_list, cmp_eq_ii, cmp_ne_ii, cmp_eq_bb, cmp_ne_bb, cmp_lt, cmp_le, cmp_gt, cmp_ge, cmp_ni_ii, unwipe, List.foldr_cons, List.foldr_nil, itemsD, it1, seqI]
      refine wp_lc_map enPB (fun x => cc c x.1 x.2) (fun x => encP (x.1 ++ [x.2])) (fun s => ∃ x7 x8, s = ⟨[.pu (.tup (c.map .int)), .pu (.int big), .pu (.int c.sum), x3, .pu (.lst ((A c bs dn.length).map encP)), .pu (.int k), .pu (.lst (prs.map enPB)), x7, x8], st⟩) ⟨_, _, rfl⟩ (by rw [line_eq']; simp; omega) ?_ ?_
      · rintro x hx s ⟨x7, x8, rfl⟩
        obtain ⟨hx1, hx2⟩ := hmem x hx
        unfold enPB
        have hp8' : (x.1.map encB).length ≤ 4 := by
          rw [List.length_map, (A_mem.mp hx1).1]
          omega
        try simp -implicitDefEqProofs only [wp_bind, wp_pure, wp_bad, wp_getS, wp_asB, wp_slotOpd, wp_rdSlot, wp_rdVar, wp_rdRet, wp_resV, wp_resS, wp_ress0, wp_ress, wp_setR, wp_setρ, wp_call, wp_setAt, wp_opd, wp_dat, wp_shr, wp_ownL, wp_popAt, wp_popLast, wp_app, wp_ins, wp_bindTup, wp_bindTs0, wp_bindTs, wp_bindNm, wp_blk, w_var, w_con, w_tup, w_lst, w_shr, w_bin, w_cmp, w_idx, w_cmp2, w_and2, w_or2, w_not1, w_ife, w_sli, w_call, w_blt, w_isi, w_lc, w_popk, w_popl, w_isN, w_neg, Z.w_rev, w_part0, w_part1, w_ds0, w_ds, w_os0, w_os, w_cs0, w_cs, line, w_asg, w_asgT, w_aug, w_setI, w_augI, w_lc2, w_app, w_ins, w_ext, w_expr, w_ret, w_retN, w_if, w_forE, w_whil, w_brk, w_cont, w_pass, w_ss0, w_ss, fw_nx, fw_brk, fw_cont, fw_ret, nn_none, nn_int, nn_bl, nn_str, nn_tup, nn_lst, ol_lst, op_some, op_none, op_ite, ob_bl, oi_int, sl_pu, sl_ow, al_ow, al_obj, so_lst, opdV, retV, endQ, letgo, ite_self, ixN_3_0, ixN_3_1, ixN_3_2, atI_0, atI_1, atI_2, atI_3, List.getElem?_cons_zero, List.getElem?_cons_succ, List.set_cons_zero, List.set_cons_succ, List.length_cons, List.length_nil, List.length_map, Option.bind_some, Option.map_some, List.nil_append, List.cons_append, List.length_singleton, Nat.zero_add, Nat.reduceAdd, Nat.reduceLT, Nat.reduceLeDiff, Nat.zero_le, if_false, if_true, Bool.false_eq_true, Bool.true_eq_false, Bool.not_true, Bool.not_false, reduceCtorEq, true_and, and_true, forall_const, false_and, and_false, false_implies, not_false_eq_true, not_true_eq_false, decide_true, decide_false, decide_eq_true_eq, decide_eq_false_iff_not, isi_none_int, isi_none_bool, isi_none_str, isi_none_tuple, isi_none_list, isi_none_list_tuple, isi_none_tuple_list, isi_bl_int, isi_bl_bool, isi_bl_str, isi_bl_tuple, isi_bl_list, isi_bl_list_tuple, isi_bl_tuple_list, isi_int_int, isi_int_bool, isi_int_str, isi_int_tuple, isi_int_list, isi_int_list_tuple, isi_int_tuple_list, isi_str_int, isi_str_bool, isi_str_str, isi_str_tuple, isi_str_list, isi_str_list_tuple, isi_str_tuple_list, isi_tup_int, isi_tup_bool, isi_tup_str, isi_tup_tuple, isi_tup_list, isi_tup_list_tuple, isi_tup_tuple_list, isi_lst_int, isi_lst_bool, isi_lst_str, isi_lst_tuple, isi_lst_list, isi_lst_list_tuple, isi_lst_tuple_list, cmp_eq_ii, cmp_ne_ii, cmp_eq_bb, cmp_ne_bb, cmp_lt, cmp_le, cmp_gt, cmp_ge, cmp_ni_ii, wp_wipe, List.foldr_cons, List.foldr_nil]
        with_reducible refine rp_cl hcl (can_come_spec hs (Abr _ _ hx1) (hbr _ hx2) h8 (A_left (by omega) hbr hc hT' hdn hx1) ?_)
        try simp -implicitDefEqProofs only [wp_bind, wp_pure, wp_bad, wp_getS, wp_asB, wp_slotOpd, wp_rdSlot, wp_rdVar, wp_rdRet, wp_resV, wp_resS, wp_ress0, wp_ress, wp_setR, wp_setρ, wp_call, wp_setAt, wp_opd, wp_dat, wp_shr, wp_ownL, wp_popAt, wp_popLast, wp_app, wp_ins, wp_bindTup, wp_bindTs0, wp_bindTs, wp_bindNm, wp_blk, w_var, w_con, w_tup, w_lst, w_shr, w_bin, w_cmp, w_idx, w_cmp2, w_and2, w_or2, w_not1, w_ife, w_sli, w_call, w_blt, w_isi, w_lc, w_popk, w_popl, w_isN, w_neg, Z.w_rev, w_part0, w_part1, w_ds0, w_ds, w_os0, w_os, w_cs0, w_cs, line, w_asg, w_asgT, w_aug, w_setI, w_augI, w_lc2, w_app, w_ins, w_ext, w_expr, w_ret, w_retN, w_if, w_forE, w_whil, w_brk, w_cont, w_pass, w_ss0, w_ss, fw_nx, fw_brk, fw_cont, fw_ret, nn_none, nn_int, nn_bl, nn_str, nn_tup, nn_lst, ol_lst, op_some, op_none, op_ite, ob_bl, oi_int, sl_pu, sl_ow, al_ow, al_obj, so_lst, opdV, retV, endQ, letgo, ite_self, ixN_3_0, ixN_3_1, ixN_3_2, atI_0, atI_1, atI_2, atI_3, List.getElem?_cons_zero, List.getElem?_cons_succ, List.set_cons_zero, List.set_cons_succ, List.length_cons, List.length_nil, List.length_map, Option.bind_some, Option.map_some, List.nil_append, List.cons_append, List.length_singleton, Nat.zero_add, Nat.reduceAdd, Nat.reduceLT, Nat.reduceLeDiff, Nat.zero_le, if_false, if_true, Bool.false_eq_true, Bool.true_eq_false, Bool.not_true, Bool.not_false, reduceCtorEq, true_and, and_true, forall_const, false_and, and_false, false_implies, not_false_eq_true, not_true_eq_false, decide_true, decide_false, decide_eq_true_eq, decide_eq_false_iff_not, isi_none_int, isi_none_bool, isi_none_str, isi_none_tuple, isi_none_list, isi_none_list_tuple, isi_none_tuple_list, isi_bl_int, isi_bl_bool, isi_bl_str, isi_bl_tuple, isi_bl_list, isi_bl_list_tuple, isi_bl_tuple_list, isi_int_int, isi_int_bool, isi_int_str, isi_int_tuple, isi_int_list, isi_int_list_tuple, isi_int_tuple_list, isi_str_int, isi_str_bool, isi_str_str, isi_str_tuple, isi_str_list, isi_str_list_tuple, isi_str_tuple_list, isi_tup_int, isi_tup_bool, isi_tup_str, isi_tup_tuple, isi_tup_list, isi_tup_list_tuple, isi_tup_tuple_list, isi_lst_int, isi_lst_bool, isi_lst_str, isi_lst_tuple, isi_lst_list, isi_lst_list_tuple, isi_lst_tuple_list, cmp_eq_ii, cmp_ne_ii, cmp_eq_bb, cmp_ne_bb, cmp_lt, cmp_le, cmp_gt, cmp_ge, cmp_ni_ii, encP, bin_tt (x := x.1.map encB) (y := [encB x.2]) (by rw [line_eq']; simp; simp at hp8'; omega)]
        refine ⟨fun e => ⟨e.symm, by rw [List.map_append]; rfl, _, _, rfl⟩, fun e => ⟨e.symm, _, _, rfl⟩⟩
      · rintro s ⟨x7, x8, rfl⟩
        have e7 : (prs.filter fun x => cc c x.1 x.2).map (fun x => encP (x.1 ++ [x.2])) = (A c bs (dn ++ [k]).length).map encP := by
          rw [List.length_append, List.length_singleton]
          unfold A
          rw [← hfin, List.map_map]
          rfl
        rw [List.nil_append, e7]
        try simp -implicitDefEqProofs only [wp_bind, wp_pure, wp_bad, wp_getS, wp_asB, wp_slotOpd, wp_rdSlot, wp_rdVar, wp_rdRet, wp_resV, wp_resS, wp_ress0, wp_ress, wp_setR, wp_setρ, wp_call, wp_setAt, wp_opd, wp_dat, wp_shr, wp_ownL, wp_popAt, wp_popLast, wp_app, wp_ins, wp_bindTup, wp_bindTs0, wp_bindTs, wp_bindNm, wp_blk, w_var, w_con, w_tup, w_lst, w_shr, w_bin, w_cmp, w_idx, w_cmp2, w_and2, w_or2, w_not1, w_ife, w_sli, w_call, w_blt, w_isi, w_lc, w_popk, w_popl, w_isN, w_neg, Z.w_rev, w_part0, w_part1, w_ds0, w_ds, w_os0, w_os, w_cs0, w_cs, line, w_asg, w_asgT, w_aug, w_setI, w_augI, w_lc2, w_app, w_ins, w_ext, w_expr, w_ret, w_retN, w_if, w_forE, w_whil, w_brk, w_cont, w_pass, w_ss0, w_ss, fw_nx, fw_brk, fw_cont, fw_ret, nn_none, nn_int, nn_bl, nn_str, nn_tup, nn_lst, ol_lst, op_some, op_none, op_ite, ob_bl, oi_int, sl_pu, sl_ow, al_ow, al_obj, so_lst, opdV, retV, endQ, letgo, ite_self, ixN_3_0, ixN_3_1, ixN_3_2, atI_0, atI_1, atI_2, atI_3, List.getElem?_cons_zero, List.getElem?_cons_succ, List.set_cons_zero, List.set_cons_succ, List.length_cons, List.length_nil, List.length_map, Option.bind_some, Option.map_some, List.nil_append, List.cons_append, List.length_singleton, Nat.zero_add, Nat.reduceAdd, Nat.reduceLT, Nat.reduceLeDiff, Nat.zero_le, if_false, if_true, Bool.false_eq_true, Bool.true_eq_false, Bool.not_true, Bool.not_false, reduceCtorEq, true_and, and_true, forall_const, false_and, and_false, false_implies, not_false_eq_true, not_true_eq_false, decide_true, decide_false, decide_eq_true_eq, decide_eq_false_iff_not, isi_none_int, isi_none_bool, isi_none_str, isi_none_tuple, isi_none_list, isi_none_list_tuple, isi_none_tuple_list, isi_bl_int, isi_bl_bool, isi_bl_str, isi_bl_tuple, isi_bl_list, isi_bl_list_tuple, isi_bl_tuple_list, isi_int_int, isi_int_bool, isi_int_str, isi_int_tuple, isi_int_list, isi_int_list_tuple, isi_int_tuple_list, isi_str_int, isi_str_bool, isi_str_str, isi_str_tuple, isi_str_list, isi_str_list_tuple, isi_str_tuple_list, isi_tup_int, isi_tup_bool, isi_tup_str, isi_tup_tuple, isi_tup_list, isi_tup_list_tuple, isi_tup_tuple_list, isi_lst_int, isi_lst_bool, isi_lst_str, isi_lst_tuple, isi_lst_list, isi_lst_list_tuple, isi_lst_tuple_list, cmp_eq_ii, cmp_ne_ii, cmp_eq_bb, cmp_ne_bb, cmp_lt, cmp_le, cmp_gt, cmp_ge, cmp_ni_ii, unwipe, List.foldr_cons, List.foldr_nil]
        exact ⟨(by first | exact Or.inl rfl | exact trivial | exact Or.inl trivial | simp), x3, _, _, _, _, rfl, h3⟩
  · rintro s' ⟨x3, x5, x6, x7, x8, rfl, h3⟩
    rw [List.length_range]
    have hok : sortOk ((A c bs T).map encP) = true := by
      by_cases h0 : T = 0
      · subst h0
        exact sortOk_1 (by show 1 ≤ 1; omega)
      · refine sortOk_p fun p hp e => ?_
        have := (A_mem.mp hp).1
        rw [e] at this
        simp at this
        omega
    try simp -implicitDefEqProofs only [wp_bind, wp_pure, wp_bad, wp_getS, wp_asB, wp_slotOpd, wp_rdSlot, wp_rdVar, wp_rdRet, wp_resV, wp_resS, wp_ress0, wp_ress, wp_setR, wp_setρ, wp_call, wp_setAt, wp_opd, wp_dat, wp_shr, wp_ownL, wp_popAt, wp_popLast, wp_app, wp_ins, wp_bindTup, wp_bindTs0, wp_bindTs, wp_bindNm, wp_blk, w_var, w_con, w_tup, w_lst, w_shr, w_bin, w_cmp, w_idx, w_cmp2, w_and2, w_or2, w_not1, w_ife, w_sli, w_call, w_blt, w_isi, w_lc, w_popk, w_popl, w_isN, w_neg, Z.w_rev, w_part0, w_part1, w_ds0, w_ds, w_os0, w_os, w_cs0, w_cs, line, w_asg, w_asgT, w_aug, w_setI, w_augI, w_lc2, w_app, w_ins, w_ext, w_expr, w_ret, w_retN, w_if, w_forE, w_whil, w_brk, w_cont, w_pass, w_ss0, w_ss, fw_nx, fw_brk, fw_cont, fw_ret, nn_none, nn_int, nn_bl, nn_str, nn_tup, nn_lst, ol_lst, op_some, op_none, op_ite, ob_bl, oi_int, sl_pu, sl_ow, al_ow, al_obj, so_lst, opdV, retV, endQ, letgo, ite_self, ixN_3_0, ixN_3_1, ixN_3_2, atI_0, atI_1, atI_2, atI_3, List.getElem?_cons_zero, List.getElem?_cons_succ, List.set_cons_zero, List.set_cons_succ, List.length_cons, List.length_nil, List.length_map, Option.bind_some, Option.map_some, List.nil_append, List.cons_append, List.length_singleton, Nat.zero_add, Nat.reduceAdd, Nat.reduceLT, Nat.reduceLeDiff, Nat.zero_le, if_false, if_true, Bool.false_eq_true, Bool.true_eq_false, Bool.not_true, Bool.not_false, reduceCtorEq, true_and, and_true, forall_const, false_and, and_false, false_implies, not_false_eq_true, not_true_eq_false, decide_true, decide_false, decide_eq_true_eq, decide_eq_false_iff_not, isi_none_int, isi_none_bool, isi_none_str, isi_none_tuple, isi_none_list, isi_none_list_tuple, isi_none_tuple_list, isi_bl_int, isi_bl_bool, isi_bl_str, isi_bl_tuple, isi_bl_list, isi_bl_list_tuple, isi_bl_tuple_list, isi_int_int, isi_int_bool, isi_int_str, isi_int_tuple, isi_int_list, isi_int_list_tuple, isi_int_tuple_list, isi_str_int, isi_str_bool, isi_str_str, isi_str_tuple, isi_str_list, isi_str_list_tuple, isi_str_tuple_list, isi_tup_int, isi_tup_bool, isi_tup_str, isi_tup_tuple, isi_tup_list, isi_tup_list_tuple, isi_tup_tuple_list, isi_lst_int, isi_lst_bool, isi_lst_str, isi_lst_tuple, isi_lst_list, isi_lst_list_tuple, isi_lst_tuple_list, cmp_eq_ii, cmp_ne_ii, cmp_eq_bb, cmp_ne_bb, cmp_lt, cmp_le, cmp_gt, cmp_ge, cmp_ni_ii, sorted_list hok]
    exact h bs hbs
end G

namespace G
open PySem PySem.Spec PyProof.Rows L2 Z SP
/-! the law's defs -/
theorem lcounts_spec {n : Nat} {st : List SO} {p : P} {Q : Rs → List SO → Prop} (hp : ∀ b ∈ p, ∀ k ∈ b, k ∈ pts) (h : Q (.tup ((cf p.flatten).map .int), false) st) : Rp (callF fns wf (n + 1) id__law_counts [encP p] st) Q := by
  with_reducible refine c__law_counts fun cl hcl => ?_
  unfold b__law_counts encP
  try simp -implicitDefEqProofs only [wp_bind, wp_pure, wp_bad, wp_getS, wp_asB, wp_slotOpd, wp_rdSlot, wp_rdVar, wp_rdRet, wp_resV, wp_resS, wp_ress0, wp_ress, wp_setR, wp_setρ, wp_call, wp_setAt, wp_opd, wp_dat, wp_shr, wp_ownL, wp_popAt, wp_popLast, wp_app, wp_ins, wp_bindTup, wp_bindTs0, wp_bindTs, wp_bindNm, wp_blk, w_var, w_con, w_tup, w_lst, w_shr, w_bin, w_cmp, w_idx, w_cmp2, w_and2, w_or2, w_not1, w_ife, w_sli, w_call, w_blt, w_isi, w_lc, w_popk, w_popl, w_isN, w_neg, Z.w_rev, w_part0, w_part1, w_ds0, w_ds, w_os0, w_os, w_cs0, w_cs, line, w_asg, w_asgT, w_aug, w_setI, w_augI, w_lc2, w_app, w_ins, w_ext, w_expr, w_ret, w_retN, w_if, w_forE, w_whil, w_brk, w_cont, w_pass, w_ss0, w_ss, fw_nx, fw_brk, fw_cont, fw_ret, nn_none, nn_int, nn_bl, nn_str, nn_tup, nn_lst, ol_lst, op_some, op_none, op_ite, ob_bl, oi_int, sl_pu, sl_ow, al_ow, al_obj, so_lst, opdV, retV, endQ, letgo, ite_self, ixN_3_0, ixN_3_1, ixN_3_2, atI_0, atI_1, atI_2, atI_3, List.getElem?_cons_zero, List.getElem?_cons_succ, List.set_cons_zero, List.set_cons_succ, List.length_cons, List.length_nil, List.length_map, Option.bind_some, Option.map_some, List.nil_append, List.cons_append, List.length_singleton, Nat.zero_add, Nat.reduceAdd, Nat.reduceLT, Nat.reduceLeDiff, Nat.zero_le, if_false, if_true, Bool.false_eq_true, Bool.true_eq_false, Bool.not_true, Bool.not_false, reduceCtorEq, true_and, and_true, forall_const, false_and, and_false, false_implies, not_false_eq_true, not_true_eq_false, decide_true, decide_false, decide_eq_true_eq, decide_eq_false_iff_not, isi_none_int, isi_none_bool, isi_none_str, isi_none_tuple, isi_none_list, isi_none_list_tuple, isi_none_tuple_list, isi_bl_int, isi_bl_bool, isi_bl_str, isi_bl_tuple, isi_bl_list, isi_bl_list_tuple, isi_bl_tuple_list, isi_int_int, isi_int_bool, isi_int_str, isi_int_tuple, isi_int_list, isi_int_list_tuple, isi_int_tuple_list, isi_str_int, isi_str_bool, isi_str_str, isi_str_tuple, isi_str_list, isi_str_list_tuple, isi_str_tuple_list, isi_tup_int, isi_tup_bool, isi_tup_str, isi_tup_tuple, isi_tup_list, isi_tup_list_tuple, isi_tup_tuple_list, isi_lst_int, isi_lst_bool, isi_lst_str, isi_lst_tuple, isi_lst_list, isi_lst_list_tuple, isi_lst_tuple_list, cmp_eq_ii, cmp_ne_ii, cmp_eq_bb, cmp_ne_bb, cmp_lt, cmp_le, cmp_gt, cmp_ge, cmp_ni_ii, mul08, itemsD, it1, seqI]
  refine wp_for_foldm encB (fun dn s => ∃ x y, s = ⟨[.pu (.tup (p.map encB)), .ow (.lst ((cf dn.flatten).map .int)), x, y], st⟩) (done := []) ⟨_, _, rfl⟩ ?_ ?_
  · rintro b hb dn s ⟨x, y, rfl⟩
    unfold encB
    try simp -implicitDefEqProofs only [wp_bind, wp_pure, wp_bad, wp_getS, wp_asB, wp_slotOpd, wp_rdSlot, wp_rdVar, wp_rdRet, wp_resV, wp_resS, wp_ress0, wp_ress, wp_setR, wp_setρ, wp_call, wp_setAt, wp_opd, wp_dat, wp_shr, wp_ownL, wp_popAt, wp_popLast, wp_app, wp_ins, wp_bindTup, wp_bindTs0, wp_bindTs, wp_bindNm, wp_blk, w_var, w_con, w_tup, w_lst, w_shr, w_bin, w_cmp, w_idx, w_cmp2, w_and2, w_or2, w_not1, w_ife, w_sli, w_call, w_blt, w_isi, w_lc, w_popk, w_popl, w_isN, w_neg, Z.w_rev, w_part0, w_part1, w_ds0, w_ds, w_os0, w_os, w_cs0, w_cs, line, w_asg, w_asgT, w_aug, w_setI, w_augI, w_lc2, w_app, w_ins, w_ext, w_expr, w_ret, w_retN, w_if, w_forE, w_whil, w_brk, w_cont, w_pass, w_ss0, w_ss, fw_nx, fw_brk, fw_cont, fw_ret, nn_none, nn_int, nn_bl, nn_str, nn_tup, nn_lst, ol_lst, op_some, op_none, op_ite, ob_bl, oi_int, sl_pu, sl_ow, al_ow, al_obj, so_lst, opdV, retV, endQ, letgo, ite_self, ixN_3_0, ixN_3_1, ixN_3_2, atI_0, atI_1, atI_2, atI_3, List.getElem?_cons_zero, List.getElem?_cons_succ, List.set_cons_zero, List.set_cons_succ, List.length_cons, List.length_nil, List.length_map, Option.bind_some, Option.map_some, List.nil_append, List.cons_append, List.length_singleton, Nat.zero_add, Nat.reduceAdd, Nat.reduceLT, Nat.reduceLeDiff, Nat.zero_le, if_false, if_true, Bool.false_eq_true, Bool.true_eq_false, Bool.not_true, Bool.not_false, reduceCtorEq, true_and, and_true, forall_const, false_and, and_false, false_implies, not_false_eq_true, not_true_eq_false, decide_true, decide_false, decide_eq_true_eq, decide_eq_false_iff_not, isi_none_int, isi_none_bool, isi_none_str, isi_none_tuple, isi_none_list, isi_none_list_tuple, isi_none_tuple_list, isi_bl_int, isi_bl_bool, isi_bl_str, isi_bl_tuple, isi_bl_list, isi_bl_list_tuple, isi_bl_tuple_list, isi_int_int, isi_int_bool, isi_int_str, isi_int_tuple, isi_int_list, isi_int_list_tuple, isi_int_tuple_list, isi_str_int, isi_str_bool, isi_str_str, isi_str_tuple, isi_str_list, isi_str_list_tuple, isi_str_tuple_list, isi_tup_int, isi_tup_bool, isi_tup_str, isi_tup_tuple, isi_tup_list, isi_tup_list_tuple, isi_tup_tuple_list, isi_lst_int, isi_lst_bool, isi_lst_str, isi_lst_tuple, isi_lst_list, isi_lst_list_tuple, isi_lst_tuple_list, cmp_eq_ii, cmp_ne_ii, cmp_eq_bb, cmp_ne_bb, cmp_lt, cmp_le, cmp_gt, cmp_ge, cmp_ni_ii, itemsD, it1, seqI]
    refine wp_for_foldm D.int (fun bn s => ∃ y, s = ⟨[.pu (.tup (p.map fun b => .tup (b.map .int))), .ow (.lst ((cf (dn.flatten ++ bn)).map .int)), .pu (.tup (b.map .int)), y], st⟩) (done := []) ⟨_, by rw [List.append_nil]⟩ ?_ ?_
    · rintro k hk bn s ⟨y, rfl⟩
      have hk := hp b hb k hk
      have hl : ∀ l, ((cf l).map D.int).length = 8 := fun _ => rfl
      try simp -implicitDefEqProofs only [wp_bind, wp_pure, wp_bad, wp_getS, wp_asB, wp_slotOpd, wp_rdSlot, wp_rdVar, wp_rdRet, wp_resV, wp_resS, wp_ress0, wp_ress, wp_setR, wp_setρ, wp_call, wp_setAt, wp_opd, wp_dat, wp_shr, wp_ownL, wp_popAt, wp_popLast, wp_app, wp_ins, wp_bindTup, wp_bindTs0, wp_bindTs, wp_bindNm, wp_blk, w_var, w_con, w_tup, w_lst, w_shr, w_bin, w_cmp, w_idx, w_cmp2, w_and2, w_or2, w_not1, w_ife, w_sli, w_call, w_blt, w_isi, w_lc, w_popk, w_popl, w_isN, w_neg, Z.w_rev, w_part0, w_part1, w_ds0, w_ds, w_os0, w_os, w_cs0, w_cs, line, w_asg, w_asgT, w_aug, w_setI, w_augI, w_lc2, w_app, w_ins, w_ext, w_expr, w_ret, w_retN, w_if, w_forE, w_whil, w_brk, w_cont, w_pass, w_ss0, w_ss, fw_nx, fw_brk, fw_cont, fw_ret, nn_none, nn_int, nn_bl, nn_str, nn_tup, nn_lst, ol_lst, op_some, op_none, op_ite, ob_bl, oi_int, sl_pu, sl_ow, al_ow, al_obj, so_lst, opdV, retV, endQ, letgo, ite_self, ixN_3_0, ixN_3_1, ixN_3_2, atI_0, atI_1, atI_2, atI_3, List.getElem?_cons_zero, List.getElem?_cons_succ, List.set_cons_zero, List.set_cons_succ, List.length_cons, List.length_nil, List.length_map, Option.bind_some, Option.map_some, List.nil_append, List.cons_append, List.length_singleton, Nat.zero_add, Nat.reduceAdd, Nat.reduceLT, Nat.reduceLeDiff, Nat.zero_le, if_false, if_true, Bool.false_eq_true, Bool.true_eq_false, Bool.not_true, Bool.not_false, reduceCtorEq, true_and, and_true, forall_const, false_and, and_false, false_implies, not_false_eq_true, not_true_eq_false, decide_true, decide_false, decide_eq_true_eq, decide_eq_false_iff_not, isi_none_int, isi_none_bool, isi_none_str, isi_none_tuple, isi_none_list, isi_none_list_tuple, isi_none_tuple_list, isi_bl_int, isi_bl_bool, isi_bl_str, isi_bl_tuple, isi_bl_list, isi_bl_list_tuple, isi_bl_tuple_list, isi_int_int, isi_int_bool, isi_int_str, isi_int_tuple, isi_int_list, isi_int_list_tuple, isi_int_tuple_list, isi_str_int, isi_str_bool, isi_str_str, isi_str_tuple, isi_str_list, isi_str_list_tuple, isi_str_tuple_list, isi_tup_int, isi_tup_bool, isi_tup_str, isi_tup_tuple, isi_tup_list, isi_tup_list_tuple, isi_tup_tuple_list, isi_lst_int, isi_lst_bool, isi_lst_str, isi_lst_tuple, isi_lst_list, isi_lst_list_tuple, isi_lst_tuple_list, cmp_eq_ii, cmp_ne_ii, cmp_eq_bb, cmp_ne_bb, cmp_lt, cmp_le, cmp_gt, cmp_ge, cmp_ni_ii, idxD, seqD, binD, cf_get hk, hl, ix_pts hk, cf_set hk]
      exact ⟨(by first | exact Or.inl rfl | exact trivial | exact Or.inl trivial | simp), _, by rw [List.append_assoc]⟩
    · rintro s ⟨y, rfl⟩
      refine ⟨(by first | exact Or.inl rfl | exact trivial | exact Or.inl trivial | simp), .pu (.tup (b.map .int)), y, by rw [List.flatten_append, List.flatten_cons, List.flatten_nil, List.append_nil]; rfl⟩
  · rintro s ⟨x, y, rfl⟩
    try simp -implicitDefEqProofs only [wp_bind, wp_pure, wp_bad, wp_getS, wp_asB, wp_slotOpd, wp_rdSlot, wp_rdVar, wp_rdRet, wp_resV, wp_resS, wp_ress0, wp_ress, wp_setR, wp_setρ, wp_call, wp_setAt, wp_opd, wp_dat, wp_shr, wp_ownL, wp_popAt, wp_popLast, wp_app, wp_ins, wp_bindTup, wp_bindTs0, wp_bindTs, wp_bindNm, wp_blk, w_var, w_con, w_tup, w_lst, w_shr, w_bin, w_cmp, w_idx, w_cmp2, w_and2, w_or2, w_not1, w_ife, w_sli, w_call, w_blt, w_isi, w_lc, w_popk, w_popl, w_isN, w_neg, Z.w_rev, w_part0, w_part1, w_ds0, w_ds, w_os0, w_os, w_cs0, w_cs, line, w_asg, w_asgT, w_aug, w_setI, w_augI, w_lc2, w_app, w_ins, w_ext, w_expr, w_ret, w_retN, w_if, w_forE, w_whil, w_brk, w_cont, w_pass, w_ss0, w_ss, fw_nx, fw_brk, fw_cont, fw_ret, nn_none, nn_int, nn_bl, nn_str, nn_tup, nn_lst, ol_lst, op_some, op_none, op_ite, ob_bl, oi_int, sl_pu, sl_ow, al_ow, al_obj, so_lst, opdV, retV, endQ, letgo, ite_self, ixN_3_0, ixN_3_1, ixN_3_2, atI_0, atI_1, atI_2, atI_3, List.getElem?_cons_zero, List.getElem?_cons_succ, List.set_cons_zero, List.set_cons_succ, List.length_cons, List.length_nil, List.length_map, Option.bind_some, Option.map_some, List.nil_append, List.cons_append, List.length_singleton, Nat.zero_add, Nat.reduceAdd, Nat.reduceLT, Nat.reduceLeDiff, Nat.zero_le, if_false, if_true, Bool.false_eq_true, Bool.true_eq_false, Bool.not_true, Bool.not_false, reduceCtorEq, true_and, and_true, forall_const, false_and, and_false, false_implies, not_false_eq_true, not_true_eq_false, decide_true, decide_false, decide_eq_true_eq, decide_eq_false_iff_not, isi_none_int, isi_none_bool, isi_none_str, isi_none_tuple, isi_none_list, isi_none_list_tuple, isi_none_tuple_list, isi_bl_int, isi_bl_bool, isi_bl_str, isi_bl_tuple, isi_bl_list, isi_bl_list_tuple, isi_bl_tuple_list, isi_int_int, isi_int_bool, isi_int_str, isi_int_tuple, isi_int_list, isi_int_list_tuple, isi_int_tuple_list, isi_str_int, isi_str_bool, isi_str_str, isi_str_tuple, isi_str_list, isi_str_list_tuple, isi_str_tuple_list, isi_tup_int, isi_tup_bool, isi_tup_str, isi_tup_tuple, isi_tup_list, isi_tup_list_tuple, isi_tup_tuple_list, isi_lst_int, isi_lst_bool, isi_lst_str, isi_lst_tuple, isi_lst_list, isi_lst_list_tuple, isi_lst_tuple_list, cmp_eq_ii, cmp_ne_ii, cmp_eq_bb, cmp_ne_bb, cmp_lt, cmp_le, cmp_gt, cmp_ge, cmp_ni_ii, bltD, on1, tupleD]
    exact h
theorem less_spec {n : Nat} {st : List SO} {c : List Int} {b : B} {Q : Rs → List SO → Prop} (h8 : c.length = 8) (h : Q (.tup ((less c b).map .int), false) st) : Rp (callF fns wf (n + 1) id__law_less [.tup (c.map .int), encB b] st) Q := by
  with_reducible refine c__law_less fun cl hcl => ?_
  unfold b__law_less encB
  try simp -implicitDefEqProofs only [wp_bind, wp_pure, wp_bad, wp_getS, wp_asB, wp_slotOpd, wp_rdSlot, wp_rdVar, wp_rdRet, wp_resV, wp_resS, wp_ress0, wp_ress, wp_setR, wp_setρ, wp_call, wp_setAt, wp_opd, wp_dat, wp_shr, wp_ownL, wp_popAt, wp_popLast, wp_app, wp_ins, wp_bindTup, wp_bindTs0, wp_bindTs, wp_bindNm, wp_blk, w_var, w_con, w_tup, w_lst, w_shr, w_bin, w_cmp, w_idx, w_cmp2, w_and2, w_or2, w_not1, w_ife, w_sli, w_call, w_blt, w_isi, w_lc, w_popk, w_popl, w_isN, w_neg, Z.w_rev, w_part0, w_part1, w_ds0, w_ds, w_os0, w_os, w_cs0, w_cs, line, w_asg, w_asgT, w_aug, w_setI, w_augI, w_lc2, w_app, w_ins, w_ext, w_expr, w_ret, w_retN, w_if, w_forE, w_whil, w_brk, w_cont, w_pass, w_ss0, w_ss, fw_nx, fw_brk, fw_cont, fw_ret, nn_none, nn_int, nn_bl, nn_str, nn_tup, nn_lst, ol_lst, op_some, op_none, op_ite, ob_bl, oi_int, sl_pu, sl_ow, al_ow, al_obj, so_lst, opdV, retV, endQ, letgo, ite_self, ixN_3_0, ixN_3_1, ixN_3_2, atI_0, atI_1, atI_2, atI_3, List.getElem?_cons_zero, List.getElem?_cons_succ, List.set_cons_zero, List.set_cons_succ, List.length_cons, List.length_nil, List.length_map, Option.bind_some, Option.map_some, List.nil_append, List.cons_append, List.length_singleton, Nat.zero_add, Nat.reduceAdd, Nat.reduceLT, Nat.reduceLeDiff, Nat.zero_le, if_false, if_true, Bool.false_eq_true, Bool.true_eq_false, Bool.not_true, Bool.not_false, reduceCtorEq, true_and, and_true, forall_const, false_and, and_false, false_implies, not_false_eq_true, not_true_eq_false, decide_true, decide_false, decide_eq_true_eq, decide_eq_false_iff_not, isi_none_int, isi_none_bool, isi_none_str, isi_none_tuple, isi_none_list, isi_none_list_tuple, isi_none_tuple_list, isi_bl_int, isi_bl_bool, isi_bl_str, isi_bl_tuple, isi_bl_list, isi_bl_list_tuple, isi_bl_tuple_list, isi_int_int, isi_int_bool, isi_int_str, isi_int_tuple, isi_int_list, isi_int_list_tuple, isi_int_tuple_list, isi_str_int, isi_str_bool, isi_str_str, isi_str_tuple, isi_str_list, isi_str_list_tuple, isi_str_tuple_list, isi_tup_int, isi_tup_bool, isi_tup_str, isi_tup_tuple, isi_tup_list, isi_tup_list_tuple, isi_tup_tuple_list, isi_lst_int, isi_lst_bool, isi_lst_str, isi_lst_tuple, isi_lst_list, isi_lst_list_tuple, isi_lst_tuple_list, cmp_eq_ii, cmp_ne_ii, cmp_eq_bb, cmp_ne_bb, cmp_lt, cmp_le, cmp_gt, cmp_ge, cmp_ni_ii, pts_items]
  refine wp_lc_map D.int (fun _ => true) (fun k => .int (get c k - (if k ∈ b then 1 else 0))) (fun s => ∃ y, s = ⟨[.pu (.tup (c.map .int)), .pu (.tup (b.map .int)), y], st⟩) ⟨_, rfl⟩ (by decide) ?_ ?_
  · rintro k hk s ⟨y, rfl⟩
    try simp -implicitDefEqProofs only [wp_bind, wp_pure, wp_bad, wp_getS, wp_asB, wp_slotOpd, wp_rdSlot, wp_rdVar, wp_rdRet, wp_resV, wp_resS, wp_ress0, wp_ress, wp_setR, wp_setρ, wp_call, wp_setAt, wp_opd, wp_dat, wp_shr, wp_ownL, wp_popAt, wp_popLast, wp_app, wp_ins, wp_bindTup, wp_bindTs0, wp_bindTs, wp_bindNm, wp_blk, w_var, w_con, w_tup, w_lst, w_shr, w_bin, w_cmp, w_idx, w_cmp2, w_and2, w_or2, w_not1, w_ife, w_sli, w_call, w_blt, w_isi, w_lc, w_popk, w_popl, w_isN, w_neg, Z.w_rev, w_part0, w_part1, w_ds0, w_ds, w_os0, w_os, w_cs0, w_cs, line, w_asg, w_asgT, w_aug, w_setI, w_augI, w_lc2, w_app, w_ins, w_ext, w_expr, w_ret, w_retN, w_if, w_forE, w_whil, w_brk, w_cont, w_pass, w_ss0, w_ss, fw_nx, fw_brk, fw_cont, fw_ret, nn_none, nn_int, nn_bl, nn_str, nn_tup, nn_lst, ol_lst, op_some, op_none, op_ite, ob_bl, oi_int, sl_pu, sl_ow, al_ow, al_obj, so_lst, opdV, retV, endQ, letgo, ite_self, ixN_3_0, ixN_3_1, ixN_3_2, atI_0, atI_1, atI_2, atI_3, List.getElem?_cons_zero, List.getElem?_cons_succ, List.set_cons_zero, List.set_cons_succ, List.length_cons, List.length_nil, List.length_map, Option.bind_some, Option.map_some, List.nil_append, List.cons_append, List.length_singleton, Nat.zero_add, Nat.reduceAdd, Nat.reduceLT, Nat.reduceLeDiff, Nat.zero_le, if_false, if_true, Bool.false_eq_true, Bool.true_eq_false, Bool.not_true, Bool.not_false, reduceCtorEq, true_and, and_true, forall_const, false_and, and_false, false_implies, not_false_eq_true, not_true_eq_false, decide_true, decide_false, decide_eq_true_eq, decide_eq_false_iff_not, isi_none_int, isi_none_bool, isi_none_str, isi_none_tuple, isi_none_list, isi_none_list_tuple, isi_none_tuple_list, isi_bl_int, isi_bl_bool, isi_bl_str, isi_bl_tuple, isi_bl_list, isi_bl_list_tuple, isi_bl_tuple_list, isi_int_int, isi_int_bool, isi_int_str, isi_int_tuple, isi_int_list, isi_int_list_tuple, isi_int_tuple_list, isi_str_int, isi_str_bool, isi_str_str, isi_str_tuple, isi_str_list, isi_str_list_tuple, isi_str_tuple_list, isi_tup_int, isi_tup_bool, isi_tup_str, isi_tup_tuple, isi_tup_list, isi_tup_list_tuple, isi_tup_tuple_list, isi_lst_int, isi_lst_bool, isi_lst_str, isi_lst_tuple, isi_lst_list, isi_lst_list_tuple, isi_lst_tuple_list, cmp_eq_ii, cmp_ne_ii, cmp_eq_bb, cmp_ne_bb, cmp_lt, cmp_le, cmp_gt, cmp_ge, cmp_ni_ii, wp_wipe, List.foldr_cons, List.foldr_nil, idxD, seqD, get_at h8 hk, En.int.in_tup (by decide) k b, binD]
    refine ⟨fun e => ⟨by rw [if_pos e], _, rfl⟩, fun e => ⟨by rw [if_neg e], _, rfl⟩⟩
  · rintro s ⟨y, rfl⟩
    rw [ft_true, List.nil_append]
    try simp -implicitDefEqProofs only [wp_bind, wp_pure, wp_bad, wp_getS, wp_asB, wp_slotOpd, wp_rdSlot, wp_rdVar, wp_rdRet, wp_resV, wp_resS, wp_ress0, wp_ress, wp_setR, wp_setρ, wp_call, wp_setAt, wp_opd, wp_dat, wp_shr, wp_ownL, wp_popAt, wp_popLast, wp_app, wp_ins, wp_bindTup, wp_bindTs0, wp_bindTs, wp_bindNm, wp_blk, w_var, w_con, w_tup, w_lst, w_shr, w_bin, w_cmp, w_idx, w_cmp2, w_and2, w_or2, w_not1, w_ife, w_sli, w_call, w_blt, w_isi, w_lc, w_popk, w_popl, w_isN, w_neg, Z.w_rev, w_part0, w_part1, w_ds0, w_ds, w_os0, w_os, w_cs0, w_cs, line, w_asg, w_asgT, w_aug, w_setI, w_augI, w_lc2, w_app, w_ins, w_ext, w_expr, w_ret, w_retN, w_if, w_forE, w_whil, w_brk, w_cont, w_pass, w_ss0, w_ss, fw_nx, fw_brk, fw_cont, fw_ret, nn_none, nn_int, nn_bl, nn_str, nn_tup, nn_lst, ol_lst, op_some, op_none, op_ite, ob_bl, oi_int, sl_pu, sl_ow, al_ow, al_obj, so_lst, opdV, retV, endQ, letgo, ite_self, ixN_3_0, ixN_3_1, ixN_3_2, atI_0, atI_1, atI_2, atI_3, List.getElem?_cons_zero, List.getElem?_cons_succ, List.set_cons_zero, List.set_cons_succ, List.length_cons, List.length_nil, List.length_map, Option.bind_some, Option.map_some, List.nil_append, List.cons_append, List.length_singleton, Nat.zero_add, Nat.reduceAdd, Nat.reduceLT, Nat.reduceLeDiff, Nat.zero_le, if_false, if_true, Bool.false_eq_true, Bool.true_eq_false, Bool.not_true, Bool.not_false, reduceCtorEq, true_and, and_true, forall_const, false_and, and_false, false_implies, not_false_eq_true, not_true_eq_false, decide_true, decide_false, decide_eq_true_eq, decide_eq_false_iff_not, isi_none_int, isi_none_bool, isi_none_str, isi_none_tuple, isi_none_list, isi_none_list_tuple, isi_none_tuple_list, isi_bl_int, isi_bl_bool, isi_bl_str, isi_bl_tuple, isi_bl_list, isi_bl_list_tuple, isi_bl_tuple_list, isi_int_int, isi_int_bool, isi_int_str, isi_int_tuple, isi_int_list, isi_int_list_tuple, isi_int_tuple_list, isi_str_int, isi_str_bool, isi_str_str, isi_str_tuple, isi_str_list, isi_str_list_tuple, isi_str_tuple_list, isi_tup_int, isi_tup_bool, isi_tup_str, isi_tup_tuple, isi_tup_list, isi_tup_list_tuple, isi_tup_tuple_list, isi_lst_int, isi_lst_bool, isi_lst_str, isi_lst_tuple, isi_lst_list, isi_lst_list_tuple, isi_lst_tuple_list, cmp_eq_ii, cmp_ne_ii, cmp_eq_bb, cmp_ne_bb, cmp_lt, cmp_le, cmp_gt, cmp_ge, cmp_ni_ii, unwipe, List.foldr_cons, List.foldr_nil, bltD, on1, tupleD]
    have e : (pts.map fun k => D.int (get c k - (if k ∈ b then 1 else 0))) = (less c b).map D.int := by
      unfold less
      rw [List.map_map]
      rfl
    rw [e]
    exact h
theorem lch_len : ∀ (m : Nat) (pool : List Int), pool.length ≤ 8 → (lch m pool).length ≤ 8 ^ m
  | 0, _, _ => by unfold lch; simp
  | m + 1, pool, h => by
    unfold lch
    rw [List.length_flatMap]
    have : ∀ l : List Nat, (l.map fun a => ((lch m (pool.drop (a + 1))).map fun r => (pool[a]?.getD 0) :: r).length).sum ≤ l.length * 8 ^ m := by
      intro l
      induction l with
      | nil => simp
      | cons a l ih =>
        rw [List.map_cons, List.sum_cons, List.length_cons, List.length_map, Nat.succ_mul]
        have := lch_len m (pool.drop (a + 1)) (by rw [List.length_drop]; omega)
        omega
    have h2 := this (List.range pool.length)
    rw [List.length_range] at h2
    have h3 : pool.length * 8 ^ m ≤ 8 * 8 ^ m := Nat.mul_le_mul_right _ h
    rw [Nat.pow_succ, Nat.mul_comm (8 ^ m)]
    omega
theorem lch_prefix (m : Nat) (pool : List Int) (dn : List Nat) (a : Nat) : (dn ++ [a]).flatMap (fun a => (lch m (pool.drop (a + 1))).map fun r => (pool[a]?.getD 0) :: r) = dn.flatMap (fun a => (lch m (pool.drop (a + 1))).map fun r => (pool[a]?.getD 0) :: r) ++ (lch m (pool.drop (a + 1))).map fun r => (pool[a]?.getD 0) :: r := by
  rw [List.flatMap_append, List.flatMap_cons, List.flatMap_nil, List.append_nil]
theorem cut_from {ds : List D} {j : Nat} : Z.cutD ds (some ((j : Int) + 1)) none = ds.drop (j + 1) := by
  have e : ((j : Int) + 1) = ((j + 1 : Nat) : Int) := by omega
  unfold Z.cutD
  rw [e, HT.sIx_none, HT.sIx_nat]
  by_cases h : j + 1 ≤ ds.length
  · rw [Nat.min_eq_left h]
    exact List.take_of_length_le (by rw [List.length_drop]; omega)
  · rw [Nat.min_eq_right (by omega), Nat.sub_self, List.take_zero, List.drop_eq_nil_of_le (by omega)]
theorem lch_mlen : ∀ (m : Nat) (pool : List Int), ∀ b ∈ lch m pool, b.length = m
  | 0, _, b, h => by
    unfold lch at h
    rw [List.mem_singleton.mp h]
    rfl
  | m + 1, pool, b, h => by
    unfold lch at h
    obtain ⟨a, _, h⟩ := List.mem_flatMap.mp h
    obtain ⟨r, hr, rfl⟩ := List.mem_map.mp h
    rw [List.length_cons, lch_mlen m _ r hr]
theorem lch_plen (m : Nat) (pool : List Int) (hp : pool.length ≤ 8) : ∀ dn : List Nat, (dn.flatMap (fun a => (lch m (pool.drop (a + 1))).map fun r => (pool[a]?.getD 0) :: r)).length ≤ dn.length * 8 ^ m
  | [] => by simp
  | a :: dn => by
    rw [List.flatMap_cons, List.length_append, List.length_map, List.length_cons, Nat.succ_mul]
    have := lch_len m (pool.drop (a + 1)) (by rw [List.length_drop]; omega)
    have := lch_plen m pool hp dn
    omega
theorem lchoices_spec : ∀ {m n : Nat} {st : List SO} {pool : List Int} {big : Int} {Q : Rs → List SO → Prop}, big = (m : Int) → pool.length ≤ 8 → m ≤ 4 → Q (.lst ((lch m pool).map encB), true) st → Rp (callF fns wf (n + m + 1) id__law_choices [.tup (pool.map .int), .int big] st) Q := by
  intro m
  induction m with
  | zero =>
    intro n st pool big Q hb hp hm h
    with_reducible refine c__law_choices fun cl hcl => ?_
    unfold b__law_choices
    have hb : big = 0 := hb
    try simp -implicitDefEqProofs only [wp_bind, wp_pure, wp_bad, wp_getS, wp_asB, wp_slotOpd, wp_rdSlot, wp_rdVar, wp_rdRet, wp_resV, wp_resS, wp_ress0, wp_ress, wp_setR, wp_setρ, wp_call, wp_setAt, wp_opd, wp_dat, wp_shr, wp_ownL, wp_popAt, wp_popLast, wp_app, wp_ins, wp_bindTup, wp_bindTs0, wp_bindTs, wp_bindNm, wp_blk, w_var, w_con, w_tup, w_lst, w_shr, w_bin, w_cmp, w_idx, w_cmp2, w_and2, w_or2, w_not1, w_ife, w_sli, w_call, w_blt, w_isi, w_lc, w_popk, w_popl, w_isN, w_neg, Z.w_rev, w_part0, w_part1, w_ds0, w_ds, w_os0, w_os, w_cs0, w_cs, line, w_asg, w_asgT, w_aug, w_setI, w_augI, w_lc2, w_app, w_ins, w_ext, w_expr, w_ret, w_retN, w_if, w_forE, w_whil, w_brk, w_cont, w_pass, w_ss0, w_ss, fw_nx, fw_brk, fw_cont, fw_ret, nn_none, nn_int, nn_bl, nn_str, nn_tup, nn_lst, ol_lst, op_some, op_none, op_ite, ob_bl, oi_int, sl_pu, sl_ow, al_ow, al_obj, so_lst, opdV, retV, endQ, letgo, ite_self, ixN_3_0, ixN_3_1, ixN_3_2, atI_0, atI_1, atI_2, atI_3, List.getElem?_cons_zero, List.getElem?_cons_succ, List.set_cons_zero, List.set_cons_succ, List.length_cons, List.length_nil, List.length_map, Option.bind_some, Option.map_some, List.nil_append, List.cons_append, List.length_singleton, Nat.zero_add, Nat.reduceAdd, Nat.reduceLT, Nat.reduceLeDiff, Nat.zero_le, if_false, if_true, Bool.false_eq_true, Bool.true_eq_false, Bool.not_true, Bool.not_false, reduceCtorEq, true_and, and_true, forall_const, false_and, and_false, false_implies, not_false_eq_true, not_true_eq_false, decide_true, decide_false, decide_eq_true_eq, decide_eq_false_iff_not, isi_none_int, isi_none_bool, isi_none_str, isi_none_tuple, isi_none_list, isi_none_list_tuple, isi_none_tuple_list, isi_bl_int, isi_bl_bool, isi_bl_str, isi_bl_tuple, isi_bl_list, isi_bl_list_tuple, isi_bl_tuple_list, isi_int_int, isi_int_bool, isi_int_str, isi_int_tuple, isi_int_list, isi_int_list_tuple, isi_int_tuple_list, isi_str_int, isi_str_bool, isi_str_str, isi_str_tuple, isi_str_list, isi_str_list_tuple, isi_str_tuple_list, isi_tup_int, isi_tup_bool, isi_tup_str, isi_tup_tuple, isi_tup_list, isi_tup_list_tuple, isi_tup_tuple_list, isi_lst_int, isi_lst_bool, isi_lst_str, isi_lst_tuple, isi_lst_list, isi_lst_list_tuple, isi_lst_tuple_list, cmp_eq_ii, cmp_ne_ii, cmp_eq_bb, cmp_ne_bb, cmp_lt, cmp_le, cmp_gt, cmp_ge, cmp_ni_ii, hb]
    exact h
  | succ m ih =>
    intro n st pool big Q hb hp hm h
    with_reducible refine c__law_choices fun cl hcl => ?_
    unfold b__law_choices
    have e0 : ¬ (big = 0) := by omega
    have e1 : big - 1 = (m : Int) := by omega
    try simp -implicitDefEqProofs only [wp_bind, wp_pure, wp_bad, wp_getS, wp_asB, wp_slotOpd, wp_rdSlot, wp_rdVar, wp_rdRet, wp_resV, wp_resS, wp_ress0, wp_ress, wp_setR, wp_setρ, wp_call, wp_setAt, wp_opd, wp_dat, wp_shr, wp_ownL, wp_popAt, wp_popLast, wp_app, wp_ins, wp_bindTup, wp_bindTs0, wp_bindTs, wp_bindNm, wp_blk, w_var, w_con, w_tup, w_lst, w_shr, w_bin, w_cmp, w_idx, w_cmp2, w_and2, w_or2, w_not1, w_ife, w_sli, w_call, w_blt, w_isi, w_lc, w_popk, w_popl, w_isN, w_neg, Z.w_rev, w_part0, w_part1, w_ds0, w_ds, w_os0, w_os, w_cs0, w_cs, line, w_asg, w_asgT, w_aug, w_setI, w_augI, w_lc2, w_app, w_ins, w_ext, w_expr, w_ret, w_retN, w_if, w_forE, w_whil, w_brk, w_cont, w_pass, w_ss0, w_ss, fw_nx, fw_brk, fw_cont, fw_ret, nn_none, nn_int, nn_bl, nn_str, nn_tup, nn_lst, ol_lst, op_some, op_none, op_ite, ob_bl, oi_int, sl_pu, sl_ow, al_ow, al_obj, so_lst, opdV, retV, endQ, letgo, ite_self, ixN_3_0, ixN_3_1, ixN_3_2, atI_0, atI_1, atI_2, atI_3, List.getElem?_cons_zero, List.getElem?_cons_succ, List.set_cons_zero, List.set_cons_succ, List.length_cons, List.length_nil, List.length_map, Option.bind_some, Option.map_some, List.nil_append, List.cons_append, List.length_singleton, Nat.zero_add, Nat.reduceAdd, Nat.reduceLT, Nat.reduceLeDiff, Nat.zero_le, if_false, if_true, Bool.false_eq_true, Bool.true_eq_false, Bool.not_true, Bool.not_false, reduceCtorEq, true_and, and_true, forall_const, false_and, and_false, false_implies, not_false_eq_true, not_true_eq_false, decide_true, decide_false, decide_eq_true_eq, decide_eq_false_iff_not, isi_none_int, isi_none_bool, isi_none_str, isi_none_tuple, isi_none_list, isi_none_list_tuple, isi_none_tuple_list, isi_bl_int, isi_bl_bool, isi_bl_str, isi_bl_tuple, isi_bl_list, isi_bl_list_tuple, isi_bl_tuple_list, isi_int_int, isi_int_bool, isi_int_str, isi_int_tuple, isi_int_list, isi_int_list_tuple, isi_int_tuple_list, isi_str_int, isi_str_bool, isi_str_str, isi_str_tuple, isi_str_list, isi_str_list_tuple, isi_str_tuple_list, isi_tup_int, isi_tup_bool, isi_tup_str, isi_tup_tuple, isi_tup_list, isi_tup_list_tuple, isi_tup_tuple_list, isi_lst_int, isi_lst_bool, isi_lst_str, isi_lst_tuple, isi_lst_list, isi_lst_list_tuple, isi_lst_tuple_list, cmp_eq_ii, cmp_ne_ii, cmp_eq_bb, cmp_ne_bb, cmp_lt, cmp_le, cmp_gt, cmp_ge, cmp_ni_ii, e0, bltD, on1, lenD, seqD, items_rng1 (n := pool.length) (by omega)]
    refine wp_for_fold0 (fun (k : Nat) => D.int (k : Int)) (fun dn s => ∃ x3 x4, s = ⟨[.pu (.tup (pool.map .int)), .pu (.int big), .ow (.lst ((dn.flatMap (fun a => (lch m (pool.drop (a + 1))).map fun r => (pool[a]?.getD 0) :: r)).map encB)), x3, x4], st⟩) ⟨_, _, rfl⟩ ?_ ?_
    · rintro dn a r hr s ⟨x3, x4, rfl⟩
      have hal : a < pool.length := by
        have : a ∈ List.range pool.length := by rw [hr]; simp
        simpa using this
      have hdl : dn.length < 8 := by
        have := congrArg List.length hr
        simp at this
        omega
      have ecut : sliD (.tup (pool.map .int)) (some ((a : Int) + 1)) none = some (.tup ((pool.drop (a + 1)).map .int), false) := by
        show some (D.tup (Z.cutD (pool.map D.int) (some ((a : Int) + 1)) none), false) = _
        rw [cut_from, List.map_drop]
      try simp -implicitDefEqProofs only [wp_bind, wp_pure, wp_bad, wp_getS, wp_asB, wp_slotOpd, wp_rdSlot, wp_rdVar, wp_rdRet, wp_resV, wp_resS, wp_ress0, wp_ress, wp_setR, wp_setρ, wp_call, wp_setAt, wp_opd, wp_dat, wp_shr, wp_ownL, wp_popAt, wp_popLast, wp_app, wp_ins, wp_bindTup, wp_bindTs0, wp_bindTs, wp_bindNm, wp_blk, w_var, w_con, w_tup, w_lst, w_shr, w_bin, w_cmp, w_idx, w_cmp2, w_and2, w_or2, w_not1, w_ife, w_sli, w_call, w_blt, w_isi, w_lc, w_popk, w_popl, w_isN, w_neg, Z.w_rev, w_part0, w_part1, w_ds0, w_ds, w_os0, w_os, w_cs0, w_cs, line, w_asg, w_asgT, w_aug, w_setI, w_augI, w_lc2, w_app, w_ins, w_ext, w_expr, w_ret, w_retN, w_if, w_forE, w_whil, w_brk, w_cont, w_pass, w_ss0, w_ss, fw_nx, fw_brk, fw_cont, fw_ret, nn_none, nn_int, nn_bl, nn_str, nn_tup, nn_lst, ol_lst, op_some, op_none, op_ite, ob_bl, oi_int, sl_pu, sl_ow, al_ow, al_obj, so_lst, opdV, retV, endQ, letgo, ite_self, ixN_3_0, ixN_3_1, ixN_3_2, atI_0, atI_1, atI_2, atI_3, List.getElem?_cons_zero, List.getElem?_cons_succ, List.set_cons_zero, List.set_cons_succ, List.length_cons, List.length_nil, List.length_map, Option.bind_some, Option.map_some, List.nil_append, List.cons_append, List.length_singleton, Nat.zero_add, Nat.reduceAdd, Nat.reduceLT, Nat.reduceLeDiff, Nat.zero_le, if_false, if_true, Bool.false_eq_true, Bool.true_eq_false, Bool.not_true, Bool.not_false, reduceCtorEq, true_and, and_true, forall_const, false_and, and_false, false_implies, not_false_eq_true, not_true_eq_false, decide_true, decide_false, decide_eq_true_eq, decide_eq_false_iff_not, isi_none_int, isi_none_bool, isi_none_str, isi_none_tuple, isi_none_list, isi_none_list_tuple, isi_none_tuple_list, isi_bl_int, isi_bl_bool, isi_bl_str, isi_bl_tuple, isi_bl_list, isi_bl_list_tuple, isi_bl_tuple_list, isi_int_int, isi_int_bool, isi_int_str, isi_int_tuple, isi_int_list, isi_int_list_tuple, isi_int_tuple_list, isi_str_int, isi_str_bool, isi_str_str, isi_str_tuple, isi_str_list, isi_str_list_tuple, isi_str_tuple_list, isi_tup_int, isi_tup_bool, isi_tup_str, isi_tup_tuple, isi_tup_list, isi_tup_list_tuple, isi_tup_tuple_list, isi_lst_int, isi_lst_bool, isi_lst_str, isi_lst_tuple, isi_lst_list, isi_lst_list_tuple, isi_lst_tuple_list, cmp_eq_ii, cmp_ne_ii, cmp_eq_bb, cmp_ne_bb, cmp_lt, cmp_le, cmp_gt, cmp_ge, cmp_ni_ii, binD, ecut, e1]
      with_reducible refine rp_cl hcl (ih rfl (by rw [List.length_drop]; omega) (by omega) ?_)
      try simp -implicitDefEqProofs only [wp_bind, wp_pure, wp_bad, wp_getS, wp_asB, wp_slotOpd, wp_rdSlot, wp_rdVar, wp_rdRet, wp_resV, wp_resS, wp_ress0, wp_ress, wp_setR, wp_setρ, wp_call, wp_setAt, wp_opd, wp_dat, wp_shr, wp_ownL, wp_popAt, wp_popLast, wp_app, wp_ins, wp_bindTup, wp_bindTs0, wp_bindTs, wp_bindNm, wp_blk, w_var, w_con, w_tup, w_lst, w_shr, w_bin, w_cmp, w_idx, w_cmp2, w_and2, w_or2, w_not1, w_ife, w_sli, w_call, w_blt, w_isi, w_lc, w_popk, w_popl, w_isN, w_neg, Z.w_rev, w_part0, w_part1, w_ds0, w_ds, w_os0, w_os, w_cs0, w_cs, line, w_asg, w_asgT, w_aug, w_setI, w_augI, w_lc2, w_app, w_ins, w_ext, w_expr, w_ret, w_retN, w_if, w_forE, w_whil, w_brk, w_cont, w_pass, w_ss0, w_ss, fw_nx, fw_brk, fw_cont, fw_ret, nn_none, nn_int, nn_bl, nn_str, nn_tup, nn_lst, ol_lst, op_some, op_none, op_ite, ob_bl, oi_int, sl_pu, sl_ow, al_ow, al_obj, so_lst, opdV, retV, endQ, letgo, ite_self, ixN_3_0, ixN_3_1, ixN_3_2, atI_0, atI_1, atI_2, atI_3, List.getElem?_cons_zero, List.getElem?_cons_succ, List.set_cons_zero, List.set_cons_succ, List.length_cons, List.length_nil, List.length_map, Option.bind_some, Option.map_some, List.nil_append, List.cons_append, List.length_singleton, Nat.zero_add, Nat.reduceAdd, Nat.reduceLT, Nat.reduceLeDiff, Nat.zero_le, if_false, if_true, Bool.false_eq_true, Bool.true_eq_false, Bool.not_true, Bool.not_false, reduceCtorEq, true_and, and_true, forall_const, false_and, and_false, false_implies, not_false_eq_true, not_true_eq_false, decide_true, decide_false, decide_eq_true_eq, decide_eq_false_iff_not, isi_none_int, isi_none_bool, isi_none_str, isi_none_tuple, isi_none_list, isi_none_list_tuple, isi_none_tuple_list, isi_bl_int, isi_bl_bool, isi_bl_str, isi_bl_tuple, isi_bl_list, isi_bl_list_tuple, isi_bl_tuple_list, isi_int_int, isi_int_bool, isi_int_str, isi_int_tuple, isi_int_list, isi_int_list_tuple, isi_int_tuple_list, isi_str_int, isi_str_bool, isi_str_str, isi_str_tuple, isi_str_list, isi_str_list_tuple, isi_str_tuple_list, isi_tup_int, isi_tup_bool, isi_tup_str, isi_tup_tuple, isi_tup_list, isi_tup_list_tuple, isi_tup_tuple_list, isi_lst_int, isi_lst_bool, isi_lst_str, isi_lst_tuple, isi_lst_list, isi_lst_list_tuple, isi_lst_tuple_list, cmp_eq_ii, cmp_ne_ii, cmp_eq_bb, cmp_ne_bb, cmp_lt, cmp_le, cmp_gt, cmp_ge, cmp_ni_ii, itemsD, it1, seqI]
      have hix : atI (pool.map D.int) (a : Int) = some (.int pool[a]) := by rw [atI_nn (by simpa using hal)]; simp
      refine wp_lc_map encB (fun _ => true) (fun r => encB ((pool[a]?.getD 0) :: r)) (fun s => ∃ x2 x4, s = ⟨[.pu (.tup (pool.map .int)), .pu (.int big), x2, .pu (.int (a : Int)), x4], st⟩ ∧ x2 = .ow (.lst ((dn.flatMap (fun a => (lch m (pool.drop (a + 1))).map fun r => (pool[a]?.getD 0) :: r)).map encB))) ⟨_, _, rfl, rfl⟩ ?_ ?_ ?_
      · have := lch_len m (pool.drop (a + 1)) (by rw [List.length_drop]; omega)
        have h2 : 8 ^ m ≤ 8 ^ 3 := Nat.pow_le_pow_right (by decide) (by omega)
        rw [line_eq']
        simp
        omega
      · rintro r' hr' s ⟨x2, x4, rfl, h2⟩
        unfold encB
        have hr2 := lch_mlen m _ r' hr'
        have hg : pool[a]?.getD 0 = pool[a] := by simp [hal]
        try simp -implicitDefEqProofs only [wp_bind, wp_pure, wp_bad, wp_getS, wp_asB, wp_slotOpd, wp_rdSlot, wp_rdVar, wp_rdRet, wp_resV, wp_resS, wp_ress0, wp_ress, wp_setR, wp_setρ, wp_call, wp_setAt, wp_opd, wp_dat, wp_shr, wp_ownL, wp_popAt, wp_popLast, wp_app, wp_ins, wp_bindTup, wp_bindTs0, wp_bindTs, wp_bindNm, wp_blk, w_var, w_con, w_tup, w_lst, w_shr, w_bin, w_cmp, w_idx, w_cmp2, w_and2, w_or2, w_not1, w_ife, w_sli, w_call, w_blt, w_isi, w_lc, w_popk, w_popl, w_isN, w_neg, Z.w_rev, w_part0, w_part1, w_ds0, w_ds, w_os0, w_os, w_cs0, w_cs, line, w_asg, w_asgT, w_aug, w_setI, w_augI, w_lc2, w_app, w_ins, w_ext, w_expr, w_ret, w_retN, w_if, w_forE, w_whil, w_brk, w_cont, w_pass, w_ss0, w_ss, fw_nx, fw_brk, fw_cont, fw_ret, nn_none, nn_int, nn_bl, nn_str, nn_tup, nn_lst, ol_lst, op_some, op_none, op_ite, ob_bl, oi_int, sl_pu, sl_ow, al_ow, al_obj, so_lst, opdV, retV, endQ, letgo, ite_self, ixN_3_0, ixN_3_1, ixN_3_2, atI_0, atI_1, atI_2, atI_3, List.getElem?_cons_zero, List.getElem?_cons_succ, List.set_cons_zero, List.set_cons_succ, List.length_cons, List.length_nil, List.length_map, Option.bind_some, Option.map_some, List.nil_append, List.cons_append, List.length_singleton, Nat.zero_add, Nat.reduceAdd, Nat.reduceLT, Nat.reduceLeDiff, Nat.zero_le, if_false, if_true, Bool.false_eq_true, Bool.true_eq_false, Bool.not_true, Bool.not_false, reduceCtorEq, true_and, and_true, forall_const, false_and, and_false, false_implies, not_false_eq_true, not_true_eq_false, decide_true, decide_false, decide_eq_true_eq, decide_eq_false_iff_not, isi_none_int, isi_none_bool, isi_none_str, isi_none_tuple, isi_none_list, isi_none_list_tuple, isi_none_tuple_list, isi_bl_int, isi_bl_bool, isi_bl_str, isi_bl_tuple, isi_bl_list, isi_bl_list_tuple, isi_bl_tuple_list, isi_int_int, isi_int_bool, isi_int_str, isi_int_tuple, isi_int_list, isi_int_list_tuple, isi_int_tuple_list, isi_str_int, isi_str_bool, isi_str_str, isi_str_tuple, isi_str_list, isi_str_list_tuple, isi_str_tuple_list, isi_tup_int, isi_tup_bool, isi_tup_str, isi_tup_tuple, isi_tup_list, isi_tup_list_tuple, isi_tup_tuple_list, isi_lst_int, isi_lst_bool, isi_lst_str, isi_lst_tuple, isi_lst_list, isi_lst_list_tuple, isi_lst_tuple_list, cmp_eq_ii, cmp_ne_ii, cmp_eq_bb, cmp_ne_bb, cmp_lt, cmp_le, cmp_gt, cmp_ge, cmp_ni_ii, wp_wipe, List.foldr_cons, List.foldr_nil, idxD, seqD, hix, bin_tt (x := [D.int pool[a]]) (y := r'.map D.int) (by rw [line_eq']; simp; omega)]
        exact ⟨by rw [hg]; rfl, _, _, rfl, h2⟩
      · rintro s ⟨x2, x4, rfl, rfl⟩
        rw [ft_true, List.nil_append]
        try simp -implicitDefEqProofs only [wp_bind, wp_pure, wp_bad, wp_getS, wp_asB, wp_slotOpd, wp_rdSlot, wp_rdVar, wp_rdRet, wp_resV, wp_resS, wp_ress0, wp_ress, wp_setR, wp_setρ, wp_call, wp_setAt, wp_opd, wp_dat, wp_shr, wp_ownL, wp_popAt, wp_popLast, wp_app, wp_ins, wp_bindTup, wp_bindTs0, wp_bindTs, wp_bindNm, wp_blk, w_var, w_con, w_tup, w_lst, w_shr, w_bin, w_cmp, w_idx, w_cmp2, w_and2, w_or2, w_not1, w_ife, w_sli, w_call, w_blt, w_isi, w_lc, w_popk, w_popl, w_isN, w_neg, Z.w_rev, w_part0, w_part1, w_ds0, w_ds, w_os0, w_os, w_cs0, w_cs, line, w_asg, w_asgT, w_aug, w_setI, w_augI, w_lc2, w_app, w_ins, w_ext, w_expr, w_ret, w_retN, w_if, w_forE, w_whil, w_brk, w_cont, w_pass, w_ss0, w_ss, fw_nx, fw_brk, fw_cont, fw_ret, nn_none, nn_int, nn_bl, nn_str, nn_tup, nn_lst, ol_lst, op_some, op_none, op_ite, ob_bl, oi_int, sl_pu, sl_ow, al_ow, al_obj, so_lst, opdV, retV, endQ, letgo, ite_self, ixN_3_0, ixN_3_1, ixN_3_2, atI_0, atI_1, atI_2, atI_3, List.getElem?_cons_zero, List.getElem?_cons_succ, List.set_cons_zero, List.set_cons_succ, List.length_cons, List.length_nil, List.length_map, Option.bind_some, Option.map_some, List.nil_append, List.cons_append, List.length_singleton, Nat.zero_add, Nat.reduceAdd, Nat.reduceLT, Nat.reduceLeDiff, Nat.zero_le, if_false, if_true, Bool.false_eq_true, Bool.true_eq_false, Bool.not_true, Bool.not_false, reduceCtorEq, true_and, and_true, forall_const, false_and, and_false, false_implies, not_false_eq_true, not_true_eq_false, decide_true, decide_false, decide_eq_true_eq, decide_eq_false_iff_not, isi_none_int, isi_none_bool, isi_none_str, isi_none_tuple, isi_none_list, isi_none_list_tuple, isi_none_tuple_list, isi_bl_int, isi_bl_bool, isi_bl_str, isi_bl_tuple, isi_bl_list, isi_bl_list_tuple, isi_bl_tuple_list, isi_int_int, isi_int_bool, isi_int_str, isi_int_tuple, isi_int_list, isi_int_list_tuple, isi_int_tuple_list, isi_str_int, isi_str_bool, isi_str_str, isi_str_tuple, isi_str_list, isi_str_list_tuple, isi_str_tuple_list, isi_tup_int, isi_tup_bool, isi_tup_str, isi_tup_tuple, isi_tup_list, isi_tup_list_tuple, isi_tup_tuple_list, isi_lst_int, isi_lst_bool, isi_lst_str, isi_lst_tuple, isi_lst_list, isi_lst_list_tuple, isi_lst_tuple_list, cmp_eq_ii, cmp_ne_ii, cmp_eq_bb, cmp_ne_bb, cmp_lt, cmp_le, cmp_gt, cmp_ge, cmp_ni_ii, unwipe, List.foldr_cons, List.foldr_nil, binD]
        refine ⟨?_, (by first | exact Or.inl rfl | exact trivial | exact Or.inl trivial | simp), _, _, by rw [lch_prefix, List.map_append, List.map_map (g := encB)]; rfl⟩
        have h1 := lch_plen m pool hp dn
        have h2 := lch_len m (pool.drop (a + 1)) (by rw [List.length_drop]; omega)
        have h3 : 8 ^ m ≤ 8 ^ 3 := Nat.pow_le_pow_right (by decide) (by omega)
        have h4 : dn.length * 8 ^ m ≤ 8 * 8 ^ m := Nat.mul_le_mul_right _ (by omega)
        omega
    · rintro s ⟨x3, x4, rfl⟩
      try simp -implicitDefEqProofs only [wp_bind, wp_pure, wp_bad, wp_getS, wp_asB, wp_slotOpd, wp_rdSlot, wp_rdVar, wp_rdRet, wp_resV, wp_resS, wp_ress0, wp_ress, wp_setR, wp_setρ, wp_call, wp_setAt, wp_opd, wp_dat, wp_shr, wp_ownL, wp_popAt, wp_popLast, wp_app, wp_ins, wp_bindTup, wp_bindTs0, wp_bindTs, wp_bindNm, wp_blk, w_var, w_con, w_tup, w_lst, w_shr, w_bin, w_cmp, w_idx, w_cmp2, w_and2, w_or2, w_not1, w_ife, w_sli, w_call, w_blt, w_isi, w_lc, w_popk, w_popl, w_isN, w_neg, Z.w_rev, w_part0, w_part1, w_ds0, w_ds, w_os0, w_os, w_cs0, w_cs, line, w_asg, w_asgT, w_aug, w_setI, w_augI, w_lc2, w_app, w_ins, w_ext, w_expr, w_ret, w_retN, w_if, w_forE, w_whil, w_brk, w_cont, w_pass, w_ss0, w_ss, fw_nx, fw_brk, fw_cont, fw_ret, nn_none, nn_int, nn_bl, nn_str, nn_tup, nn_lst, ol_lst, op_some, op_none, op_ite, ob_bl, oi_int, sl_pu, sl_ow, al_ow, al_obj, so_lst, opdV, retV, endQ, letgo, ite_self, ixN_3_0, ixN_3_1, ixN_3_2, atI_0, atI_1, atI_2, atI_3, List.getElem?_cons_zero, List.getElem?_cons_succ, List.set_cons_zero, List.set_cons_succ, List.length_cons, List.length_nil, List.length_map, Option.bind_some, Option.map_some, List.nil_append, List.cons_append, List.length_singleton, Nat.zero_add, Nat.reduceAdd, Nat.reduceLT, Nat.reduceLeDiff, Nat.zero_le, if_false, if_true, Bool.false_eq_true, Bool.true_eq_false, Bool.not_true, Bool.not_false, reduceCtorEq, true_and, and_true, forall_const, false_and, and_false, false_implies, not_false_eq_true, not_true_eq_false, decide_true, decide_false, decide_eq_true_eq, decide_eq_false_iff_not, isi_none_int, isi_none_bool, isi_none_str, isi_none_tuple, isi_none_list, isi_none_list_tuple, isi_none_tuple_list, isi_bl_int, isi_bl_bool, isi_bl_str, isi_bl_tuple, isi_bl_list, isi_bl_list_tuple, isi_bl_tuple_list, isi_int_int, isi_int_bool, isi_int_str, isi_int_tuple, isi_int_list, isi_int_list_tuple, isi_int_tuple_list, isi_str_int, isi_str_bool, isi_str_str, isi_str_tuple, isi_str_list, isi_str_list_tuple, isi_str_tuple_list, isi_tup_int, isi_tup_bool, isi_tup_str, isi_tup_tuple, isi_tup_list, isi_tup_list_tuple, isi_tup_tuple_list, isi_lst_int, isi_lst_bool, isi_lst_str, isi_lst_tuple, isi_lst_list, isi_lst_list_tuple, isi_lst_tuple_list, cmp_eq_ii, cmp_ne_ii, cmp_eq_bb, cmp_ne_bb, cmp_lt, cmp_le, cmp_gt, cmp_ge, cmp_ni_ii]
      exact h
/-! straight -/
theorem str_find (p : P) : ((List.range (p.length - 1)).find? fun k => !ok (p[k]?.getD []) (p[k + 1]?.getD [])).isNone = str p := by
  have h : (List.range (p.length - 1)).any (fun k => !ok (p[k]?.getD []) (p[k + 1]?.getD [])) = !str p := by
    induction p with
    | nil => rfl
    | cons a p ih =>
      cases p with
      | nil => rfl
      | cons b p =>
        have e : (a :: b :: p).length - 1 = ((b :: p).length - 1) + 1 := by simp
        rw [e, List.range_succ_eq_map, List.any_cons, List.any_map]
        show (!ok a b || (List.range ((b :: p).length - 1)).any fun k => !ok ((b :: p)[k]?.getD []) ((b :: p)[k + 1]?.getD [])) = !(ok a b && str (b :: p))
        rw [ih, Bool.not_and]
  cases e : (List.range (p.length - 1)).find? fun k => !ok (p[k]?.getD []) (p[k + 1]?.getD []) with
  | none =>
    rw [List.find?_eq_none] at e
    have : (List.range (p.length - 1)).any (fun k => !ok (p[k]?.getD []) (p[k + 1]?.getD [])) = false := by
      rw [List.any_eq_false]
      intro x hx
      simpa using e x hx
    rw [this] at h
    have : str p = true := by simpa using h.symm
    rw [this]
    rfl
  | some k =>
    have h1 := List.find?_some e
    have h2 := List.mem_of_find?_eq_some e
    have : (List.range (p.length - 1)).any (fun k => !ok (p[k]?.getD []) (p[k + 1]?.getD [])) = true := List.any_eq_true.mpr ⟨k, h2, h1⟩
    rw [this] at h
    have : str p = false := by simpa using h.symm
    rw [this]
    rfl
theorem ok_filter {a b : B} (hl : a.length = b.length) : ((List.range b.length).filter fun k => decide ((b[k]?.getD 0) < (a[k]?.getD 0))).isEmpty = ok a b := by
  have := ok_find (a := a) (b := b) (by omega)
  rw [← this, hl, filter_find]
theorem lstraight_spec {n s : Nat} {st : List SO} {p : P} {Q : Rs → List SO → Prop} (hs : s = 2 ∨ s = 3) (hp : ∀ b ∈ p, Br s b) (hl : p.length ≤ 1000) (h : Q (.bl (str p), false) st) : Rp (callF fns wf (n + 1) id__law_straight [encP p] st) Q := by
  with_reducible refine c__law_straight fun cl hcl => ?_
  unfold b__law_straight encP
  have e2 : itemsD .rng2 [.int 1, .int (p.length : Int)] = some ((List.range (p.length - 1)).map fun (k : Nat) => D.int (1 + (k : Int))) := by
    rw [items_rng2 (by omega) (by omega) (by omega) (by omega)]
    have : ((p.length : Int) - 1).toNat = p.length - 1 := by omega
    rw [this]
  try simp -implicitDefEqProofs only [wp_bind, wp_pure, wp_bad, wp_getS, wp_asB, wp_slotOpd, wp_rdSlot, wp_rdVar, wp_rdRet, wp_resV, wp_resS, wp_ress0, wp_ress, wp_setR, wp_setρ, wp_call, wp_setAt, wp_opd, wp_dat, wp_shr, wp_ownL, wp_popAt, wp_popLast, wp_app, wp_ins, wp_bindTup, wp_bindTs0, wp_bindTs, wp_bindNm, wp_blk, w_var, w_con, w_tup, w_lst, w_shr, w_bin, w_cmp, w_idx, w_cmp2, w_and2, w_or2, w_not1, w_ife, w_sli, w_call, w_blt, w_isi, w_lc, w_popk, w_popl, w_isN, w_neg, Z.w_rev, w_part0, w_part1, w_ds0, w_ds, w_os0, w_os, w_cs0, w_cs, line, w_asg, w_asgT, w_aug, w_setI, w_augI, w_lc2, w_app, w_ins, w_ext, w_expr, w_ret, w_retN, w_if, w_forE, w_whil, w_brk, w_cont, w_pass, w_ss0, w_ss, fw_nx, fw_brk, fw_cont, fw_ret, nn_none, nn_int, nn_bl, nn_str, nn_tup, nn_lst, ol_lst, op_some, op_none, op_ite, ob_bl, oi_int, sl_pu, sl_ow, al_ow, al_obj, so_lst, opdV, retV, endQ, letgo, ite_self, ixN_3_0, ixN_3_1, ixN_3_2, atI_0, atI_1, atI_2, atI_3, List.getElem?_cons_zero, List.getElem?_cons_succ, List.set_cons_zero, List.set_cons_succ, List.length_cons, List.length_nil, List.length_map, Option.bind_some, Option.map_some, List.nil_append, List.cons_append, List.length_singleton, Nat.zero_add, Nat.reduceAdd, Nat.reduceLT, Nat.reduceLeDiff, Nat.zero_le, if_false, if_true, Bool.false_eq_true, Bool.true_eq_false, Bool.not_true, Bool.not_false, reduceCtorEq, true_and, and_true, forall_const, false_and, and_false, false_implies, not_false_eq_true, not_true_eq_false, decide_true, decide_false, decide_eq_true_eq, decide_eq_false_iff_not, isi_none_int, isi_none_bool, isi_none_str, isi_none_tuple, isi_none_list, isi_none_list_tuple, isi_none_tuple_list, isi_bl_int, isi_bl_bool, isi_bl_str, isi_bl_tuple, isi_bl_list, isi_bl_list_tuple, isi_bl_tuple_list, isi_int_int, isi_int_bool, isi_int_str, isi_int_tuple, isi_int_list, isi_int_list_tuple, isi_int_tuple_list, isi_str_int, isi_str_bool, isi_str_str, isi_str_tuple, isi_str_list, isi_str_list_tuple, isi_str_tuple_list, isi_tup_int, isi_tup_bool, isi_tup_str, isi_tup_tuple, isi_tup_list, isi_tup_list_tuple, isi_tup_tuple_list, isi_lst_int, isi_lst_bool, isi_lst_str, isi_lst_tuple, isi_lst_list, isi_lst_list_tuple, isi_lst_tuple_list, cmp_eq_ii, cmp_ne_ii, cmp_eq_bb, cmp_ne_bb, cmp_lt, cmp_le, cmp_gt, cmp_ge, cmp_ni_ii, bltD, on1, lenD, seqD, e2]
  refine wp_for_findm (fun (k : Nat) => D.int (1 + (k : Int))) (fun k => !ok (p[k]?.getD []) (p[k + 1]?.getD [])) (fun s => ∃ x y, s = ⟨[.pu (.tup (p.map encB)), x, y], st⟩) (fun k r s => r = (.bl false, false) ∧ s.st = st) ⟨_, _, rfl⟩ ?_ ?_ ?_
  · rintro k hk s ⟨x, y, rfl⟩
    have hk : k < p.length - 1 := by simpa using hk
    have hk1 : k < p.length := by omega
    have hk2 : k + 1 < p.length := by omega
    have e1 : (1 + (k : Int)) - 1 = ((k : Nat) : Int) := by omega
    have e1' : (1 + (k : Int)) = ((k + 1 : Nat) : Int) := by omega
    have a1 : atI (p.map encB) (k : Int) = some (encB p[k]) := by rw [atI_nn (by simpa using hk1)]; simp
    have a2 : atI (p.map encB) ((k + 1 : Nat) : Int) = some (encB p[k + 1]) := by rw [atI_nn (by simpa using hk2)]; simp
    have g1 : p[k]?.getD [] = p[k] := by simp [hk1]
    have g2 : p[k + 1]?.getD [] = p[k + 1] := by simp [hk2]
    have b1 := (hp _ (List.getElem_mem hk1)).len
    have b2 := (hp _ (List.getElem_mem hk2)).len
    have hab : (p[k]).length = (p[k + 1]).length := by omega
    rw [g1, g2]
    generalize p[k] = a at *
    generalize p[k + 1] = b at *
    have hlb : bltD st .len [encB b] = some (.int (b.length : Int), false) := by
      show some (D.int ((b.map D.int).length : Int), false) = _
      rw [List.length_map]
    try simp -implicitDefEqProofs only [wp_bind, wp_pure, wp_bad, wp_getS, wp_asB, wp_slotOpd, wp_rdSlot, wp_rdVar, wp_rdRet, wp_resV, wp_resS, wp_ress0, wp_ress, wp_setR, wp_setρ, wp_call, wp_setAt, wp_opd, wp_dat, wp_shr, wp_ownL, wp_popAt, wp_popLast, wp_app, wp_ins, wp_bindTup, wp_bindTs0, wp_bindTs, wp_bindNm, wp_blk, w_var, w_con, w_tup, w_lst, w_shr, w_bin, w_cmp, w_idx, w_cmp2, w_and2, w_or2, w_not1, w_ife, w_sli, w_call, w_blt, w_isi, w_lc, w_popk, w_popl, w_isN, w_neg, Z.w_rev, w_part0, w_part1, w_ds0, w_ds, w_os0, w_os, w_cs0, w_cs, line, w_asg, w_asgT, w_aug, w_setI, w_augI, w_lc2, w_app, w_ins, w_ext, w_expr, w_ret, w_retN, w_if, w_forE, w_whil, w_brk, w_cont, w_pass, w_ss0, w_ss, fw_nx, fw_brk, fw_cont, fw_ret, nn_none, nn_int, nn_bl, nn_str, nn_tup, nn_lst, ol_lst, op_some, op_none, op_ite, ob_bl, oi_int, sl_pu, sl_ow, al_ow, al_obj, so_lst, opdV, retV, endQ, letgo, ite_self, ixN_3_0, ixN_3_1, ixN_3_2, atI_0, atI_1, atI_2, atI_3, List.getElem?_cons_zero, List.getElem?_cons_succ, List.set_cons_zero, List.set_cons_succ, List.length_cons, List.length_nil, List.length_map, Option.bind_some, Option.map_some, List.nil_append, List.cons_append, List.length_singleton, Nat.zero_add, Nat.reduceAdd, Nat.reduceLT, Nat.reduceLeDiff, Nat.zero_le, if_false, if_true, Bool.false_eq_true, Bool.true_eq_false, Bool.not_true, Bool.not_false, reduceCtorEq, true_and, and_true, forall_const, false_and, and_false, false_implies, not_false_eq_true, not_true_eq_false, decide_true, decide_false, decide_eq_true_eq, decide_eq_false_iff_not, isi_none_int, isi_none_bool, isi_none_str, isi_none_tuple, isi_none_list, isi_none_list_tuple, isi_none_tuple_list, isi_bl_int, isi_bl_bool, isi_bl_str, isi_bl_tuple, isi_bl_list, isi_bl_list_tuple, isi_bl_tuple_list, isi_int_int, isi_int_bool, isi_int_str, isi_int_tuple, isi_int_list, isi_int_list_tuple, isi_int_tuple_list, isi_str_int, isi_str_bool, isi_str_str, isi_str_tuple, isi_str_list, isi_str_list_tuple, isi_str_tuple_list, isi_tup_int, isi_tup_bool, isi_tup_str, isi_tup_tuple, isi_tup_list, isi_tup_list_tuple, isi_tup_tuple_list, isi_lst_int, isi_lst_bool, isi_lst_str, isi_lst_tuple, isi_lst_list, isi_lst_list_tuple, isi_lst_tuple_list, cmp_eq_ii, cmp_ne_ii, cmp_eq_bb, cmp_ne_bb, cmp_lt, cmp_le, cmp_gt, cmp_ge, cmp_ni_ii, binD, e1, e1', idxD, seqD, a2, hlb, items_rng1 (n := b.length) (by omega)]
    refine wp_lc_map (fun (j : Nat) => D.int (j : Int)) (fun j => decide ((b[j]?.getD 0) < (a[j]?.getD 0))) (fun (j : Nat) => D.int (j : Int)) (fun s => ∃ y, s = ⟨[.pu (.tup (p.map encB)), .pu (.int ((k + 1 : Nat) : Int)), y], st⟩) ⟨_, rfl⟩ (by rw [line_eq']; simp; omega) ?_ ?_
    · rintro j hj s ⟨y, rfl⟩
      have hj : j < b.length := by simpa using hj
      have ej : ((k + 1 : Nat) : Int) - 1 = (k : Int) := by omega
      have c1 : atI (a.map D.int) (j : Int) = some (.int a[j]) := by rw [atI_nn (by simp; omega)]; simp
      have c2 : atI (b.map D.int) (j : Int) = some (.int b[j]) := by rw [atI_nn (by simp; omega)]; simp
      have d1 : a[j]?.getD 0 = a[j] := by simp [hj, hab]
      have d2 : b[j]?.getD 0 = b[j] := by simp [hj]
      have i1 : idxD st (encB a) (.int (j : Int)) = some (.int a[j]) := c1
      have i2 : idxD st (encB b) (.int (j : Int)) = some (.int b[j]) := c2
      have i3 : idxD st (.tup (p.map encB)) (.int (k : Int)) = some (encB a) := a1
      have i4 : idxD st (.tup (p.map encB)) (.int ((k + 1 : Nat) : Int)) = some (encB b) := a2
      try simp -implicitDefEqProofs only [wp_bind, wp_pure, wp_bad, wp_getS, wp_asB, wp_slotOpd, wp_rdSlot, wp_rdVar, wp_rdRet, wp_resV, wp_resS, wp_ress0, wp_ress, wp_setR, wp_setρ, wp_call, wp_setAt, wp_opd, wp_dat, wp_shr, wp_ownL, wp_popAt, wp_popLast, wp_app, wp_ins, wp_bindTup, wp_bindTs0, wp_bindTs, wp_bindNm, wp_blk, w_var, w_con, w_tup, w_lst, w_shr, w_bin, w_cmp, w_idx, w_cmp2, w_and2, w_or2, w_not1, w_ife, w_sli, w_call, w_blt, w_isi, w_lc, w_popk, w_popl, w_isN, w_neg, Z.w_rev, w_part0, w_part1, w_ds0, w_ds, w_os0, w_os, w_cs0, w_cs, line, w_asg, w_asgT, w_aug, w_setI, w_augI, w_lc2, w_app, w_ins, w_ext, w_expr, w_ret, w_retN, w_if, w_forE, w_whil, w_brk, w_cont, w_pass, w_ss0, w_ss, fw_nx, fw_brk, fw_cont, fw_ret, nn_none, nn_int, nn_bl, nn_str, nn_tup, nn_lst, ol_lst, op_some, op_none, op_ite, ob_bl, oi_int, sl_pu, sl_ow, al_ow, al_obj, so_lst, opdV, retV, endQ, letgo, ite_self, ixN_3_0, ixN_3_1, ixN_3_2, atI_0, atI_1, atI_2, atI_3, List.getElem?_cons_zero, List.getElem?_cons_succ, List.set_cons_zero, List.set_cons_succ, List.length_cons, List.length_nil, List.length_map, Option.bind_some, Option.map_some, List.nil_append, List.cons_append, List.length_singleton, Nat.zero_add, Nat.reduceAdd, Nat.reduceLT, Nat.reduceLeDiff, Nat.zero_le, if_false, if_true, Bool.false_eq_true, Bool.true_eq_false, Bool.not_true, Bool.not_false, reduceCtorEq, true_and, and_true, forall_const, false_and, and_false, false_implies, not_false_eq_true, not_true_eq_false, decide_true, decide_false, decide_eq_true_eq, decide_eq_false_iff_not, isi_none_int, isi_none_bool, isi_none_str, isi_none_tuple, isi_none_list, isi_none_list_tuple, isi_none_tuple_list, isi_bl_int, isi_bl_bool, isi_bl_str, isi_bl_tuple, isi_bl_list, isi_bl_list_tuple, isi_bl_tuple_list, isi_int_int, isi_int_bool, isi_int_str, isi_int_tuple, isi_int_list, isi_int_list_tuple, isi_int_tuple_list, isi_str_int, isi_str_bool, isi_str_str, isi_str_tuple, isi_str_list, isi_str_list_tuple, isi_str_tuple_list, isi_tup_int, isi_tup_bool, isi_tup_str, isi_tup_tuple, isi_tup_list, isi_tup_list_tuple, isi_tup_tuple_list, isi_lst_int, isi_lst_bool, isi_lst_str, isi_lst_tuple, isi_lst_list, isi_lst_list_tuple, isi_lst_tuple_list, cmp_eq_ii, cmp_ne_ii, cmp_eq_bb, cmp_ne_bb, cmp_lt, cmp_le, cmp_gt, cmp_ge, cmp_ni_ii, wp_wipe, List.foldr_cons, List.foldr_nil, binD, ej, i3, i4, i1, i2]
      rw [d1, d2]
      exact ⟨fun e => ⟨(decide_eq_true e).symm, _, rfl⟩, fun e => ⟨(decide_eq_false e).symm, _, rfl⟩⟩
    · rintro s ⟨y, rfl⟩
      rw [List.nil_append]
      have hf : fitD (.lst (((List.range b.length).filter fun j => decide ((b[j]?.getD 0) < (a[j]?.getD 0))).map fun (j : Nat) => D.int (j : Int))) = true := by
        have := En.int.lst.fit (by decide) (((List.range b.length).filter fun j => decide ((b[j]?.getD 0) < (a[j]?.getD 0))).map fun (j : Nat) => (j : Int))
        rw [List.map_map] at this
        exact this
      have ht : itemsD .rng1 [.int 0] = some [] := rfl
      try simp -implicitDefEqProofs only [wp_bind, wp_pure, wp_bad, wp_getS, wp_asB, wp_slotOpd, wp_rdSlot, wp_rdVar, wp_rdRet, wp_resV, wp_resS, wp_ress0, wp_ress, wp_setR, wp_setρ, wp_call, wp_setAt, wp_opd, wp_dat, wp_shr, wp_ownL, wp_popAt, wp_popLast, wp_app, wp_ins, wp_bindTup, wp_bindTs0, wp_bindTs, wp_bindNm, wp_blk, w_var, w_con, w_tup, w_lst, w_shr, w_bin, w_cmp, w_idx, w_cmp2, w_and2, w_or2, w_not1, w_ife, w_sli, w_call, w_blt, w_isi, w_lc, w_popk, w_popl, w_isN, w_neg, Z.w_rev, w_part0, w_part1, w_ds0, w_ds, w_os0, w_os, w_cs0, w_cs, line, w_asg, w_asgT, w_aug, w_setI, w_augI, w_lc2, w_app, w_ins, w_ext, w_expr, w_ret, w_retN, w_if, w_forE, w_whil, w_brk, w_cont, w_pass, w_ss0, w_ss, fw_nx, fw_brk, fw_cont, fw_ret, nn_none, nn_int, nn_bl, nn_str, nn_tup, nn_lst, ol_lst, op_some, op_none, op_ite, ob_bl, oi_int, sl_pu, sl_ow, al_ow, al_obj, so_lst, opdV, retV, endQ, letgo, ite_self, ixN_3_0, ixN_3_1, ixN_3_2, atI_0, atI_1, atI_2, atI_3, List.getElem?_cons_zero, List.getElem?_cons_succ, List.set_cons_zero, List.set_cons_succ, List.length_cons, List.length_nil, List.length_map, Option.bind_some, Option.map_some, List.nil_append, List.cons_append, List.length_singleton, Nat.zero_add, Nat.reduceAdd, Nat.reduceLT, Nat.reduceLeDiff, Nat.zero_le, if_false, if_true, Bool.false_eq_true, Bool.true_eq_false, Bool.not_true, Bool.not_false, reduceCtorEq, true_and, and_true, forall_const, false_and, and_false, false_implies, not_false_eq_true, not_true_eq_false, decide_true, decide_false, decide_eq_true_eq, decide_eq_false_iff_not, isi_none_int, isi_none_bool, isi_none_str, isi_none_tuple, isi_none_list, isi_none_list_tuple, isi_none_tuple_list, isi_bl_int, isi_bl_bool, isi_bl_str, isi_bl_tuple, isi_bl_list, isi_bl_list_tuple, isi_bl_tuple_list, isi_int_int, isi_int_bool, isi_int_str, isi_int_tuple, isi_int_list, isi_int_list_tuple, isi_int_tuple_list, isi_str_int, isi_str_bool, isi_str_str, isi_str_tuple, isi_str_list, isi_str_list_tuple, isi_str_tuple_list, isi_tup_int, isi_tup_bool, isi_tup_str, isi_tup_tuple, isi_tup_list, isi_tup_list_tuple, isi_tup_tuple_list, isi_lst_int, isi_lst_bool, isi_lst_str, isi_lst_tuple, isi_lst_list, isi_lst_list_tuple, isi_lst_tuple_list, cmp_eq_ii, cmp_ne_ii, cmp_eq_bb, cmp_ne_bb, cmp_lt, cmp_le, cmp_gt, cmp_ge, cmp_ni_ii, unwipe, List.foldr_cons, List.foldr_nil, cmp_ne_nil hf, List.isEmpty_map, ok_filter hab]
      exact ⟨fun e => .inr ⟨e, _, rfl, rfl⟩, fun e => .inl ⟨e, (by first | exact Or.inl rfl | exact trivial | exact Or.inl trivial | simp), _, _, rfl⟩⟩
  · rintro e s ⟨x, y, rfl⟩
    try simp -implicitDefEqProofs only [wp_bind, wp_pure, wp_bad, wp_getS, wp_asB, wp_slotOpd, wp_rdSlot, wp_rdVar, wp_rdRet, wp_resV, wp_resS, wp_ress0, wp_ress, wp_setR, wp_setρ, wp_call, wp_setAt, wp_opd, wp_dat, wp_shr, wp_ownL, wp_popAt, wp_popLast, wp_app, wp_ins, wp_bindTup, wp_bindTs0, wp_bindTs, wp_bindNm, wp_blk, w_var, w_con, w_tup, w_lst, w_shr, w_bin, w_cmp, w_idx, w_cmp2, w_and2, w_or2, w_not1, w_ife, w_sli, w_call, w_blt, w_isi, w_lc, w_popk, w_popl, w_isN, w_neg, Z.w_rev, w_part0, w_part1, w_ds0, w_ds, w_os0, w_os, w_cs0, w_cs, line, w_asg, w_asgT, w_aug, w_setI, w_augI, w_lc2, w_app, w_ins, w_ext, w_expr, w_ret, w_retN, w_if, w_forE, w_whil, w_brk, w_cont, w_pass, w_ss0, w_ss, fw_nx, fw_brk, fw_cont, fw_ret, nn_none, nn_int, nn_bl, nn_str, nn_tup, nn_lst, ol_lst, op_some, op_none, op_ite, ob_bl, oi_int, sl_pu, sl_ow, al_ow, al_obj, so_lst, opdV, retV, endQ, letgo, ite_self, ixN_3_0, ixN_3_1, ixN_3_2, atI_0, atI_1, atI_2, atI_3, List.getElem?_cons_zero, List.getElem?_cons_succ, List.set_cons_zero, List.set_cons_succ, List.length_cons, List.length_nil, List.length_map, Option.bind_some, Option.map_some, List.nil_append, List.cons_append, List.length_singleton, Nat.zero_add, Nat.reduceAdd, Nat.reduceLT, Nat.reduceLeDiff, Nat.zero_le, if_false, if_true, Bool.false_eq_true, Bool.true_eq_false, Bool.not_true, Bool.not_false, reduceCtorEq, true_and, and_true, forall_const, false_and, and_false, false_implies, not_false_eq_true, not_true_eq_false, decide_true, decide_false, decide_eq_true_eq, decide_eq_false_iff_not, isi_none_int, isi_none_bool, isi_none_str, isi_none_tuple, isi_none_list, isi_none_list_tuple, isi_none_tuple_list, isi_bl_int, isi_bl_bool, isi_bl_str, isi_bl_tuple, isi_bl_list, isi_bl_list_tuple, isi_bl_tuple_list, isi_int_int, isi_int_bool, isi_int_str, isi_int_tuple, isi_int_list, isi_int_list_tuple, isi_int_tuple_list, isi_str_int, isi_str_bool, isi_str_str, isi_str_tuple, isi_str_list, isi_str_list_tuple, isi_str_tuple_list, isi_tup_int, isi_tup_bool, isi_tup_str, isi_tup_tuple, isi_tup_list, isi_tup_list_tuple, isi_tup_tuple_list, isi_lst_int, isi_lst_bool, isi_lst_str, isi_lst_tuple, isi_lst_list, isi_lst_list_tuple, isi_lst_tuple_list, cmp_eq_ii, cmp_ne_ii, cmp_eq_bb, cmp_ne_bb, cmp_lt, cmp_le, cmp_gt, cmp_ge, cmp_ni_ii]
    have := str_find p
    rw [e] at this
    rw [← this] at h
    exact h
  · rintro k e r s ⟨rfl, hs⟩
    try simp -implicitDefEqProofs only [wp_bind, wp_pure, wp_bad, wp_getS, wp_asB, wp_slotOpd, wp_rdSlot, wp_rdVar, wp_rdRet, wp_resV, wp_resS, wp_ress0, wp_ress, wp_setR, wp_setρ, wp_call, wp_setAt, wp_opd, wp_dat, wp_shr, wp_ownL, wp_popAt, wp_popLast, wp_app, wp_ins, wp_bindTup, wp_bindTs0, wp_bindTs, wp_bindNm, wp_blk, w_var, w_con, w_tup, w_lst, w_shr, w_bin, w_cmp, w_idx, w_cmp2, w_and2, w_or2, w_not1, w_ife, w_sli, w_call, w_blt, w_isi, w_lc, w_popk, w_popl, w_isN, w_neg, Z.w_rev, w_part0, w_part1, w_ds0, w_ds, w_os0, w_os, w_cs0, w_cs, line, w_asg, w_asgT, w_aug, w_setI, w_augI, w_lc2, w_app, w_ins, w_ext, w_expr, w_ret, w_retN, w_if, w_forE, w_whil, w_brk, w_cont, w_pass, w_ss0, w_ss, fw_nx, fw_brk, fw_cont, fw_ret, nn_none, nn_int, nn_bl, nn_str, nn_tup, nn_lst, ol_lst, op_some, op_none, op_ite, ob_bl, oi_int, sl_pu, sl_ow, al_ow, al_obj, so_lst, opdV, retV, endQ, letgo, ite_self, ixN_3_0, ixN_3_1, ixN_3_2, atI_0, atI_1, atI_2, atI_3, List.getElem?_cons_zero, List.getElem?_cons_succ, List.set_cons_zero, List.set_cons_succ, List.length_cons, List.length_nil, List.length_map, Option.bind_some, Option.map_some, List.nil_append, List.cons_append, List.length_singleton, Nat.zero_add, Nat.reduceAdd, Nat.reduceLT, Nat.reduceLeDiff, Nat.zero_le, if_false, if_true, Bool.false_eq_true, Bool.true_eq_false, Bool.not_true, Bool.not_false, reduceCtorEq, true_and, and_true, forall_const, false_and, and_false, false_implies, not_false_eq_true, not_true_eq_false, decide_true, decide_false, decide_eq_true_eq, decide_eq_false_iff_not, isi_none_int, isi_none_bool, isi_none_str, isi_none_tuple, isi_none_list, isi_none_list_tuple, isi_none_tuple_list, isi_bl_int, isi_bl_bool, isi_bl_str, isi_bl_tuple, isi_bl_list, isi_bl_list_tuple, isi_bl_tuple_list, isi_int_int, isi_int_bool, isi_int_str, isi_int_tuple, isi_int_list, isi_int_list_tuple, isi_int_tuple_list, isi_str_int, isi_str_bool, isi_str_str, isi_str_tuple, isi_str_list, isi_str_list_tuple, isi_str_tuple_list, isi_tup_int, isi_tup_bool, isi_tup_str, isi_tup_tuple, isi_tup_list, isi_tup_list_tuple, isi_tup_tuple_list, isi_lst_int, isi_lst_bool, isi_lst_str, isi_lst_tuple, isi_lst_list, isi_lst_list_tuple, isi_lst_tuple_list, cmp_eq_ii, cmp_ne_ii, cmp_eq_bb, cmp_ne_bb, cmp_lt, cmp_le, cmp_gt, cmp_ge, cmp_ni_ii]
    have := str_find p
    rw [e] at this
    rw [← this] at h
    rw [hs]
    exact h
end G

namespace G
open PySem PySem.Spec PyProof.Rows L2 Z SP
theorem due_len {bs : List B} (hb : bs.length ≤ 56) : ∀ (m : Nat) (c : List Int), (due bs m c).length ≤ 56 ^ m
  | 0, c => by unfold due; split <;> simp
  | m + 1, c => by
    have hp := Nat.one_le_pow (m + 1) 56 (by decide)
    unfold due
    split
    · simpa using hp
    · rw [List.length_flatMap]
      have : ∀ l : List B, (l.map fun b => (if (b.all fun k => decide (1 ≤ get c k)) = true then ((due bs m (less c b)).filter fun r => str (b :: r)).map fun r => b :: r else []).length).sum ≤ l.length * 56 ^ m := by
        intro l
        induction l with
        | nil => simp
        | cons b l ih =>
          rw [List.map_cons, List.sum_cons, List.length_cons, Nat.succ_mul]
          have h1 := due_len hb m (less c b)
          have h2 := List.length_filter_le (fun r => str (b :: r)) (due bs m (less c b))
          split
          · rw [List.length_map]; omega
          · rw [List.length_nil]; omega
      have h2 := this bs
      have h3 : bs.length * 56 ^ m ≤ 56 * 56 ^ m := Nat.mul_le_mul_right _ hb
      rw [Nat.pow_succ, Nat.mul_comm (56 ^ m)]
      omega
theorem due_mem_br {s : Nat} {bs : List B} (hb : ∀ b ∈ bs, Br s b) : ∀ (m : Nat) (c : List Int), ∀ p ∈ due bs m c, p.length ≤ m ∧ ∀ b ∈ p, Br s b
  | 0, c, p, h => by
    unfold due at h
    split at h
    · rw [List.mem_singleton.mp h]; exact ⟨by simp, fun b hb => by cases hb⟩
    · cases h
  | m + 1, c, p, h => by
    unfold due at h
    split at h
    · rw [List.mem_singleton.mp h]; exact ⟨by simp, fun b hb => by cases hb⟩
    · obtain ⟨b, hbm, h⟩ := List.mem_flatMap.mp h
      split at h
      · obtain ⟨r, hr, rfl⟩ := List.mem_map.mp h
        obtain ⟨h1, h2⟩ := due_mem_br hb m _ r (List.mem_filter.mp hr).1
        refine ⟨by rw [List.length_cons]; omega, fun x hx => ?_⟩
        rcases List.mem_cons.mp hx with rfl | hx
        · exact hb _ hbm
        · exact h2 x hx
      · cases h
/-- one bracket's part of what is due -/
def part (bs : List B) (m : Nat) (c : List Int) (b : B) : List P := if (b.all fun k => decide (1 ≤ get c k)) = true then ((due bs m (less c b)).filter fun r => str (b :: r)).map fun r => b :: r else []
theorem due_succ (bs : List B) (m : Nat) (c : List Int) (h : ¬ c.sum = 0) : due bs (m + 1) c = bs.flatMap (part bs m c) := by
  show (if c.sum = 0 then [[]] else bs.flatMap fun b => if (b.all fun k => decide (1 ≤ get c k)) = true then ((due bs m (less c b)).filter fun r => str (b :: r)).map fun r => b :: r else []) = _
  rw [if_neg h]
  rfl
theorem part_len {bs : List B} (hb : bs.length ≤ 56) (m : Nat) (c : List Int) (b : B) : (part bs m c b).length ≤ 56 ^ m := by
  unfold part
  have h1 := due_len hb m (less c b)
  have h2 := List.length_filter_le (fun r => str (b :: r)) (due bs m (less c b))
  split
  · rw [List.length_map]; omega
  · simp
theorem parts_len {bs : List B} (hb : bs.length ≤ 56) (m : Nat) (c : List Int) : ∀ l : List B, (l.flatMap (part bs m c)).length ≤ l.length * 56 ^ m
  | [] => by simp
  | b :: l => by
    rw [List.flatMap_cons, List.length_append, List.length_cons, Nat.succ_mul]
    have := part_len hb m c b
    have := parts_len hb m c l
    omega
theorem less_len (c : List Int) (b : B) : (less c b).length = 8 := rfl
theorem all_filter {c : List Int} {b : B} : (b.filter fun k => decide (get c k < 1)).isEmpty = b.all fun k => decide (1 ≤ get c k) := by
  induction b with
  | nil => rfl
  | cons k b ih =>
    rw [List.filter_cons, List.all_cons]
    by_cases h : get c k < 1
    · rw [decide_eq_true h, decide_eq_false (by omega)]; rfl
    · rw [decide_eq_false h, decide_eq_true (by omega), Bool.true_and]; exact ih
theorem ldue_spec {s0 : Nat} (hs : s0 = 2 ∨ s0 = 3) {bs : List B} (hbr : ∀ b ∈ bs, Br s0 b) (hbl : bs.length ≤ 56) {big : Int} : ∀ {m n : Nat} {st : List SO} {c : List Int} {most : Int} {Q : Rs → List SO → Prop}, most = (m : Int) → m ≤ 4 → c.length = 8 → Q (.lst ((due bs m c).map encP), true) st → Rp (callF fns wf (n + m + 2) id__law_due [.tup (c.map .int), .int big, .lst (bs.map encB), .int most] st) Q := by
  intro m
  induction m with
  | zero =>
    intro n st c most Q hm h4 h8 h
    with_reducible refine c__law_due fun cl hcl => ?_
    unfold b__law_due
    have hm : most = 0 := hm
    try simp -implicitDefEqProofs only [wp_bind, wp_pure, wp_bad, wp_getS, wp_asB, wp_slotOpd, wp_rdSlot, wp_rdVar, wp_rdRet, wp_resV, wp_resS, wp_ress0, wp_ress, wp_setR, wp_setρ, wp_call, wp_setAt, wp_opd, wp_dat, wp_shr, wp_ownL, wp_popAt, wp_popLast, wp_app, wp_ins, wp_bindTup, wp_bindTs0, wp_bindTs, wp_bindNm, wp_blk, w_var, w_con, w_tup, w_lst, w_shr, w_bin, w_cmp, w_idx, w_cmp2, w_and2, w_or2, w_not1, w_ife, w_sli, w_call, w_blt, w_isi, w_lc, w_popk, w_popl, w_isN, w_neg, Z.w_rev, w_part0, w_part1, w_ds0, w_ds, w_os0, w_os, w_cs0, w_cs, line, w_asg, w_asgT, w_aug, w_setI, w_augI, w_lc2, w_app, w_ins, w_ext, w_expr, w_ret, w_retN, w_if, w_forE, w_whil, w_brk, w_cont, w_pass, w_ss0, w_ss, fw_nx, fw_brk, fw_cont, fw_ret, nn_none, nn_int, nn_bl, nn_str, nn_tup, nn_lst, ol_lst, op_some, op_none, op_ite, ob_bl, oi_int, sl_pu, sl_ow, al_ow, al_obj, so_lst, opdV, retV, endQ, letgo, ite_self, ixN_3_0, ixN_3_1, ixN_3_2, atI_0, atI_1, atI_2, atI_3, List.getElem?_cons_zero, List.getElem?_cons_succ, List.set_cons_zero, List.set_cons_succ, List.length_cons, List.length_nil, List.length_map, Option.bind_some, Option.map_some, List.nil_append, List.cons_append, List.length_singleton, Nat.zero_add, Nat.reduceAdd, Nat.reduceLT, Nat.reduceLeDiff, Nat.zero_le, if_false, if_true, Bool.false_eq_true, Bool.true_eq_false, Bool.not_true, Bool.not_false, reduceCtorEq, true_and, and_true, forall_const, false_and, and_false, false_implies, not_false_eq_true, not_true_eq_false, decide_true, decide_false, decide_eq_true_eq, decide_eq_false_iff_not, isi_none_int, isi_none_bool, isi_none_str, isi_none_tuple, isi_none_list, isi_none_list_tuple, isi_none_tuple_list, isi_bl_int, isi_bl_bool, isi_bl_str, isi_bl_tuple, isi_bl_list, isi_bl_list_tuple, isi_bl_tuple_list, isi_int_int, isi_int_bool, isi_int_str, isi_int_tuple, isi_int_list, isi_int_list_tuple, isi_int_tuple_list, isi_str_int, isi_str_bool, isi_str_str, isi_str_tuple, isi_str_list, isi_str_list_tuple, isi_str_tuple_list, isi_tup_int, isi_tup_bool, isi_tup_str, isi_tup_tuple, isi_tup_list, isi_tup_list_tuple, isi_tup_tuple_list, isi_lst_int, isi_lst_bool, isi_lst_str, isi_lst_tuple, isi_lst_list, isi_lst_list_tuple, isi_lst_tuple_list, cmp_eq_ii, cmp_ne_ii, cmp_eq_bb, cmp_ne_bb, cmp_lt, cmp_le, cmp_gt, cmp_ge, cmp_ni_ii, ints_sum]
    refine ⟨fun e => ?_, fun e => ⟨fun e2 => ?_, fun e2 => absurd hm e2⟩⟩
    · unfold due at h
      rw [if_pos e] at h
      exact h
    · unfold due at h
      rw [if_neg e] at h
      exact h
  | succ m ih =>
    intro n st c most Q hm h4 h8 h
    with_reducible refine c__law_due fun cl hcl => ?_
    unfold b__law_due
    have e0 : ¬ most = 0 := by omega
    have e1 : most - 1 = (m : Int) := by omega
    try simp -implicitDefEqProofs only [wp_bind, wp_pure, wp_bad, wp_getS, wp_asB, wp_slotOpd, wp_rdSlot, wp_rdVar, wp_rdRet, wp_resV, wp_resS, wp_ress0, wp_ress, wp_setR, wp_setρ, wp_call, wp_setAt, wp_opd, wp_dat, wp_shr, wp_ownL, wp_popAt, wp_popLast, wp_app, wp_ins, wp_bindTup, wp_bindTs0, wp_bindTs, wp_bindNm, wp_blk, w_var, w_con, w_tup, w_lst, w_shr, w_bin, w_cmp, w_idx, w_cmp2, w_and2, w_or2, w_not1, w_ife, w_sli, w_call, w_blt, w_isi, w_lc, w_popk, w_popl, w_isN, w_neg, Z.w_rev, w_part0, w_part1, w_ds0, w_ds, w_os0, w_os, w_cs0, w_cs, line, w_asg, w_asgT, w_aug, w_setI, w_augI, w_lc2, w_app, w_ins, w_ext, w_expr, w_ret, w_retN, w_if, w_forE, w_whil, w_brk, w_cont, w_pass, w_ss0, w_ss, fw_nx, fw_brk, fw_cont, fw_ret, nn_none, nn_int, nn_bl, nn_str, nn_tup, nn_lst, ol_lst, op_some, op_none, op_ite, ob_bl, oi_int, sl_pu, sl_ow, al_ow, al_obj, so_lst, opdV, retV, endQ, letgo, ite_self, ixN_3_0, ixN_3_1, ixN_3_2, atI_0, atI_1, atI_2, atI_3, List.getElem?_cons_zero, List.getElem?_cons_succ, List.set_cons_zero, List.set_cons_succ, List.length_cons, List.length_nil, List.length_map, Option.bind_some, Option.map_some, List.nil_append, List.cons_append, List.length_singleton, Nat.zero_add, Nat.reduceAdd, Nat.reduceLT, Nat.reduceLeDiff, Nat.zero_le, if_false, if_true, Bool.false_eq_true, Bool.true_eq_false, Bool.not_true, Bool.not_false, reduceCtorEq, true_and, and_true, forall_const, false_and, and_false, false_implies, not_false_eq_true, not_true_eq_false, decide_true, decide_false, decide_eq_true_eq, decide_eq_false_iff_not, isi_none_int, isi_none_bool, isi_none_str, isi_none_tuple, isi_none_list, isi_none_list_tuple, isi_none_tuple_list, isi_bl_int, isi_bl_bool, isi_bl_str, isi_bl_tuple, isi_bl_list, isi_bl_list_tuple, isi_bl_tuple_list, isi_int_int, isi_int_bool, isi_int_str, isi_int_tuple, isi_int_list, isi_int_list_tuple, isi_int_tuple_list, isi_str_int, isi_str_bool, isi_str_str, isi_str_tuple, isi_str_list, isi_str_list_tuple, isi_str_tuple_list, isi_tup_int, isi_tup_bool, isi_tup_str, isi_tup_tuple, isi_tup_list, isi_tup_list_tuple, isi_tup_tuple_list, isi_lst_int, isi_lst_bool, isi_lst_str, isi_lst_tuple, isi_lst_list, isi_lst_list_tuple, isi_lst_tuple_list, cmp_eq_ii, cmp_ne_ii, cmp_eq_bb, cmp_ne_bb, cmp_lt, cmp_le, cmp_gt, cmp_ge, cmp_ni_ii, ints_sum, e0, itemsD, it1, seqI]
    refine ⟨fun e => ?_, fun e => ?_⟩
    · unfold due at h
      rw [if_pos e] at h
      exact h
    rw [due_succ bs m c e] at h
    have hp3 : 56 ^ m ≤ 56 ^ 3 := Nat.pow_le_pow_right (by decide) (by omega)
    have hp3' : (56 : Nat) ^ 3 = 175616 := by decide
    have hcap : ∀ l : List B, l.length < 56 → (l.flatMap (part bs m c)).length + 56 ^ m ≤ 9834496 := fun l hl => by
      have h1 := parts_len hbl m c l
      have h2 : l.length * 56 ^ m ≤ 55 * 56 ^ m := Nat.mul_le_mul_right _ (by omega)
      omega
    refine wp_for_fold0 encB (fun dn s => ∃ x5 x6 x7, s = ⟨[.pu (.tup (c.map .int)), .pu (.int big), .pu (.lst (bs.map encB)), .pu (.int most), .ow (.lst ((dn.flatMap (part bs m c)).map encP)), x5, x6, x7], st⟩) ⟨_, _, _, rfl⟩ ?_ ?_
    · rintro dn b r hr s ⟨x5, x6, x7, rfl⟩
      have hbm : b ∈ bs := by rw [hr]; simp
      have hbb := hbr b hbm
      have hdn : dn.length < 56 := by
        have := congrArg List.length hr
        simp at this
        omega
      try simp -implicitDefEqProofs only [wp_bind, wp_pure, wp_bad, wp_getS, wp_asB, wp_slotOpd, wp_rdSlot, wp_rdVar, wp_rdRet, wp_resV, wp_resS, wp_ress0, wp_ress, wp_setR, wp_setρ, wp_call, wp_setAt, wp_opd, wp_dat, wp_shr, wp_ownL, wp_popAt, wp_popLast, wp_app, wp_ins, wp_bindTup, wp_bindTs0, wp_bindTs, wp_bindNm, wp_blk, w_var, w_con, w_tup, w_lst, w_shr, w_bin, w_cmp, w_idx, w_cmp2, w_and2, w_or2, w_not1, w_ife, w_sli, w_call, w_blt, w_isi, w_lc, w_popk, w_popl, w_isN, w_neg, Z.w_rev, w_part0, w_part1, w_ds0, w_ds, w_os0, w_os, w_cs0, w_cs, line, w_asg, w_asgT, w_aug, w_setI, w_augI, w_lc2, w_app, w_ins, w_ext, w_expr, w_ret, w_retN, w_if, w_forE, w_whil, w_brk, w_cont, w_pass, w_ss0, w_ss, fw_nx, fw_brk, fw_cont, fw_ret, nn_none, nn_int, nn_bl, nn_str, nn_tup, nn_lst, ol_lst, op_some, op_none, op_ite, ob_bl, oi_int, sl_pu, sl_ow, al_ow, al_obj, so_lst, opdV, retV, endQ, letgo, ite_self, ixN_3_0, ixN_3_1, ixN_3_2, atI_0, atI_1, atI_2, atI_3, List.getElem?_cons_zero, List.getElem?_cons_succ, List.set_cons_zero, List.set_cons_succ, List.length_cons, List.length_nil, List.length_map, Option.bind_some, Option.map_some, List.nil_append, List.cons_append, List.length_singleton, Nat.zero_add, Nat.reduceAdd, Nat.reduceLT, Nat.reduceLeDiff, Nat.zero_le, if_false, if_true, Bool.false_eq_true, Bool.true_eq_false, Bool.not_true, Bool.not_false, reduceCtorEq, true_and, and_true, forall_const, false_and, and_false, false_implies, not_false_eq_true, not_true_eq_false, decide_true, decide_false, decide_eq_true_eq, decide_eq_false_iff_not, isi_none_int, isi_none_bool, isi_none_str, isi_none_tuple, isi_none_list, isi_none_list_tuple, isi_none_tuple_list, isi_bl_int, isi_bl_bool, isi_bl_str, isi_bl_tuple, isi_bl_list, isi_bl_list_tuple, isi_bl_tuple_list, isi_int_int, isi_int_bool, isi_int_str, isi_int_tuple, isi_int_list, isi_int_list_tuple, isi_int_tuple_list, isi_str_int, isi_str_bool, isi_str_str, isi_str_tuple, isi_str_list, isi_str_list_tuple, isi_str_tuple_list, isi_tup_int, isi_tup_bool, isi_tup_str, isi_tup_tuple, isi_tup_list, isi_tup_list_tuple, isi_tup_tuple_list, isi_lst_int, isi_lst_bool, isi_lst_str, isi_lst_tuple, isi_lst_list, isi_lst_list_tuple, isi_lst_tuple_list, cmp_eq_ii, cmp_ne_ii, cmp_eq_bb, cmp_ne_bb, cmp_lt, cmp_le, cmp_gt, cmp_ge, cmp_ni_ii, itemsD, it1, seqI, encB]
      refine wp_lc_map D.int (fun k => decide (get c k < 1)) D.int (fun s => ∃ y, s = ⟨[.pu (.tup (c.map .int)), .pu (.int big), .pu (.lst (bs.map encB)), .pu (.int most), .ow (.lst ((dn.flatMap (part bs m c)).map encP)), .pu (encB b), y, x7], st⟩) ⟨_, rfl⟩ (by have := hbb.len; rw [line_eq']; simp; omega) ?_ ?_
      · rintro k hk s ⟨y, rfl⟩
        try simp -implicitDefEqProofs only [wp_bind, wp_pure, wp_bad, wp_getS, wp_asB, wp_slotOpd, wp_rdSlot, wp_rdVar, wp_rdRet, wp_resV, wp_resS, wp_ress0, wp_ress, wp_setR, wp_setρ, wp_call, wp_setAt, wp_opd, wp_dat, wp_shr, wp_ownL, wp_popAt, wp_popLast, wp_app, wp_ins, wp_bindTup, wp_bindTs0, wp_bindTs, wp_bindNm, wp_blk, w_var, w_con, w_tup, w_lst, w_shr, w_bin, w_cmp, w_idx, w_cmp2, w_and2, w_or2, w_not1, w_ife, w_sli, w_call, w_blt, w_isi, w_lc, w_popk, w_popl, w_isN, w_neg, Z.w_rev, w_part0, w_part1, w_ds0, w_ds, w_os0, w_os, w_cs0, w_cs, line, w_asg, w_asgT, w_aug, w_setI, w_augI, w_lc2, w_app, w_ins, w_ext, w_expr, w_ret, w_retN, w_if, w_forE, w_whil, w_brk, w_cont, w_pass, w_ss0, w_ss, fw_nx, fw_brk, fw_cont, fw_ret, nn_none, nn_int, nn_bl, nn_str, nn_tup, nn_lst, ol_lst, op_some, op_none, op_ite, ob_bl, oi_int, sl_pu, sl_ow, al_ow, al_obj, so_lst, opdV, retV, endQ, letgo, ite_self, ixN_3_0, ixN_3_1, ixN_3_2, atI_0, atI_1, atI_2, atI_3, List.getElem?_cons_zero, List.getElem?_cons_succ, List.set_cons_zero, List.set_cons_succ, List.length_cons, List.length_nil, List.length_map, Option.bind_some, Option.map_some, List.nil_append, List.cons_append, List.length_singleton, Nat.zero_add, Nat.reduceAdd, Nat.reduceLT, Nat.reduceLeDiff, Nat.zero_le, if_false, if_true, Bool.false_eq_true, Bool.true_eq_false, Bool.not_true, Bool.not_false, reduceCtorEq, true_and, and_true, forall_const, false_and, and_false, false_implies, not_false_eq_true, not_true_eq_false, decide_true, decide_false, decide_eq_true_eq, decide_eq_false_iff_not, isi_none_int, isi_none_bool, isi_none_str, isi_none_tuple, isi_none_list, isi_none_list_tuple, isi_none_tuple_list, isi_bl_int, isi_bl_bool, isi_bl_str, isi_bl_tuple, isi_bl_list, isi_bl_list_tuple, isi_bl_tuple_list, isi_int_int, isi_int_bool, isi_int_str, isi_int_tuple, isi_int_list, isi_int_list_tuple, isi_int_tuple_list, isi_str_int, isi_str_bool, isi_str_str, isi_str_tuple, isi_str_list, isi_str_list_tuple, isi_str_tuple_list, isi_tup_int, isi_tup_bool, isi_tup_str, isi_tup_tuple, isi_tup_list, isi_tup_list_tuple, isi_tup_tuple_list, isi_lst_int, isi_lst_bool, isi_lst_str, isi_lst_tuple, isi_lst_list, isi_lst_list_tuple, isi_lst_tuple_list, cmp_eq_ii, cmp_ne_ii, cmp_eq_bb, cmp_ne_bb, cmp_lt, cmp_le, cmp_gt, cmp_ge, cmp_ni_ii, wp_wipe, List.foldr_cons, List.foldr_nil, idxD, seqD, get_at h8 (hbb.pt k hk)]
        exact ⟨fun e => ⟨(decide_eq_true e).symm, _, rfl⟩, fun e => ⟨(decide_eq_false e).symm, _, rfl⟩⟩
      · rintro s ⟨y, rfl⟩
        rw [List.nil_append]
        have hf : fitD (.lst ((b.filter fun k => decide (get c k < 1)).map D.int)) = true := En.int.lst.fit (by decide) _
        try simp -implicitDefEqProofs only [wp_bind, wp_pure, wp_bad, wp_getS, wp_asB, wp_slotOpd, wp_rdSlot, wp_rdVar, wp_rdRet, wp_resV, wp_resS, wp_ress0, wp_ress, wp_setR, wp_setρ, wp_call, wp_setAt, wp_opd, wp_dat, wp_shr, wp_ownL, wp_popAt, wp_popLast, wp_app, wp_ins, wp_bindTup, wp_bindTs0, wp_bindTs, wp_bindNm, wp_blk, w_var, w_con, w_tup, w_lst, w_shr, w_bin, w_cmp, w_idx, w_cmp2, w_and2, w_or2, w_not1, w_ife, w_sli, w_call, w_blt, w_isi, w_lc, w_popk, w_popl, w_isN, w_neg, Z.w_rev, w_part0, w_part1, w_ds0, w_ds, w_os0, w_os, w_cs0, w_cs, line, w_asg, w_asgT, w_aug, w_setI, w_augI, w_lc2, w_app, w_ins, w_ext, w_expr, w_ret, w_retN, w_if, w_forE, w_whil, w_brk, w_cont, w_pass, w_ss0, w_ss, fw_nx, fw_brk, fw_cont, fw_ret, nn_none, nn_int, nn_bl, nn_str, nn_tup, nn_lst, ol_lst, op_some, op_none, op_ite, ob_bl, oi_int, sl_pu, sl_ow, al_ow, al_obj, so_lst, opdV, retV, endQ, letgo, ite_self, ixN_3_0, ixN_3_1, ixN_3_2, atI_0, atI_1, atI_2, atI_3, List.getElem?_cons_zero, List.getElem?_cons_succ, List.set_cons_zero, List.set_cons_succ, List.length_cons, List.length_nil, List.length_map, Option.bind_some, Option.map_some, List.nil_append, List.cons_append, List.length_singleton, Nat.zero_add, Nat.reduceAdd, Nat.reduceLT, Nat.reduceLeDiff, Nat.zero_le, if_false, if_true, Bool.false_eq_true, Bool.true_eq_false, Bool.not_true, Bool.not_false, reduceCtorEq, true_and, and_true, forall_const, false_and, and_false, false_implies, not_false_eq_true, not_true_eq_false, decide_true, decide_false, decide_eq_true_eq, decide_eq_false_iff_not, isi_none_int, isi_none_bool, isi_none_str, isi_none_tuple, isi_none_list, isi_none_list_tuple, isi_none_tuple_list, isi_bl_int, isi_bl_bool, isi_bl_str, isi_bl_tuple, isi_bl_list, isi_bl_list_tuple, isi_bl_tuple_list, isi_int_int, isi_int_bool, isi_int_str, isi_int_tuple, isi_int_list, isi_int_list_tuple, isi_int_tuple_list, isi_str_int, isi_str_bool, isi_str_str, isi_str_tuple, isi_str_list, isi_str_list_tuple, isi_str_tuple_list, isi_tup_int, isi_tup_bool, isi_tup_str, isi_tup_tuple, isi_tup_list, isi_tup_list_tuple, isi_tup_tuple_list, isi_lst_int, isi_lst_bool, isi_lst_str, isi_lst_tuple, isi_lst_list, isi_lst_list_tuple, isi_lst_tuple_list, cmp_eq_ii, cmp_ne_ii, cmp_eq_bb, cmp_ne_bb, cmp_lt, cmp_le, cmp_gt, cmp_ge, cmp_ni_ii, unwipe, List.foldr_cons, List.foldr_nil, cmp_eq_nil hf, List.isEmpty_map, all_filter]
        refine ⟨fun hall => ?_, fun hall => ?_⟩
        · with_reducible refine rp_cl hcl (less_spec h8 ?_)
          try simp -implicitDefEqProofs only [wp_bind, wp_pure, wp_bad, wp_getS, wp_asB, wp_slotOpd, wp_rdSlot, wp_rdVar, wp_rdRet, wp_resV, wp_resS, wp_ress0, wp_ress, wp_setR, wp_setρ, wp_call, wp_setAt, wp_opd, wp_dat, wp_shr, wp_ownL, wp_popAt, wp_popLast, wp_app, wp_ins, wp_bindTup, wp_bindTs0, wp_bindTs, wp_bindNm, wp_blk, w_var, w_con, w_tup, w_lst, w_shr, w_bin, w_cmp, w_idx, w_cmp2, w_and2, w_or2, w_not1, w_ife, w_sli, w_call, w_blt, w_isi, w_lc, w_popk, w_popl, w_isN, w_neg, Z.w_rev, w_part0, w_part1, w_ds0, w_ds, w_os0, w_os, w_cs0, w_cs, line, w_asg, w_asgT, w_aug, w_setI, w_augI, w_lc2, w_app, w_ins, w_ext, w_expr, w_ret, w_retN, w_if, w_forE, w_whil, w_brk, w_cont, w_pass, w_ss0, w_ss, fw_nx, fw_brk, fw_cont, fw_ret, nn_none, nn_int, nn_bl, nn_str, nn_tup, nn_lst, ol_lst, op_some, op_none, op_ite, ob_bl, oi_int, sl_pu, sl_ow, al_ow, al_obj, so_lst, opdV, retV, endQ, letgo, ite_self, ixN_3_0, ixN_3_1, ixN_3_2, atI_0, atI_1, atI_2, atI_3, List.getElem?_cons_zero, List.getElem?_cons_succ, List.set_cons_zero, List.set_cons_succ, List.length_cons, List.length_nil, List.length_map, Option.bind_some, Option.map_some, List.nil_append, List.cons_append, List.length_singleton, Nat.zero_add, Nat.reduceAdd, Nat.reduceLT, Nat.reduceLeDiff, Nat.zero_le, if_false, if_true, Bool.false_eq_true, Bool.true_eq_false, Bool.not_true, Bool.not_false, reduceCtorEq, true_and, and_true, forall_const, false_and, and_false, false_implies, not_false_eq_true, not_true_eq_false, decide_true, decide_false, decide_eq_true_eq, decide_eq_false_iff_not, isi_none_int, isi_none_bool, isi_none_str, isi_none_tuple, isi_none_list, isi_none_list_tuple, isi_none_tuple_list, isi_bl_int, isi_bl_bool, isi_bl_str, isi_bl_tuple, isi_bl_list, isi_bl_list_tuple, isi_bl_tuple_list, isi_int_int, isi_int_bool, isi_int_str, isi_int_tuple, isi_int_list, isi_int_list_tuple, isi_int_tuple_list, isi_str_int, isi_str_bool, isi_str_str, isi_str_tuple, isi_str_list, isi_str_list_tuple, isi_str_tuple_list, isi_tup_int, isi_tup_bool, isi_tup_str, isi_tup_tuple, isi_tup_list, isi_tup_list_tuple, isi_tup_tuple_list, isi_lst_int, isi_lst_bool, isi_lst_str, isi_lst_tuple, isi_lst_list, isi_lst_list_tuple, isi_lst_tuple_list, cmp_eq_ii, cmp_ne_ii, cmp_eq_bb, cmp_ne_bb, cmp_lt, cmp_le, cmp_gt, cmp_ge, cmp_ni_ii, binD, e1]
          with_reducible refine rp_cl hcl (ih rfl (by omega) rfl ?_)
          try simp -implicitDefEqProofs only [wp_bind, wp_pure, wp_bad, wp_getS, wp_asB, wp_slotOpd, wp_rdSlot, wp_rdVar, wp_rdRet, wp_resV, wp_resS, wp_ress0, wp_ress, wp_setR, wp_setρ, wp_call, wp_setAt, wp_opd, wp_dat, wp_shr, wp_ownL, wp_popAt, wp_popLast, wp_app, wp_ins, wp_bindTup, wp_bindTs0, wp_bindTs, wp_bindNm, wp_blk, w_var, w_con, w_tup, w_lst, w_shr, w_bin, w_cmp, w_idx, w_cmp2, w_and2, w_or2, w_not1, w_ife, w_sli, w_call, w_blt, w_isi, w_lc, w_popk, w_popl, w_isN, w_neg, Z.w_rev, w_part0, w_part1, w_ds0, w_ds, w_os0, w_os, w_cs0, w_cs, line, w_asg, w_asgT, w_aug, w_setI, w_augI, w_lc2, w_app, w_ins, w_ext, w_expr, w_ret, w_retN, w_if, w_forE, w_whil, w_brk, w_cont, w_pass, w_ss0, w_ss, fw_nx, fw_brk, fw_cont, fw_ret, nn_none, nn_int, nn_bl, nn_str, nn_tup, nn_lst, ol_lst, op_some, op_none, op_ite, ob_bl, oi_int, sl_pu, sl_ow, al_ow, al_obj, so_lst, opdV, retV, endQ, letgo, ite_self, ixN_3_0, ixN_3_1, ixN_3_2, atI_0, atI_1, atI_2, atI_3, List.getElem?_cons_zero, List.getElem?_cons_succ, List.set_cons_zero, List.set_cons_succ, List.length_cons, List.length_nil, List.length_map, Option.bind_some, Option.map_some, List.nil_append, List.cons_append, List.length_singleton, Nat.zero_add, Nat.reduceAdd, Nat.reduceLT, Nat.reduceLeDiff, Nat.zero_le, if_false, if_true, Bool.false_eq_true, Bool.true_eq_false, Bool.not_true, Bool.not_false, reduceCtorEq, true_and, and_true, forall_const, false_and, and_false, false_implies, not_false_eq_true, not_true_eq_false, decide_true, decide_false, decide_eq_true_eq, decide_eq_false_iff_not, isi_none_int, isi_none_bool, isi_none_str, isi_none_tuple, isi_none_list, isi_none_list_tuple, isi_none_tuple_list, isi_bl_int, isi_bl_bool, isi_bl_str, isi_bl_tuple, isi_bl_list, isi_bl_list_tuple, isi_bl_tuple_list, isi_int_int, isi_int_bool, isi_int_str, isi_int_tuple, isi_int_list, isi_int_list_tuple, isi_int_tuple_list, isi_str_int, isi_str_bool, isi_str_str, isi_str_tuple, isi_str_list, isi_str_list_tuple, isi_str_tuple_list, isi_tup_int, isi_tup_bool, isi_tup_str, isi_tup_tuple, isi_tup_list, isi_tup_list_tuple, isi_tup_tuple_list, isi_lst_int, isi_lst_bool, isi_lst_str, isi_lst_tuple, isi_lst_list, isi_lst_list_tuple, isi_lst_tuple_list, cmp_eq_ii, cmp_ne_ii, cmp_eq_bb, cmp_ne_bb, cmp_lt, cmp_le, cmp_gt, cmp_ge, cmp_ni_ii, itemsD, it1, seqI]
          have hpart : part bs m c b = ((due bs m (less c b)).filter fun r => str (b :: r)).map fun r => b :: r := by
            unfold part
            rw [if_pos hall]
          refine wp_for_fold0 encP (fun en s => ∃ x6 x7, s = ⟨[.pu (.tup (c.map .int)), .pu (.int big), .pu (.lst (bs.map encB)), .pu (.int most), .ow (.lst ((dn.flatMap (part bs m c) ++ ((en.filter fun r => str (b :: r)).map fun r => b :: r)).map encP)), .pu (encB b), x6, x7], st⟩) ⟨x6, x7, by rw [List.filter_nil, List.map_nil, List.append_nil]⟩ ?_ ?_
          · rintro en p rr hrr s ⟨x6, x7, rfl⟩
            have hpm : p ∈ due bs m (less c b) := by rw [hrr]; simp
            obtain ⟨pl, pb⟩ := due_mem_br hbr m _ p hpm
            have hbp : ∀ x ∈ b :: p, Br s0 x := fun x hx => by
              rcases List.mem_cons.mp hx with rfl | hx
              · exact hbb
              · exact pb x hx
            have ebp : binD .add (.tup [encB b]) (encP p) = some (encP (b :: p), false) := bin_tt (x := [encB b]) (y := p.map encB) (by rw [line_eq']; simp; omega)
            have hen : en.length + 1 ≤ 56 ^ m := by
              have := congrArg List.length hrr
              have h5 := due_len hbl m (less c b)
              simp at this
              omega
            have h6 := List.length_filter_le (fun r => str (b :: r)) en
            try simp -implicitDefEqProofs only [wp_bind, wp_pure, wp_bad, wp_getS, wp_asB, wp_slotOpd, wp_rdSlot, wp_rdVar, wp_rdRet, wp_resV, wp_resS, wp_ress0, wp_ress, wp_setR, wp_setρ, wp_call, wp_setAt, wp_opd, wp_dat, wp_shr, wp_ownL, wp_popAt, wp_popLast, wp_app, wp_ins, wp_bindTup, wp_bindTs0, wp_bindTs, wp_bindNm, wp_blk, w_var, w_con, w_tup, w_lst, w_shr, w_bin, w_cmp, w_idx, w_cmp2, w_and2, w_or2, w_not1, w_ife, w_sli, w_call, w_blt, w_isi, w_lc, w_popk, w_popl, w_isN, w_neg, Z.w_rev, w_part0, w_part1, w_ds0, w_ds, w_os0, w_os, w_cs0, w_cs, line, w_asg, w_asgT, w_aug, w_setI, w_augI, w_lc2, w_app, w_ins, w_ext, w_expr, w_ret, w_retN, w_if, w_forE, w_whil, w_brk, w_cont, w_pass, w_ss0, w_ss, fw_nx, fw_brk, fw_cont, fw_ret, nn_none, nn_int, nn_bl, nn_str, nn_tup, nn_lst, ol_lst, op_some, op_none, op_ite, ob_bl, oi_int, sl_pu, sl_ow, al_ow, al_obj, so_lst, opdV, retV, endQ, letgo, ite_self, ixN_3_0, ixN_3_1, ixN_3_2, atI_0, atI_1, atI_2, atI_3, List.getElem?_cons_zero, List.getElem?_cons_succ, List.set_cons_zero, List.set_cons_succ, List.length_cons, List.length_nil, List.length_map, Option.bind_some, Option.map_some, List.nil_append, List.cons_append, List.length_singleton, Nat.zero_add, Nat.reduceAdd, Nat.reduceLT, Nat.reduceLeDiff, Nat.zero_le, if_false, if_true, Bool.false_eq_true, Bool.true_eq_false, Bool.not_true, Bool.not_false, reduceCtorEq, true_and, and_true, forall_const, false_and, and_false, false_implies, not_false_eq_true, not_true_eq_false, decide_true, decide_false, decide_eq_true_eq, decide_eq_false_iff_not, isi_none_int, isi_none_bool, isi_none_str, isi_none_tuple, isi_none_list, isi_none_list_tuple, isi_none_tuple_list, isi_bl_int, isi_bl_bool, isi_bl_str, isi_bl_tuple, isi_bl_list, isi_bl_list_tuple, isi_bl_tuple_list, isi_int_int, isi_int_bool, isi_int_str, isi_int_tuple, isi_int_list, isi_int_list_tuple, isi_int_tuple_list, isi_str_int, isi_str_bool, isi_str_str, isi_str_tuple, isi_str_list, isi_str_list_tuple, isi_str_tuple_list, isi_tup_int, isi_tup_bool, isi_tup_str, isi_tup_tuple, isi_tup_list, isi_tup_list_tuple, isi_tup_tuple_list, isi_lst_int, isi_lst_bool, isi_lst_str, isi_lst_tuple, isi_lst_list, isi_lst_list_tuple, isi_lst_tuple_list, cmp_eq_ii, cmp_ne_ii, cmp_eq_bb, cmp_ne_bb, cmp_lt, cmp_le, cmp_gt, cmp_ge, cmp_ni_ii, ebp]
            with_reducible refine rp_cl hcl (lstraight_spec hs hbp (by rw [List.length_cons]; omega) ?_)
            have h7 := hcap dn hdn
            try simp -implicitDefEqProofs only [wp_bind, wp_pure, wp_bad, wp_getS, wp_asB, wp_slotOpd, wp_rdSlot, wp_rdVar, wp_rdRet, wp_resV, wp_resS, wp_ress0, wp_ress, wp_setR, wp_setρ, wp_call, wp_setAt, wp_opd, wp_dat, wp_shr, wp_ownL, wp_popAt, wp_popLast, wp_app, wp_ins, wp_bindTup, wp_bindTs0, wp_bindTs, wp_bindNm, wp_blk, w_var, w_con, w_tup, w_lst, w_shr, w_bin, w_cmp, w_idx, w_cmp2, w_and2, w_or2, w_not1, w_ife, w_sli, w_call, w_blt, w_isi, w_lc, w_popk, w_popl, w_isN, w_neg, Z.w_rev, w_part0, w_part1, w_ds0, w_ds, w_os0, w_os, w_cs0, w_cs, line, w_asg, w_asgT, w_aug, w_setI, w_augI, w_lc2, w_app, w_ins, w_ext, w_expr, w_ret, w_retN, w_if, w_forE, w_whil, w_brk, w_cont, w_pass, w_ss0, w_ss, fw_nx, fw_brk, fw_cont, fw_ret, nn_none, nn_int, nn_bl, nn_str, nn_tup, nn_lst, ol_lst, op_some, op_none, op_ite, ob_bl, oi_int, sl_pu, sl_ow, al_ow, al_obj, so_lst, opdV, retV, endQ, letgo, ite_self, ixN_3_0, ixN_3_1, ixN_3_2, atI_0, atI_1, atI_2, atI_3, List.getElem?_cons_zero, List.getElem?_cons_succ, List.set_cons_zero, List.set_cons_succ, List.length_cons, List.length_nil, List.length_map, Option.bind_some, Option.map_some, List.nil_append, List.cons_append, List.length_singleton, Nat.zero_add, Nat.reduceAdd, Nat.reduceLT, Nat.reduceLeDiff, Nat.zero_le, if_false, if_true, Bool.false_eq_true, Bool.true_eq_false, Bool.not_true, Bool.not_false, reduceCtorEq, true_and, and_true, forall_const, false_and, and_false, false_implies, not_false_eq_true, not_true_eq_false, decide_true, decide_false, decide_eq_true_eq, decide_eq_false_iff_not, isi_none_int, isi_none_bool, isi_none_str, isi_none_tuple, isi_none_list, isi_none_list_tuple, isi_none_tuple_list, isi_bl_int, isi_bl_bool, isi_bl_str, isi_bl_tuple, isi_bl_list, isi_bl_list_tuple, isi_bl_tuple_list, isi_int_int, isi_int_bool, isi_int_str, isi_int_tuple, isi_int_list, isi_int_list_tuple, isi_int_tuple_list, isi_str_int, isi_str_bool, isi_str_str, isi_str_tuple, isi_str_list, isi_str_list_tuple, isi_str_tuple_list, isi_tup_int, isi_tup_bool, isi_tup_str, isi_tup_tuple, isi_tup_list, isi_tup_list_tuple, isi_tup_tuple_list, isi_lst_int, isi_lst_bool, isi_lst_str, isi_lst_tuple, isi_lst_list, isi_lst_list_tuple, isi_lst_tuple_list, cmp_eq_ii, cmp_ne_ii, cmp_eq_bb, cmp_ne_bb, cmp_lt, cmp_le, cmp_gt, cmp_ge, cmp_ni_ii, ebp, List.length_append]
            refine ⟨fun hst => ⟨by omega, (by first | exact Or.inl rfl | exact trivial | exact Or.inl trivial | simp), x6, .pu (encP p), ?_⟩, fun hst => ⟨(by first | exact Or.inl rfl | exact trivial | exact Or.inl trivial | simp), x6, .pu (encP p), ?_⟩⟩
            · simp [List.filter_append, hst, List.map_append]
            · simp [List.filter_append, hst, List.map_append]
          · rintro s ⟨x6, x7, rfl⟩
            rw [← hpart]
            rw [List.flatMap_append, List.flatMap_cons, List.flatMap_nil, List.append_nil]
            exact ⟨(by first | exact Or.inl rfl | exact trivial | exact Or.inl trivial | simp), _, _, _, rfl⟩
        · have hpart : part bs m c b = [] := by
            unfold part
            rw [if_neg (by rw [hall]; decide)]
          rw [List.flatMap_append, List.flatMap_cons, List.flatMap_nil, hpart, List.append_nil, List.append_nil]
          exact ⟨(by first | exact Or.inl rfl | exact trivial | exact Or.inl trivial | simp), _, _, _, rfl⟩
    · rintro s ⟨x5, x6, x7, rfl⟩
      try simp -implicitDefEqProofs only [wp_bind, wp_pure, wp_bad, wp_getS, wp_asB, wp_slotOpd, wp_rdSlot, wp_rdVar, wp_rdRet, wp_resV, wp_resS, wp_ress0, wp_ress, wp_setR, wp_setρ, wp_call, wp_setAt, wp_opd, wp_dat, wp_shr, wp_ownL, wp_popAt, wp_popLast, wp_app, wp_ins, wp_bindTup, wp_bindTs0, wp_bindTs, wp_bindNm, wp_blk, w_var, w_con, w_tup, w_lst, w_shr, w_bin, w_cmp, w_idx, w_cmp2, w_and2, w_or2, w_not1, w_ife, w_sli, w_call, w_blt, w_isi, w_lc, w_popk, w_popl, w_isN, w_neg, Z.w_rev, w_part0, w_part1, w_ds0, w_ds, w_os0, w_os, w_cs0, w_cs, line, w_asg, w_asgT, w_aug, w_setI, w_augI, w_lc2, w_app, w_ins, w_ext, w_expr, w_ret, w_retN, w_if, w_forE, w_whil, w_brk, w_cont, w_pass, w_ss0, w_ss, fw_nx, fw_brk, fw_cont, fw_ret, nn_none, nn_int, nn_bl, nn_str, nn_tup, nn_lst, ol_lst, op_some, op_none, op_ite, ob_bl, oi_int, sl_pu, sl_ow, al_ow, al_obj, so_lst, opdV, retV, endQ, letgo, ite_self, ixN_3_0, ixN_3_1, ixN_3_2, atI_0, atI_1, atI_2, atI_3, List.getElem?_cons_zero, List.getElem?_cons_succ, List.set_cons_zero, List.set_cons_succ, List.length_cons, List.length_nil, List.length_map, Option.bind_some, Option.map_some, List.nil_append, List.cons_append, List.length_singleton, Nat.zero_add, Nat.reduceAdd, Nat.reduceLT, Nat.reduceLeDiff, Nat.zero_le, if_false, if_true, Bool.false_eq_true, Bool.true_eq_false, Bool.not_true, Bool.not_false, reduceCtorEq, true_and, and_true, forall_const, false_and, and_false, false_implies, not_false_eq_true, not_true_eq_false, decide_true, decide_false, decide_eq_true_eq, decide_eq_false_iff_not, isi_none_int, isi_none_bool, isi_none_str, isi_none_tuple, isi_none_list, isi_none_list_tuple, isi_none_tuple_list, isi_bl_int, isi_bl_bool, isi_bl_str, isi_bl_tuple, isi_bl_list, isi_bl_list_tuple, isi_bl_tuple_list, isi_int_int, isi_int_bool, isi_int_str, isi_int_tuple, isi_int_list, isi_int_list_tuple, isi_int_tuple_list, isi_str_int, isi_str_bool, isi_str_str, isi_str_tuple, isi_str_list, isi_str_list_tuple, isi_str_tuple_list, isi_tup_int, isi_tup_bool, isi_tup_str, isi_tup_tuple, isi_tup_list, isi_tup_list_tuple, isi_tup_tuple_list, isi_lst_int, isi_lst_bool, isi_lst_str, isi_lst_tuple, isi_lst_list, isi_lst_list_tuple, isi_lst_tuple_list, cmp_eq_ii, cmp_ne_ii, cmp_eq_bb, cmp_ne_bb, cmp_lt, cmp_le, cmp_gt, cmp_ge, cmp_ni_ii]
      exact h
end G

namespace G
open PySem PySem.Spec PyProof.Rows L2 Z SP
theorem sort_i (l : List Int) : ∃ m : List Int, m.Perm l ∧ (l.map D.int).mergeSort leD = m.map D.int :=
  ⟨l.mergeSort (fun a b => leD (.int a) (.int b)), List.mergeSort_perm _ _, (List.map_mergeSort (f := D.int) (r := fun a b => leD (.int a) (.int b)) (s := leD) (l := l) (fun a _ b _ => rfl)).symm⟩
theorem pts_range {n : Nat} (h : n ≤ 8) : ∀ k ∈ (List.range n).map (fun (k : Nat) => (k : Int)), k ∈ pts := by
  intro k hk
  obtain ⟨j, hj, rfl⟩ := List.mem_map.mp hk
  have hj : j < n := by simpa using hj
  have : j = 0 ∨ j = 1 ∨ j = 2 ∨ j = 3 ∨ j = 4 ∨ j = 5 ∨ j = 6 ∨ j = 7 := by omega
  rcases this with rfl | rfl | rfl | rfl | rfl | rfl | rfl | rfl <;> decide
theorem lrg_at {n : Nat} {st : List SO} {i : Int} (hi : i = (n : Int)) (h : n ≤ 8) : bltD st .lrg1 [.int i] = some (.lst (((List.range n).map fun (k : Nat) => (k : Int)).map .int), true) := by
  subst hi
  have : n = 0 ∨ n = 1 ∨ n = 2 ∨ n = 3 ∨ n = 4 ∨ n = 5 ∨ n = 6 ∨ n = 7 ∨ n = 8 := by omega
  rcases this with rfl | rfl | rfl | rfl | rfl | rfl | rfl | rfl | rfl <;> rfl
theorem erase_map {α β : Type} (f : α → β) : ∀ (l : List α) (i : Nat), (l.map f).eraseIdx i = (l.eraseIdx i).map f
  | [], _ => rfl
  | x :: l, 0 => rfl
  | x :: l, i + 1 => by
    rw [List.map_cons, List.eraseIdx_cons_succ, List.eraseIdx_cons_succ, List.map_cons, erase_map f l i]
theorem a_bracket_spec {n s m : Nat} {big points : Int} {st : List SO} {Q : Rs → List SO → Prop} (hb : big = (s : Int)) (hm : points = (m : Int)) (h1 : s ≤ m) (h8 : m ≤ 8) (T : Tape st) (h : ∀ (b : B) st', b.length = s → (∀ k ∈ b, k ∈ pts) → Tape st' → Q (encB b, false) st') : Rp (callF fns wf (n + 2) id__law_a_bracket [.obj 1, .int big, .int points] st) Q := by
  with_reducible refine c__law_a_bracket fun cl hcl => ?_
  unfold b__law_a_bracket
  try simp -implicitDefEqProofs only [wp_bind, wp_pure, wp_bad, wp_getS, wp_asB, wp_slotOpd, wp_rdSlot, wp_rdVar, wp_rdRet, wp_resV, wp_resS, wp_ress0, wp_ress, wp_setR, wp_setρ, wp_call, wp_setAt, wp_opd, wp_dat, wp_shr, wp_ownL, wp_popAt, wp_popLast, wp_app, wp_ins, wp_bindTup, wp_bindTs0, wp_bindTs, wp_bindNm, wp_blk, w_var, w_con, w_tup, w_lst, w_shr, w_bin, w_cmp, w_idx, w_cmp2, w_and2, w_or2, w_not1, w_ife, w_sli, w_call, w_blt, w_isi, w_lc, w_popk, w_popl, w_isN, w_neg, Z.w_rev, w_part0, w_part1, w_ds0, w_ds, w_os0, w_os, w_cs0, w_cs, line, w_asg, w_asgT, w_aug, w_setI, w_augI, w_lc2, w_app, w_ins, w_ext, w_expr, w_ret, w_retN, w_if, w_forE, w_whil, w_brk, w_cont, w_pass, w_ss0, w_ss, fw_nx, fw_brk, fw_cont, fw_ret, nn_none, nn_int, nn_bl, nn_str, nn_tup, nn_lst, ol_lst, op_some, op_none, op_ite, ob_bl, oi_int, sl_pu, sl_ow, al_ow, al_obj, so_lst, opdV, retV, endQ, letgo, ite_self, ixN_3_0, ixN_3_1, ixN_3_2, atI_0, atI_1, atI_2, atI_3, List.getElem?_cons_zero, List.getElem?_cons_succ, List.set_cons_zero, List.set_cons_succ, List.length_cons, List.length_nil, List.length_map, Option.bind_some, Option.map_some, List.nil_append, List.cons_append, List.length_singleton, Nat.zero_add, Nat.reduceAdd, Nat.reduceLT, Nat.reduceLeDiff, Nat.zero_le, if_false, if_true, Bool.false_eq_true, Bool.true_eq_false, Bool.not_true, Bool.not_false, reduceCtorEq, true_and, and_true, forall_const, false_and, and_false, false_implies, not_false_eq_true, not_true_eq_false, decide_true, decide_false, decide_eq_true_eq, decide_eq_false_iff_not, isi_none_int, isi_none_bool, isi_none_str, isi_none_tuple, isi_none_list, isi_none_list_tuple, isi_none_tuple_list, isi_bl_int, isi_bl_bool, isi_bl_str, isi_bl_tuple, isi_bl_list, isi_bl_list_tuple, isi_bl_tuple_list, isi_int_int, isi_int_bool, isi_int_str, isi_int_tuple, isi_int_list, isi_int_list_tuple, isi_int_tuple_list, isi_str_int, isi_str_bool, isi_str_str, isi_str_tuple, isi_str_list, isi_str_list_tuple, isi_str_tuple_list, isi_tup_int, isi_tup_bool, isi_tup_str, isi_tup_tuple, isi_tup_list, isi_tup_list_tuple, isi_tup_tuple_list, isi_lst_int, isi_lst_bool, isi_lst_str, isi_lst_tuple, isi_lst_list, isi_lst_list_tuple, isi_lst_tuple_list, cmp_eq_ii, cmp_ne_ii, cmp_eq_bb, cmp_ne_bb, cmp_lt, cmp_le, cmp_gt, cmp_ge, cmp_ni_ii, lrg_at hm h8, hb, items_rng1 (n := s) (by omega)]
  refine wp_lc_acc _ rfl (fun acc s' => ∃ (l bl : List Int) (st' : List SO) (x : Slot), acc = bl.map .int ∧ l.length + acc.length = m ∧ (∀ k ∈ l, k ∈ pts) ∧ (∀ k ∈ bl, k ∈ pts) ∧ Tape st' ∧ s' = ⟨[.pu (.obj 1), .pu (.int (s : Int)), .pu (.int points), .ow (.lst (l.map .int)), .un, x], st'⟩) s (by rw [line_eq']; omega) ⟨_, [], st, _, rfl, by simp, pts_range h8, fun k hk => (by cases hk), T, rfl⟩ (by simp) ?_ ?_
  · rintro x hx acc s' hacc ⟨l, bl, st', x5, rfl, hl, hlp, hbp, T', rfl⟩
    have hl0 : 0 < l.length := by omega
    have hdl : ∀ st, bltD st .len [.lst (l.map .int)] = some (.int (l.length : Int), false) := fun st => by
      show some (D.int ((l.map D.int).length : Int), false) = _
      rw [List.length_map]
    try simp -implicitDefEqProofs only [wp_bind, wp_pure, wp_bad, wp_getS, wp_asB, wp_slotOpd, wp_rdSlot, wp_rdVar, wp_rdRet, wp_resV, wp_resS, wp_ress0, wp_ress, wp_setR, wp_setρ, wp_call, wp_setAt, wp_opd, wp_dat, wp_shr, wp_ownL, wp_popAt, wp_popLast, wp_app, wp_ins, wp_bindTup, wp_bindTs0, wp_bindTs, wp_bindNm, wp_blk, w_var, w_con, w_tup, w_lst, w_shr, w_bin, w_cmp, w_idx, w_cmp2, w_and2, w_or2, w_not1, w_ife, w_sli, w_call, w_blt, w_isi, w_lc, w_popk, w_popl, w_isN, w_neg, Z.w_rev, w_part0, w_part1, w_ds0, w_ds, w_os0, w_os, w_cs0, w_cs, line, w_asg, w_asgT, w_aug, w_setI, w_augI, w_lc2, w_app, w_ins, w_ext, w_expr, w_ret, w_retN, w_if, w_forE, w_whil, w_brk, w_cont, w_pass, w_ss0, w_ss, fw_nx, fw_brk, fw_cont, fw_ret, nn_none, nn_int, nn_bl, nn_str, nn_tup, nn_lst, ol_lst, op_some, op_none, op_ite, ob_bl, oi_int, sl_pu, sl_ow, al_ow, al_obj, so_lst, opdV, retV, endQ, letgo, ite_self, ixN_3_0, ixN_3_1, ixN_3_2, atI_0, atI_1, atI_2, atI_3, List.getElem?_cons_zero, List.getElem?_cons_succ, List.set_cons_zero, List.set_cons_succ, List.length_cons, List.length_nil, List.length_map, Option.bind_some, Option.map_some, List.nil_append, List.cons_append, List.length_singleton, Nat.zero_add, Nat.reduceAdd, Nat.reduceLT, Nat.reduceLeDiff, Nat.zero_le, if_false, if_true, Bool.false_eq_true, Bool.true_eq_false, Bool.not_true, Bool.not_false, reduceCtorEq, true_and, and_true, forall_const, false_and, and_false, false_implies, not_false_eq_true, not_true_eq_false, decide_true, decide_false, decide_eq_true_eq, decide_eq_false_iff_not, isi_none_int, isi_none_bool, isi_none_str, isi_none_tuple, isi_none_list, isi_none_list_tuple, isi_none_tuple_list, isi_bl_int, isi_bl_bool, isi_bl_str, isi_bl_tuple, isi_bl_list, isi_bl_list_tuple, isi_bl_tuple_list, isi_int_int, isi_int_bool, isi_int_str, isi_int_tuple, isi_int_list, isi_int_list_tuple, isi_int_tuple_list, isi_str_int, isi_str_bool, isi_str_str, isi_str_tuple, isi_str_list, isi_str_list_tuple, isi_str_tuple_list, isi_tup_int, isi_tup_bool, isi_tup_str, isi_tup_tuple, isi_tup_list, isi_tup_list_tuple, isi_tup_tuple_list, isi_lst_int, isi_lst_bool, isi_lst_str, isi_lst_tuple, isi_lst_list, isi_lst_list_tuple, isi_lst_tuple_list, cmp_eq_ii, cmp_ne_ii, cmp_eq_bb, cmp_ne_bb, cmp_lt, cmp_le, cmp_gt, cmp_ge, cmp_ni_ii, wp_wipe, List.foldr_cons, List.foldr_nil, hdl]
    with_reducible refine rp_cl hcl (draw_spec T' (by omega) (log_small (by omega)) fun f st2 f0 f1 T2 => ?_)
    have hst : (still (.int f) && st2.all stillSO) = true := by rw [T2.still]; rfl
    have hix : ixP l.length (.int f) = some f.toNat := ixP_at f0 f1 (by omega)
    have hfl : f.toNat < l.length := by omega
    have hget : (l.map D.int)[f.toNat]? = some (.int l[f.toNat]) := by simp [hfl]
    try simp -implicitDefEqProofs only [wp_bind, wp_pure, wp_bad, wp_getS, wp_asB, wp_slotOpd, wp_rdSlot, wp_rdVar, wp_rdRet, wp_resV, wp_resS, wp_ress0, wp_ress, wp_setR, wp_setρ, wp_call, wp_setAt, wp_opd, wp_dat, wp_shr, wp_ownL, wp_popAt, wp_popLast, wp_app, wp_ins, wp_bindTup, wp_bindTs0, wp_bindTs, wp_bindNm, wp_blk, w_var, w_con, w_tup, w_lst, w_shr, w_bin, w_cmp, w_idx, w_cmp2, w_and2, w_or2, w_not1, w_ife, w_sli, w_call, w_blt, w_isi, w_lc, w_popk, w_popl, w_isN, w_neg, Z.w_rev, w_part0, w_part1, w_ds0, w_ds, w_os0, w_os, w_cs0, w_cs, line, w_asg, w_asgT, w_aug, w_setI, w_augI, w_lc2, w_app, w_ins, w_ext, w_expr, w_ret, w_retN, w_if, w_forE, w_whil, w_brk, w_cont, w_pass, w_ss0, w_ss, fw_nx, fw_brk, fw_cont, fw_ret, nn_none, nn_int, nn_bl, nn_str, nn_tup, nn_lst, ol_lst, op_some, op_none, op_ite, ob_bl, oi_int, sl_pu, sl_ow, al_ow, al_obj, so_lst, opdV, retV, endQ, letgo, ite_self, ixN_3_0, ixN_3_1, ixN_3_2, atI_0, atI_1, atI_2, atI_3, List.getElem?_cons_zero, List.getElem?_cons_succ, List.set_cons_zero, List.set_cons_succ, List.length_cons, List.length_nil, List.length_map, Option.bind_some, Option.map_some, List.nil_append, List.cons_append, List.length_singleton, Nat.zero_add, Nat.reduceAdd, Nat.reduceLT, Nat.reduceLeDiff, Nat.zero_le, if_false, if_true, Bool.false_eq_true, Bool.true_eq_false, Bool.not_true, Bool.not_false, reduceCtorEq, true_and, and_true, forall_const, false_and, and_false, false_implies, not_false_eq_true, not_true_eq_false, decide_true, decide_false, decide_eq_true_eq, decide_eq_false_iff_not, isi_none_int, isi_none_bool, isi_none_str, isi_none_tuple, isi_none_list, isi_none_list_tuple, isi_none_tuple_list, isi_bl_int, isi_bl_bool, isi_bl_str, isi_bl_tuple, isi_bl_list, isi_bl_list_tuple, isi_bl_tuple_list, isi_int_int, isi_int_bool, isi_int_str, isi_int_tuple, isi_int_list, isi_int_list_tuple, isi_int_tuple_list, isi_str_int, isi_str_bool, isi_str_str, isi_str_tuple, isi_str_list, isi_str_list_tuple, isi_str_tuple_list, isi_tup_int, isi_tup_bool, isi_tup_str, isi_tup_tuple, isi_tup_list, isi_tup_list_tuple, isi_tup_tuple_list, isi_lst_int, isi_lst_bool, isi_lst_str, isi_lst_tuple, isi_lst_list, isi_lst_list_tuple, isi_lst_tuple_list, cmp_eq_ii, cmp_ne_ii, cmp_eq_bb, cmp_ne_bb, cmp_lt, cmp_le, cmp_gt, cmp_ge, cmp_ni_ii, hst, hix, hget]
    have hsub : ∀ k ∈ l.eraseIdx f.toNat, k ∈ pts := fun k hk => hlp k (List.mem_of_mem_eraseIdx hk)
    have hlen : (l.eraseIdx f.toNat).length + 1 = l.length := by rw [List.length_eraseIdx_of_lt hfl]; omega
    rw [erase_map]
    refine ⟨l.eraseIdx f.toNat, bl ++ [l[f.toNat]], st2, _, by rw [List.map_append]; rfl, by rw [List.length_append, List.length_singleton]; omega, hsub, fun k hk => ?_, T2, rfl⟩
    rcases List.mem_append.mp hk with hk | hk
    · exact hbp k hk
    · rw [List.mem_singleton.mp hk]; exact hlp _ (List.getElem_mem hfl)
  · rintro acc s' hacc ⟨l, bl, st', x5, rfl, hl, hlp, hbp, T', rfl⟩
    obtain ⟨mm, hmp, em⟩ := sort_i bl
    try simp -implicitDefEqProofs only [wp_bind, wp_pure, wp_bad, wp_getS, wp_asB, wp_slotOpd, wp_rdSlot, wp_rdVar, wp_rdRet, wp_resV, wp_resS, wp_ress0, wp_ress, wp_setR, wp_setρ, wp_call, wp_setAt, wp_opd, wp_dat, wp_shr, wp_ownL, wp_popAt, wp_popLast, wp_app, wp_ins, wp_bindTup, wp_bindTs0, wp_bindTs, wp_bindNm, wp_blk, w_var, w_con, w_tup, w_lst, w_shr, w_bin, w_cmp, w_idx, w_cmp2, w_and2, w_or2, w_not1, w_ife, w_sli, w_call, w_blt, w_isi, w_lc, w_popk, w_popl, w_isN, w_neg, Z.w_rev, w_part0, w_part1, w_ds0, w_ds, w_os0, w_os, w_cs0, w_cs, line, w_asg, w_asgT, w_aug, w_setI, w_augI, w_lc2, w_app, w_ins, w_ext, w_expr, w_ret, w_retN, w_if, w_forE, w_whil, w_brk, w_cont, w_pass, w_ss0, w_ss, fw_nx, fw_brk, fw_cont, fw_ret, nn_none, nn_int, nn_bl, nn_str, nn_tup, nn_lst, ol_lst, op_some, op_none, op_ite, ob_bl, oi_int, sl_pu, sl_ow, al_ow, al_obj, so_lst, opdV, retV, endQ, letgo, ite_self, ixN_3_0, ixN_3_1, ixN_3_2, atI_0, atI_1, atI_2, atI_3, List.getElem?_cons_zero, List.getElem?_cons_succ, List.set_cons_zero, List.set_cons_succ, List.length_cons, List.length_nil, List.length_map, Option.bind_some, Option.map_some, List.nil_append, List.cons_append, List.length_singleton, Nat.zero_add, Nat.reduceAdd, Nat.reduceLT, Nat.reduceLeDiff, Nat.zero_le, if_false, if_true, Bool.false_eq_true, Bool.true_eq_false, Bool.not_true, Bool.not_false, reduceCtorEq, true_and, and_true, forall_const, false_and, and_false, false_implies, not_false_eq_true, not_true_eq_false, decide_true, decide_false, decide_eq_true_eq, decide_eq_false_iff_not, isi_none_int, isi_none_bool, isi_none_str, isi_none_tuple, isi_none_list, isi_none_list_tuple, isi_none_tuple_list, isi_bl_int, isi_bl_bool, isi_bl_str, isi_bl_tuple, isi_bl_list, isi_bl_list_tuple, isi_bl_tuple_list, isi_int_int, isi_int_bool, isi_int_str, isi_int_tuple, isi_int_list, isi_int_list_tuple, isi_int_tuple_list, isi_str_int, isi_str_bool, isi_str_str, isi_str_tuple, isi_str_list, isi_str_list_tuple, isi_str_tuple_list, isi_tup_int, isi_tup_bool, isi_tup_str, isi_tup_tuple, isi_tup_list, isi_tup_list_tuple, isi_tup_tuple_list, isi_lst_int, isi_lst_bool, isi_lst_str, isi_lst_tuple, isi_lst_list, isi_lst_list_tuple, isi_lst_tuple_list, cmp_eq_ii, cmp_ne_ii, cmp_eq_bb, cmp_ne_bb, cmp_lt, cmp_le, cmp_gt, cmp_ge, cmp_ni_ii, unwipe, List.foldr_cons, List.foldr_nil, sorted_list sortOk_i, em]
    try simp -implicitDefEqProofs only [wp_bind, wp_pure, wp_bad, wp_getS, wp_asB, wp_slotOpd, wp_rdSlot, wp_rdVar, wp_rdRet, wp_resV, wp_resS, wp_ress0, wp_ress, wp_setR, wp_setρ, wp_call, wp_setAt, wp_opd, wp_dat, wp_shr, wp_ownL, wp_popAt, wp_popLast, wp_app, wp_ins, wp_bindTup, wp_bindTs0, wp_bindTs, wp_bindNm, wp_blk, w_var, w_con, w_tup, w_lst, w_shr, w_bin, w_cmp, w_idx, w_cmp2, w_and2, w_or2, w_not1, w_ife, w_sli, w_call, w_blt, w_isi, w_lc, w_popk, w_popl, w_isN, w_neg, Z.w_rev, w_part0, w_part1, w_ds0, w_ds, w_os0, w_os, w_cs0, w_cs, line, w_asg, w_asgT, w_aug, w_setI, w_augI, w_lc2, w_app, w_ins, w_ext, w_expr, w_ret, w_retN, w_if, w_forE, w_whil, w_brk, w_cont, w_pass, w_ss0, w_ss, fw_nx, fw_brk, fw_cont, fw_ret, nn_none, nn_int, nn_bl, nn_str, nn_tup, nn_lst, ol_lst, op_some, op_none, op_ite, ob_bl, oi_int, sl_pu, sl_ow, al_ow, al_obj, so_lst, opdV, retV, endQ, letgo, ite_self, ixN_3_0, ixN_3_1, ixN_3_2, atI_0, atI_1, atI_2, atI_3, List.getElem?_cons_zero, List.getElem?_cons_succ, List.set_cons_zero, List.set_cons_succ, List.length_cons, List.length_nil, List.length_map, Option.bind_some, Option.map_some, List.nil_append, List.cons_append, List.length_singleton, Nat.zero_add, Nat.reduceAdd, Nat.reduceLT, Nat.reduceLeDiff, Nat.zero_le, if_false, if_true, Bool.false_eq_true, Bool.true_eq_false, Bool.not_true, Bool.not_false, reduceCtorEq, true_and, and_true, forall_const, false_and, and_false, false_implies, not_false_eq_true, not_true_eq_false, decide_true, decide_false, decide_eq_true_eq, decide_eq_false_iff_not, isi_none_int, isi_none_bool, isi_none_str, isi_none_tuple, isi_none_list, isi_none_list_tuple, isi_none_tuple_list, isi_bl_int, isi_bl_bool, isi_bl_str, isi_bl_tuple, isi_bl_list, isi_bl_list_tuple, isi_bl_tuple_list, isi_int_int, isi_int_bool, isi_int_str, isi_int_tuple, isi_int_list, isi_int_list_tuple, isi_int_tuple_list, isi_str_int, isi_str_bool, isi_str_str, isi_str_tuple, isi_str_list, isi_str_list_tuple, isi_str_tuple_list, isi_tup_int, isi_tup_bool, isi_tup_str, isi_tup_tuple, isi_tup_list, isi_tup_list_tuple, isi_tup_tuple_list, isi_lst_int, isi_lst_bool, isi_lst_str, isi_lst_tuple, isi_lst_list, isi_lst_list_tuple, isi_lst_tuple_list, cmp_eq_ii, cmp_ne_ii, cmp_eq_bb, cmp_ne_bb, cmp_lt, cmp_le, cmp_gt, cmp_ge, cmp_ni_ii, bltD, on1, tupleD]
    exact h mm _ (by rw [hmp.length_eq]; simpa using hacc) (fun k hk => hbp k (hmp.mem_iff.mp hk)) T'
theorem a_product_spec {n s m : Nat} {big points most : Int} {st : List SO} {Q : Rs → List SO → Prop} (hb : big = (s : Int)) (hm : points = (m : Int)) (h0 : 0 < s) (h1 : s ≤ m) (h8 : m ≤ 8) (hmost : 0 ≤ most ∧ most ≤ 100) (T : Tape st) (h : ∀ (p : P) st', p.length ≤ 100 → (∀ b ∈ p, b.length = s ∧ ∀ k ∈ b, k ∈ pts) → Tape st' → Q (encP p, false) st') : Rp (callF fns wf (n + 3) id__law_a_product [.obj 1, .int big, .int points, .int most] st) Q := by
  with_reducible refine c__law_a_product fun cl hcl => ?_
  unfold b__law_a_product
  try simp -implicitDefEqProofs only [wp_bind, wp_pure, wp_bad, wp_getS, wp_asB, wp_slotOpd, wp_rdSlot, wp_rdVar, wp_rdRet, wp_resV, wp_resS, wp_ress0, wp_ress, wp_setR, wp_setρ, wp_call, wp_setAt, wp_opd, wp_dat, wp_shr, wp_ownL, wp_popAt, wp_popLast, wp_app, wp_ins, wp_bindTup, wp_bindTs0, wp_bindTs, wp_bindNm, wp_blk, w_var, w_con, w_tup, w_lst, w_shr, w_bin, w_cmp, w_idx, w_cmp2, w_and2, w_or2, w_not1, w_ife, w_sli, w_call, w_blt, w_isi, w_lc, w_popk, w_popl, w_isN, w_neg, Z.w_rev, w_part0, w_part1, w_ds0, w_ds, w_os0, w_os, w_cs0, w_cs, line, w_asg, w_asgT, w_aug, w_setI, w_augI, w_lc2, w_app, w_ins, w_ext, w_expr, w_ret, w_retN, w_if, w_forE, w_whil, w_brk, w_cont, w_pass, w_ss0, w_ss, fw_nx, fw_brk, fw_cont, fw_ret, nn_none, nn_int, nn_bl, nn_str, nn_tup, nn_lst, ol_lst, op_some, op_none, op_ite, ob_bl, oi_int, sl_pu, sl_ow, al_ow, al_obj, so_lst, opdV, retV, endQ, letgo, ite_self, ixN_3_0, ixN_3_1, ixN_3_2, atI_0, atI_1, atI_2, atI_3, List.getElem?_cons_zero, List.getElem?_cons_succ, List.set_cons_zero, List.set_cons_succ, List.length_cons, List.length_nil, List.length_map, Option.bind_some, Option.map_some, List.nil_append, List.cons_append, List.length_singleton, Nat.zero_add, Nat.reduceAdd, Nat.reduceLT, Nat.reduceLeDiff, Nat.zero_le, if_false, if_true, Bool.false_eq_true, Bool.true_eq_false, Bool.not_true, Bool.not_false, reduceCtorEq, true_and, and_true, forall_const, false_and, and_false, false_implies, not_false_eq_true, not_true_eq_false, decide_true, decide_false, decide_eq_true_eq, decide_eq_false_iff_not, isi_none_int, isi_none_bool, isi_none_str, isi_none_tuple, isi_none_list, isi_none_list_tuple, isi_none_tuple_list, isi_bl_int, isi_bl_bool, isi_bl_str, isi_bl_tuple, isi_bl_list, isi_bl_list_tuple, isi_bl_tuple_list, isi_int_int, isi_int_bool, isi_int_str, isi_int_tuple, isi_int_list, isi_int_list_tuple, isi_int_tuple_list, isi_str_int, isi_str_bool, isi_str_str, isi_str_tuple, isi_str_list, isi_str_list_tuple, isi_str_tuple_list, isi_tup_int, isi_tup_bool, isi_tup_str, isi_tup_tuple, isi_tup_list, isi_tup_list_tuple, isi_tup_tuple_list, isi_lst_int, isi_lst_bool, isi_lst_str, isi_lst_tuple, isi_lst_list, isi_lst_list_tuple, isi_lst_tuple_list, cmp_eq_ii, cmp_ne_ii, cmp_eq_bb, cmp_ne_bb, cmp_lt, cmp_le, cmp_gt, cmp_ge, cmp_ni_ii, binD]
  with_reducible refine rp_cl hcl (draw_spec T (by omega) (log_small (by omega)) fun f st2 f0 f1 T2 => ?_)
  try simp -implicitDefEqProofs only [wp_bind, wp_pure, wp_bad, wp_getS, wp_asB, wp_slotOpd, wp_rdSlot, wp_rdVar, wp_rdRet, wp_resV, wp_resS, wp_ress0, wp_ress, wp_setR, wp_setρ, wp_call, wp_setAt, wp_opd, wp_dat, wp_shr, wp_ownL, wp_popAt, wp_popLast, wp_app, wp_ins, wp_bindTup, wp_bindTs0, wp_bindTs, wp_bindNm, wp_blk, w_var, w_con, w_tup, w_lst, w_shr, w_bin, w_cmp, w_idx, w_cmp2, w_and2, w_or2, w_not1, w_ife, w_sli, w_call, w_blt, w_isi, w_lc, w_popk, w_popl, w_isN, w_neg, Z.w_rev, w_part0, w_part1, w_ds0, w_ds, w_os0, w_os, w_cs0, w_cs, line, w_asg, w_asgT, w_aug, w_setI, w_augI, w_lc2, w_app, w_ins, w_ext, w_expr, w_ret, w_retN, w_if, w_forE, w_whil, w_brk, w_cont, w_pass, w_ss0, w_ss, fw_nx, fw_brk, fw_cont, fw_ret, nn_none, nn_int, nn_bl, nn_str, nn_tup, nn_lst, ol_lst, op_some, op_none, op_ite, ob_bl, oi_int, sl_pu, sl_ow, al_ow, al_obj, so_lst, opdV, retV, endQ, letgo, ite_self, ixN_3_0, ixN_3_1, ixN_3_2, atI_0, atI_1, atI_2, atI_3, List.getElem?_cons_zero, List.getElem?_cons_succ, List.set_cons_zero, List.set_cons_succ, List.length_cons, List.length_nil, List.length_map, Option.bind_some, Option.map_some, List.nil_append, List.cons_append, List.length_singleton, Nat.zero_add, Nat.reduceAdd, Nat.reduceLT, Nat.reduceLeDiff, Nat.zero_le, if_false, if_true, Bool.false_eq_true, Bool.true_eq_false, Bool.not_true, Bool.not_false, reduceCtorEq, true_and, and_true, forall_const, false_and, and_false, false_implies, not_false_eq_true, not_true_eq_false, decide_true, decide_false, decide_eq_true_eq, decide_eq_false_iff_not, isi_none_int, isi_none_bool, isi_none_str, isi_none_tuple, isi_none_list, isi_none_list_tuple, isi_none_tuple_list, isi_bl_int, isi_bl_bool, isi_bl_str, isi_bl_tuple, isi_bl_list, isi_bl_list_tuple, isi_bl_tuple_list, isi_int_int, isi_int_bool, isi_int_str, isi_int_tuple, isi_int_list, isi_int_list_tuple, isi_int_tuple_list, isi_str_int, isi_str_bool, isi_str_str, isi_str_tuple, isi_str_list, isi_str_list_tuple, isi_str_tuple_list, isi_tup_int, isi_tup_bool, isi_tup_str, isi_tup_tuple, isi_tup_list, isi_tup_list_tuple, isi_tup_tuple_list, isi_lst_int, isi_lst_bool, isi_lst_str, isi_lst_tuple, isi_lst_list, isi_lst_list_tuple, isi_lst_tuple_list, cmp_eq_ii, cmp_ne_ii, cmp_eq_bb, cmp_ne_bb, cmp_lt, cmp_le, cmp_gt, cmp_ge, cmp_ni_ii, items_rng1i f0 (by omega)]
  refine wp_lc_acc _ rfl (fun acc s' => ∃ (p : P) (st' : List SO) (x : Slot), acc = p.map encB ∧ (∀ b ∈ p, b.length = s ∧ ∀ k ∈ b, k ∈ pts) ∧ Tape st' ∧ s' = ⟨[.pu (.obj 1), .pu (.int big), .pu (.int points), .pu (.int most), x], st'⟩) f.toNat (by rw [line_eq']; omega) ⟨[], st2, _, rfl, fun b hb => (by cases hb), T2, rfl⟩ (by simp) ?_ ?_
  · rintro x hx acc s' hacc ⟨p, st', x5, rfl, hp, T', rfl⟩
    try simp -implicitDefEqProofs only [wp_bind, wp_pure, wp_bad, wp_getS, wp_asB, wp_slotOpd, wp_rdSlot, wp_rdVar, wp_rdRet, wp_resV, wp_resS, wp_ress0, wp_ress, wp_setR, wp_setρ, wp_call, wp_setAt, wp_opd, wp_dat, wp_shr, wp_ownL, wp_popAt, wp_popLast, wp_app, wp_ins, wp_bindTup, wp_bindTs0, wp_bindTs, wp_bindNm, wp_blk, w_var, w_con, w_tup, w_lst, w_shr, w_bin, w_cmp, w_idx, w_cmp2, w_and2, w_or2, w_not1, w_ife, w_sli, w_call, w_blt, w_isi, w_lc, w_popk, w_popl, w_isN, w_neg, Z.w_rev, w_part0, w_part1, w_ds0, w_ds, w_os0, w_os, w_cs0, w_cs, line, w_asg, w_asgT, w_aug, w_setI, w_augI, w_lc2, w_app, w_ins, w_ext, w_expr, w_ret, w_retN, w_if, w_forE, w_whil, w_brk, w_cont, w_pass, w_ss0, w_ss, fw_nx, fw_brk, fw_cont, fw_ret, nn_none, nn_int, nn_bl, nn_str, nn_tup, nn_lst, ol_lst, op_some, op_none, op_ite, ob_bl, oi_int, sl_pu, sl_ow, al_ow, al_obj, so_lst, opdV, retV, endQ, letgo, ite_self, ixN_3_0, ixN_3_1, ixN_3_2, atI_0, atI_1, atI_2, atI_3, List.getElem?_cons_zero, List.getElem?_cons_succ, List.set_cons_zero, List.set_cons_succ, List.length_cons, List.length_nil, List.length_map, Option.bind_some, Option.map_some, List.nil_append, List.cons_append, List.length_singleton, Nat.zero_add, Nat.reduceAdd, Nat.reduceLT, Nat.reduceLeDiff, Nat.zero_le, if_false, if_true, Bool.false_eq_true, Bool.true_eq_false, Bool.not_true, Bool.not_false, reduceCtorEq, true_and, and_true, forall_const, false_and, and_false, false_implies, not_false_eq_true, not_true_eq_false, decide_true, decide_false, decide_eq_true_eq, decide_eq_false_iff_not, isi_none_int, isi_none_bool, isi_none_str, isi_none_tuple, isi_none_list, isi_none_list_tuple, isi_none_tuple_list, isi_bl_int, isi_bl_bool, isi_bl_str, isi_bl_tuple, isi_bl_list, isi_bl_list_tuple, isi_bl_tuple_list, isi_int_int, isi_int_bool, isi_int_str, isi_int_tuple, isi_int_list, isi_int_list_tuple, isi_int_tuple_list, isi_str_int, isi_str_bool, isi_str_str, isi_str_tuple, isi_str_list, isi_str_list_tuple, isi_str_tuple_list, isi_tup_int, isi_tup_bool, isi_tup_str, isi_tup_tuple, isi_tup_list, isi_tup_list_tuple, isi_tup_tuple_list, isi_lst_int, isi_lst_bool, isi_lst_str, isi_lst_tuple, isi_lst_list, isi_lst_list_tuple, isi_lst_tuple_list, cmp_eq_ii, cmp_ne_ii, cmp_eq_bb, cmp_ne_bb, cmp_lt, cmp_le, cmp_gt, cmp_ge, cmp_ni_ii, wp_wipe, List.foldr_cons, List.foldr_nil]
    with_reducible refine rp_cl hcl (a_bracket_spec hb hm h1 h8 T' fun b st3 b1 b2 T3 => ?_)
    have hst : (still (encB b) && st3.all stillSO) = true := by rw [T3.still]; exact (Bool.and_true _).trans (stills_ints b)
    try simp -implicitDefEqProofs only [wp_bind, wp_pure, wp_bad, wp_getS, wp_asB, wp_slotOpd, wp_rdSlot, wp_rdVar, wp_rdRet, wp_resV, wp_resS, wp_ress0, wp_ress, wp_setR, wp_setρ, wp_call, wp_setAt, wp_opd, wp_dat, wp_shr, wp_ownL, wp_popAt, wp_popLast, wp_app, wp_ins, wp_bindTup, wp_bindTs0, wp_bindTs, wp_bindNm, wp_blk, w_var, w_con, w_tup, w_lst, w_shr, w_bin, w_cmp, w_idx, w_cmp2, w_and2, w_or2, w_not1, w_ife, w_sli, w_call, w_blt, w_isi, w_lc, w_popk, w_popl, w_isN, w_neg, Z.w_rev, w_part0, w_part1, w_ds0, w_ds, w_os0, w_os, w_cs0, w_cs, line, w_asg, w_asgT, w_aug, w_setI, w_augI, w_lc2, w_app, w_ins, w_ext, w_expr, w_ret, w_retN, w_if, w_forE, w_whil, w_brk, w_cont, w_pass, w_ss0, w_ss, fw_nx, fw_brk, fw_cont, fw_ret, nn_none, nn_int, nn_bl, nn_str, nn_tup, nn_lst, ol_lst, op_some, op_none, op_ite, ob_bl, oi_int, sl_pu, sl_ow, al_ow, al_obj, so_lst, opdV, retV, endQ, letgo, ite_self, ixN_3_0, ixN_3_1, ixN_3_2, atI_0, atI_1, atI_2, atI_3, List.getElem?_cons_zero, List.getElem?_cons_succ, List.set_cons_zero, List.set_cons_succ, List.length_cons, List.length_nil, List.length_map, Option.bind_some, Option.map_some, List.nil_append, List.cons_append, List.length_singleton, Nat.zero_add, Nat.reduceAdd, Nat.reduceLT, Nat.reduceLeDiff, Nat.zero_le, if_false, if_true, Bool.false_eq_true, Bool.true_eq_false, Bool.not_true, Bool.not_false, reduceCtorEq, true_and, and_true, forall_const, false_and, and_false, false_implies, not_false_eq_true, not_true_eq_false, decide_true, decide_false, decide_eq_true_eq, decide_eq_false_iff_not, isi_none_int, isi_none_bool, isi_none_str, isi_none_tuple, isi_none_list, isi_none_list_tuple, isi_none_tuple_list, isi_bl_int, isi_bl_bool, isi_bl_str, isi_bl_tuple, isi_bl_list, isi_bl_list_tuple, isi_bl_tuple_list, isi_int_int, isi_int_bool, isi_int_str, isi_int_tuple, isi_int_list, isi_int_list_tuple, isi_int_tuple_list, isi_str_int, isi_str_bool, isi_str_str, isi_str_tuple, isi_str_list, isi_str_list_tuple, isi_str_tuple_list, isi_tup_int, isi_tup_bool, isi_tup_str, isi_tup_tuple, isi_tup_list, isi_tup_list_tuple, isi_tup_tuple_list, isi_lst_int, isi_lst_bool, isi_lst_str, isi_lst_tuple, isi_lst_list, isi_lst_list_tuple, isi_lst_tuple_list, cmp_eq_ii, cmp_ne_ii, cmp_eq_bb, cmp_ne_bb, cmp_lt, cmp_le, cmp_gt, cmp_ge, cmp_ni_ii, hst]
    refine ⟨p ++ [b], st3, _, by rw [List.map_append]; rfl, fun b' hb' => ?_, T3, rfl⟩
    rcases List.mem_append.mp hb' with hb' | hb'
    · exact hp b' hb'
    · rw [List.mem_singleton.mp hb']; exact ⟨b1, b2⟩
  · rintro acc s' hacc ⟨p, st', x5, rfl, hp, T', rfl⟩
    obtain ⟨mm, hmp, em⟩ := sort_b p
    have hok : sortOk (p.map encB) = true := sortOk_b fun b hb e => by
      have := (hp b hb).1
      rw [e] at this
      simp at this
      omega
    try simp -implicitDefEqProofs only [wp_bind, wp_pure, wp_bad, wp_getS, wp_asB, wp_slotOpd, wp_rdSlot, wp_rdVar, wp_rdRet, wp_resV, wp_resS, wp_ress0, wp_ress, wp_setR, wp_setρ, wp_call, wp_setAt, wp_opd, wp_dat, wp_shr, wp_ownL, wp_popAt, wp_popLast, wp_app, wp_ins, wp_bindTup, wp_bindTs0, wp_bindTs, wp_bindNm, wp_blk, w_var, w_con, w_tup, w_lst, w_shr, w_bin, w_cmp, w_idx, w_cmp2, w_and2, w_or2, w_not1, w_ife, w_sli, w_call, w_blt, w_isi, w_lc, w_popk, w_popl, w_isN, w_neg, Z.w_rev, w_part0, w_part1, w_ds0, w_ds, w_os0, w_os, w_cs0, w_cs, line, w_asg, w_asgT, w_aug, w_setI, w_augI, w_lc2, w_app, w_ins, w_ext, w_expr, w_ret, w_retN, w_if, w_forE, w_whil, w_brk, w_cont, w_pass, w_ss0, w_ss, fw_nx, fw_brk, fw_cont, fw_ret, nn_none, nn_int, nn_bl, nn_str, nn_tup, nn_lst, ol_lst, op_some, op_none, op_ite, ob_bl, oi_int, sl_pu, sl_ow, al_ow, al_obj, so_lst, opdV, retV, endQ, letgo, ite_self, ixN_3_0, ixN_3_1, ixN_3_2, atI_0, atI_1, atI_2, atI_3, List.getElem?_cons_zero, List.getElem?_cons_succ, List.set_cons_zero, List.set_cons_succ, List.length_cons, List.length_nil, List.length_map, Option.bind_some, Option.map_some, List.nil_append, List.cons_append, List.length_singleton, Nat.zero_add, Nat.reduceAdd, Nat.reduceLT, Nat.reduceLeDiff, Nat.zero_le, if_false, if_true, Bool.false_eq_true, Bool.true_eq_false, Bool.not_true, Bool.not_false, reduceCtorEq, true_and, and_true, forall_const, false_and, and_false, false_implies, not_false_eq_true, not_true_eq_false, decide_true, decide_false, decide_eq_true_eq, decide_eq_false_iff_not, isi_none_int, isi_none_bool, isi_none_str, isi_none_tuple, isi_none_list, isi_none_list_tuple, isi_none_tuple_list, isi_bl_int, isi_bl_bool, isi_bl_str, isi_bl_tuple, isi_bl_list, isi_bl_list_tuple, isi_bl_tuple_list, isi_int_int, isi_int_bool, isi_int_str, isi_int_tuple, isi_int_list, isi_int_list_tuple, isi_int_tuple_list, isi_str_int, isi_str_bool, isi_str_str, isi_str_tuple, isi_str_list, isi_str_list_tuple, isi_str_tuple_list, isi_tup_int, isi_tup_bool, isi_tup_str, isi_tup_tuple, isi_tup_list, isi_tup_list_tuple, isi_tup_tuple_list, isi_lst_int, isi_lst_bool, isi_lst_str, isi_lst_tuple, isi_lst_list, isi_lst_list_tuple, isi_lst_tuple_list, cmp_eq_ii, cmp_ne_ii, cmp_eq_bb, cmp_ne_bb, cmp_lt, cmp_le, cmp_gt, cmp_ge, cmp_ni_ii, unwipe, List.foldr_cons, List.foldr_nil, sorted_list hok, em]
    try simp -implicitDefEqProofs only [wp_bind, wp_pure, wp_bad, wp_getS, wp_asB, wp_slotOpd, wp_rdSlot, wp_rdVar, wp_rdRet, wp_resV, wp_resS, wp_ress0, wp_ress, wp_setR, wp_setρ, wp_call, wp_setAt, wp_opd, wp_dat, wp_shr, wp_ownL, wp_popAt, wp_popLast, wp_app, wp_ins, wp_bindTup, wp_bindTs0, wp_bindTs, wp_bindNm, wp_blk, w_var, w_con, w_tup, w_lst, w_shr, w_bin, w_cmp, w_idx, w_cmp2, w_and2, w_or2, w_not1, w_ife, w_sli, w_call, w_blt, w_isi, w_lc, w_popk, w_popl, w_isN, w_neg, Z.w_rev, w_part0, w_part1, w_ds0, w_ds, w_os0, w_os, w_cs0, w_cs, line, w_asg, w_asgT, w_aug, w_setI, w_augI, w_lc2, w_app, w_ins, w_ext, w_expr, w_ret, w_retN, w_if, w_forE, w_whil, w_brk, w_cont, w_pass, w_ss0, w_ss, fw_nx, fw_brk, fw_cont, fw_ret, nn_none, nn_int, nn_bl, nn_str, nn_tup, nn_lst, ol_lst, op_some, op_none, op_ite, ob_bl, oi_int, sl_pu, sl_ow, al_ow, al_obj, so_lst, opdV, retV, endQ, letgo, ite_self, ixN_3_0, ixN_3_1, ixN_3_2, atI_0, atI_1, atI_2, atI_3, List.getElem?_cons_zero, List.getElem?_cons_succ, List.set_cons_zero, List.set_cons_succ, List.length_cons, List.length_nil, List.length_map, Option.bind_some, Option.map_some, List.nil_append, List.cons_append, List.length_singleton, Nat.zero_add, Nat.reduceAdd, Nat.reduceLT, Nat.reduceLeDiff, Nat.zero_le, if_false, if_true, Bool.false_eq_true, Bool.true_eq_false, Bool.not_true, Bool.not_false, reduceCtorEq, true_and, and_true, forall_const, false_and, and_false, false_implies, not_false_eq_true, not_true_eq_false, decide_true, decide_false, decide_eq_true_eq, decide_eq_false_iff_not, isi_none_int, isi_none_bool, isi_none_str, isi_none_tuple, isi_none_list, isi_none_list_tuple, isi_none_tuple_list, isi_bl_int, isi_bl_bool, isi_bl_str, isi_bl_tuple, isi_bl_list, isi_bl_list_tuple, isi_bl_tuple_list, isi_int_int, isi_int_bool, isi_int_str, isi_int_tuple, isi_int_list, isi_int_list_tuple, isi_int_tuple_list, isi_str_int, isi_str_bool, isi_str_str, isi_str_tuple, isi_str_list, isi_str_list_tuple, isi_str_tuple_list, isi_tup_int, isi_tup_bool, isi_tup_str, isi_tup_tuple, isi_tup_list, isi_tup_list_tuple, isi_tup_tuple_list, isi_lst_int, isi_lst_bool, isi_lst_str, isi_lst_tuple, isi_lst_list, isi_lst_list_tuple, isi_lst_tuple_list, cmp_eq_ii, cmp_ne_ii, cmp_eq_bb, cmp_ne_bb, cmp_lt, cmp_le, cmp_gt, cmp_ge, cmp_ni_ii, bltD, on1, tupleD]
    refine h mm _ ?_ (fun b hb => hp b (hmp.mem_iff.mp hb)) T'
    have h5 : p.length = f.toNat := by simpa using hacc
    rw [hmp.length_eq]
    omega
theorem cf_nn (l : List Int) : ∀ k ∈ pts, 0 ≤ get (cf l) k := fun k hk => by
  unfold cf
  rw [get_pts _ hk]
  omega
/-- counts: eight, not below 0 -/
structure Cn (c : List Int) : Prop where
  len : c.length = 8
  nn : ∀ k ∈ pts, 0 ≤ get c k
theorem Cn.of {c : List Int} (h : c.length = 8) (hc : ∀ x ∈ c, 0 ≤ x) : Cn c := ⟨h, fun k hk => by
  match c, h, hc with
  | [a0, a1, a2, a3, a4, a5, a6, a7], _, hc =>
    rcases pts_cases hk with rfl | rfl | rfl | rfl | rfl | rfl | rfl | rfl <;> exact hc _ (by simp [SP.get])⟩
/-- all_straight: no such counts -/
theorem all_straight_no {n : Nat} {big : Int} {st : List SO} {c : List Int} {Q : Rs → List SO → Prop} (hb : big = 2 ∨ big = 3) (hno : c.sum % big ≠ 0 ∨ 4 * big < c.sum) (h : Q (.lst [], true) st) : Rp (callF fns wf (n + 3) id_all_straight [.tup (c.map .int), .int big] st) Q := by
  with_reducible refine c_all_straight fun cl hcl => ?_
  unfold b_all_straight
  have hs0 : 0 < big := by omega
  have m4 : mulOk 4 big = true := mulOk_l (by decide)
  try simp -implicitDefEqProofs only [wp_bind, wp_pure, wp_bad, wp_getS, wp_asB, wp_slotOpd, wp_rdSlot, wp_rdVar, wp_rdRet, wp_resV, wp_resS, wp_ress0, wp_ress, wp_setR, wp_setρ, wp_call, wp_setAt, wp_opd, wp_dat, wp_shr, wp_ownL, wp_popAt, wp_popLast, wp_app, wp_ins, wp_bindTup, wp_bindTs0, wp_bindTs, wp_bindNm, wp_blk, w_var, w_con, w_tup, w_lst, w_shr, w_bin, w_cmp, w_idx, w_cmp2, w_and2, w_or2, w_not1, w_ife, w_sli, w_call, w_blt, w_isi, w_lc, w_popk, w_popl, w_isN, w_neg, Z.w_rev, w_part0, w_part1, w_ds0, w_ds, w_os0, w_os, w_cs0, w_cs, line, w_asg, w_asgT, w_aug, w_setI, w_augI, w_lc2, w_app, w_ins, w_ext, w_expr, w_ret, w_retN, w_if, w_forE, w_whil, w_brk, w_cont, w_pass, w_ss0, w_ss, fw_nx, fw_brk, fw_cont, fw_ret, nn_none, nn_int, nn_bl, nn_str, nn_tup, nn_lst, ol_lst, op_some, op_none, op_ite, ob_bl, oi_int, sl_pu, sl_ow, al_ow, al_obj, so_lst, opdV, retV, endQ, letgo, ite_self, ixN_3_0, ixN_3_1, ixN_3_2, atI_0, atI_1, atI_2, atI_3, List.getElem?_cons_zero, List.getElem?_cons_succ, List.set_cons_zero, List.set_cons_succ, List.length_cons, List.length_nil, List.length_map, Option.bind_some, Option.map_some, List.nil_append, List.cons_append, List.length_singleton, Nat.zero_add, Nat.reduceAdd, Nat.reduceLT, Nat.reduceLeDiff, Nat.zero_le, if_false, if_true, Bool.false_eq_true, Bool.true_eq_false, Bool.not_true, Bool.not_false, reduceCtorEq, true_and, and_true, forall_const, false_and, and_false, false_implies, not_false_eq_true, not_true_eq_false, decide_true, decide_false, decide_eq_true_eq, decide_eq_false_iff_not, isi_none_int, isi_none_bool, isi_none_str, isi_none_tuple, isi_none_list, isi_none_list_tuple, isi_none_tuple_list, isi_bl_int, isi_bl_bool, isi_bl_str, isi_bl_tuple, isi_bl_list, isi_bl_list_tuple, isi_bl_tuple_list, isi_int_int, isi_int_bool, isi_int_str, isi_int_tuple, isi_int_list, isi_int_list_tuple, isi_int_tuple_list, isi_str_int, isi_str_bool, isi_str_str, isi_str_tuple, isi_str_list, isi_str_list_tuple, isi_str_tuple_list, isi_tup_int, isi_tup_bool, isi_tup_str, isi_tup_tuple, isi_tup_list, isi_tup_list_tuple, isi_tup_tuple_list, isi_lst_int, isi_lst_bool, isi_lst_str, isi_lst_tuple, isi_lst_list, isi_lst_list_tuple, isi_lst_tuple_list, cmp_eq_ii, cmp_ne_ii, cmp_eq_bb, cmp_ne_bb, cmp_lt, cmp_le, cmp_gt, cmp_ge, cmp_ni_ii, ints_sum, binD, hs0, m4]
  refine ⟨fun e => h, fun e => ⟨fun e2 => h, fun e2 => ?_⟩⟩
  have e : c.sum % big = 0 := by simpa using e
  have e2 : ¬ 4 * big < c.sum := e2
  rcases hno with h1 | h1
  · exact absurd e h1
  · exact absurd h1 e2
end G

namespace G
open PySem PySem.Spec PyProof.Rows L2 Z SP
/-- what is due of counts -/
def dueOf (s : Nat) (c : List Int) : List P := if c.sum % s = 0 ∧ c.sum ≤ 4 * s then due (lch s (supp c)) 4 c else []
theorem fine_ps {ps : List P} {s : Nat} (hs : s ≤ 3) (hl : ps.length ≤ 16777216) (h : ∀ p ∈ ps, p.length ≤ 4 ∧ ∀ b ∈ p, b.length = s) : Fine 16777216 4 (.lst (ps.map encP)) := by
  refine Fine.lst (by rw [List.length_map]; exact hl) fun x hx => ?_
  obtain ⟨p, hp, rfl⟩ := List.mem_map.mp hx
  obtain ⟨h1, h2⟩ := h p hp
  refine Fine.tup (by rw [List.length_map]; omega) fun x hx => ?_
  obtain ⟨b, hb, rfl⟩ := List.mem_map.mp hx
  have := h2 b hb
  refine Fine.tup (by rw [List.length_map]; omega) fun x hx => ?_
  obtain ⟨k, hk, rfl⟩ := List.mem_map.mp hx
  exact Fine.int k
theorem sorted_ps (ps : List P) : ∃ qs : List P, qs.Perm ps ∧ (ps.map encP).mergeSort leD = qs.map encP :=
  ⟨ps.mergeSort (fun a b => leD (encP a) (encP b)), List.mergeSort_perm _ _, (List.map_mergeSort (f := encP) (r := fun a b => leD (encP a) (encP b)) (s := leD) (l := ps) (fun a _ b _ => rfl)).symm⟩
theorem dueOf_ok {s : Nat} (hs : s = 2 ∨ s = 3) {c : List Int} (C : Cn c) : (dueOf s c).length ≤ 9834496 ∧ ∀ p ∈ dueOf s c, p.length ≤ 4 ∧ ∀ b ∈ p, b.length = s := by
  have hbr : ∀ b ∈ lch s (supp c), Br s b := fun b hb => by
    rw [lch_supp hs] at hb
    exact lch_br s hs b (List.mem_filter.mp hb).1
  have hbl : (lch s (supp c)).length ≤ 56 := by
    rw [lch_supp hs]
    refine Nat.le_trans (List.length_filter_le _ _) ?_
    rcases hs with rfl | rfl <;> decide +kernel
  unfold dueOf
  split
  · refine ⟨due_len hbl 4 c, fun p hp => ?_⟩
    obtain ⟨h1, h2⟩ := due_mem_br hbr 4 c p hp
    exact ⟨h1, fun b hb => (h2 b hb).len⟩
  · exact ⟨by simp, fun p hp => by cases hp⟩
theorem dueOf_sort {s : Nat} (hs : s = 2 ∨ s = 3) {c : List Int} (C : Cn c) : sortOk ((dueOf s c).map encP) = true := by
  by_cases h1 : (dueOf s c).length ≤ 1
  · exact sortOk_1 (by rw [List.length_map]; exact h1)
  · refine sortOk_p fun p hp e => h1 ?_
    subst e
    unfold dueOf at hp ⊢
    split at hp
    · rename_i hc
      have h0 : c.sum = 0 := by
        have hbr : ∀ b ∈ lch s (supp c), Br s b := fun b hb => by
          rw [lch_supp hs] at hb
          exact lch_br s hs b (List.mem_filter.mp hb).1
        have := ((due_mem (by omega) hbr C.len C.nn).mp hp).2.2.2
        have e0 : pts.map (get c) = pts.map fun _ => (0 : Int) := List.map_congr_left fun k hk => (this k hk).symm
        rw [← pts_get C.len, e0]
        decide
      rw [if_pos hc]
      unfold due
      rw [if_pos h0]
      decide
    · cases hp
/-- the program's answer: what is due, sorted -/
theorem all_straight_all {n s : Nat} {big : Int} (hs : s = 2 ∨ s = 3) (hb : big = (s : Int)) {st : List SO} {c : List Int} (C : Cn c) {Q : Rs → List SO → Prop} (h : Q (.lst (((dueOf s c).map encP).mergeSort leD), true) st) : Rp (callF fns wf (n + 3) id_all_straight [.tup (c.map .int), .int big] st) Q := by
  unfold dueOf at h
  split at h
  · rename_i hc
    have h0 : 0 ≤ c.sum := by
      have := (sum_le_eq (f := fun _ => (0 : Int)) (g := get c) (l := pts) C.nn).1
      rw [pts_get C.len] at this
      have e : (pts.map fun _ => (0 : Int)).sum = 0 := by decide
      omega
    have hT : c.sum = (s : Int) * ((c.sum / s).toNat : Nat) := by
      have h1 := Int.emod_add_mul_ediv c.sum s
      have h2 : 0 ≤ c.sum / (s : Int) := Int.ediv_nonneg h0 (by omega)
      rw [Int.toNat_of_nonneg h2]
      omega
    have hT4 : (c.sum / s).toNat ≤ 4 := by
      rcases hs with rfl | rfl <;> omega
    refine all_straight_spec hs hb C.len C.nn hT hT4 fun bs hbs => ?_
    rw [sort_perm (same hs C.len C.nn hT hT4 (hbs.trans (brs_perm s hs)))]
    exact h
  · rename_i hc
    refine all_straight_no (by omega) ?_ ?_
    · rw [hb]
      by_cases e : c.sum % (s : Int) = 0
      · right
        have : ¬ c.sum ≤ 4 * (s : Int) := fun z => hc ⟨e, z⟩
        omega
      · exact .inl e
    · have e : (List.map encP []).mergeSort leD = [] := by simp
      rw [e] at h
      exact h
theorem cf8 (l : List Int) : Cn (cf l) := ⟨rfl, cf_nn l⟩
theorem end_part {cl : CallT} (hcl : cl = callF fns wf 119) {s : Nat} (hs : s = 2 ∨ s = 3) {st : List SO} (T : Tape st) {c : List Int} (C : Cn c) {x0 x1 x3 x5 x7 x8 : Slot} {due : List P} (hd : due = dueOf s c) :
    Wp (Z.execs cl wf (b_law.drop 7)) ⟨[x0, x1, .pu (.int (s : Int)), x3, .pu (.tup (c.map .int)), x5, .ow (.lst (due.map encP)), x7, x8], st⟩ (endQ fun r _ => r = (.bl true, false)) := by
  subst hd
  obtain ⟨h1, h2⟩ := dueOf_ok hs C
  have hok := dueOf_sort hs C
  obtain ⟨qs, hq, eq⟩ := sorted_ps (dueOf s c)
  have hfine : Fine 16777216 4 (.lst (qs.map encP)) := fine_ps (s := s) (by omega) (by rw [hq.length_eq]; omega) fun p hp => h2 p (hq.mem_iff.mp hp)
  have hlen : (qs.map encP).length < line := by rw [List.length_map, hq.length_eq, line_eq']; omega
  show Wp (Z.execs cl wf [.asg 8 (.call id_all_straight ([(.var 4)] ++ [(.var 2)])),
    .ife (.not1 (.call id__law_like [(.var 8), (.blt .sorted [(.var 6)])])) [.ret (.con (.bl false))] [],
    .app 8 (.con (.int 7)),
    .ret (.call id__law_like [(.call id_all_straight ([(.var 4)] ++ [(.var 2)])), (.blt .sorted [(.var 6)])])]) _ _
  try simp -implicitDefEqProofs only [wp_bind, wp_pure, wp_bad, wp_getS, wp_asB, wp_slotOpd, wp_rdSlot, wp_rdVar, wp_rdRet, wp_resV, wp_resS, wp_ress0, wp_ress, wp_setR, wp_setρ, wp_call, wp_setAt, wp_opd, wp_dat, wp_shr, wp_ownL, wp_popAt, wp_popLast, wp_app, wp_ins, wp_bindTup, wp_bindTs0, wp_bindTs, wp_bindNm, wp_blk, w_var, w_con, w_tup, w_lst, w_shr, w_bin, w_cmp, w_idx, w_cmp2, w_and2, w_or2, w_not1, w_ife, w_sli, w_call, w_blt, w_isi, w_lc, w_popk, w_popl, w_isN, w_neg, Z.w_rev, w_part0, w_part1, w_ds0, w_ds, w_os0, w_os, w_cs0, w_cs, line, w_asg, w_asgT, w_aug, w_setI, w_augI, w_lc2, w_app, w_ins, w_ext, w_expr, w_ret, w_retN, w_if, w_forE, w_whil, w_brk, w_cont, w_pass, w_ss0, w_ss, fw_nx, fw_brk, fw_cont, fw_ret, nn_none, nn_int, nn_bl, nn_str, nn_tup, nn_lst, ol_lst, op_some, op_none, op_ite, ob_bl, oi_int, sl_pu, sl_ow, al_ow, al_obj, so_lst, opdV, retV, endQ, letgo, ite_self, ixN_3_0, ixN_3_1, ixN_3_2, atI_0, atI_1, atI_2, atI_3, List.getElem?_cons_zero, List.getElem?_cons_succ, List.set_cons_zero, List.set_cons_succ, List.length_cons, List.length_nil, List.length_map, Option.bind_some, Option.map_some, List.nil_append, List.cons_append, List.length_singleton, Nat.zero_add, Nat.reduceAdd, Nat.reduceLT, Nat.reduceLeDiff, Nat.zero_le, if_false, if_true, Bool.false_eq_true, Bool.true_eq_false, Bool.not_true, Bool.not_false, reduceCtorEq, true_and, and_true, forall_const, false_and, and_false, false_implies, not_false_eq_true, not_true_eq_false, decide_true, decide_false, decide_eq_true_eq, decide_eq_false_iff_not, isi_none_int, isi_none_bool, isi_none_str, isi_none_tuple, isi_none_list, isi_none_list_tuple, isi_none_tuple_list, isi_bl_int, isi_bl_bool, isi_bl_str, isi_bl_tuple, isi_bl_list, isi_bl_list_tuple, isi_bl_tuple_list, isi_int_int, isi_int_bool, isi_int_str, isi_int_tuple, isi_int_list, isi_int_list_tuple, isi_int_tuple_list, isi_str_int, isi_str_bool, isi_str_str, isi_str_tuple, isi_str_list, isi_str_list_tuple, isi_str_tuple_list, isi_tup_int, isi_tup_bool, isi_tup_str, isi_tup_tuple, isi_tup_list, isi_tup_list_tuple, isi_tup_tuple_list, isi_lst_int, isi_lst_bool, isi_lst_str, isi_lst_tuple, isi_lst_list, isi_lst_list_tuple, isi_lst_tuple_list, cmp_eq_ii, cmp_ne_ii, cmp_eq_bb, cmp_ne_bb, cmp_lt, cmp_le, cmp_gt, cmp_ge, cmp_ni_ii]
  with_reducible refine rp_cl hcl (all_straight_all hs rfl C ?_)
  rw [eq]
  try simp -implicitDefEqProofs only [wp_bind, wp_pure, wp_bad, wp_getS, wp_asB, wp_slotOpd, wp_rdSlot, wp_rdVar, wp_rdRet, wp_resV, wp_resS, wp_ress0, wp_ress, wp_setR, wp_setρ, wp_call, wp_setAt, wp_opd, wp_dat, wp_shr, wp_ownL, wp_popAt, wp_popLast, wp_app, wp_ins, wp_bindTup, wp_bindTs0, wp_bindTs, wp_bindNm, wp_blk, w_var, w_con, w_tup, w_lst, w_shr, w_bin, w_cmp, w_idx, w_cmp2, w_and2, w_or2, w_not1, w_ife, w_sli, w_call, w_blt, w_isi, w_lc, w_popk, w_popl, w_isN, w_neg, Z.w_rev, w_part0, w_part1, w_ds0, w_ds, w_os0, w_os, w_cs0, w_cs, line, w_asg, w_asgT, w_aug, w_setI, w_augI, w_lc2, w_app, w_ins, w_ext, w_expr, w_ret, w_retN, w_if, w_forE, w_whil, w_brk, w_cont, w_pass, w_ss0, w_ss, fw_nx, fw_brk, fw_cont, fw_ret, nn_none, nn_int, nn_bl, nn_str, nn_tup, nn_lst, ol_lst, op_some, op_none, op_ite, ob_bl, oi_int, sl_pu, sl_ow, al_ow, al_obj, so_lst, opdV, retV, endQ, letgo, ite_self, ixN_3_0, ixN_3_1, ixN_3_2, atI_0, atI_1, atI_2, atI_3, List.getElem?_cons_zero, List.getElem?_cons_succ, List.set_cons_zero, List.set_cons_succ, List.length_cons, List.length_nil, List.length_map, Option.bind_some, Option.map_some, List.nil_append, List.cons_append, List.length_singleton, Nat.zero_add, Nat.reduceAdd, Nat.reduceLT, Nat.reduceLeDiff, Nat.zero_le, if_false, if_true, Bool.false_eq_true, Bool.true_eq_false, Bool.not_true, Bool.not_false, reduceCtorEq, true_and, and_true, forall_const, false_and, and_false, false_implies, not_false_eq_true, not_true_eq_false, decide_true, decide_false, decide_eq_true_eq, decide_eq_false_iff_not, isi_none_int, isi_none_bool, isi_none_str, isi_none_tuple, isi_none_list, isi_none_list_tuple, isi_none_tuple_list, isi_bl_int, isi_bl_bool, isi_bl_str, isi_bl_tuple, isi_bl_list, isi_bl_list_tuple, isi_bl_tuple_list, isi_int_int, isi_int_bool, isi_int_str, isi_int_tuple, isi_int_list, isi_int_list_tuple, isi_int_tuple_list, isi_str_int, isi_str_bool, isi_str_str, isi_str_tuple, isi_str_list, isi_str_list_tuple, isi_str_tuple_list, isi_tup_int, isi_tup_bool, isi_tup_str, isi_tup_tuple, isi_tup_list, isi_tup_list_tuple, isi_tup_tuple_list, isi_lst_int, isi_lst_bool, isi_lst_str, isi_lst_tuple, isi_lst_list, isi_lst_list_tuple, isi_lst_tuple_list, cmp_eq_ii, cmp_ne_ii, cmp_eq_bb, cmp_ne_bb, cmp_lt, cmp_le, cmp_gt, cmp_ge, cmp_ni_ii]
  try simp -implicitDefEqProofs only [wp_bind, wp_pure, wp_bad, wp_getS, wp_asB, wp_slotOpd, wp_rdSlot, wp_rdVar, wp_rdRet, wp_resV, wp_resS, wp_ress0, wp_ress, wp_setR, wp_setρ, wp_call, wp_setAt, wp_opd, wp_dat, wp_shr, wp_ownL, wp_popAt, wp_popLast, wp_app, wp_ins, wp_bindTup, wp_bindTs0, wp_bindTs, wp_bindNm, wp_blk, w_var, w_con, w_tup, w_lst, w_shr, w_bin, w_cmp, w_idx, w_cmp2, w_and2, w_or2, w_not1, w_ife, w_sli, w_call, w_blt, w_isi, w_lc, w_popk, w_popl, w_isN, w_neg, Z.w_rev, w_part0, w_part1, w_ds0, w_ds, w_os0, w_os, w_cs0, w_cs, line, w_asg, w_asgT, w_aug, w_setI, w_augI, w_lc2, w_app, w_ins, w_ext, w_expr, w_ret, w_retN, w_if, w_forE, w_whil, w_brk, w_cont, w_pass, w_ss0, w_ss, fw_nx, fw_brk, fw_cont, fw_ret, nn_none, nn_int, nn_bl, nn_str, nn_tup, nn_lst, ol_lst, op_some, op_none, op_ite, ob_bl, oi_int, sl_pu, sl_ow, al_ow, al_obj, so_lst, opdV, retV, endQ, letgo, ite_self, ixN_3_0, ixN_3_1, ixN_3_2, atI_0, atI_1, atI_2, atI_3, List.getElem?_cons_zero, List.getElem?_cons_succ, List.set_cons_zero, List.set_cons_succ, List.length_cons, List.length_nil, List.length_map, Option.bind_some, Option.map_some, List.nil_append, List.cons_append, List.length_singleton, Nat.zero_add, Nat.reduceAdd, Nat.reduceLT, Nat.reduceLeDiff, Nat.zero_le, if_false, if_true, Bool.false_eq_true, Bool.true_eq_false, Bool.not_true, Bool.not_false, reduceCtorEq, true_and, and_true, forall_const, false_and, and_false, false_implies, not_false_eq_true, not_true_eq_false, decide_true, decide_false, decide_eq_true_eq, decide_eq_false_iff_not, isi_none_int, isi_none_bool, isi_none_str, isi_none_tuple, isi_none_list, isi_none_list_tuple, isi_none_tuple_list, isi_bl_int, isi_bl_bool, isi_bl_str, isi_bl_tuple, isi_bl_list, isi_bl_list_tuple, isi_bl_tuple_list, isi_int_int, isi_int_bool, isi_int_str, isi_int_tuple, isi_int_list, isi_int_list_tuple, isi_int_tuple_list, isi_str_int, isi_str_bool, isi_str_str, isi_str_tuple, isi_str_list, isi_str_list_tuple, isi_str_tuple_list, isi_tup_int, isi_tup_bool, isi_tup_str, isi_tup_tuple, isi_tup_list, isi_tup_list_tuple, isi_tup_tuple_list, isi_lst_int, isi_lst_bool, isi_lst_str, isi_lst_tuple, isi_lst_list, isi_lst_list_tuple, isi_lst_tuple_list, cmp_eq_ii, cmp_ne_ii, cmp_eq_bb, cmp_ne_bb, cmp_lt, cmp_le, cmp_gt, cmp_ge, cmp_ni_ii, sorted_list hok, eq]
  with_reducible refine rp_cl hcl (like_refl (by decide) hfine ?_)
  try simp -implicitDefEqProofs only [wp_bind, wp_pure, wp_bad, wp_getS, wp_asB, wp_slotOpd, wp_rdSlot, wp_rdVar, wp_rdRet, wp_resV, wp_resS, wp_ress0, wp_ress, wp_setR, wp_setρ, wp_call, wp_setAt, wp_opd, wp_dat, wp_shr, wp_ownL, wp_popAt, wp_popLast, wp_app, wp_ins, wp_bindTup, wp_bindTs0, wp_bindTs, wp_bindNm, wp_blk, w_var, w_con, w_tup, w_lst, w_shr, w_bin, w_cmp, w_idx, w_cmp2, w_and2, w_or2, w_not1, w_ife, w_sli, w_call, w_blt, w_isi, w_lc, w_popk, w_popl, w_isN, w_neg, Z.w_rev, w_part0, w_part1, w_ds0, w_ds, w_os0, w_os, w_cs0, w_cs, line, w_asg, w_asgT, w_aug, w_setI, w_augI, w_lc2, w_app, w_ins, w_ext, w_expr, w_ret, w_retN, w_if, w_forE, w_whil, w_brk, w_cont, w_pass, w_ss0, w_ss, fw_nx, fw_brk, fw_cont, fw_ret, nn_none, nn_int, nn_bl, nn_str, nn_tup, nn_lst, ol_lst, op_some, op_none, op_ite, ob_bl, oi_int, sl_pu, sl_ow, al_ow, al_obj, so_lst, opdV, retV, endQ, letgo, ite_self, ixN_3_0, ixN_3_1, ixN_3_2, atI_0, atI_1, atI_2, atI_3, List.getElem?_cons_zero, List.getElem?_cons_succ, List.set_cons_zero, List.set_cons_succ, List.length_cons, List.length_nil, List.length_map, Option.bind_some, Option.map_some, List.nil_append, List.cons_append, List.length_singleton, Nat.zero_add, Nat.reduceAdd, Nat.reduceLT, Nat.reduceLeDiff, Nat.zero_le, if_false, if_true, Bool.false_eq_true, Bool.true_eq_false, Bool.not_true, Bool.not_false, reduceCtorEq, true_and, and_true, forall_const, false_and, and_false, false_implies, not_false_eq_true, not_true_eq_false, decide_true, decide_false, decide_eq_true_eq, decide_eq_false_iff_not, isi_none_int, isi_none_bool, isi_none_str, isi_none_tuple, isi_none_list, isi_none_list_tuple, isi_none_tuple_list, isi_bl_int, isi_bl_bool, isi_bl_str, isi_bl_tuple, isi_bl_list, isi_bl_list_tuple, isi_bl_tuple_list, isi_int_int, isi_int_bool, isi_int_str, isi_int_tuple, isi_int_list, isi_int_list_tuple, isi_int_tuple_list, isi_str_int, isi_str_bool, isi_str_str, isi_str_tuple, isi_str_list, isi_str_list_tuple, isi_str_tuple_list, isi_tup_int, isi_tup_bool, isi_tup_str, isi_tup_tuple, isi_tup_list, isi_tup_list_tuple, isi_tup_tuple_list, isi_lst_int, isi_lst_bool, isi_lst_str, isi_lst_tuple, isi_lst_list, isi_lst_list_tuple, isi_lst_tuple_list, cmp_eq_ii, cmp_ne_ii, cmp_eq_bb, cmp_ne_bb, cmp_lt, cmp_le, cmp_gt, cmp_ge, cmp_ni_ii, still_bl, T.still, Bool.and_self, hlen]
  refine ⟨by rw [List.length_map] at hlen; exact hlen, ?_⟩
  with_reducible refine rp_cl hcl (all_straight_all hs rfl C ?_)
  rw [eq]
  try simp -implicitDefEqProofs only [wp_bind, wp_pure, wp_bad, wp_getS, wp_asB, wp_slotOpd, wp_rdSlot, wp_rdVar, wp_rdRet, wp_resV, wp_resS, wp_ress0, wp_ress, wp_setR, wp_setρ, wp_call, wp_setAt, wp_opd, wp_dat, wp_shr, wp_ownL, wp_popAt, wp_popLast, wp_app, wp_ins, wp_bindTup, wp_bindTs0, wp_bindTs, wp_bindNm, wp_blk, w_var, w_con, w_tup, w_lst, w_shr, w_bin, w_cmp, w_idx, w_cmp2, w_and2, w_or2, w_not1, w_ife, w_sli, w_call, w_blt, w_isi, w_lc, w_popk, w_popl, w_isN, w_neg, Z.w_rev, w_part0, w_part1, w_ds0, w_ds, w_os0, w_os, w_cs0, w_cs, line, w_asg, w_asgT, w_aug, w_setI, w_augI, w_lc2, w_app, w_ins, w_ext, w_expr, w_ret, w_retN, w_if, w_forE, w_whil, w_brk, w_cont, w_pass, w_ss0, w_ss, fw_nx, fw_brk, fw_cont, fw_ret, nn_none, nn_int, nn_bl, nn_str, nn_tup, nn_lst, ol_lst, op_some, op_none, op_ite, ob_bl, oi_int, sl_pu, sl_ow, al_ow, al_obj, so_lst, opdV, retV, endQ, letgo, ite_self, ixN_3_0, ixN_3_1, ixN_3_2, atI_0, atI_1, atI_2, atI_3, List.getElem?_cons_zero, List.getElem?_cons_succ, List.set_cons_zero, List.set_cons_succ, List.length_cons, List.length_nil, List.length_map, Option.bind_some, Option.map_some, List.nil_append, List.cons_append, List.length_singleton, Nat.zero_add, Nat.reduceAdd, Nat.reduceLT, Nat.reduceLeDiff, Nat.zero_le, if_false, if_true, Bool.false_eq_true, Bool.true_eq_false, Bool.not_true, Bool.not_false, reduceCtorEq, true_and, and_true, forall_const, false_and, and_false, false_implies, not_false_eq_true, not_true_eq_false, decide_true, decide_false, decide_eq_true_eq, decide_eq_false_iff_not, isi_none_int, isi_none_bool, isi_none_str, isi_none_tuple, isi_none_list, isi_none_list_tuple, isi_none_tuple_list, isi_bl_int, isi_bl_bool, isi_bl_str, isi_bl_tuple, isi_bl_list, isi_bl_list_tuple, isi_bl_tuple_list, isi_int_int, isi_int_bool, isi_int_str, isi_int_tuple, isi_int_list, isi_int_list_tuple, isi_int_tuple_list, isi_str_int, isi_str_bool, isi_str_str, isi_str_tuple, isi_str_list, isi_str_list_tuple, isi_str_tuple_list, isi_tup_int, isi_tup_bool, isi_tup_str, isi_tup_tuple, isi_tup_list, isi_tup_list_tuple, isi_tup_tuple_list, isi_lst_int, isi_lst_bool, isi_lst_str, isi_lst_tuple, isi_lst_list, isi_lst_list_tuple, isi_lst_tuple_list, cmp_eq_ii, cmp_ne_ii, cmp_eq_bb, cmp_ne_bb, cmp_lt, cmp_le, cmp_gt, cmp_ge, cmp_ni_ii]
  try simp -implicitDefEqProofs only [wp_bind, wp_pure, wp_bad, wp_getS, wp_asB, wp_slotOpd, wp_rdSlot, wp_rdVar, wp_rdRet, wp_resV, wp_resS, wp_ress0, wp_ress, wp_setR, wp_setρ, wp_call, wp_setAt, wp_opd, wp_dat, wp_shr, wp_ownL, wp_popAt, wp_popLast, wp_app, wp_ins, wp_bindTup, wp_bindTs0, wp_bindTs, wp_bindNm, wp_blk, w_var, w_con, w_tup, w_lst, w_shr, w_bin, w_cmp, w_idx, w_cmp2, w_and2, w_or2, w_not1, w_ife, w_sli, w_call, w_blt, w_isi, w_lc, w_popk, w_popl, w_isN, w_neg, Z.w_rev, w_part0, w_part1, w_ds0, w_ds, w_os0, w_os, w_cs0, w_cs, line, w_asg, w_asgT, w_aug, w_setI, w_augI, w_lc2, w_app, w_ins, w_ext, w_expr, w_ret, w_retN, w_if, w_forE, w_whil, w_brk, w_cont, w_pass, w_ss0, w_ss, fw_nx, fw_brk, fw_cont, fw_ret, nn_none, nn_int, nn_bl, nn_str, nn_tup, nn_lst, ol_lst, op_some, op_none, op_ite, ob_bl, oi_int, sl_pu, sl_ow, al_ow, al_obj, so_lst, opdV, retV, endQ, letgo, ite_self, ixN_3_0, ixN_3_1, ixN_3_2, atI_0, atI_1, atI_2, atI_3, List.getElem?_cons_zero, List.getElem?_cons_succ, List.set_cons_zero, List.set_cons_succ, List.length_cons, List.length_nil, List.length_map, Option.bind_some, Option.map_some, List.nil_append, List.cons_append, List.length_singleton, Nat.zero_add, Nat.reduceAdd, Nat.reduceLT, Nat.reduceLeDiff, Nat.zero_le, if_false, if_true, Bool.false_eq_true, Bool.true_eq_false, Bool.not_true, Bool.not_false, reduceCtorEq, true_and, and_true, forall_const, false_and, and_false, false_implies, not_false_eq_true, not_true_eq_false, decide_true, decide_false, decide_eq_true_eq, decide_eq_false_iff_not, isi_none_int, isi_none_bool, isi_none_str, isi_none_tuple, isi_none_list, isi_none_list_tuple, isi_none_tuple_list, isi_bl_int, isi_bl_bool, isi_bl_str, isi_bl_tuple, isi_bl_list, isi_bl_list_tuple, isi_bl_tuple_list, isi_int_int, isi_int_bool, isi_int_str, isi_int_tuple, isi_int_list, isi_int_list_tuple, isi_int_tuple_list, isi_str_int, isi_str_bool, isi_str_str, isi_str_tuple, isi_str_list, isi_str_list_tuple, isi_str_tuple_list, isi_tup_int, isi_tup_bool, isi_tup_str, isi_tup_tuple, isi_tup_list, isi_tup_list_tuple, isi_tup_tuple_list, isi_lst_int, isi_lst_bool, isi_lst_str, isi_lst_tuple, isi_lst_list, isi_lst_list_tuple, isi_lst_tuple_list, cmp_eq_ii, cmp_ne_ii, cmp_eq_bb, cmp_ne_bb, cmp_lt, cmp_le, cmp_gt, cmp_ge, cmp_ni_ii, sorted_list hok, eq]
  with_reducible refine rp_cl hcl (like_refl (by decide) hfine ?_)
  try simp -implicitDefEqProofs only [wp_bind, wp_pure, wp_bad, wp_getS, wp_asB, wp_slotOpd, wp_rdSlot, wp_rdVar, wp_rdRet, wp_resV, wp_resS, wp_ress0, wp_ress, wp_setR, wp_setρ, wp_call, wp_setAt, wp_opd, wp_dat, wp_shr, wp_ownL, wp_popAt, wp_popLast, wp_app, wp_ins, wp_bindTup, wp_bindTs0, wp_bindTs, wp_bindNm, wp_blk, w_var, w_con, w_tup, w_lst, w_shr, w_bin, w_cmp, w_idx, w_cmp2, w_and2, w_or2, w_not1, w_ife, w_sli, w_call, w_blt, w_isi, w_lc, w_popk, w_popl, w_isN, w_neg, Z.w_rev, w_part0, w_part1, w_ds0, w_ds, w_os0, w_os, w_cs0, w_cs, line, w_asg, w_asgT, w_aug, w_setI, w_augI, w_lc2, w_app, w_ins, w_ext, w_expr, w_ret, w_retN, w_if, w_forE, w_whil, w_brk, w_cont, w_pass, w_ss0, w_ss, fw_nx, fw_brk, fw_cont, fw_ret, nn_none, nn_int, nn_bl, nn_str, nn_tup, nn_lst, ol_lst, op_some, op_none, op_ite, ob_bl, oi_int, sl_pu, sl_ow, al_ow, al_obj, so_lst, opdV, retV, endQ, letgo, ite_self, ixN_3_0, ixN_3_1, ixN_3_2, atI_0, atI_1, atI_2, atI_3, List.getElem?_cons_zero, List.getElem?_cons_succ, List.set_cons_zero, List.set_cons_succ, List.length_cons, List.length_nil, List.length_map, Option.bind_some, Option.map_some, List.nil_append, List.cons_append, List.length_singleton, Nat.zero_add, Nat.reduceAdd, Nat.reduceLT, Nat.reduceLeDiff, Nat.zero_le, if_false, if_true, Bool.false_eq_true, Bool.true_eq_false, Bool.not_true, Bool.not_false, reduceCtorEq, true_and, and_true, forall_const, false_and, and_false, false_implies, not_false_eq_true, not_true_eq_false, decide_true, decide_false, decide_eq_true_eq, decide_eq_false_iff_not, isi_none_int, isi_none_bool, isi_none_str, isi_none_tuple, isi_none_list, isi_none_list_tuple, isi_none_tuple_list, isi_bl_int, isi_bl_bool, isi_bl_str, isi_bl_tuple, isi_bl_list, isi_bl_list_tuple, isi_bl_tuple_list, isi_int_int, isi_int_bool, isi_int_str, isi_int_tuple, isi_int_list, isi_int_list_tuple, isi_int_tuple_list, isi_str_int, isi_str_bool, isi_str_str, isi_str_tuple, isi_str_list, isi_str_list_tuple, isi_str_tuple_list, isi_tup_int, isi_tup_bool, isi_tup_str, isi_tup_tuple, isi_tup_list, isi_tup_list_tuple, isi_tup_tuple_list, isi_lst_int, isi_lst_bool, isi_lst_str, isi_lst_tuple, isi_lst_list, isi_lst_list_tuple, isi_lst_tuple_list, cmp_eq_ii, cmp_ne_ii, cmp_eq_bb, cmp_ne_bb, cmp_lt, cmp_le, cmp_gt, cmp_ge, cmp_ni_ii]
theorem law_tail {cl : CallT} (hcl : cl = callF fns wf 119) {s : Nat} (hs : s = 2 ∨ s = 3) {st : List SO} (T : Tape st) {c : List Int} (C : Cn c) {x0 x1 x3 x5 x6 x7 x8 : Slot} :
    Wp (Z.execs cl wf (b_law.drop 5)) ⟨[x0, x1, .pu (.int (s : Int)), x3, .pu (.tup (c.map .int)), x5, x6, x7, x8], st⟩ (endQ fun r _ => r = (.bl true, false)) := by
  have e : b_law.drop 5 = .asg 6 (.lst []) :: .ife (.and2 (.cmp .eq (.bin .mod (.blt .sum [(.var 4)]) (.var 2)) (.con (.int 0))) (.cmp .le (.blt .sum [(.var 4)]) (.bin .mul (.con (.int 4)) (.var 2)))) [.asg 7 (.blt .tuple [(.lc (.var 5) (.nm 5) .rng1 [(.con (.int 8))] [(.cmp .gt (.idx (.var 4) (.var 5)) (.con (.int 0)))] [5])]),
    .asg 6 (.call id__law_due [(.var 4), (.var 2), (.call id__law_choices [(.var 7), (.var 2)]), (.con (.int 4))])] [] :: b_law.drop 7 := rfl
  rw [e]
  have fin := fun (x5 x7 : Slot) (due : List P) (hd : due = dueOf s c) => end_part hcl hs T C (x0 := x0) (x1 := x1) (x3 := x3) (x5 := x5) (x7 := x7) (x8 := x8) hd
  generalize b_law.drop 7 = tl at fin ⊢
  have hs0 : (0 : Int) < (s : Int) := by omega
  have m4 : mulOk 4 (s : Int) = true := mulOk_l (by decide)
  try simp -implicitDefEqProofs only [wp_bind, wp_pure, wp_bad, wp_getS, wp_asB, wp_slotOpd, wp_rdSlot, wp_rdVar, wp_rdRet, wp_resV, wp_resS, wp_ress0, wp_ress, wp_setR, wp_setρ, wp_call, wp_setAt, wp_opd, wp_dat, wp_shr, wp_ownL, wp_popAt, wp_popLast, wp_app, wp_ins, wp_bindTup, wp_bindTs0, wp_bindTs, wp_bindNm, wp_blk, w_var, w_con, w_tup, w_lst, w_shr, w_bin, w_cmp, w_idx, w_cmp2, w_and2, w_or2, w_not1, w_ife, w_sli, w_call, w_blt, w_isi, w_lc, w_popk, w_popl, w_isN, w_neg, Z.w_rev, w_part0, w_part1, w_ds0, w_ds, w_os0, w_os, w_cs0, w_cs, line, w_asg, w_asgT, w_aug, w_setI, w_augI, w_lc2, w_app, w_ins, w_ext, w_expr, w_ret, w_retN, w_if, w_forE, w_whil, w_brk, w_cont, w_pass, w_ss0, w_ss, fw_nx, fw_brk, fw_cont, fw_ret, nn_none, nn_int, nn_bl, nn_str, nn_tup, nn_lst, ol_lst, op_some, op_none, op_ite, ob_bl, oi_int, sl_pu, sl_ow, al_ow, al_obj, so_lst, opdV, retV, endQ, letgo, ite_self, ixN_3_0, ixN_3_1, ixN_3_2, atI_0, atI_1, atI_2, atI_3, List.getElem?_cons_zero, List.getElem?_cons_succ, List.set_cons_zero, List.set_cons_succ, List.length_cons, List.length_nil, List.length_map, Option.bind_some, Option.map_some, List.nil_append, List.cons_append, List.length_singleton, Nat.zero_add, Nat.reduceAdd, Nat.reduceLT, Nat.reduceLeDiff, Nat.zero_le, if_false, if_true, Bool.false_eq_true, Bool.true_eq_false, Bool.not_true, Bool.not_false, reduceCtorEq, true_and, and_true, forall_const, false_and, and_false, false_implies, not_false_eq_true, not_true_eq_false, decide_true, decide_false, decide_eq_true_eq, decide_eq_false_iff_not, isi_none_int, isi_none_bool, isi_none_str, isi_none_tuple, isi_none_list, isi_none_list_tuple, isi_none_tuple_list, isi_bl_int, isi_bl_bool, isi_bl_str, isi_bl_tuple, isi_bl_list, isi_bl_list_tuple, isi_bl_tuple_list, isi_int_int, isi_int_bool, isi_int_str, isi_int_tuple, isi_int_list, isi_int_list_tuple, isi_int_tuple_list, isi_str_int, isi_str_bool, isi_str_str, isi_str_tuple, isi_str_list, isi_str_list_tuple, isi_str_tuple_list, isi_tup_int, isi_tup_bool, isi_tup_str, isi_tup_tuple, isi_tup_list, isi_tup_list_tuple, isi_tup_tuple_list, isi_lst_int, isi_lst_bool, isi_lst_str, isi_lst_tuple, isi_lst_list, isi_lst_list_tuple, isi_lst_tuple_list, cmp_eq_ii, cmp_ne_ii, cmp_eq_bb, cmp_ne_bb, cmp_lt, cmp_le, cmp_gt, cmp_ge, cmp_ni_ii, ints_sum, binD, hs0, m4]
  refine ⟨fun e1 => ⟨fun e2 => ?_, fun e2 => ?_⟩, fun e1 => ?_⟩
  · try simp -implicitDefEqProofs only [wp_bind, wp_pure, wp_bad, wp_getS, wp_asB, wp_slotOpd, wp_rdSlot, wp_rdVar, wp_rdRet, wp_resV, wp_resS, wp_ress0, wp_ress, wp_setR, wp_setρ, wp_call, wp_setAt, wp_opd, wp_dat, wp_shr, wp_ownL, wp_popAt, wp_popLast, wp_app, wp_ins, wp_bindTup, wp_bindTs0, wp_bindTs, wp_bindNm, wp_blk, w_var, w_con, w_tup, w_lst, w_shr, w_bin, w_cmp, w_idx, w_cmp2, w_and2, w_or2, w_not1, w_ife, w_sli, w_call, w_blt, w_isi, w_lc, w_popk, w_popl, w_isN, w_neg, Z.w_rev, w_part0, w_part1, w_ds0, w_ds, w_os0, w_os, w_cs0, w_cs, line, w_asg, w_asgT, w_aug, w_setI, w_augI, w_lc2, w_app, w_ins, w_ext, w_expr, w_ret, w_retN, w_if, w_forE, w_whil, w_brk, w_cont, w_pass, w_ss0, w_ss, fw_nx, fw_brk, fw_cont, fw_ret, nn_none, nn_int, nn_bl, nn_str, nn_tup, nn_lst, ol_lst, op_some, op_none, op_ite, ob_bl, oi_int, sl_pu, sl_ow, al_ow, al_obj, so_lst, opdV, retV, endQ, letgo, ite_self, ixN_3_0, ixN_3_1, ixN_3_2, atI_0, atI_1, atI_2, atI_3, List.getElem?_cons_zero, List.getElem?_cons_succ, List.set_cons_zero, List.set_cons_succ, List.length_cons, List.length_nil, List.length_map, Option.bind_some, Option.map_some, List.nil_append, List.cons_append, List.length_singleton, Nat.zero_add, Nat.reduceAdd, Nat.reduceLT, Nat.reduceLeDiff, Nat.zero_le, if_false, if_true, Bool.false_eq_true, Bool.true_eq_false, Bool.not_true, Bool.not_false, reduceCtorEq, true_and, and_true, forall_const, false_and, and_false, false_implies, not_false_eq_true, not_true_eq_false, decide_true, decide_false, decide_eq_true_eq, decide_eq_false_iff_not, isi_none_int, isi_none_bool, isi_none_str, isi_none_tuple, isi_none_list, isi_none_list_tuple, isi_none_tuple_list, isi_bl_int, isi_bl_bool, isi_bl_str, isi_bl_tuple, isi_bl_list, isi_bl_list_tuple, isi_bl_tuple_list, isi_int_int, isi_int_bool, isi_int_str, isi_int_tuple, isi_int_list, isi_int_list_tuple, isi_int_tuple_list, isi_str_int, isi_str_bool, isi_str_str, isi_str_tuple, isi_str_list, isi_str_list_tuple, isi_str_tuple_list, isi_tup_int, isi_tup_bool, isi_tup_str, isi_tup_tuple, isi_tup_list, isi_tup_list_tuple, isi_tup_tuple_list, isi_lst_int, isi_lst_bool, isi_lst_str, isi_lst_tuple, isi_lst_list, isi_lst_list_tuple, isi_lst_tuple_list, cmp_eq_ii, cmp_ne_ii, cmp_eq_bb, cmp_ne_bb, cmp_lt, cmp_le, cmp_gt, cmp_ge, cmp_ni_ii, pts_items]
    refine wp_lc_map D.int (fun k => decide (0 < get c k)) D.int (fun s' => ∃ y, s' = ⟨[x0, x1, .pu (.int (s : Int)), x3, .pu (.tup (c.map .int)), y, .ow (.lst []), x7, x8], st⟩) ⟨_, rfl⟩ (by decide) ?_ ?_
    · rintro k hk s' ⟨y, rfl⟩
      try simp -implicitDefEqProofs only [wp_bind, wp_pure, wp_bad, wp_getS, wp_asB, wp_slotOpd, wp_rdSlot, wp_rdVar, wp_rdRet, wp_resV, wp_resS, wp_ress0, wp_ress, wp_setR, wp_setρ, wp_call, wp_setAt, wp_opd, wp_dat, wp_shr, wp_ownL, wp_popAt, wp_popLast, wp_app, wp_ins, wp_bindTup, wp_bindTs0, wp_bindTs, wp_bindNm, wp_blk, w_var, w_con, w_tup, w_lst, w_shr, w_bin, w_cmp, w_idx, w_cmp2, w_and2, w_or2, w_not1, w_ife, w_sli, w_call, w_blt, w_isi, w_lc, w_popk, w_popl, w_isN, w_neg, Z.w_rev, w_part0, w_part1, w_ds0, w_ds, w_os0, w_os, w_cs0, w_cs, line, w_asg, w_asgT, w_aug, w_setI, w_augI, w_lc2, w_app, w_ins, w_ext, w_expr, w_ret, w_retN, w_if, w_forE, w_whil, w_brk, w_cont, w_pass, w_ss0, w_ss, fw_nx, fw_brk, fw_cont, fw_ret, nn_none, nn_int, nn_bl, nn_str, nn_tup, nn_lst, ol_lst, op_some, op_none, op_ite, ob_bl, oi_int, sl_pu, sl_ow, al_ow, al_obj, so_lst, opdV, retV, endQ, letgo, ite_self, ixN_3_0, ixN_3_1, ixN_3_2, atI_0, atI_1, atI_2, atI_3, List.getElem?_cons_zero, List.getElem?_cons_succ, List.set_cons_zero, List.set_cons_succ, List.length_cons, List.length_nil, List.length_map, Option.bind_some, Option.map_some, List.nil_append, List.cons_append, List.length_singleton, Nat.zero_add, Nat.reduceAdd, Nat.reduceLT, Nat.reduceLeDiff, Nat.zero_le, if_false, if_true, Bool.false_eq_true, Bool.true_eq_false, Bool.not_true, Bool.not_false, reduceCtorEq, true_and, and_true, forall_const, false_and, and_false, false_implies, not_false_eq_true, not_true_eq_false, decide_true, decide_false, decide_eq_true_eq, decide_eq_false_iff_not, isi_none_int, isi_none_bool, isi_none_str, isi_none_tuple, isi_none_list, isi_none_list_tuple, isi_none_tuple_list, isi_bl_int, isi_bl_bool, isi_bl_str, isi_bl_tuple, isi_bl_list, isi_bl_list_tuple, isi_bl_tuple_list, isi_int_int, isi_int_bool, isi_int_str, isi_int_tuple, isi_int_list, isi_int_list_tuple, isi_int_tuple_list, isi_str_int, isi_str_bool, isi_str_str, isi_str_tuple, isi_str_list, isi_str_list_tuple, isi_str_tuple_list, isi_tup_int, isi_tup_bool, isi_tup_str, isi_tup_tuple, isi_tup_list, isi_tup_list_tuple, isi_tup_tuple_list, isi_lst_int, isi_lst_bool, isi_lst_str, isi_lst_tuple, isi_lst_list, isi_lst_list_tuple, isi_lst_tuple_list, cmp_eq_ii, cmp_ne_ii, cmp_eq_bb, cmp_ne_bb, cmp_lt, cmp_le, cmp_gt, cmp_ge, cmp_ni_ii, wp_wipe, List.foldr_cons, List.foldr_nil, idxD, seqD, get_at C.len hk]
      exact ⟨fun e => ⟨(decide_eq_true e).symm, _, rfl⟩, fun e => ⟨(decide_eq_false e).symm, _, rfl⟩⟩
    · rintro s' ⟨y, rfl⟩
      have esup : (pts.filter fun k => decide (0 < get c k)) = supp c := rfl
      rw [esup, List.nil_append]
      try simp -implicitDefEqProofs only [wp_bind, wp_pure, wp_bad, wp_getS, wp_asB, wp_slotOpd, wp_rdSlot, wp_rdVar, wp_rdRet, wp_resV, wp_resS, wp_ress0, wp_ress, wp_setR, wp_setρ, wp_call, wp_setAt, wp_opd, wp_dat, wp_shr, wp_ownL, wp_popAt, wp_popLast, wp_app, wp_ins, wp_bindTup, wp_bindTs0, wp_bindTs, wp_bindNm, wp_blk, w_var, w_con, w_tup, w_lst, w_shr, w_bin, w_cmp, w_idx, w_cmp2, w_and2, w_or2, w_not1, w_ife, w_sli, w_call, w_blt, w_isi, w_lc, w_popk, w_popl, w_isN, w_neg, Z.w_rev, w_part0, w_part1, w_ds0, w_ds, w_os0, w_os, w_cs0, w_cs, line, w_asg, w_asgT, w_aug, w_setI, w_augI, w_lc2, w_app, w_ins, w_ext, w_expr, w_ret, w_retN, w_if, w_forE, w_whil, w_brk, w_cont, w_pass, w_ss0, w_ss, fw_nx, fw_brk, fw_cont, fw_ret, nn_none, nn_int, nn_bl, nn_str, nn_tup, nn_lst, ol_lst, op_some, op_none, op_ite, ob_bl, oi_int, sl_pu, sl_ow, al_ow, al_obj, so_lst, opdV, retV, endQ, letgo, ite_self, ixN_3_0, ixN_3_1, ixN_3_2, atI_0, atI_1, atI_2, atI_3, List.getElem?_cons_zero, List.getElem?_cons_succ, List.set_cons_zero, List.set_cons_succ, List.length_cons, List.length_nil, List.length_map, Option.bind_some, Option.map_some, List.nil_append, List.cons_append, List.length_singleton, Nat.zero_add, Nat.reduceAdd, Nat.reduceLT, Nat.reduceLeDiff, Nat.zero_le, if_false, if_true, Bool.false_eq_true, Bool.true_eq_false, Bool.not_true, Bool.not_false, reduceCtorEq, true_and, and_true, forall_const, false_and, and_false, false_implies, not_false_eq_true, not_true_eq_false, decide_true, decide_false, decide_eq_true_eq, decide_eq_false_iff_not, isi_none_int, isi_none_bool, isi_none_str, isi_none_tuple, isi_none_list, isi_none_list_tuple, isi_none_tuple_list, isi_bl_int, isi_bl_bool, isi_bl_str, isi_bl_tuple, isi_bl_list, isi_bl_list_tuple, isi_bl_tuple_list, isi_int_int, isi_int_bool, isi_int_str, isi_int_tuple, isi_int_list, isi_int_list_tuple, isi_int_tuple_list, isi_str_int, isi_str_bool, isi_str_str, isi_str_tuple, isi_str_list, isi_str_list_tuple, isi_str_tuple_list, isi_tup_int, isi_tup_bool, isi_tup_str, isi_tup_tuple, isi_tup_list, isi_tup_list_tuple, isi_tup_tuple_list, isi_lst_int, isi_lst_bool, isi_lst_str, isi_lst_tuple, isi_lst_list, isi_lst_list_tuple, isi_lst_tuple_list, cmp_eq_ii, cmp_ne_ii, cmp_eq_bb, cmp_ne_bb, cmp_lt, cmp_le, cmp_gt, cmp_ge, cmp_ni_ii, unwipe, List.foldr_cons, List.foldr_nil, bltD, on1, tupleD]
      have hsl : (supp c).length ≤ 8 := List.length_filter_le _ _
      have hcl2 : cl = callF fns wf ((118 - s) + s + 1) := hcl.trans (congrArg (callF fns wf) (by omega))
      with_reducible refine rp_cl hcl2 (lchoices_spec (m := s) rfl hsl (by omega) ?_)
      try simp -implicitDefEqProofs only [wp_bind, wp_pure, wp_bad, wp_getS, wp_asB, wp_slotOpd, wp_rdSlot, wp_rdVar, wp_rdRet, wp_resV, wp_resS, wp_ress0, wp_ress, wp_setR, wp_setρ, wp_call, wp_setAt, wp_opd, wp_dat, wp_shr, wp_ownL, wp_popAt, wp_popLast, wp_app, wp_ins, wp_bindTup, wp_bindTs0, wp_bindTs, wp_bindNm, wp_blk, w_var, w_con, w_tup, w_lst, w_shr, w_bin, w_cmp, w_idx, w_cmp2, w_and2, w_or2, w_not1, w_ife, w_sli, w_call, w_blt, w_isi, w_lc, w_popk, w_popl, w_isN, w_neg, Z.w_rev, w_part0, w_part1, w_ds0, w_ds, w_os0, w_os, w_cs0, w_cs, line, w_asg, w_asgT, w_aug, w_setI, w_augI, w_lc2, w_app, w_ins, w_ext, w_expr, w_ret, w_retN, w_if, w_forE, w_whil, w_brk, w_cont, w_pass, w_ss0, w_ss, fw_nx, fw_brk, fw_cont, fw_ret, nn_none, nn_int, nn_bl, nn_str, nn_tup, nn_lst, ol_lst, op_some, op_none, op_ite, ob_bl, oi_int, sl_pu, sl_ow, al_ow, al_obj, so_lst, opdV, retV, endQ, letgo, ite_self, ixN_3_0, ixN_3_1, ixN_3_2, atI_0, atI_1, atI_2, atI_3, List.getElem?_cons_zero, List.getElem?_cons_succ, List.set_cons_zero, List.set_cons_succ, List.length_cons, List.length_nil, List.length_map, Option.bind_some, Option.map_some, List.nil_append, List.cons_append, List.length_singleton, Nat.zero_add, Nat.reduceAdd, Nat.reduceLT, Nat.reduceLeDiff, Nat.zero_le, if_false, if_true, Bool.false_eq_true, Bool.true_eq_false, Bool.not_true, Bool.not_false, reduceCtorEq, true_and, and_true, forall_const, false_and, and_false, false_implies, not_false_eq_true, not_true_eq_false, decide_true, decide_false, decide_eq_true_eq, decide_eq_false_iff_not, isi_none_int, isi_none_bool, isi_none_str, isi_none_tuple, isi_none_list, isi_none_list_tuple, isi_none_tuple_list, isi_bl_int, isi_bl_bool, isi_bl_str, isi_bl_tuple, isi_bl_list, isi_bl_list_tuple, isi_bl_tuple_list, isi_int_int, isi_int_bool, isi_int_str, isi_int_tuple, isi_int_list, isi_int_list_tuple, isi_int_tuple_list, isi_str_int, isi_str_bool, isi_str_str, isi_str_tuple, isi_str_list, isi_str_list_tuple, isi_str_tuple_list, isi_tup_int, isi_tup_bool, isi_tup_str, isi_tup_tuple, isi_tup_list, isi_tup_list_tuple, isi_tup_tuple_list, isi_lst_int, isi_lst_bool, isi_lst_str, isi_lst_tuple, isi_lst_list, isi_lst_list_tuple, isi_lst_tuple_list, cmp_eq_ii, cmp_ne_ii, cmp_eq_bb, cmp_ne_bb, cmp_lt, cmp_le, cmp_gt, cmp_ge, cmp_ni_ii]
      have hbr : ∀ b ∈ lch s (supp c), Br s b := fun b hb => by
        rw [lch_supp hs] at hb
        exact lch_br s hs b (List.mem_filter.mp hb).1
      have hbl : (lch s (supp c)).length ≤ 56 := by
        rw [lch_supp hs]
        refine Nat.le_trans (List.length_filter_le _ _) ?_
        rcases hs with rfl | rfl <;> decide +kernel
      with_reducible refine rp_cl hcl (ldue_spec (m := 4) (n := 113) hs hbr hbl rfl (by decide) C.len ?_)
      try simp -implicitDefEqProofs only [wp_bind, wp_pure, wp_bad, wp_getS, wp_asB, wp_slotOpd, wp_rdSlot, wp_rdVar, wp_rdRet, wp_resV, wp_resS, wp_ress0, wp_ress, wp_setR, wp_setρ, wp_call, wp_setAt, wp_opd, wp_dat, wp_shr, wp_ownL, wp_popAt, wp_popLast, wp_app, wp_ins, wp_bindTup, wp_bindTs0, wp_bindTs, wp_bindNm, wp_blk, w_var, w_con, w_tup, w_lst, w_shr, w_bin, w_cmp, w_idx, w_cmp2, w_and2, w_or2, w_not1, w_ife, w_sli, w_call, w_blt, w_isi, w_lc, w_popk, w_popl, w_isN, w_neg, Z.w_rev, w_part0, w_part1, w_ds0, w_ds, w_os0, w_os, w_cs0, w_cs, line, w_asg, w_asgT, w_aug, w_setI, w_augI, w_lc2, w_app, w_ins, w_ext, w_expr, w_ret, w_retN, w_if, w_forE, w_whil, w_brk, w_cont, w_pass, w_ss0, w_ss, fw_nx, fw_brk, fw_cont, fw_ret, nn_none, nn_int, nn_bl, nn_str, nn_tup, nn_lst, ol_lst, op_some, op_none, op_ite, ob_bl, oi_int, sl_pu, sl_ow, al_ow, al_obj, so_lst, opdV, retV, endQ, letgo, ite_self, ixN_3_0, ixN_3_1, ixN_3_2, atI_0, atI_1, atI_2, atI_3, List.getElem?_cons_zero, List.getElem?_cons_succ, List.set_cons_zero, List.set_cons_succ, List.length_cons, List.length_nil, List.length_map, Option.bind_some, Option.map_some, List.nil_append, List.cons_append, List.length_singleton, Nat.zero_add, Nat.reduceAdd, Nat.reduceLT, Nat.reduceLeDiff, Nat.zero_le, if_false, if_true, Bool.false_eq_true, Bool.true_eq_false, Bool.not_true, Bool.not_false, reduceCtorEq, true_and, and_true, forall_const, false_and, and_false, false_implies, not_false_eq_true, not_true_eq_false, decide_true, decide_false, decide_eq_true_eq, decide_eq_false_iff_not, isi_none_int, isi_none_bool, isi_none_str, isi_none_tuple, isi_none_list, isi_none_list_tuple, isi_none_tuple_list, isi_bl_int, isi_bl_bool, isi_bl_str, isi_bl_tuple, isi_bl_list, isi_bl_list_tuple, isi_bl_tuple_list, isi_int_int, isi_int_bool, isi_int_str, isi_int_tuple, isi_int_list, isi_int_list_tuple, isi_int_tuple_list, isi_str_int, isi_str_bool, isi_str_str, isi_str_tuple, isi_str_list, isi_str_list_tuple, isi_str_tuple_list, isi_tup_int, isi_tup_bool, isi_tup_str, isi_tup_tuple, isi_tup_list, isi_tup_list_tuple, isi_tup_tuple_list, isi_lst_int, isi_lst_bool, isi_lst_str, isi_lst_tuple, isi_lst_list, isi_lst_list_tuple, isi_lst_tuple_list, cmp_eq_ii, cmp_ne_ii, cmp_eq_bb, cmp_ne_bb, cmp_lt, cmp_le, cmp_gt, cmp_ge, cmp_ni_ii]
      refine fin _ _ _ ?_
      unfold dueOf
      rw [if_pos ⟨e1, e2⟩]
  · refine fin _ _ [] ?_
    unfold dueOf
    rw [if_neg (fun z => e2 z.2)]
  · refine fin _ _ [] ?_
    unfold dueOf
    rw [if_neg (fun z => e1 z.1)]
theorem law_holds (ns : List Int) : Rp (callF fns wf 120 id_law [.scr ns] []) fun r _ => r = (.bl true, false) := by
  with_reducible refine c_law fun cl hcl => ?_
  have e : b_law = b_law.take 4 ++ b_law.drop 4 := rfl
  have e4 : b_law.drop 4 = b_law.getD 4 .pass :: b_law.drop 5 := rfl
  rw [e, e4]
  have fin := fun {s : Nat} (hs : s = 2 ∨ s = 3) {st : List SO} (T : Tape st) {c : List Int} (C : Cn c) {x0 x1 x3 x5 x6 x7 x8 : Slot} => law_tail hcl hs T C (x0 := x0) (x1 := x1) (x3 := x3) (x5 := x5) (x6 := x6) (x7 := x7) (x8 := x8)
  generalize b_law.drop 5 = tl at fin ⊢
  unfold b_law
  simp only [List.take_succ_cons, List.take_zero, List.cons_append, List.nil_append, List.getD_cons_succ, List.getD_cons_zero]
  try simp -implicitDefEqProofs only [wp_bind, wp_pure, wp_bad, wp_getS, wp_asB, wp_slotOpd, wp_rdSlot, wp_rdVar, wp_rdRet, wp_resV, wp_resS, wp_ress0, wp_ress, wp_setR, wp_setρ, wp_call, wp_setAt, wp_opd, wp_dat, wp_shr, wp_ownL, wp_popAt, wp_popLast, wp_app, wp_ins, wp_bindTup, wp_bindTs0, wp_bindTs, wp_bindNm, wp_blk, w_var, w_con, w_tup, w_lst, w_shr, w_bin, w_cmp, w_idx, w_cmp2, w_and2, w_or2, w_not1, w_ife, w_sli, w_call, w_blt, w_isi, w_lc, w_popk, w_popl, w_isN, w_neg, Z.w_rev, w_part0, w_part1, w_ds0, w_ds, w_os0, w_os, w_cs0, w_cs, line, w_asg, w_asgT, w_aug, w_setI, w_augI, w_lc2, w_app, w_ins, w_ext, w_expr, w_ret, w_retN, w_if, w_forE, w_whil, w_brk, w_cont, w_pass, w_ss0, w_ss, fw_nx, fw_brk, fw_cont, fw_ret, nn_none, nn_int, nn_bl, nn_str, nn_tup, nn_lst, ol_lst, op_some, op_none, op_ite, ob_bl, oi_int, sl_pu, sl_ow, al_ow, al_obj, so_lst, opdV, retV, endQ, letgo, ite_self, ixN_3_0, ixN_3_1, ixN_3_2, atI_0, atI_1, atI_2, atI_3, List.getElem?_cons_zero, List.getElem?_cons_succ, List.set_cons_zero, List.set_cons_succ, List.length_cons, List.length_nil, List.length_map, Option.bind_some, Option.map_some, List.nil_append, List.cons_append, List.length_singleton, Nat.zero_add, Nat.reduceAdd, Nat.reduceLT, Nat.reduceLeDiff, Nat.zero_le, if_false, if_true, Bool.false_eq_true, Bool.true_eq_false, Bool.not_true, Bool.not_false, reduceCtorEq, true_and, and_true, forall_const, false_and, and_false, false_implies, not_false_eq_true, not_true_eq_false, decide_true, decide_false, decide_eq_true_eq, decide_eq_false_iff_not, isi_none_int, isi_none_bool, isi_none_str, isi_none_tuple, isi_none_list, isi_none_list_tuple, isi_none_tuple_list, isi_bl_int, isi_bl_bool, isi_bl_str, isi_bl_tuple, isi_bl_list, isi_bl_list_tuple, isi_bl_tuple_list, isi_int_int, isi_int_bool, isi_int_str, isi_int_tuple, isi_int_list, isi_int_list_tuple, isi_int_tuple_list, isi_str_int, isi_str_bool, isi_str_str, isi_str_tuple, isi_str_list, isi_str_list_tuple, isi_str_tuple_list, isi_tup_int, isi_tup_bool, isi_tup_str, isi_tup_tuple, isi_tup_list, isi_tup_list_tuple, isi_tup_tuple_list, isi_lst_int, isi_lst_bool, isi_lst_str, isi_lst_tuple, isi_lst_list, isi_lst_list_tuple, isi_lst_tuple_list, cmp_eq_ii, cmp_ne_ii, cmp_eq_bb, cmp_ne_bb, cmp_lt, cmp_le, cmp_gt, cmp_ge, cmp_ni_ii, bltD, on1, listD]
  with_reducible refine rp_cl hcl (size_spec (tape0 ns) fun big st1 hb T1 => ?_)
  try simp -implicitDefEqProofs only [wp_bind, wp_pure, wp_bad, wp_getS, wp_asB, wp_slotOpd, wp_rdSlot, wp_rdVar, wp_rdRet, wp_resV, wp_resS, wp_ress0, wp_ress, wp_setR, wp_setρ, wp_call, wp_setAt, wp_opd, wp_dat, wp_shr, wp_ownL, wp_popAt, wp_popLast, wp_app, wp_ins, wp_bindTup, wp_bindTs0, wp_bindTs, wp_bindNm, wp_blk, w_var, w_con, w_tup, w_lst, w_shr, w_bin, w_cmp, w_idx, w_cmp2, w_and2, w_or2, w_not1, w_ife, w_sli, w_call, w_blt, w_isi, w_lc, w_popk, w_popl, w_isN, w_neg, Z.w_rev, w_part0, w_part1, w_ds0, w_ds, w_os0, w_os, w_cs0, w_cs, line, w_asg, w_asgT, w_aug, w_setI, w_augI, w_lc2, w_app, w_ins, w_ext, w_expr, w_ret, w_retN, w_if, w_forE, w_whil, w_brk, w_cont, w_pass, w_ss0, w_ss, fw_nx, fw_brk, fw_cont, fw_ret, nn_none, nn_int, nn_bl, nn_str, nn_tup, nn_lst, ol_lst, op_some, op_none, op_ite, ob_bl, oi_int, sl_pu, sl_ow, al_ow, al_obj, so_lst, opdV, retV, endQ, letgo, ite_self, ixN_3_0, ixN_3_1, ixN_3_2, atI_0, atI_1, atI_2, atI_3, List.getElem?_cons_zero, List.getElem?_cons_succ, List.set_cons_zero, List.set_cons_succ, List.length_cons, List.length_nil, List.length_map, Option.bind_some, Option.map_some, List.nil_append, List.cons_append, List.length_singleton, Nat.zero_add, Nat.reduceAdd, Nat.reduceLT, Nat.reduceLeDiff, Nat.zero_le, if_false, if_true, Bool.false_eq_true, Bool.true_eq_false, Bool.not_true, Bool.not_false, reduceCtorEq, true_and, and_true, forall_const, false_and, and_false, false_implies, not_false_eq_true, not_true_eq_false, decide_true, decide_false, decide_eq_true_eq, decide_eq_false_iff_not, isi_none_int, isi_none_bool, isi_none_str, isi_none_tuple, isi_none_list, isi_none_list_tuple, isi_none_tuple_list, isi_bl_int, isi_bl_bool, isi_bl_str, isi_bl_tuple, isi_bl_list, isi_bl_list_tuple, isi_bl_tuple_list, isi_int_int, isi_int_bool, isi_int_str, isi_int_tuple, isi_int_list, isi_int_list_tuple, isi_int_tuple_list, isi_str_int, isi_str_bool, isi_str_str, isi_str_tuple, isi_str_list, isi_str_list_tuple, isi_str_tuple_list, isi_tup_int, isi_tup_bool, isi_tup_str, isi_tup_tuple, isi_tup_list, isi_tup_list_tuple, isi_tup_tuple_list, isi_lst_int, isi_lst_bool, isi_lst_str, isi_lst_tuple, isi_lst_list, isi_lst_list_tuple, isi_lst_tuple_list, cmp_eq_ii, cmp_ne_ii, cmp_eq_bb, cmp_ne_bb, cmp_lt, cmp_le, cmp_gt, cmp_ge, cmp_ni_ii, bltD, on1, listD]
  with_reducible refine rp_cl hcl (draw_spec T1 (by decide) (by decide) fun way st2 w0 w1 T2 => ?_)
  try simp -implicitDefEqProofs only [wp_bind, wp_pure, wp_bad, wp_getS, wp_asB, wp_slotOpd, wp_rdSlot, wp_rdVar, wp_rdRet, wp_resV, wp_resS, wp_ress0, wp_ress, wp_setR, wp_setρ, wp_call, wp_setAt, wp_opd, wp_dat, wp_shr, wp_ownL, wp_popAt, wp_popLast, wp_app, wp_ins, wp_bindTup, wp_bindTs0, wp_bindTs, wp_bindNm, wp_blk, w_var, w_con, w_tup, w_lst, w_shr, w_bin, w_cmp, w_idx, w_cmp2, w_and2, w_or2, w_not1, w_ife, w_sli, w_call, w_blt, w_isi, w_lc, w_popk, w_popl, w_isN, w_neg, Z.w_rev, w_part0, w_part1, w_ds0, w_ds, w_os0, w_os, w_cs0, w_cs, line, w_asg, w_asgT, w_aug, w_setI, w_augI, w_lc2, w_app, w_ins, w_ext, w_expr, w_ret, w_retN, w_if, w_forE, w_whil, w_brk, w_cont, w_pass, w_ss0, w_ss, fw_nx, fw_brk, fw_cont, fw_ret, nn_none, nn_int, nn_bl, nn_str, nn_tup, nn_lst, ol_lst, op_some, op_none, op_ite, ob_bl, oi_int, sl_pu, sl_ow, al_ow, al_obj, so_lst, opdV, retV, endQ, letgo, ite_self, ixN_3_0, ixN_3_1, ixN_3_2, atI_0, atI_1, atI_2, atI_3, List.getElem?_cons_zero, List.getElem?_cons_succ, List.set_cons_zero, List.set_cons_succ, List.length_cons, List.length_nil, List.length_map, Option.bind_some, Option.map_some, List.nil_append, List.cons_append, List.length_singleton, Nat.zero_add, Nat.reduceAdd, Nat.reduceLT, Nat.reduceLeDiff, Nat.zero_le, if_false, if_true, Bool.false_eq_true, Bool.true_eq_false, Bool.not_true, Bool.not_false, reduceCtorEq, true_and, and_true, forall_const, false_and, and_false, false_implies, not_false_eq_true, not_true_eq_false, decide_true, decide_false, decide_eq_true_eq, decide_eq_false_iff_not, isi_none_int, isi_none_bool, isi_none_str, isi_none_tuple, isi_none_list, isi_none_list_tuple, isi_none_tuple_list, isi_bl_int, isi_bl_bool, isi_bl_str, isi_bl_tuple, isi_bl_list, isi_bl_list_tuple, isi_bl_tuple_list, isi_int_int, isi_int_bool, isi_int_str, isi_int_tuple, isi_int_list, isi_int_list_tuple, isi_int_tuple_list, isi_str_int, isi_str_bool, isi_str_str, isi_str_tuple, isi_str_list, isi_str_list_tuple, isi_str_tuple_list, isi_tup_int, isi_tup_bool, isi_tup_str, isi_tup_tuple, isi_tup_list, isi_tup_list_tuple, isi_tup_tuple_list, isi_lst_int, isi_lst_bool, isi_lst_str, isi_lst_tuple, isi_lst_list, isi_lst_list_tuple, isi_lst_tuple_list, cmp_eq_ii, cmp_ne_ii, cmp_eq_bb, cmp_ne_bb, cmp_lt, cmp_le, cmp_gt, cmp_ge, cmp_ni_ii, bltD, on1, listD, binD]
  with_reducible refine rp_cl hcl (draw_spec T2 (by decide) (by decide) fun i st3 i0 i1 T3 => ?_)
  try simp -implicitDefEqProofs only [wp_bind, wp_pure, wp_bad, wp_getS, wp_asB, wp_slotOpd, wp_rdSlot, wp_rdVar, wp_rdRet, wp_resV, wp_resS, wp_ress0, wp_ress, wp_setR, wp_setρ, wp_call, wp_setAt, wp_opd, wp_dat, wp_shr, wp_ownL, wp_popAt, wp_popLast, wp_app, wp_ins, wp_bindTup, wp_bindTs0, wp_bindTs, wp_bindNm, wp_blk, w_var, w_con, w_tup, w_lst, w_shr, w_bin, w_cmp, w_idx, w_cmp2, w_and2, w_or2, w_not1, w_ife, w_sli, w_call, w_blt, w_isi, w_lc, w_popk, w_popl, w_isN, w_neg, Z.w_rev, w_part0, w_part1, w_ds0, w_ds, w_os0, w_os, w_cs0, w_cs, line, w_asg, w_asgT, w_aug, w_setI, w_augI, w_lc2, w_app, w_ins, w_ext, w_expr, w_ret, w_retN, w_if, w_forE, w_whil, w_brk, w_cont, w_pass, w_ss0, w_ss, fw_nx, fw_brk, fw_cont, fw_ret, nn_none, nn_int, nn_bl, nn_str, nn_tup, nn_lst, ol_lst, op_some, op_none, op_ite, ob_bl, oi_int, sl_pu, sl_ow, al_ow, al_obj, so_lst, opdV, retV, endQ, letgo, ite_self, ixN_3_0, ixN_3_1, ixN_3_2, atI_0, atI_1, atI_2, atI_3, List.getElem?_cons_zero, List.getElem?_cons_succ, List.set_cons_zero, List.set_cons_succ, List.length_cons, List.length_nil, List.length_map, Option.bind_some, Option.map_some, List.nil_append, List.cons_append, List.length_singleton, Nat.zero_add, Nat.reduceAdd, Nat.reduceLT, Nat.reduceLeDiff, Nat.zero_le, if_false, if_true, Bool.false_eq_true, Bool.true_eq_false, Bool.not_true, Bool.not_false, reduceCtorEq, true_and, and_true, forall_const, false_and, and_false, false_implies, not_false_eq_true, not_true_eq_false, decide_true, decide_false, decide_eq_true_eq, decide_eq_false_iff_not, isi_none_int, isi_none_bool, isi_none_str, isi_none_tuple, isi_none_list, isi_none_list_tuple, isi_none_tuple_list, isi_bl_int, isi_bl_bool, isi_bl_str, isi_bl_tuple, isi_bl_list, isi_bl_list_tuple, isi_bl_tuple_list, isi_int_int, isi_int_bool, isi_int_str, isi_int_tuple, isi_int_list, isi_int_list_tuple, isi_int_tuple_list, isi_str_int, isi_str_bool, isi_str_str, isi_str_tuple, isi_str_list, isi_str_list_tuple, isi_str_tuple_list, isi_tup_int, isi_tup_bool, isi_tup_str, isi_tup_tuple, isi_tup_list, isi_tup_list_tuple, isi_tup_tuple_list, isi_lst_int, isi_lst_bool, isi_lst_str, isi_lst_tuple, isi_lst_list, isi_lst_list_tuple, isi_lst_tuple_list, cmp_eq_ii, cmp_ne_ii, cmp_eq_bb, cmp_ne_bb, cmp_lt, cmp_le, cmp_gt, cmp_ge, cmp_ni_ii, bltD, on1, listD, binD, idxD, seqD]
  obtain ⟨s, hs, rfl⟩ : ∃ s : Nat, (s = 2 ∨ s = 3) ∧ big = (s : Int) := by
    rcases hb with rfl | rfl
    · exact ⟨2, .inl rfl, rfl⟩
    · exact ⟨3, .inr rfl, rfl⟩
  refine op_atI i0 (by simp; omega) fun a ha => ?_
  obtain ⟨m, rfl, hm1, hm8⟩ : ∃ m : Nat, a = .int (m : Int) ∧ s ≤ m ∧ m ≤ 8 := by
    simp only [List.mem_cons, List.not_mem_nil, or_false] at ha
    rcases ha with rfl | rfl | rfl | rfl
    · exact ⟨s + 1, by simp, by omega, by omega⟩
    · exact ⟨5, rfl, by omega, by omega⟩
    · exact ⟨6, rfl, by omega, by omega⟩
    · exact ⟨8, rfl, by omega, by omega⟩
  try simp -implicitDefEqProofs only [wp_bind, wp_pure, wp_bad, wp_getS, wp_asB, wp_slotOpd, wp_rdSlot, wp_rdVar, wp_rdRet, wp_resV, wp_resS, wp_ress0, wp_ress, wp_setR, wp_setρ, wp_call, wp_setAt, wp_opd, wp_dat, wp_shr, wp_ownL, wp_popAt, wp_popLast, wp_app, wp_ins, wp_bindTup, wp_bindTs0, wp_bindTs, wp_bindNm, wp_blk, w_var, w_con, w_tup, w_lst, w_shr, w_bin, w_cmp, w_idx, w_cmp2, w_and2, w_or2, w_not1, w_ife, w_sli, w_call, w_blt, w_isi, w_lc, w_popk, w_popl, w_isN, w_neg, Z.w_rev, w_part0, w_part1, w_ds0, w_ds, w_os0, w_os, w_cs0, w_cs, line, w_asg, w_asgT, w_aug, w_setI, w_augI, w_lc2, w_app, w_ins, w_ext, w_expr, w_ret, w_retN, w_if, w_forE, w_whil, w_brk, w_cont, w_pass, w_ss0, w_ss, fw_nx, fw_brk, fw_cont, fw_ret, nn_none, nn_int, nn_bl, nn_str, nn_tup, nn_lst, ol_lst, op_some, op_none, op_ite, ob_bl, oi_int, sl_pu, sl_ow, al_ow, al_obj, so_lst, opdV, retV, endQ, letgo, ite_self, ixN_3_0, ixN_3_1, ixN_3_2, atI_0, atI_1, atI_2, atI_3, List.getElem?_cons_zero, List.getElem?_cons_succ, List.set_cons_zero, List.set_cons_succ, List.length_cons, List.length_nil, List.length_map, Option.bind_some, Option.map_some, List.nil_append, List.cons_append, List.length_singleton, Nat.zero_add, Nat.reduceAdd, Nat.reduceLT, Nat.reduceLeDiff, Nat.zero_le, if_false, if_true, Bool.false_eq_true, Bool.true_eq_false, Bool.not_true, Bool.not_false, reduceCtorEq, true_and, and_true, forall_const, false_and, and_false, false_implies, not_false_eq_true, not_true_eq_false, decide_true, decide_false, decide_eq_true_eq, decide_eq_false_iff_not, isi_none_int, isi_none_bool, isi_none_str, isi_none_tuple, isi_none_list, isi_none_list_tuple, isi_none_tuple_list, isi_bl_int, isi_bl_bool, isi_bl_str, isi_bl_tuple, isi_bl_list, isi_bl_list_tuple, isi_bl_tuple_list, isi_int_int, isi_int_bool, isi_int_str, isi_int_tuple, isi_int_list, isi_int_list_tuple, isi_int_tuple_list, isi_str_int, isi_str_bool, isi_str_str, isi_str_tuple, isi_str_list, isi_str_list_tuple, isi_str_tuple_list, isi_tup_int, isi_tup_bool, isi_tup_str, isi_tup_tuple, isi_tup_list, isi_tup_list_tuple, isi_tup_tuple_list, isi_lst_int, isi_lst_bool, isi_lst_str, isi_lst_tuple, isi_lst_list, isi_lst_list_tuple, isi_lst_tuple_list, cmp_eq_ii, cmp_ne_ii, cmp_eq_bb, cmp_ne_bb, cmp_lt, cmp_le, cmp_gt, cmp_ge, cmp_ni_ii]
  with_reducible refine rp_cl hcl (a_product_spec rfl rfl (by omega) hm1 hm8 (by omega) T3 fun p st4 pl hp T4 => ?_)
  try simp -implicitDefEqProofs only [wp_bind, wp_pure, wp_bad, wp_getS, wp_asB, wp_slotOpd, wp_rdSlot, wp_rdVar, wp_rdRet, wp_resV, wp_resS, wp_ress0, wp_ress, wp_setR, wp_setρ, wp_call, wp_setAt, wp_opd, wp_dat, wp_shr, wp_ownL, wp_popAt, wp_popLast, wp_app, wp_ins, wp_bindTup, wp_bindTs0, wp_bindTs, wp_bindNm, wp_blk, w_var, w_con, w_tup, w_lst, w_shr, w_bin, w_cmp, w_idx, w_cmp2, w_and2, w_or2, w_not1, w_ife, w_sli, w_call, w_blt, w_isi, w_lc, w_popk, w_popl, w_isN, w_neg, Z.w_rev, w_part0, w_part1, w_ds0, w_ds, w_os0, w_os, w_cs0, w_cs, line, w_asg, w_asgT, w_aug, w_setI, w_augI, w_lc2, w_app, w_ins, w_ext, w_expr, w_ret, w_retN, w_if, w_forE, w_whil, w_brk, w_cont, w_pass, w_ss0, w_ss, fw_nx, fw_brk, fw_cont, fw_ret, nn_none, nn_int, nn_bl, nn_str, nn_tup, nn_lst, ol_lst, op_some, op_none, op_ite, ob_bl, oi_int, sl_pu, sl_ow, al_ow, al_obj, so_lst, opdV, retV, endQ, letgo, ite_self, ixN_3_0, ixN_3_1, ixN_3_2, atI_0, atI_1, atI_2, atI_3, List.getElem?_cons_zero, List.getElem?_cons_succ, List.set_cons_zero, List.set_cons_succ, List.length_cons, List.length_nil, List.length_map, Option.bind_some, Option.map_some, List.nil_append, List.cons_append, List.length_singleton, Nat.zero_add, Nat.reduceAdd, Nat.reduceLT, Nat.reduceLeDiff, Nat.zero_le, if_false, if_true, Bool.false_eq_true, Bool.true_eq_false, Bool.not_true, Bool.not_false, reduceCtorEq, true_and, and_true, forall_const, false_and, and_false, false_implies, not_false_eq_true, not_true_eq_false, decide_true, decide_false, decide_eq_true_eq, decide_eq_false_iff_not, isi_none_int, isi_none_bool, isi_none_str, isi_none_tuple, isi_none_list, isi_none_list_tuple, isi_none_tuple_list, isi_bl_int, isi_bl_bool, isi_bl_str, isi_bl_tuple, isi_bl_list, isi_bl_list_tuple, isi_bl_tuple_list, isi_int_int, isi_int_bool, isi_int_str, isi_int_tuple, isi_int_list, isi_int_list_tuple, isi_int_tuple_list, isi_str_int, isi_str_bool, isi_str_str, isi_str_tuple, isi_str_list, isi_str_list_tuple, isi_str_tuple_list, isi_tup_int, isi_tup_bool, isi_tup_str, isi_tup_tuple, isi_tup_list, isi_tup_list_tuple, isi_tup_tuple_list, isi_lst_int, isi_lst_bool, isi_lst_str, isi_lst_tuple, isi_lst_list, isi_lst_list_tuple, isi_lst_tuple_list, cmp_eq_ii, cmp_ne_ii, cmp_eq_bb, cmp_ne_bb, cmp_lt, cmp_le, cmp_gt, cmp_ge, cmp_ni_ii]
  with_reducible refine rp_cl hcl (lcounts_spec (fun b hb => (hp b hb).2) ?_)
  try simp -implicitDefEqProofs only [wp_bind, wp_pure, wp_bad, wp_getS, wp_asB, wp_slotOpd, wp_rdSlot, wp_rdVar, wp_rdRet, wp_resV, wp_resS, wp_ress0, wp_ress, wp_setR, wp_setρ, wp_call, wp_setAt, wp_opd, wp_dat, wp_shr, wp_ownL, wp_popAt, wp_popLast, wp_app, wp_ins, wp_bindTup, wp_bindTs0, wp_bindTs, wp_bindNm, wp_blk, w_var, w_con, w_tup, w_lst, w_shr, w_bin, w_cmp, w_idx, w_cmp2, w_and2, w_or2, w_not1, w_ife, w_sli, w_call, w_blt, w_isi, w_lc, w_popk, w_popl, w_isN, w_neg, Z.w_rev, w_part0, w_part1, w_ds0, w_ds, w_os0, w_os, w_cs0, w_cs, line, w_asg, w_asgT, w_aug, w_setI, w_augI, w_lc2, w_app, w_ins, w_ext, w_expr, w_ret, w_retN, w_if, w_forE, w_whil, w_brk, w_cont, w_pass, w_ss0, w_ss, fw_nx, fw_brk, fw_cont, fw_ret, nn_none, nn_int, nn_bl, nn_str, nn_tup, nn_lst, ol_lst, op_some, op_none, op_ite, ob_bl, oi_int, sl_pu, sl_ow, al_ow, al_obj, so_lst, opdV, retV, endQ, letgo, ite_self, ixN_3_0, ixN_3_1, ixN_3_2, atI_0, atI_1, atI_2, atI_3, List.getElem?_cons_zero, List.getElem?_cons_succ, List.set_cons_zero, List.set_cons_succ, List.length_cons, List.length_nil, List.length_map, Option.bind_some, Option.map_some, List.nil_append, List.cons_append, List.length_singleton, Nat.zero_add, Nat.reduceAdd, Nat.reduceLT, Nat.reduceLeDiff, Nat.zero_le, if_false, if_true, Bool.false_eq_true, Bool.true_eq_false, Bool.not_true, Bool.not_false, reduceCtorEq, true_and, and_true, forall_const, false_and, and_false, false_implies, not_false_eq_true, not_true_eq_false, decide_true, decide_false, decide_eq_true_eq, decide_eq_false_iff_not, isi_none_int, isi_none_bool, isi_none_str, isi_none_tuple, isi_none_list, isi_none_list_tuple, isi_none_tuple_list, isi_bl_int, isi_bl_bool, isi_bl_str, isi_bl_tuple, isi_bl_list, isi_bl_list_tuple, isi_bl_tuple_list, isi_int_int, isi_int_bool, isi_int_str, isi_int_tuple, isi_int_list, isi_int_list_tuple, isi_int_tuple_list, isi_str_int, isi_str_bool, isi_str_str, isi_str_tuple, isi_str_list, isi_str_list_tuple, isi_str_tuple_list, isi_tup_int, isi_tup_bool, isi_tup_str, isi_tup_tuple, isi_tup_list, isi_tup_list_tuple, isi_tup_tuple_list, isi_lst_int, isi_lst_bool, isi_lst_str, isi_lst_tuple, isi_lst_list, isi_lst_list_tuple, isi_lst_tuple_list, cmp_eq_ii, cmp_ne_ii, cmp_eq_bb, cmp_ne_bb, cmp_lt, cmp_le, cmp_gt, cmp_ge, cmp_ni_ii]
  have gen : ∀ (lim many : Int) (e : Ex), 0 < many → many ≤ 100 → True := fun _ _ _ _ _ => trivial
  refine ⟨fun e0 => ?_, fun e0 => ⟨fun e1 => ?_, fun e1 => fin hs T4 (cf8 _)⟩⟩
  · try simp -implicitDefEqProofs only [wp_bind, wp_pure, wp_bad, wp_getS, wp_asB, wp_slotOpd, wp_rdSlot, wp_rdVar, wp_rdRet, wp_resV, wp_resS, wp_ress0, wp_ress, wp_setR, wp_setρ, wp_call, wp_setAt, wp_opd, wp_dat, wp_shr, wp_ownL, wp_popAt, wp_popLast, wp_app, wp_ins, wp_bindTup, wp_bindTs0, wp_bindTs, wp_bindNm, wp_blk, w_var, w_con, w_tup, w_lst, w_shr, w_bin, w_cmp, w_idx, w_cmp2, w_and2, w_or2, w_not1, w_ife, w_sli, w_call, w_blt, w_isi, w_lc, w_popk, w_popl, w_isN, w_neg, Z.w_rev, w_part0, w_part1, w_ds0, w_ds, w_os0, w_os, w_cs0, w_cs, line, w_asg, w_asgT, w_aug, w_setI, w_augI, w_lc2, w_app, w_ins, w_ext, w_expr, w_ret, w_retN, w_if, w_forE, w_whil, w_brk, w_cont, w_pass, w_ss0, w_ss, fw_nx, fw_brk, fw_cont, fw_ret, nn_none, nn_int, nn_bl, nn_str, nn_tup, nn_lst, ol_lst, op_some, op_none, op_ite, ob_bl, oi_int, sl_pu, sl_ow, al_ow, al_obj, so_lst, opdV, retV, endQ, letgo, ite_self, ixN_3_0, ixN_3_1, ixN_3_2, atI_0, atI_1, atI_2, atI_3, List.getElem?_cons_zero, List.getElem?_cons_succ, List.set_cons_zero, List.set_cons_succ, List.length_cons, List.length_nil, List.length_map, Option.bind_some, Option.map_some, List.nil_append, List.cons_append, List.length_singleton, Nat.zero_add, Nat.reduceAdd, Nat.reduceLT, Nat.reduceLeDiff, Nat.zero_le, if_false, if_true, Bool.false_eq_true, Bool.true_eq_false, Bool.not_true, Bool.not_false, reduceCtorEq, true_and, and_true, forall_const, false_and, and_false, false_implies, not_false_eq_true, not_true_eq_false, decide_true, decide_false, decide_eq_true_eq, decide_eq_false_iff_not, isi_none_int, isi_none_bool, isi_none_str, isi_none_tuple, isi_none_list, isi_none_list_tuple, isi_none_tuple_list, isi_bl_int, isi_bl_bool, isi_bl_str, isi_bl_tuple, isi_bl_list, isi_bl_list_tuple, isi_bl_tuple_list, isi_int_int, isi_int_bool, isi_int_str, isi_int_tuple, isi_int_list, isi_int_list_tuple, isi_int_tuple_list, isi_str_int, isi_str_bool, isi_str_str, isi_str_tuple, isi_str_list, isi_str_list_tuple, isi_str_tuple_list, isi_tup_int, isi_tup_bool, isi_tup_str, isi_tup_tuple, isi_tup_list, isi_tup_list_tuple, isi_tup_tuple_list, isi_lst_int, isi_lst_bool, isi_lst_str, isi_lst_tuple, isi_lst_list, isi_lst_list_tuple, isi_lst_tuple_list, cmp_eq_ii, cmp_ne_ii, cmp_eq_bb, cmp_ne_bb, cmp_lt, cmp_le, cmp_gt, cmp_ge, cmp_ni_ii, pts_items]
    refine wp_lc_acc _ rfl (fun acc s' => ∃ (c : List Int) (st' : List SO) (x : Slot), acc = c.map .int ∧ (∀ k ∈ c, 0 ≤ k) ∧ Tape st' ∧ s' = ⟨[.pu (.scr ns), .pu (.obj 1), .pu (.int (s : Int)), .pu (.int way), .pu (.tup ((cf p.flatten).map .int)), x, .un, .un, .un], st'⟩) 8 (by decide) ⟨[], st4, _, rfl, fun b hb => (by cases hb), T4, rfl⟩ (by simp [pts]) ?_ ?_
    · rintro x hx acc s' hacc ⟨c, st', x5, rfl, hc, T', rfl⟩
      obtain ⟨k, _, rfl⟩ := List.mem_map.mp hx
      try simp -implicitDefEqProofs only [wp_bind, wp_pure, wp_bad, wp_getS, wp_asB, wp_slotOpd, wp_rdSlot, wp_rdVar, wp_rdRet, wp_resV, wp_resS, wp_ress0, wp_ress, wp_setR, wp_setρ, wp_call, wp_setAt, wp_opd, wp_dat, wp_shr, wp_ownL, wp_popAt, wp_popLast, wp_app, wp_ins, wp_bindTup, wp_bindTs0, wp_bindTs, wp_bindNm, wp_blk, w_var, w_con, w_tup, w_lst, w_shr, w_bin, w_cmp, w_idx, w_cmp2, w_and2, w_or2, w_not1, w_ife, w_sli, w_call, w_blt, w_isi, w_lc, w_popk, w_popl, w_isN, w_neg, Z.w_rev, w_part0, w_part1, w_ds0, w_ds, w_os0, w_os, w_cs0, w_cs, line, w_asg, w_asgT, w_aug, w_setI, w_augI, w_lc2, w_app, w_ins, w_ext, w_expr, w_ret, w_retN, w_if, w_forE, w_whil, w_brk, w_cont, w_pass, w_ss0, w_ss, fw_nx, fw_brk, fw_cont, fw_ret, nn_none, nn_int, nn_bl, nn_str, nn_tup, nn_lst, ol_lst, op_some, op_none, op_ite, ob_bl, oi_int, sl_pu, sl_ow, al_ow, al_obj, so_lst, opdV, retV, endQ, letgo, ite_self, ixN_3_0, ixN_3_1, ixN_3_2, atI_0, atI_1, atI_2, atI_3, List.getElem?_cons_zero, List.getElem?_cons_succ, List.set_cons_zero, List.set_cons_succ, List.length_cons, List.length_nil, List.length_map, Option.bind_some, Option.map_some, List.nil_append, List.cons_append, List.length_singleton, Nat.zero_add, Nat.reduceAdd, Nat.reduceLT, Nat.reduceLeDiff, Nat.zero_le, if_false, if_true, Bool.false_eq_true, Bool.true_eq_false, Bool.not_true, Bool.not_false, reduceCtorEq, true_and, and_true, forall_const, false_and, and_false, false_implies, not_false_eq_true, not_true_eq_false, decide_true, decide_false, decide_eq_true_eq, decide_eq_false_iff_not, isi_none_int, isi_none_bool, isi_none_str, isi_none_tuple, isi_none_list, isi_none_list_tuple, isi_none_tuple_list, isi_bl_int, isi_bl_bool, isi_bl_str, isi_bl_tuple, isi_bl_list, isi_bl_list_tuple, isi_bl_tuple_list, isi_int_int, isi_int_bool, isi_int_str, isi_int_tuple, isi_int_list, isi_int_list_tuple, isi_int_tuple_list, isi_str_int, isi_str_bool, isi_str_str, isi_str_tuple, isi_str_list, isi_str_list_tuple, isi_str_tuple_list, isi_tup_int, isi_tup_bool, isi_tup_str, isi_tup_tuple, isi_tup_list, isi_tup_list_tuple, isi_tup_tuple_list, isi_lst_int, isi_lst_bool, isi_lst_str, isi_lst_tuple, isi_lst_list, isi_lst_list_tuple, isi_lst_tuple_list, cmp_eq_ii, cmp_ne_ii, cmp_eq_bb, cmp_ne_bb, cmp_lt, cmp_le, cmp_gt, cmp_ge, cmp_ni_ii, wp_wipe, List.foldr_cons, List.foldr_nil]
      refine ⟨fun h5 => ?_, fun h5 => ?_⟩
      · with_reducible refine rp_cl hcl (draw_spec T' (by decide) (by decide) fun f st5 f0 f1 T5 => ?_)
        try simp -implicitDefEqProofs only [wp_bind, wp_pure, wp_bad, wp_getS, wp_asB, wp_slotOpd, wp_rdSlot, wp_rdVar, wp_rdRet, wp_resV, wp_resS, wp_ress0, wp_ress, wp_setR, wp_setρ, wp_call, wp_setAt, wp_opd, wp_dat, wp_shr, wp_ownL, wp_popAt, wp_popLast, wp_app, wp_ins, wp_bindTup, wp_bindTs0, wp_bindTs, wp_bindNm, wp_blk, w_var, w_con, w_tup, w_lst, w_shr, w_bin, w_cmp, w_idx, w_cmp2, w_and2, w_or2, w_not1, w_ife, w_sli, w_call, w_blt, w_isi, w_lc, w_popk, w_popl, w_isN, w_neg, Z.w_rev, w_part0, w_part1, w_ds0, w_ds, w_os0, w_os, w_cs0, w_cs, line, w_asg, w_asgT, w_aug, w_setI, w_augI, w_lc2, w_app, w_ins, w_ext, w_expr, w_ret, w_retN, w_if, w_forE, w_whil, w_brk, w_cont, w_pass, w_ss0, w_ss, fw_nx, fw_brk, fw_cont, fw_ret, nn_none, nn_int, nn_bl, nn_str, nn_tup, nn_lst, ol_lst, op_some, op_none, op_ite, ob_bl, oi_int, sl_pu, sl_ow, al_ow, al_obj, so_lst, opdV, retV, endQ, letgo, ite_self, ixN_3_0, ixN_3_1, ixN_3_2, atI_0, atI_1, atI_2, atI_3, List.getElem?_cons_zero, List.getElem?_cons_succ, List.set_cons_zero, List.set_cons_succ, List.length_cons, List.length_nil, List.length_map, Option.bind_some, Option.map_some, List.nil_append, List.cons_append, List.length_singleton, Nat.zero_add, Nat.reduceAdd, Nat.reduceLT, Nat.reduceLeDiff, Nat.zero_le, if_false, if_true, Bool.false_eq_true, Bool.true_eq_false, Bool.not_true, Bool.not_false, reduceCtorEq, true_and, and_true, forall_const, false_and, and_false, false_implies, not_false_eq_true, not_true_eq_false, decide_true, decide_false, decide_eq_true_eq, decide_eq_false_iff_not, isi_none_int, isi_none_bool, isi_none_str, isi_none_tuple, isi_none_list, isi_none_list_tuple, isi_none_tuple_list, isi_bl_int, isi_bl_bool, isi_bl_str, isi_bl_tuple, isi_bl_list, isi_bl_list_tuple, isi_bl_tuple_list, isi_int_int, isi_int_bool, isi_int_str, isi_int_tuple, isi_int_list, isi_int_list_tuple, isi_int_tuple_list, isi_str_int, isi_str_bool, isi_str_str, isi_str_tuple, isi_str_list, isi_str_list_tuple, isi_str_tuple_list, isi_tup_int, isi_tup_bool, isi_tup_str, isi_tup_tuple, isi_tup_list, isi_tup_list_tuple, isi_tup_tuple_list, isi_lst_int, isi_lst_bool, isi_lst_str, isi_lst_tuple, isi_lst_list, isi_lst_list_tuple, isi_lst_tuple_list, cmp_eq_ii, cmp_ne_ii, cmp_eq_bb, cmp_ne_bb, cmp_lt, cmp_le, cmp_gt, cmp_ge, cmp_ni_ii, still, T5.still]
        refine ⟨c ++ [f], st5, _, by rw [List.map_append]; rfl, fun j hj => ?_, T5, rfl⟩
        rcases List.mem_append.mp hj with hj | hj
        · exact hc j hj
        · rw [List.mem_singleton.mp hj]; exact f0
      · refine ⟨c ++ [0], st', _, by rw [List.map_append]; rfl, fun j hj => ?_, T', rfl⟩
        rcases List.mem_append.mp hj with hj | hj
        · exact hc j hj
        · rw [List.mem_singleton.mp hj]; decide
    · rintro acc s' hacc ⟨c, st', x5, rfl, hc, T', rfl⟩
      try simp -implicitDefEqProofs only [wp_bind, wp_pure, wp_bad, wp_getS, wp_asB, wp_slotOpd, wp_rdSlot, wp_rdVar, wp_rdRet, wp_resV, wp_resS, wp_ress0, wp_ress, wp_setR, wp_setρ, wp_call, wp_setAt, wp_opd, wp_dat, wp_shr, wp_ownL, wp_popAt, wp_popLast, wp_app, wp_ins, wp_bindTup, wp_bindTs0, wp_bindTs, wp_bindNm, wp_blk, w_var, w_con, w_tup, w_lst, w_shr, w_bin, w_cmp, w_idx, w_cmp2, w_and2, w_or2, w_not1, w_ife, w_sli, w_call, w_blt, w_isi, w_lc, w_popk, w_popl, w_isN, w_neg, Z.w_rev, w_part0, w_part1, w_ds0, w_ds, w_os0, w_os, w_cs0, w_cs, line, w_asg, w_asgT, w_aug, w_setI, w_augI, w_lc2, w_app, w_ins, w_ext, w_expr, w_ret, w_retN, w_if, w_forE, w_whil, w_brk, w_cont, w_pass, w_ss0, w_ss, fw_nx, fw_brk, fw_cont, fw_ret, nn_none, nn_int, nn_bl, nn_str, nn_tup, nn_lst, ol_lst, op_some, op_none, op_ite, ob_bl, oi_int, sl_pu, sl_ow, al_ow, al_obj, so_lst, opdV, retV, endQ, letgo, ite_self, ixN_3_0, ixN_3_1, ixN_3_2, atI_0, atI_1, atI_2, atI_3, List.getElem?_cons_zero, List.getElem?_cons_succ, List.set_cons_zero, List.set_cons_succ, List.length_cons, List.length_nil, List.length_map, Option.bind_some, Option.map_some, List.nil_append, List.cons_append, List.length_singleton, Nat.zero_add, Nat.reduceAdd, Nat.reduceLT, Nat.reduceLeDiff, Nat.zero_le, if_false, if_true, Bool.false_eq_true, Bool.true_eq_false, Bool.not_true, Bool.not_false, reduceCtorEq, true_and, and_true, forall_const, false_and, and_false, false_implies, not_false_eq_true, not_true_eq_false, decide_true, decide_false, decide_eq_true_eq, decide_eq_false_iff_not, isi_none_int, isi_none_bool, isi_none_str, isi_none_tuple, isi_none_list, isi_none_list_tuple, isi_none_tuple_list, isi_bl_int, isi_bl_bool, isi_bl_str, isi_bl_tuple, isi_bl_list, isi_bl_list_tuple, isi_bl_tuple_list, isi_int_int, isi_int_bool, isi_int_str, isi_int_tuple, isi_int_list, isi_int_list_tuple, isi_int_tuple_list, isi_str_int, isi_str_bool, isi_str_str, isi_str_tuple, isi_str_list, isi_str_list_tuple, isi_str_tuple_list, isi_tup_int, isi_tup_bool, isi_tup_str, isi_tup_tuple, isi_tup_list, isi_tup_list_tuple, isi_tup_tuple_list, isi_lst_int, isi_lst_bool, isi_lst_str, isi_lst_tuple, isi_lst_list, isi_lst_list_tuple, isi_lst_tuple_list, cmp_eq_ii, cmp_ne_ii, cmp_eq_bb, cmp_ne_bb, cmp_lt, cmp_le, cmp_gt, cmp_ge, cmp_ni_ii, unwipe, List.foldr_cons, List.foldr_nil, bltD, on1, tupleD]
      exact fin hs T' (Cn.of (by simpa using hacc) hc)
  · try simp -implicitDefEqProofs only [wp_bind, wp_pure, wp_bad, wp_getS, wp_asB, wp_slotOpd, wp_rdSlot, wp_rdVar, wp_rdRet, wp_resV, wp_resS, wp_ress0, wp_ress, wp_setR, wp_setρ, wp_call, wp_setAt, wp_opd, wp_dat, wp_shr, wp_ownL, wp_popAt, wp_popLast, wp_app, wp_ins, wp_bindTup, wp_bindTs0, wp_bindTs, wp_bindNm, wp_blk, w_var, w_con, w_tup, w_lst, w_shr, w_bin, w_cmp, w_idx, w_cmp2, w_and2, w_or2, w_not1, w_ife, w_sli, w_call, w_blt, w_isi, w_lc, w_popk, w_popl, w_isN, w_neg, Z.w_rev, w_part0, w_part1, w_ds0, w_ds, w_os0, w_os, w_cs0, w_cs, line, w_asg, w_asgT, w_aug, w_setI, w_augI, w_lc2, w_app, w_ins, w_ext, w_expr, w_ret, w_retN, w_if, w_forE, w_whil, w_brk, w_cont, w_pass, w_ss0, w_ss, fw_nx, fw_brk, fw_cont, fw_ret, nn_none, nn_int, nn_bl, nn_str, nn_tup, nn_lst, ol_lst, op_some, op_none, op_ite, ob_bl, oi_int, sl_pu, sl_ow, al_ow, al_obj, so_lst, opdV, retV, endQ, letgo, ite_self, ixN_3_0, ixN_3_1, ixN_3_2, atI_0, atI_1, atI_2, atI_3, List.getElem?_cons_zero, List.getElem?_cons_succ, List.set_cons_zero, List.set_cons_succ, List.length_cons, List.length_nil, List.length_map, Option.bind_some, Option.map_some, List.nil_append, List.cons_append, List.length_singleton, Nat.zero_add, Nat.reduceAdd, Nat.reduceLT, Nat.reduceLeDiff, Nat.zero_le, if_false, if_true, Bool.false_eq_true, Bool.true_eq_false, Bool.not_true, Bool.not_false, reduceCtorEq, true_and, and_true, forall_const, false_and, and_false, false_implies, not_false_eq_true, not_true_eq_false, decide_true, decide_false, decide_eq_true_eq, decide_eq_false_iff_not, isi_none_int, isi_none_bool, isi_none_str, isi_none_tuple, isi_none_list, isi_none_list_tuple, isi_none_tuple_list, isi_bl_int, isi_bl_bool, isi_bl_str, isi_bl_tuple, isi_bl_list, isi_bl_list_tuple, isi_bl_tuple_list, isi_int_int, isi_int_bool, isi_int_str, isi_int_tuple, isi_int_list, isi_int_list_tuple, isi_int_tuple_list, isi_str_int, isi_str_bool, isi_str_str, isi_str_tuple, isi_str_list, isi_str_list_tuple, isi_str_tuple_list, isi_tup_int, isi_tup_bool, isi_tup_str, isi_tup_tuple, isi_tup_list, isi_tup_list_tuple, isi_tup_tuple_list, isi_lst_int, isi_lst_bool, isi_lst_str, isi_lst_tuple, isi_lst_list, isi_lst_list_tuple, isi_lst_tuple_list, cmp_eq_ii, cmp_ne_ii, cmp_eq_bb, cmp_ne_bb, cmp_lt, cmp_le, cmp_gt, cmp_ge, cmp_ni_ii, pts_items]
    refine wp_lc_acc _ rfl (fun acc s' => ∃ (c : List Int) (st' : List SO) (x : Slot), acc = c.map .int ∧ (∀ k ∈ c, 0 ≤ k) ∧ Tape st' ∧ s' = ⟨[.pu (.scr ns), .pu (.obj 1), .pu (.int (s : Int)), .pu (.int way), .pu (.tup ((cf p.flatten).map .int)), x, .un, .un, .un], st'⟩) 8 (by decide) ⟨[], st4, _, rfl, fun b hb => (by cases hb), T4, rfl⟩ (by simp [pts]) ?_ ?_
    · rintro x hx acc s' hacc ⟨c, st', x5, rfl, hc, T', rfl⟩
      obtain ⟨k, _, rfl⟩ := List.mem_map.mp hx
      try simp -implicitDefEqProofs only [wp_bind, wp_pure, wp_bad, wp_getS, wp_asB, wp_slotOpd, wp_rdSlot, wp_rdVar, wp_rdRet, wp_resV, wp_resS, wp_ress0, wp_ress, wp_setR, wp_setρ, wp_call, wp_setAt, wp_opd, wp_dat, wp_shr, wp_ownL, wp_popAt, wp_popLast, wp_app, wp_ins, wp_bindTup, wp_bindTs0, wp_bindTs, wp_bindNm, wp_blk, w_var, w_con, w_tup, w_lst, w_shr, w_bin, w_cmp, w_idx, w_cmp2, w_and2, w_or2, w_not1, w_ife, w_sli, w_call, w_blt, w_isi, w_lc, w_popk, w_popl, w_isN, w_neg, Z.w_rev, w_part0, w_part1, w_ds0, w_ds, w_os0, w_os, w_cs0, w_cs, line, w_asg, w_asgT, w_aug, w_setI, w_augI, w_lc2, w_app, w_ins, w_ext, w_expr, w_ret, w_retN, w_if, w_forE, w_whil, w_brk, w_cont, w_pass, w_ss0, w_ss, fw_nx, fw_brk, fw_cont, fw_ret, nn_none, nn_int, nn_bl, nn_str, nn_tup, nn_lst, ol_lst, op_some, op_none, op_ite, ob_bl, oi_int, sl_pu, sl_ow, al_ow, al_obj, so_lst, opdV, retV, endQ, letgo, ite_self, ixN_3_0, ixN_3_1, ixN_3_2, atI_0, atI_1, atI_2, atI_3, List.getElem?_cons_zero, List.getElem?_cons_succ, List.set_cons_zero, List.set_cons_succ, List.length_cons, List.length_nil, List.length_map, Option.bind_some, Option.map_some, List.nil_append, List.cons_append, List.length_singleton, Nat.zero_add, Nat.reduceAdd, Nat.reduceLT, Nat.reduceLeDiff, Nat.zero_le, if_false, if_true, Bool.false_eq_true, Bool.true_eq_false, Bool.not_true, Bool.not_false, reduceCtorEq, true_and, and_true, forall_const, false_and, and_false, false_implies, not_false_eq_true, not_true_eq_false, decide_true, decide_false, decide_eq_true_eq, decide_eq_false_iff_not, isi_none_int, isi_none_bool, isi_none_str, isi_none_tuple, isi_none_list, isi_none_list_tuple, isi_none_tuple_list, isi_bl_int, isi_bl_bool, isi_bl_str, isi_bl_tuple, isi_bl_list, isi_bl_list_tuple, isi_bl_tuple_list, isi_int_int, isi_int_bool, isi_int_str, isi_int_tuple, isi_int_list, isi_int_list_tuple, isi_int_tuple_list, isi_str_int, isi_str_bool, isi_str_str, isi_str_tuple, isi_str_list, isi_str_list_tuple, isi_str_tuple_list, isi_tup_int, isi_tup_bool, isi_tup_str, isi_tup_tuple, isi_tup_list, isi_tup_list_tuple, isi_tup_tuple_list, isi_lst_int, isi_lst_bool, isi_lst_str, isi_lst_tuple, isi_lst_list, isi_lst_list_tuple, isi_lst_tuple_list, cmp_eq_ii, cmp_ne_ii, cmp_eq_bb, cmp_ne_bb, cmp_lt, cmp_le, cmp_gt, cmp_ge, cmp_ni_ii, wp_wipe, List.foldr_cons, List.foldr_nil, binD]
      refine ⟨fun h5 => ?_, fun h5 => ?_⟩
      · with_reducible refine rp_cl hcl (draw_spec T' (by decide) (by decide) fun f st5 f0 f1 T5 => ?_)
        try simp -implicitDefEqProofs only [wp_bind, wp_pure, wp_bad, wp_getS, wp_asB, wp_slotOpd, wp_rdSlot, wp_rdVar, wp_rdRet, wp_resV, wp_resS, wp_ress0, wp_ress, wp_setR, wp_setρ, wp_call, wp_setAt, wp_opd, wp_dat, wp_shr, wp_ownL, wp_popAt, wp_popLast, wp_app, wp_ins, wp_bindTup, wp_bindTs0, wp_bindTs, wp_bindNm, wp_blk, w_var, w_con, w_tup, w_lst, w_shr, w_bin, w_cmp, w_idx, w_cmp2, w_and2, w_or2, w_not1, w_ife, w_sli, w_call, w_blt, w_isi, w_lc, w_popk, w_popl, w_isN, w_neg, Z.w_rev, w_part0, w_part1, w_ds0, w_ds, w_os0, w_os, w_cs0, w_cs, line, w_asg, w_asgT, w_aug, w_setI, w_augI, w_lc2, w_app, w_ins, w_ext, w_expr, w_ret, w_retN, w_if, w_forE, w_whil, w_brk, w_cont, w_pass, w_ss0, w_ss, fw_nx, fw_brk, fw_cont, fw_ret, nn_none, nn_int, nn_bl, nn_str, nn_tup, nn_lst, ol_lst, op_some, op_none, op_ite, ob_bl, oi_int, sl_pu, sl_ow, al_ow, al_obj, so_lst, opdV, retV, endQ, letgo, ite_self, ixN_3_0, ixN_3_1, ixN_3_2, atI_0, atI_1, atI_2, atI_3, List.getElem?_cons_zero, List.getElem?_cons_succ, List.set_cons_zero, List.set_cons_succ, List.length_cons, List.length_nil, List.length_map, Option.bind_some, Option.map_some, List.nil_append, List.cons_append, List.length_singleton, Nat.zero_add, Nat.reduceAdd, Nat.reduceLT, Nat.reduceLeDiff, Nat.zero_le, if_false, if_true, Bool.false_eq_true, Bool.true_eq_false, Bool.not_true, Bool.not_false, reduceCtorEq, true_and, and_true, forall_const, false_and, and_false, false_implies, not_false_eq_true, not_true_eq_false, decide_true, decide_false, decide_eq_true_eq, decide_eq_false_iff_not, isi_none_int, isi_none_bool, isi_none_str, isi_none_tuple, isi_none_list, isi_none_list_tuple, isi_none_tuple_list, isi_bl_int, isi_bl_bool, isi_bl_str, isi_bl_tuple, isi_bl_list, isi_bl_list_tuple, isi_bl_tuple_list, isi_int_int, isi_int_bool, isi_int_str, isi_int_tuple, isi_int_list, isi_int_list_tuple, isi_int_tuple_list, isi_str_int, isi_str_bool, isi_str_str, isi_str_tuple, isi_str_list, isi_str_list_tuple, isi_str_tuple_list, isi_tup_int, isi_tup_bool, isi_tup_str, isi_tup_tuple, isi_tup_list, isi_tup_list_tuple, isi_tup_tuple_list, isi_lst_int, isi_lst_bool, isi_lst_str, isi_lst_tuple, isi_lst_list, isi_lst_list_tuple, isi_lst_tuple_list, cmp_eq_ii, cmp_ne_ii, cmp_eq_bb, cmp_ne_bb, cmp_lt, cmp_le, cmp_gt, cmp_ge, cmp_ni_ii, still, T5.still]
        refine ⟨c ++ [f], st5, _, by rw [List.map_append]; rfl, fun j hj => ?_, T5, rfl⟩
        rcases List.mem_append.mp hj with hj | hj
        · exact hc j hj
        · rw [List.mem_singleton.mp hj]; exact f0
      · refine ⟨c ++ [0], st', _, by rw [List.map_append]; rfl, fun j hj => ?_, T', rfl⟩
        rcases List.mem_append.mp hj with hj | hj
        · exact hc j hj
        · rw [List.mem_singleton.mp hj]; decide
    · rintro acc s' hacc ⟨c, st', x5, rfl, hc, T', rfl⟩
      try simp -implicitDefEqProofs only [wp_bind, wp_pure, wp_bad, wp_getS, wp_asB, wp_slotOpd, wp_rdSlot, wp_rdVar, wp_rdRet, wp_resV, wp_resS, wp_ress0, wp_ress, wp_setR, wp_setρ, wp_call, wp_setAt, wp_opd, wp_dat, wp_shr, wp_ownL, wp_popAt, wp_popLast, wp_app, wp_ins, wp_bindTup, wp_bindTs0, wp_bindTs, wp_bindNm, wp_blk, w_var, w_con, w_tup, w_lst, w_shr, w_bin, w_cmp, w_idx, w_cmp2, w_and2, w_or2, w_not1, w_ife, w_sli, w_call, w_blt, w_isi, w_lc, w_popk, w_popl, w_isN, w_neg, Z.w_rev, w_part0, w_part1, w_ds0, w_ds, w_os0, w_os, w_cs0, w_cs, line, w_asg, w_asgT, w_aug, w_setI, w_augI, w_lc2, w_app, w_ins, w_ext, w_expr, w_ret, w_retN, w_if, w_forE, w_whil, w_brk, w_cont, w_pass, w_ss0, w_ss, fw_nx, fw_brk, fw_cont, fw_ret, nn_none, nn_int, nn_bl, nn_str, nn_tup, nn_lst, ol_lst, op_some, op_none, op_ite, ob_bl, oi_int, sl_pu, sl_ow, al_ow, al_obj, so_lst, opdV, retV, endQ, letgo, ite_self, ixN_3_0, ixN_3_1, ixN_3_2, atI_0, atI_1, atI_2, atI_3, List.getElem?_cons_zero, List.getElem?_cons_succ, List.set_cons_zero, List.set_cons_succ, List.length_cons, List.length_nil, List.length_map, Option.bind_some, Option.map_some, List.nil_append, List.cons_append, List.length_singleton, Nat.zero_add, Nat.reduceAdd, Nat.reduceLT, Nat.reduceLeDiff, Nat.zero_le, if_false, if_true, Bool.false_eq_true, Bool.true_eq_false, Bool.not_true, Bool.not_false, reduceCtorEq, true_and, and_true, forall_const, false_and, and_false, false_implies, not_false_eq_true, not_true_eq_false, decide_true, decide_false, decide_eq_true_eq, decide_eq_false_iff_not, isi_none_int, isi_none_bool, isi_none_str, isi_none_tuple, isi_none_list, isi_none_list_tuple, isi_none_tuple_list, isi_bl_int, isi_bl_bool, isi_bl_str, isi_bl_tuple, isi_bl_list, isi_bl_list_tuple, isi_bl_tuple_list, isi_int_int, isi_int_bool, isi_int_str, isi_int_tuple, isi_int_list, isi_int_list_tuple, isi_int_tuple_list, isi_str_int, isi_str_bool, isi_str_str, isi_str_tuple, isi_str_list, isi_str_list_tuple, isi_str_tuple_list, isi_tup_int, isi_tup_bool, isi_tup_str, isi_tup_tuple, isi_tup_list, isi_tup_list_tuple, isi_tup_tuple_list, isi_lst_int, isi_lst_bool, isi_lst_str, isi_lst_tuple, isi_lst_list, isi_lst_list_tuple, isi_lst_tuple_list, cmp_eq_ii, cmp_ne_ii, cmp_eq_bb, cmp_ne_bb, cmp_lt, cmp_le, cmp_gt, cmp_ge, cmp_ni_ii, unwipe, List.foldr_cons, List.foldr_nil, bltD, on1, tupleD]
      exact fin hs T' (Cn.of (by simpa using hacc) hc)
theorem law_true (ns : List Int) (_ : ns.length ≤ 63) : ∃ st, callF fns wf 120 id_law [.scr ns] [] = .ok (.bl true, false) st := by
  obtain ⟨a, st, e, rfl⟩ := (law_holds ns).get
  exact ⟨st, e⟩
end G

namespace G
open PySem PySem.Spec PyProof.Rows L2 Z
def fa : List He.Fa := [.glo "crooked_at", .glo "choices", .glo "count_of", .glo "can_come", .glo "all_straight", .glo "_law_draw", .glo "_law_like", .glo "_law_size", .glo "_law_a_bracket", .glo "_law_a_product", .glo "_law_choices", .glo "_law_straight", .glo "_law_counts", .glo "_law_less", .glo "_law_due", .glo "law", .free "all", .free "bool", .free "isinstance", .free "len", .free "list", .free "range", .free "sorted", .free "sum", .free "tuple", .int "MOST" 4, .int "POINTS" 8]
def d_crooked_at : He.DefD := ⟨("crooked_at", none), "crooked_at", "crooked_at", defArgs s_crooked_at, defBody s_crooked_at, defScope s_crooked_at, [], []⟩
def d_choices : He.DefD := ⟨("choices", none), "choices", "choices", defArgs s_choices, defBody s_choices, defScope s_choices, [], []⟩
def d_count_of : He.DefD := ⟨("count_of", none), "count_of", "count_of", defArgs s_count_of, defBody s_count_of, defScope s_count_of, [], []⟩
def d_can_come : He.DefD := ⟨("can_come", none), "can_come", "can_come", defArgs s_can_come, defBody s_can_come, defScope s_can_come, [], []⟩
def d_all_straight : He.DefD := ⟨("all_straight", none), "all_straight", "all_straight", defArgs s_all_straight, defBody s_all_straight, defScope s_all_straight, [], [("size", .int 3)]⟩
def d__law_draw : He.DefD := ⟨("_law_draw", none), "_law_draw", "_law_draw", defArgs s__law_draw, defBody s__law_draw, defScope s__law_draw, [], []⟩
def d__law_like : He.DefD := ⟨("_law_like", none), "_law_like", "_law_like", defArgs s__law_like, defBody s__law_like, defScope s__law_like, [], []⟩
def d__law_size : He.DefD := ⟨("_law_size", none), "_law_size", "_law_size", defArgs s__law_size, defBody s__law_size, defScope s__law_size, [], []⟩
def d__law_a_bracket : He.DefD := ⟨("_law_a_bracket", none), "_law_a_bracket", "_law_a_bracket", defArgs s__law_a_bracket, defBody s__law_a_bracket, defScope s__law_a_bracket, [], []⟩
def d__law_a_product : He.DefD := ⟨("_law_a_product", none), "_law_a_product", "_law_a_product", defArgs s__law_a_product, defBody s__law_a_product, defScope s__law_a_product, [], []⟩
def d__law_choices : He.DefD := ⟨("_law_choices", none), "_law_choices", "_law_choices", defArgs s__law_choices, defBody s__law_choices, defScope s__law_choices, [], []⟩
def d__law_straight : He.DefD := ⟨("_law_straight", none), "_law_straight", "_law_straight", defArgs s__law_straight, defBody s__law_straight, defScope s__law_straight, [], []⟩
def d__law_counts : He.DefD := ⟨("_law_counts", none), "_law_counts", "_law_counts", defArgs s__law_counts, defBody s__law_counts, defScope s__law_counts, [], []⟩
def d__law_less : He.DefD := ⟨("_law_less", none), "_law_less", "_law_less", defArgs s__law_less, defBody s__law_less, defScope s__law_less, [], []⟩
def d__law_due : He.DefD := ⟨("_law_due", none), "_law_due", "_law_due", defArgs s__law_due, defBody s__law_due, defScope s__law_due, [], []⟩
def d_law : He.DefD := ⟨("law", none), "law", "law", defArgs s_law, defBody s_law, defScope s_law, [], []⟩
def fn : List He.DefD := [d_crooked_at, d_choices, d_count_of, d_can_come, d_all_straight, d__law_draw, d__law_like, d__law_size, d__law_a_bracket, d__law_a_product, d__law_choices, d__law_straight, d__law_counts, d__law_less, d__law_due, d_law]
theorem sc_crooked_at : FnScope ["one", "two", "k"] ["one", "two"] (defScope s_crooked_at) := ⟨rfl, rfl, rfl, by decide +kernel, rfl, by decide +kernel, by decide +kernel⟩
theorem sc_choices : FnScope ["row", "many", "found", "point", "chosen"] ["row", "many"] (defScope s_choices) := ⟨rfl, rfl, rfl, by decide +kernel, rfl, by decide +kernel, by decide +kernel⟩
theorem sc_count_of : FnScope ["product", "found", "bracket", "point"] ["product"] (defScope s_count_of) := ⟨rfl, rfl, rfl, by decide +kernel, rfl, by decide +kernel, by decide +kernel⟩
theorem sc_can_come : FnScope ["product", "bracket", "counts", "used", "left", "point"] ["product", "bracket", "counts"] (defScope s_can_come) := ⟨rfl, rfl, rfl, by decide +kernel, rfl, by decide +kernel, by decide +kernel⟩
theorem sc_all_straight : FnScope ["counts", "size", "total", "brackets", "found", "turn", "pairs", "product", "bracket"] ["counts", "size"] (defScope s_all_straight) := ⟨rfl, rfl, rfl, by decide +kernel, rfl, by decide +kernel, by decide +kernel⟩
theorem sc__law_draw : FnScope ["tape", "many", "prime", "cell", "found"] ["tape", "many"] (defScope s__law_draw) := ⟨rfl, rfl, rfl, by decide +kernel, rfl, by decide +kernel, by decide +kernel⟩
theorem sc__law_like : FnScope ["one", "two", "k"] ["one", "two"] (defScope s__law_like) := ⟨rfl, rfl, rfl, by decide +kernel, rfl, by decide +kernel, by decide +kernel⟩
theorem sc__law_size : FnScope ["tape"] ["tape"] (defScope s__law_size) := ⟨rfl, rfl, rfl, by decide +kernel, rfl, by decide +kernel, by decide +kernel⟩
theorem sc__law_a_bracket : FnScope ["tape", "big", "points", "left", "found", "k"] ["tape", "big", "points"] (defScope s__law_a_bracket) := ⟨rfl, rfl, rfl, by decide +kernel, rfl, by decide +kernel, by decide +kernel⟩
theorem sc__law_a_product : FnScope ["tape", "big", "points", "most", "k"] ["tape", "big", "points", "most"] (defScope s__law_a_product) := ⟨rfl, rfl, rfl, by decide +kernel, rfl, by decide +kernel, by decide +kernel⟩
theorem sc__law_choices : FnScope ["pool", "many", "found", "at", "rest"] ["pool", "many"] (defScope s__law_choices) := ⟨rfl, rfl, rfl, by decide +kernel, rfl, by decide +kernel, by decide +kernel⟩
theorem sc__law_straight : FnScope ["product", "k", "j"] ["product"] (defScope s__law_straight) := ⟨rfl, rfl, rfl, by decide +kernel, rfl, by decide +kernel, by decide +kernel⟩
theorem sc__law_counts : FnScope ["product", "found", "bracket", "k"] ["product"] (defScope s__law_counts) := ⟨rfl, rfl, rfl, by decide +kernel, rfl, by decide +kernel, by decide +kernel⟩
theorem sc__law_less : FnScope ["counts", "bracket", "k"] ["counts", "bracket"] (defScope s__law_less) := ⟨rfl, rfl, rfl, by decide +kernel, rfl, by decide +kernel, by decide +kernel⟩
theorem sc__law_due : FnScope ["counts", "big", "brackets", "most", "found", "bracket", "k", "rest"] ["counts", "big", "brackets", "most"] (defScope s__law_due) := ⟨rfl, rfl, rfl, by decide +kernel, rfl, by decide +kernel, by decide +kernel⟩
theorem sc_law : FnScope ["script", "tape", "here", "way", "counts", "k", "due", "points", "found"] ["script"] (defScope s_law) := ⟨rfl, rfl, rfl, by decide +kernel, rfl, by decide +kernel, by decide +kernel⟩
def cls : Nat → Value := fun _ => .none
section
variable {P : Program} {w : World} {K : PySem.W.Frag} {mg : Str → Option Value} {base : Heap}
theorem ok_crooked_at {f : Addr} {fd : FuncData} (n : Nat) (F : FunD K "crooked_at" "crooked_at" (defArgs s_crooked_at) (defBody s_crooked_at) (defScope s_crooked_at) (d_crooked_at.dvs K) (d_crooked_at.kws K) f fd) (m_len : mg "len" = none) (m_range : mg "range" = none) :
    FnOk P w K mg base CX0 (n + 1) f fd ["one", "two"] (spz K cls (callF fns wf (n + 1)) 0 2) := by
  refine fn_ok (fnd := ⟨3, 2, b_crooked_at⟩) F sc_crooked_at rfl rfl rfl fun cdv A outer s H E hr => PSs.nox ?_
  have hu := hu_room hr
  exact (psz_cons (psz_for PassesOwn.never rfl (piz_rng1 rfl m_range (pd_cons (pz_len rfl m_len (pos_cons (po_var 0) pos_nil)) pd_nil)) (pgz_nm 2 sc_crooked_at.nd)
  (psz_cons (psz_if (pt_cmpz hu rfl (Tr.opd (pz_idx (po_var 0) (po_var 2))) (Tr.opd (pz_idx (po_var 1) (po_var 2))))
  (psz_cons (psz_ret (prz_var 2))
  psz_nil)
  psz_nil)
  psz_nil))
  (psz_cons (psz_ret (prz_of (by intro _; rfl) pz_non))
  psz_nil))
theorem ok_choices {f : Addr} {fd : FuncData} (n : Nat) (F : FunD K "choices" "choices" (defArgs s_choices) (defBody s_choices) (defScope s_choices) (d_choices.dvs K) (d_choices.kws K) f fd) (m_len : mg "len" = none) (m_sorted : mg "sorted" = none) :
    FnOk P w K mg base CX0 (n + 1) f fd ["row", "many"] (spz K cls (callF fns wf (n + 1)) 1 2) := by
  refine fn_ok (fnd := ⟨5, 2, b_choices⟩) F sc_choices rfl rfl rfl fun cdv A outer s H E hr => PSs.nox ?_
  have hu := hu_room hr
  exact (psz_cons (psz_asg (i := 2) sc_choices.nd rfl (Or.inl rfl) (pz_lst (pd_cons (pz_tup pd_nil) pd_nil)))
  (psz_cons (psz_for PassesOwn.never rfl (piz_seq (pz_var 0)) (pgz_nm 3 sc_choices.nd)
  (psz_cons (psz_asg (i := 2) sc_choices.nd rfl (Or.inl rfl) (pz_bin rfl (po_var 2) (Tr.opd (pz_lc (own := [("chosen", 4)]) rfl sc_choices.nd (piz_seq (pz_var 2)) (blkOk_by (N := ["row", "many", "found", "point", "chosen"]) (sc := defScope s_choices) (by decide +kernel)) (fun _ _ _ _ _ => (pgz_nm 4 sc_choices.nd)) (fun _ _ _ _ _ => (ptz_one (pt_cmpz hu rfl (Tr.opd (pz_len rfl m_len (pos_cons (po_var 4) pos_nil))) (po_var 1)))) (fun _ _ _ _ _ => (pz_bin rfl (po_var 4) (Tr.opd (pz_tup (pd_cons (pz_var 3) pd_nil)))))))))
  psz_nil))
  (psz_cons (psz_ret (prz_of (by intro _; rfl) (pz_sorted hu rfl m_sorted (pos_cons (Tr.opd (pz_lc (own := [("chosen", 4)]) rfl sc_choices.nd (piz_seq (pz_var 2)) (blkOk_by (N := ["row", "many", "found", "point", "chosen"]) (sc := defScope s_choices) (by decide +kernel)) (fun _ _ _ _ _ => (pgz_nm 4 sc_choices.nd)) (fun _ _ _ _ _ => (ptz_one (pt_cmpz hu rfl (Tr.opd (pz_len rfl m_len (pos_cons (po_var 4) pos_nil))) (po_var 1)))) (fun _ _ _ _ _ => (pz_var 4)))) pos_nil))))
  psz_nil)))
theorem ok_count_of {f : Addr} {fd : FuncData} (n : Nat) (F : FunD K "count_of" "count_of" (defArgs s_count_of) (defBody s_count_of) (defScope s_count_of) (d_count_of.dvs K) (d_count_of.kws K) f fd) {t_POINTS : Tok} (k_POINTS : mg "POINTS" = some (.int 8 t_POINTS)) :
    FnOk P w K mg base CX0 (n + 1) f fd ["product"] (spz K cls (callF fns wf (n + 1)) 2 1) := by
  refine fn_ok (fnd := ⟨4, 1, b_count_of⟩) F sc_count_of rfl rfl rfl fun cdv A outer s H E hr => PSs.nox ?_
  have hu := hu_room hr
  exact (psz_cons (psz_asg (i := 1) sc_count_of.nd rfl (Or.inl rfl) (pz_bin rfl (Tr.opd (pz_lst (pd_cons pz_int pd_nil))) (Tr.opd (pz_globI rfl k_POINTS))))
  (psz_cons (psz_for PassesOwn.never rfl (piz_seq (pz_var 0)) (pgz_nm 2 sc_count_of.nd)
  (psz_cons (psz_for PassesOwn.never rfl (piz_seq (pz_var 2)) (pgz_nm 3 sc_count_of.nd)
  (psz_cons (psz_augI (.inl ⟨rfl, rfl⟩) (po_var 1) (pz_var 3) pz_int)
  psz_nil))
  psz_nil))
  (psz_cons (psz_ret (prz_var 1))
  psz_nil)))
theorem ok_can_come {f : Addr} {fd : FuncData} (n : Nat) (F : FunD K "can_come" "can_come" (defArgs s_can_come) (defBody s_can_come) (defScope s_can_come) (d_can_come.dvs K) (d_can_come.kws K) f fd) (m_all : mg "all" = none) (m_range : mg "range" = none) {t_POINTS : Tok} (k_POINTS : mg "POINTS" = some (.int 8 t_POINTS)) (C0 : CallOkP P w K mg base CX0 cls (callF fns wf n) n 0 "crooked_at" 2 2 []) (C1 : CallOkP P w K mg base CX0 cls (callF fns wf n) n 2 "count_of" 1 1 []) :
    FnOk P w K mg base CX0 (n + 1) f fd ["product", "bracket", "counts"] (spz K cls (callF fns wf (n + 1)) 3 3) := by
  refine fn_ok (fnd := ⟨6, 3, b_can_come⟩) F sc_can_come rfl rfl rfl fun cdv A outer s H E hr => PSs.nox ?_
  have hu := hu_room hr
  exact (psz_cons (psz_if (PW.pt (pw_andz (pt_cmpz hu rfl (po_var 0) (Tr.opd (pz_tup pd_nil))) (pw_one_and (pt_notN (Tr.opd (pz_call C0 rfl hr rfl pass0E (wE_E) (pos_cons (Tr.opd (pz_idx (po_var 0) (Tr.opd (pz_neg pz_int)))) (pos_cons (po_var 1) pos_nil))))))))
  (psz_cons (psz_ret (prz_of (by intro _; rfl) pz_bl))
  psz_nil)
  psz_nil)
  (psz_cons (psz_asg (i := 3) sc_can_come.nd rfl (Or.inr rfl) (pz_call C1 rfl hr rfl pass0E (wE_E) (pos_cons (po_var 0) pos_nil)))
  (psz_cons (psz_asg (i := 4) sc_can_come.nd rfl (Or.inr rfl) (pz_lc (own := [("point", 5)]) rfl sc_can_come.nd (piz_rng1 rfl m_range (pd_cons (pz_globI rfl k_POINTS) pd_nil)) (blkOk_by (N := ["product", "bracket", "counts", "used", "left", "point"]) (sc := defScope s_can_come) (by decide +kernel)) (fun _ _ _ _ _ => (pgz_nm 5 sc_can_come.nd)) (fun _ _ _ _ _ => (ptz_one (pt_cmpz hu rfl (Tr.opd (pz_idx (po_var 3) (po_var 5))) (Tr.opd (pz_idx (po_var 2) (po_var 5)))))) (fun _ _ _ _ _ => (pz_var 5))))
  (psz_cons (psz_ret (prz_of (by intro _; rfl) (pz_and (pz_cmp hu rfl (Tr.opd (pz_idx (po_var 1) (Tr.opd pz_int))) (Tr.opd (pz_idx (po_var 4) (Tr.opd pz_int)))) (pz_one (pz_all rfl rfl m_all (pos_cons (Tr.opd (pz_lc (own := [("point", 5)]) rfl sc_can_come.nd (piz_seq (pz_var 1)) (blkOk_by (N := ["product", "bracket", "counts", "used", "left", "point"]) (sc := defScope s_can_come) (by decide +kernel)) (fun _ _ _ _ _ => (pgz_nm 5 sc_can_come.nd)) (fun _ _ _ _ _ => ptz_nil) (fun _ _ _ _ _ => (pz_cmp hu rfl (po_var 5) (po_var 4))))) pos_nil))))))
  psz_nil))))
theorem ok_all_straight {f : Addr} {fd : FuncData} (n : Nat) (F : FunD K "all_straight" "all_straight" (defArgs s_all_straight) (defBody s_all_straight) (defScope s_all_straight) (d_all_straight.dvs K) (d_all_straight.kws K) f fd) (m_range : mg "range" = none) (m_sorted : mg "sorted" = none) (m_sum : mg "sum" = none) (m_tuple : mg "tuple" = none) {t_MOST : Tok} (k_MOST : mg "MOST" = some (.int 4 t_MOST)) {t_POINTS : Tok} (k_POINTS : mg "POINTS" = some (.int 8 t_POINTS)) (C2 : CallOkP P w K mg base CX0 cls (callF fns wf n) n 1 "choices" 2 2 []) (C3 : CallOkP P w K mg base CX0 cls (callF fns wf n) n 3 "can_come" 3 3 []) :
    FnOk P w K mg base CX0 (n + 1) f fd ["counts", "size"] (spz K cls (callF fns wf (n + 1)) 4 2) := by
  refine fn_ok (fnd := ⟨9, 2, b_all_straight⟩) F sc_all_straight rfl rfl rfl fun cdv A outer s H E hr => PSs.nox ?_
  have hu := hu_room hr
  exact (psz_cons (psz_asg (i := 2) sc_all_straight.nd rfl (Or.inl rfl) (pz_sum rfl rfl m_sum (pos_cons (po_var 0) pos_nil)))
  (psz_cons (psz_if (PW.pt (pw_orz (pt_cmpz hu rfl (Tr.opd (pz_bin rfl (po_var 2) (po_var 1))) (Tr.opd pz_int)) (pw_one_or (pt_cmpz hu rfl (po_var 2) (Tr.opd (pz_bin rfl (Tr.opd (pz_globI rfl k_MOST)) (po_var 1)))))))
  (psz_cons (psz_ret (prz_of (by intro _; rfl) (pz_lst pd_nil)))
  psz_nil)
  psz_nil)
  (psz_cons (psz_asg (i := 3) sc_all_straight.nd rfl (Or.inr rfl) (pz_call C2 rfl hr rfl pass0E (wE_E) (pos_cons (Tr.opd (pz_trg1 rfl rfl m_tuple rfl m_range (Tr.opd (pz_globI rfl k_POINTS)))) (pos_cons (po_var 1) pos_nil))))
  (psz_cons (psz_asg (i := 4) sc_all_straight.nd rfl (Or.inl rfl) (pz_lst (pd_cons (pz_tup pd_nil) pd_nil)))
  (psz_cons (psz_for PassesOwn.never rfl (piz_rng1 rfl m_range (pd_cons (pz_bin rfl (po_var 2) (po_var 1)) pd_nil)) (pgz_nm 5 sc_all_straight.nd)
  (psz_cons (psz_asgLc2 (own := [("product", 7), ("bracket", 8)]) rfl sc_all_straight.nd rfl rfl (sw_true rfl rfl rfl (by decide +kernel)) (piz_seq (pz_var 4)) (blkOk_by (N := ["counts", "size", "total", "brackets", "found", "turn", "pairs", "product", "bracket"]) (sc := defScope s_all_straight) (by decide +kernel)) (fun _ _ _ _ _ => (pgz_nm 7 sc_all_straight.nd)) (fun _ _ _ _ _ => ptz_nil) (fun _ _ _ _ _ => (piz_seq (pz_var 3))) (fun _ _ _ _ _ => (pgz_nm 8 sc_all_straight.nd)) (fun _ _ _ _ _ => ptz_nil) (fun _ _ _ _ _ => (pz_tup (pd_cons (pz_var 7) (pd_cons (pz_var 8) pd_nil)))))
  (psz_cons (psz_asgLc (own := [("product", 7), ("bracket", 8)]) rfl sc_all_straight.nd rfl rfl (sw_true rfl rfl rfl (by decide +kernel)) (piz_seq (pz_var 6)) (blkOk_by (N := ["counts", "size", "total", "brackets", "found", "turn", "pairs", "product", "bracket"]) (sc := defScope s_all_straight) (by decide +kernel)) (fun _ _ _ _ _ => (pgz_tup rfl (pgzs_cons (pgz_nm 7 sc_all_straight.nd) (pgzs_cons (pgz_nm 8 sc_all_straight.nd) pgzs_nil)))) (fun _ _ _ _ _ => (ptz_one (pt_of (pz_call C3 rfl hr rfl pass0E (wN_E (E := E0)) (pos_cons (po_var 7) (pos_cons (po_var 8) (pos_cons (po_var 0) pos_nil))))))) (fun _ _ _ _ _ => (pz_bin rfl (po_var 7) (Tr.opd (pz_tup (pd_cons (pz_var 8) pd_nil))))))
  psz_nil)))
  (psz_cons (psz_ret (prz_of (by intro _; rfl) (pz_sorted hu rfl m_sorted (pos_cons (po_var 4) pos_nil))))
  psz_nil))))))
theorem ok__law_draw {f : Addr} {fd : FuncData} (n : Nat) (F : FunD K "_law_draw" "_law_draw" (defArgs s__law_draw) (defBody s__law_draw) (defScope s__law_draw) (d__law_draw.dvs K) (d__law_draw.kws K) f fd) (m_len : mg "len" = none) :
    FnOk P w K mg base CX0 (n + 1) f fd ["tape", "many"] (spz K cls (callF fns wf (n + 1)) 5 2) := by
  refine fn_ok (fnd := ⟨5, 2, b__law_draw⟩) F sc__law_draw rfl rfl rfl fun cdv A outer s H E hr => PSs.nox ?_
  have hu := hu_room hr
  exact (psz_cons (psz_asg (i := 2) sc__law_draw.nd rfl (Or.inl rfl) pz_int)
  (psz_cons (psz_if (pt_cmpz hu rfl (Tr.opd (pz_idx (po_var 0) (Tr.opd pz_int))) (po_var 1))
  (psz_cons (psz_asg (i := 3) sc__law_draw.nd rfl (Or.inl rfl) pz_int)
  (psz_cons (psz_if (pt_cmpz hu rfl (Tr.opd (pz_len rfl m_len (pos_cons (Tr.opd (pz_idx (po_var 0) (Tr.opd pz_int))) pos_nil))) (Tr.opd pz_int))
  (psz_cons (psz_asg (i := 3) sc__law_draw.nd rfl (Or.inl rfl) (pz_idx (Tr.opd (pz_idx (po_var 0) (Tr.opd pz_int))) (Tr.opd (pz_bin rfl (Tr.opd (pz_idx (po_var 0) (Tr.opd pz_int))) (Tr.opd (pz_len rfl m_len (pos_cons (Tr.opd (pz_idx (po_var 0) (Tr.opd pz_int))) pos_nil)))))))
  psz_nil)
  psz_nil)
  (psz_cons (psz_if (PW.pt (pw_orz (pt_cmpz hu rfl (Tr.opd (pz_idx (po_var 0) (Tr.opd pz_int))) (Tr.opd (pz_len rfl m_len (pos_cons (Tr.opd (pz_idx (po_var 0) (Tr.opd pz_int))) pos_nil)))) (pw_one_or (pt_cmpz hu rfl (po_var 3) (Tr.opd (pz_bin rfl (Tr.opd pz_int) (Tr.opd pz_int)))))))
  (psz_cons (psz_asg (i := 3) sc__law_draw.nd rfl (Or.inl rfl) (pz_bin rfl (Tr.opd (pz_bin rfl (po_var 3) (Tr.opd (pz_bin rfl (Tr.opd pz_int) (Tr.opd (pz_idx (po_var 0) (Tr.opd pz_int))))))) (po_var 2)))
  (psz_cons (psz_asg (i := 3) sc__law_draw.nd rfl (Or.inl rfl) (pz_bin rfl (Tr.opd (pz_bin rfl (Tr.opd (pz_bin rfl (Tr.opd (pz_bin rfl (po_var 3) (po_var 3))) (Tr.opd (pz_bin rfl (Tr.opd pz_int) (po_var 3))))) (Tr.opd pz_int))) (po_var 2)))
  (psz_cons (psz_asg (i := 3) sc__law_draw.nd rfl (Or.inl rfl) (pz_bin rfl (Tr.opd (pz_bin rfl (Tr.opd (pz_bin rfl (po_var 3) (po_var 3))) (Tr.opd pz_int))) (po_var 2)))
  psz_nil)))
  psz_nil)
  (psz_cons (psz_setI (pz_bin rfl (Tr.opd (pz_idx (po_var 0) (Tr.opd pz_int))) (Tr.opd pz_int)) (po_var 0) pz_int)
  (psz_cons (psz_setI (pz_var 3) (po_var 0) pz_int)
  psz_nil)))))
  psz_nil)
  (psz_cons (psz_asg (i := 4) sc__law_draw.nd rfl (Or.inl rfl) (pz_bin rfl (Tr.opd (pz_idx (po_var 0) (Tr.opd pz_int))) (po_var 1)))
  (psz_cons (psz_setI (pz_bin rfl (Tr.opd (pz_idx (po_var 0) (Tr.opd pz_int))) (po_var 1)) (po_var 0) pz_int)
  (psz_cons (psz_ret (prz_var 4))
  psz_nil)))))
theorem ok__law_like {f : Addr} {fd : FuncData} (n : Nat) (F : FunD K "_law_like" "_law_like" (defArgs s__law_like) (defBody s__law_like) (defScope s__law_like) (d__law_like.dvs K) (d__law_like.kws K) f fd) (m_bool : mg "bool" = none) (m_isinstance : mg "isinstance" = none) (m_len : mg "len" = none) (m_list : mg "list" = none) (m_range : mg "range" = none) (m_tuple : mg "tuple" = none) (C4 : CallOkP P w K mg base CX0 cls (callF fns wf n) n 6 "_law_like" 2 2 []) :
    FnOk P w K mg base CX0 (n + 1) f fd ["one", "two"] (spz K cls (callF fns wf (n + 1)) 6 2) := by
  refine fn_ok (fnd := ⟨3, 2, b__law_like⟩) F sc__law_like rfl rfl rfl fun cdv A outer s H E hr => PSs.nox ?_
  have hu := hu_room hr
  exact (psz_cons (psz_if (pt_of (pz_isiT rfl m_isinstance (po_var 0) (.cons (pty rfl m_list) (.cons (pty rfl m_tuple) .nil rfl) rfl)))
  (psz_cons (psz_if (PW.pt (pw_orz (pt_cmpz hu rfl (Tr.opd (pz_isi rfl m_isinstance (po_var 0) (pty rfl m_list))) (Tr.opd (pz_isi rfl m_isinstance (po_var 1) (pty rfl m_list)))) (pw_one_or (pt_cmpz hu rfl (Tr.opd (pz_isi rfl m_isinstance (po_var 0) (pty rfl m_tuple))) (Tr.opd (pz_isi rfl m_isinstance (po_var 1) (pty rfl m_tuple)))))))
  (psz_cons (psz_ret (prz_of (by intro _; rfl) pz_bl))
  psz_nil)
  psz_nil)
  (psz_cons (psz_if (pt_cmpz hu rfl (Tr.opd (pz_len rfl m_len (pos_cons (po_var 0) pos_nil))) (Tr.opd (pz_len rfl m_len (pos_cons (po_var 1) pos_nil))))
  (psz_cons (psz_ret (prz_of (by intro _; rfl) pz_bl))
  psz_nil)
  psz_nil)
  (psz_cons (psz_ret (prz_of (by intro _; rfl) (pz_cmp hu rfl (Tr.opd (pz_lc (own := [("k", 2)]) rfl sc__law_like.nd (piz_rng1 rfl m_range (pd_cons (pz_len rfl m_len (pos_cons (po_var 0) pos_nil)) pd_nil)) (blkOk_by (N := ["one", "two", "k"]) (sc := defScope s__law_like) (by decide +kernel)) (fun _ _ _ _ _ => (pgz_nm 2 sc__law_like.nd)) (fun _ _ _ _ _ => (ptz_one (pt_notz (pt_of (pz_call C4 rfl hr rfl pass0E (wN_E (E := E0)) (pos_cons (Tr.opd (pz_idx (po_var 0) (po_var 2))) (pos_cons (Tr.opd (pz_idx (po_var 1) (po_var 2))) pos_nil))))))) (fun _ _ _ _ _ => (pz_var 2)))) (Tr.opd (pz_lst pd_nil)))))
  psz_nil)))
  psz_nil)
  (psz_cons (psz_if (pt_of (pz_isiT rfl m_isinstance (po_var 1) (.cons (pty rfl m_list) (.cons (pty rfl m_tuple) .nil rfl) rfl)))
  (psz_cons (psz_ret (prz_of (by intro _; rfl) pz_bl))
  psz_nil)
  psz_nil)
  (psz_cons (psz_ret (prz_of (by intro _; rfl) (pz_and (pz_cmp hu rfl (Tr.opd (pz_isi rfl m_isinstance (po_var 0) (pty rfl m_bool))) (Tr.opd (pz_isi rfl m_isinstance (po_var 1) (pty rfl m_bool)))) (pz_one (pz_cmp hu rfl (po_var 0) (po_var 1))))))
  psz_nil)))
theorem ok__law_size {f : Addr} {fd : FuncData} (n : Nat) (F : FunD K "_law_size" "_law_size" (defArgs s__law_size) (defBody s__law_size) (defScope s__law_size) (d__law_size.dvs K) (d__law_size.kws K) f fd) (C5 : CallOkP P w K mg base CX0 cls (callF fns wf n) n 5 "_law_draw" 2 2 []) :
    FnOk P w K mg base CX0 (n + 1) f fd ["tape"] (spz K cls (callF fns wf (n + 1)) 7 1) := by
  refine fn_ok (fnd := ⟨1, 1, b__law_size⟩) F sc__law_size rfl rfl rfl fun cdv A outer s H E hr => PSs.nox ?_
  have hu := hu_room hr
  exact (psz_cons (psz_ret (prz_of (by intro _; rfl) (pz_bin rfl (Tr.opd pz_int) (Tr.opd (pz_call C5 rfl hr rfl pass0E (wE_E) (pos_cons (po_var 0) (pos_cons (Tr.opd pz_int) pos_nil)))))))
  psz_nil)
theorem ok__law_a_bracket {f : Addr} {fd : FuncData} (n : Nat) (F : FunD K "_law_a_bracket" "_law_a_bracket" (defArgs s__law_a_bracket) (defBody s__law_a_bracket) (defScope s__law_a_bracket) (d__law_a_bracket.dvs K) (d__law_a_bracket.kws K) f fd) (m_len : mg "len" = none) (m_list : mg "list" = none) (m_range : mg "range" = none) (m_sorted : mg "sorted" = none) (m_tuple : mg "tuple" = none) (C5 : CallOkP P w K mg base CX0 cls (callF fns wf n) n 5 "_law_draw" 2 2 []) :
    FnOk P w K mg base CX0 (n + 1) f fd ["tape", "big", "points"] (spz K cls (callF fns wf (n + 1)) 8 3) := by
  refine fn_ok (fnd := ⟨6, 3, b__law_a_bracket⟩) F sc__law_a_bracket rfl rfl rfl fun cdv A outer s H E hr => PSs.nox ?_
  have hu := hu_room hr
  exact (psz_cons (psz_asg (i := 3) sc__law_a_bracket.nd rfl (Or.inr rfl) (pz_lrg1 rfl rfl m_list rfl m_range (po_var 2)))
  (psz_cons (psz_asgLc (own := [("k", 5)]) rfl sc__law_a_bracket.nd rfl rfl (sw_true rfl rfl rfl (by decide +kernel)) (piz_rng1 rfl m_range (pd_cons (pz_var 1) pd_nil)) (blkOk_by (N := ["tape", "big", "points", "left", "found", "k"]) (sc := defScope s__law_a_bracket) (by decide +kernel)) (fun _ _ _ _ _ => (pgz_nm 5 sc__law_a_bracket.nd)) (fun _ _ _ _ _ => ptz_nil) (fun _ _ _ _ _ => (pz_popk (pv 3) (pz_call C5 rfl hr rfl pass0E (wN_E (E := E0)) (pos_cons (po_var 0) (pos_cons (Tr.opd (pz_len rfl m_len (pos_cons (po_var 3) pos_nil))) pos_nil))))))
  (psz_cons (psz_ret (prz_of (by intro _; rfl) (pz_tuple rfl m_tuple (pos_cons (Tr.opd (pz_sorted hu rfl m_sorted (pos_cons (po_var 4) pos_nil))) pos_nil))))
  psz_nil)))
theorem ok__law_a_product {f : Addr} {fd : FuncData} (n : Nat) (F : FunD K "_law_a_product" "_law_a_product" (defArgs s__law_a_product) (defBody s__law_a_product) (defScope s__law_a_product) (d__law_a_product.dvs K) (d__law_a_product.kws K) f fd) (m_range : mg "range" = none) (m_sorted : mg "sorted" = none) (m_tuple : mg "tuple" = none) (C5 : CallOkP P w K mg base CX0 cls (callF fns wf n) n 5 "_law_draw" 2 2 []) (C6 : CallOkP P w K mg base CX0 cls (callF fns wf n) n 8 "_law_a_bracket" 3 3 []) :
    FnOk P w K mg base CX0 (n + 1) f fd ["tape", "big", "points", "most"] (spz K cls (callF fns wf (n + 1)) 9 4) := by
  refine fn_ok (fnd := ⟨5, 4, b__law_a_product⟩) F sc__law_a_product rfl rfl rfl fun cdv A outer s H E hr => PSs.nox ?_
  have hu := hu_room hr
  exact (psz_cons (psz_ret (prz_of (by intro _; rfl) (pz_tuple rfl m_tuple (pos_cons (Tr.opd (pz_sorted hu rfl m_sorted (pos_cons (Tr.opd (pz_lc (own := [("k", 4)]) rfl sc__law_a_product.nd (piz_rng1 rfl m_range (pd_cons (pz_call C5 rfl hr rfl pass0E (wE_E) (pos_cons (po_var 0) (pos_cons (Tr.opd (pz_bin rfl (po_var 3) (Tr.opd pz_int))) pos_nil))) pd_nil)) (blkOk_by (N := ["tape", "big", "points", "most", "k"]) (sc := defScope s__law_a_product) (by decide +kernel)) (fun _ _ _ _ _ => (pgz_nm 4 sc__law_a_product.nd)) (fun _ _ _ _ _ => ptz_nil) (fun _ _ _ _ _ => (pz_call C6 rfl hr rfl pass0E (wN_E (E := E0)) (pos_cons (po_var 0) (pos_cons (po_var 1) (pos_cons (po_var 2) pos_nil))))))) pos_nil))) pos_nil))))
  psz_nil)
theorem ok__law_choices {f : Addr} {fd : FuncData} (n : Nat) (F : FunD K "_law_choices" "_law_choices" (defArgs s__law_choices) (defBody s__law_choices) (defScope s__law_choices) (d__law_choices.dvs K) (d__law_choices.kws K) f fd) (m_len : mg "len" = none) (m_range : mg "range" = none) (C7 : CallOkP P w K mg base CX0 cls (callF fns wf n) n 10 "_law_choices" 2 2 []) :
    FnOk P w K mg base CX0 (n + 1) f fd ["pool", "many"] (spz K cls (callF fns wf (n + 1)) 10 2) := by
  refine fn_ok (fnd := ⟨5, 2, b__law_choices⟩) F sc__law_choices rfl rfl rfl fun cdv A outer s H E hr => PSs.nox ?_
  have hu := hu_room hr
  exact (psz_cons (psz_if (pt_cmpz hu rfl (po_var 1) (Tr.opd pz_int))
  (psz_cons (psz_ret (prz_of (by intro _; rfl) (pz_lst (pd_cons (pz_tup pd_nil) pd_nil))))
  psz_nil)
  psz_nil)
  (psz_cons (psz_asg (i := 2) sc__law_choices.nd rfl (Or.inl rfl) (pz_lst pd_nil))
  (psz_cons (psz_for PassesOwn.never rfl (piz_rng1 rfl m_range (pd_cons (pz_len rfl m_len (pos_cons (po_var 0) pos_nil)) pd_nil)) (pgz_nm 3 sc__law_choices.nd)
  (psz_cons (psz_asg (i := 2) sc__law_choices.nd rfl (Or.inl rfl) (pz_bin rfl (po_var 2) (Tr.opd (pz_lc (own := [("rest", 4)]) rfl sc__law_choices.nd (piz_seq (pz_call C7 rfl hr rfl pass0E (wE_E) (pos_cons (Tr.opd (pz_sli (po_var 0) (po_soz (pz_bin rfl (po_var 3) (Tr.opd pz_int))) po_noz)) (pos_cons (Tr.opd (pz_bin rfl (po_var 1) (Tr.opd pz_int))) pos_nil)))) (blkOk_by (N := ["pool", "many", "found", "at", "rest"]) (sc := defScope s__law_choices) (by decide +kernel)) (fun _ _ _ _ _ => (pgz_nm 4 sc__law_choices.nd)) (fun _ _ _ _ _ => ptz_nil) (fun _ _ _ _ _ => (pz_bin rfl (Tr.opd (pz_tup (pd_cons (pz_idx (po_var 0) (po_var 3)) pd_nil))) (po_var 4)))))))
  psz_nil))
  (psz_cons (psz_ret (prz_var 2))
  psz_nil))))
theorem ok__law_straight {f : Addr} {fd : FuncData} (n : Nat) (F : FunD K "_law_straight" "_law_straight" (defArgs s__law_straight) (defBody s__law_straight) (defScope s__law_straight) (d__law_straight.dvs K) (d__law_straight.kws K) f fd) (m_len : mg "len" = none) (m_range : mg "range" = none) :
    FnOk P w K mg base CX0 (n + 1) f fd ["product"] (spz K cls (callF fns wf (n + 1)) 11 1) := by
  refine fn_ok (fnd := ⟨3, 1, b__law_straight⟩) F sc__law_straight rfl rfl rfl fun cdv A outer s H E hr => PSs.nox ?_
  have hu := hu_room hr
  exact (psz_cons (psz_for PassesOwn.never rfl (piz_rng2 rfl m_range (pd_cons pz_int (pd_cons (pz_len rfl m_len (pos_cons (po_var 0) pos_nil)) pd_nil))) (pgz_nm 1 sc__law_straight.nd)
  (psz_cons (psz_if (pt_cmpz hu rfl (Tr.opd (pz_lc (own := [("j", 2)]) rfl sc__law_straight.nd (piz_rng1 rfl m_range (pd_cons (pz_len rfl m_len (pos_cons (Tr.opd (pz_idx (po_var 0) (po_var 1))) pos_nil)) pd_nil)) (blkOk_by (N := ["product", "k", "j"]) (sc := defScope s__law_straight) (by decide +kernel)) (fun _ _ _ _ _ => (pgz_nm 2 sc__law_straight.nd)) (fun _ _ _ _ _ => (ptz_one (pt_cmpz hu rfl (Tr.opd (pz_idx (Tr.opd (pz_idx (po_var 0) (Tr.opd (pz_bin rfl (po_var 1) (Tr.opd pz_int))))) (po_var 2))) (Tr.opd (pz_idx (Tr.opd (pz_idx (po_var 0) (po_var 1))) (po_var 2)))))) (fun _ _ _ _ _ => (pz_var 2)))) (Tr.opd (pz_lst pd_nil)))
  (psz_cons (psz_ret (prz_of (by intro _; rfl) pz_bl))
  psz_nil)
  psz_nil)
  psz_nil))
  (psz_cons (psz_ret (prz_of (by intro _; rfl) pz_bl))
  psz_nil))
theorem ok__law_counts {f : Addr} {fd : FuncData} (n : Nat) (F : FunD K "_law_counts" "_law_counts" (defArgs s__law_counts) (defBody s__law_counts) (defScope s__law_counts) (d__law_counts.dvs K) (d__law_counts.kws K) f fd) (m_tuple : mg "tuple" = none) :
    FnOk P w K mg base CX0 (n + 1) f fd ["product"] (spz K cls (callF fns wf (n + 1)) 12 1) := by
  refine fn_ok (fnd := ⟨4, 1, b__law_counts⟩) F sc__law_counts rfl rfl rfl fun cdv A outer s H E hr => PSs.nox ?_
  have hu := hu_room hr
  exact (psz_cons (psz_asg (i := 1) sc__law_counts.nd rfl (Or.inl rfl) (pz_bin rfl (Tr.opd (pz_lst (pd_cons pz_int pd_nil))) (Tr.opd pz_int)))
  (psz_cons (psz_for PassesOwn.never rfl (piz_seq (pz_var 0)) (pgz_nm 2 sc__law_counts.nd)
  (psz_cons (psz_for PassesOwn.never rfl (piz_seq (pz_var 2)) (pgz_nm 3 sc__law_counts.nd)
  (psz_cons (psz_setI (pz_bin rfl (Tr.opd (pz_idx (po_var 1) (po_var 3))) (Tr.opd pz_int)) (po_var 1) (pz_var 3))
  psz_nil))
  psz_nil))
  (psz_cons (psz_ret (prz_of (by intro _; rfl) (pz_tuple rfl m_tuple (pos_cons (po_var 1) pos_nil))))
  psz_nil)))
theorem ok__law_less {f : Addr} {fd : FuncData} (n : Nat) (F : FunD K "_law_less" "_law_less" (defArgs s__law_less) (defBody s__law_less) (defScope s__law_less) (d__law_less.dvs K) (d__law_less.kws K) f fd) (m_range : mg "range" = none) (m_tuple : mg "tuple" = none) :
    FnOk P w K mg base CX0 (n + 1) f fd ["counts", "bracket"] (spz K cls (callF fns wf (n + 1)) 13 2) := by
  refine fn_ok (fnd := ⟨3, 2, b__law_less⟩) F sc__law_less rfl rfl rfl fun cdv A outer s H E hr => PSs.nox ?_
  have hu := hu_room hr
  exact (psz_cons (psz_ret (prz_of (by intro _; rfl) (pz_tuple rfl m_tuple (pos_cons (Tr.opd (pz_lc (own := [("k", 2)]) rfl sc__law_less.nd (piz_rng1 rfl m_range (pd_cons pz_int pd_nil)) (blkOk_by (N := ["counts", "bracket", "k"]) (sc := defScope s__law_less) (by decide +kernel)) (fun _ _ _ _ _ => (pgz_nm 2 sc__law_less.nd)) (fun _ _ _ _ _ => ptz_nil) (fun _ _ _ _ _ => (pz_bin rfl (Tr.opd (pz_idx (po_var 0) (po_var 2))) (Tr.opd (pz_ife (pt_cmpz hu rfl (po_var 2) (po_var 1)) pz_int pz_int)))))) pos_nil))))
  psz_nil)
theorem ok__law_due {f : Addr} {fd : FuncData} (n : Nat) (F : FunD K "_law_due" "_law_due" (defArgs s__law_due) (defBody s__law_due) (defScope s__law_due) (d__law_due.dvs K) (d__law_due.kws K) f fd) (m_sum : mg "sum" = none) (C8 : CallOkP P w K mg base CX0 cls (callF fns wf n) n 14 "_law_due" 4 4 []) (C9 : CallOkP P w K mg base CX0 cls (callF fns wf n) n 13 "_law_less" 2 2 []) (C10 : CallOkP P w K mg base CX0 cls (callF fns wf n) n 11 "_law_straight" 1 1 []) :
    FnOk P w K mg base CX0 (n + 1) f fd ["counts", "big", "brackets", "most"] (spz K cls (callF fns wf (n + 1)) 14 4) := by
  refine fn_ok (fnd := ⟨8, 4, b__law_due⟩) F sc__law_due rfl rfl rfl fun cdv A outer s H E hr => PSs.nox ?_
  have hu := hu_room hr
  exact (psz_cons (psz_if (pt_cmpz hu rfl (Tr.opd (pz_sum rfl rfl m_sum (pos_cons (po_var 0) pos_nil))) (Tr.opd pz_int))
  (psz_cons (psz_ret (prz_of (by intro _; rfl) (pz_lst (pd_cons (pz_tup pd_nil) pd_nil))))
  psz_nil)
  psz_nil)
  (psz_cons (psz_asg (i := 4) sc__law_due.nd rfl (Or.inl rfl) (pz_lst pd_nil))
  (psz_cons (psz_if (pt_cmpz hu rfl (po_var 3) (Tr.opd pz_int))
  (psz_cons (psz_ret (prz_var 4))
  psz_nil)
  psz_nil)
  (psz_cons (psz_for PassesOwn.never rfl (piz_seq (pz_var 2)) (pgz_nm 5 sc__law_due.nd)
  (psz_cons (psz_if (pt_cmpz hu rfl (Tr.opd (pz_lc (own := [("k", 6)]) rfl sc__law_due.nd (piz_seq (pz_var 5)) (blkOk_by (N := ["counts", "big", "brackets", "most", "found", "bracket", "k", "rest"]) (sc := defScope s__law_due) (by decide +kernel)) (fun _ _ _ _ _ => (pgz_nm 6 sc__law_due.nd)) (fun _ _ _ _ _ => (ptz_one (pt_cmpz hu rfl (Tr.opd (pz_idx (po_var 0) (po_var 6))) (Tr.opd pz_int)))) (fun _ _ _ _ _ => (pz_var 6)))) (Tr.opd (pz_lst pd_nil)))
  (psz_cons (psz_for PassesOwn.never rfl (piz_seq (pz_call C8 rfl hr rfl pass0E (wE_E) (pos_cons (Tr.opd (pz_call C9 rfl hr rfl pass0E (wE_E) (pos_cons (po_var 0) (pos_cons (po_var 5) pos_nil)))) (pos_cons (po_var 1) (pos_cons (po_var 2) (pos_cons (Tr.opd (pz_bin rfl (po_var 3) (Tr.opd pz_int))) pos_nil)))))) (pgz_nm 7 sc__law_due.nd)
  (psz_cons (psz_if (pt_of (pz_call C10 rfl hr rfl pass0E (wE_E) (pos_cons (Tr.opd (pz_bin rfl (Tr.opd (pz_tup (pd_cons (pz_var 5) pd_nil))) (po_var 7))) pos_nil)))
  (psz_cons (psz_app (pv 4) (pz_bin rfl (Tr.opd (pz_tup (pd_cons (pz_var 5) pd_nil))) (po_var 7)))
  psz_nil)
  psz_nil)
  psz_nil))
  psz_nil)
  psz_nil)
  psz_nil))
  (psz_cons (psz_ret (prz_var 4))
  psz_nil)))))
theorem ok_law {f : Addr} {fd : FuncData} (n : Nat) (F : FunD K "law" "law" (defArgs s_law) (defBody s_law) (defScope s_law) (d_law.dvs K) (d_law.kws K) f fd) (m_list : mg "list" = none) (m_range : mg "range" = none) (m_sorted : mg "sorted" = none) (m_sum : mg "sum" = none) (m_tuple : mg "tuple" = none) (C11 : CallOkP P w K mg base CX0 cls (callF fns wf n) n 7 "_law_size" 1 1 []) (C5 : CallOkP P w K mg base CX0 cls (callF fns wf n) n 5 "_law_draw" 2 2 []) (C12 : CallOkP P w K mg base CX0 cls (callF fns wf n) n 12 "_law_counts" 1 1 []) (C13 : CallOkP P w K mg base CX0 cls (callF fns wf n) n 9 "_law_a_product" 4 4 []) (C8 : CallOkP P w K mg base CX0 cls (callF fns wf n) n 14 "_law_due" 4 4 []) (C7 : CallOkP P w K mg base CX0 cls (callF fns wf n) n 10 "_law_choices" 2 2 []) (C14 : CallOkP P w K mg base CX0 cls (callF fns wf n) n 4 "all_straight" 2 1 ["size"]) (C4 : CallOkP P w K mg base CX0 cls (callF fns wf n) n 6 "_law_like" 2 2 []) :
    FnOk P w K mg base CX0 (n + 1) f fd ["script"] (spz K cls (callF fns wf (n + 1)) 15 1) := by
  refine fn_ok (fnd := ⟨9, 1, b_law⟩) F sc_law rfl rfl rfl fun cdv A outer s H E hr => PSs.nox ?_
  have hu := hu_room hr
  exact (psz_cons (psz_asg (i := 1) sc_law.nd rfl (Or.inr rfl) (pz_shr (pz_lst (pd_cons (pz_shr (pz_list rfl m_list (pos_cons (po_var 0) pos_nil))) (pd_cons pz_int (pd_cons pz_int pd_nil))))))
  (psz_cons (psz_asg (i := 2) sc_law.nd rfl (Or.inr rfl) (pz_call C11 rfl hr rfl pass0E (wE_E) (pos_cons (po_var 1) pos_nil)))
  (psz_cons (psz_asg (i := 3) sc_law.nd rfl (Or.inl rfl) (pz_call C5 rfl hr rfl pass0E (wE_E) (pos_cons (po_var 1) (pos_cons (Tr.opd pz_int) pos_nil))))
  (psz_cons (psz_asg (i := 4) sc_law.nd rfl (Or.inr rfl) (pz_call C12 rfl hr rfl pass0E (wE_E) (pos_cons (Tr.opd (pz_call C13 rfl hr rfl pass0E (wE_E) (pos_cons (po_var 1) (pos_cons (po_var 2) (pos_cons (Tr.opd (pz_idx (Tr.opd (pz_lst (pd_cons (pz_bin rfl (po_var 2) (Tr.opd pz_int)) (pd_cons pz_int (pd_cons pz_int (pd_cons pz_int pd_nil)))))) (Tr.opd (pz_call C5 rfl hr rfl pass0E (wE_E) (pos_cons (po_var 1) (pos_cons (Tr.opd pz_int) pos_nil)))))) (pos_cons (Tr.opd pz_int) pos_nil)))))) pos_nil)))
  (psz_cons (psz_if (pt_cmpz hu rfl (po_var 3) (Tr.opd pz_int))
  (psz_cons (psz_asg (i := 4) sc_law.nd rfl (Or.inr rfl) (pz_tuple rfl m_tuple (pos_cons (Tr.opd (pz_lc (own := [("k", 5)]) rfl sc_law.nd (piz_rng1 rfl m_range (pd_cons pz_int pd_nil)) (blkOk_by (N := ["script", "tape", "here", "way", "counts", "k", "due", "points", "found"]) (sc := defScope s_law) (by decide +kernel)) (fun _ _ _ _ _ => (pgz_nm 5 sc_law.nd)) (fun _ _ _ _ _ => ptz_nil) (fun _ _ _ _ _ => (pz_ife (pt_cmpz hu rfl (po_var 5) (Tr.opd pz_int)) (pz_call C5 rfl hr rfl pass0E (wN_E (E := E0)) (pos_cons (po_var 1) (pos_cons (Tr.opd pz_int) pos_nil))) pz_int)))) pos_nil)))
  psz_nil)
  (psz_cons (psz_if (pt_cmpz hu rfl (po_var 3) (Tr.opd pz_int))
  (psz_cons (psz_asg (i := 4) sc_law.nd rfl (Or.inr rfl) (pz_tuple rfl m_tuple (pos_cons (Tr.opd (pz_lc (own := [("k", 5)]) rfl sc_law.nd (piz_rng1 rfl m_range (pd_cons pz_int pd_nil)) (blkOk_by (N := ["script", "tape", "here", "way", "counts", "k", "due", "points", "found"]) (sc := defScope s_law) (by decide +kernel)) (fun _ _ _ _ _ => (pgz_nm 5 sc_law.nd)) (fun _ _ _ _ _ => ptz_nil) (fun _ _ _ _ _ => (pz_ife (pt_cmpz hu rfl (po_var 5) (Tr.opd (pz_bin rfl (po_var 2) (Tr.opd pz_int)))) (pz_call C5 rfl hr rfl pass0E (wN_E (E := E0)) (pos_cons (po_var 1) (pos_cons (Tr.opd pz_int) pos_nil))) pz_int)))) pos_nil)))
  psz_nil)
  psz_nil)
  psz_nil))
  (psz_cons (psz_asg (i := 6) sc_law.nd rfl (Or.inl rfl) (pz_lst pd_nil))
  (psz_cons (psz_if (PW.pt (pw_andz (pt_cmpz hu rfl (Tr.opd (pz_bin rfl (Tr.opd (pz_sum rfl rfl m_sum (pos_cons (po_var 4) pos_nil))) (po_var 2))) (Tr.opd pz_int)) (pw_one_and (pt_cmpz hu rfl (Tr.opd (pz_sum rfl rfl m_sum (pos_cons (po_var 4) pos_nil))) (Tr.opd (pz_bin rfl (Tr.opd pz_int) (po_var 2)))))))
  (psz_cons (psz_asg (i := 7) sc_law.nd rfl (Or.inl rfl) (pz_tuple rfl m_tuple (pos_cons (Tr.opd (pz_lc (own := [("k", 5)]) rfl sc_law.nd (piz_rng1 rfl m_range (pd_cons pz_int pd_nil)) (blkOk_by (N := ["script", "tape", "here", "way", "counts", "k", "due", "points", "found"]) (sc := defScope s_law) (by decide +kernel)) (fun _ _ _ _ _ => (pgz_nm 5 sc_law.nd)) (fun _ _ _ _ _ => (ptz_one (pt_cmpz hu rfl (Tr.opd (pz_idx (po_var 4) (po_var 5))) (Tr.opd pz_int)))) (fun _ _ _ _ _ => (pz_var 5)))) pos_nil)))
  (psz_cons (psz_asg (i := 6) sc_law.nd rfl (Or.inl rfl) (pz_call C8 rfl hr rfl pass0E (wE_E) (pos_cons (po_var 4) (pos_cons (po_var 2) (pos_cons (Tr.opd (pz_call C7 rfl hr rfl pass0E (wE_E) (pos_cons (po_var 7) (pos_cons (po_var 2) pos_nil)))) (pos_cons (Tr.opd pz_int) pos_nil))))))
  psz_nil))
  psz_nil)
  (psz_cons (psz_asg (i := 8) sc_law.nd rfl (Or.inl rfl) (pz_callK C14 rfl rfl rfl hr rfl pass0E (wE_E) (pos_cons (po_var 4) pos_nil) (pkz_cons (po_var 2) pkz_nil)))
  (psz_cons (psz_if (pt_notz (pt_of (pz_call C4 rfl hr rfl pass0E (wE_E) (pos_cons (po_var 8) (pos_cons (Tr.opd (pz_sorted hu rfl m_sorted (pos_cons (po_var 6) pos_nil))) pos_nil)))))
  (psz_cons (psz_ret (prz_of (by intro _; rfl) pz_bl))
  psz_nil)
  psz_nil)
  (psz_cons (psz_app (pv 8) pz_int)
  (psz_cons (psz_ret (prz_of (by intro _; rfl) (pz_call C4 rfl hr rfl pass0E (wE_E) (pos_cons (Tr.opd (pz_callK C14 rfl rfl rfl hr rfl pass0E (wE_E) (pos_cons (po_var 4) pos_nil) (pkz_cons (po_var 2) pkz_nil))) (pos_cons (Tr.opd (pz_sorted hu rfl m_sorted (pos_cons (po_var 6) pos_nil))) pos_nil)))))
  psz_nil)))))))))))
end
/-- all defs keep what the interpreter says, calls at most so deep -/
structure All (P : Program) (w : World) (K : PySem.W.Frag) (mg : Str → Option Value) (base : Heap) (n : Nat) : Prop where
  c0 : CallOkP P w K mg base CX0 cls (callF fns wf n) n 0 "crooked_at" 2 2 []
  c1 : CallOkP P w K mg base CX0 cls (callF fns wf n) n 2 "count_of" 1 1 []
  c2 : CallOkP P w K mg base CX0 cls (callF fns wf n) n 1 "choices" 2 2 []
  c3 : CallOkP P w K mg base CX0 cls (callF fns wf n) n 3 "can_come" 3 3 []
  c4 : CallOkP P w K mg base CX0 cls (callF fns wf n) n 6 "_law_like" 2 2 []
  c5 : CallOkP P w K mg base CX0 cls (callF fns wf n) n 5 "_law_draw" 2 2 []
  c6 : CallOkP P w K mg base CX0 cls (callF fns wf n) n 8 "_law_a_bracket" 3 3 []
  c7 : CallOkP P w K mg base CX0 cls (callF fns wf n) n 10 "_law_choices" 2 2 []
  c8 : CallOkP P w K mg base CX0 cls (callF fns wf n) n 14 "_law_due" 4 4 []
  c9 : CallOkP P w K mg base CX0 cls (callF fns wf n) n 13 "_law_less" 2 2 []
  c10 : CallOkP P w K mg base CX0 cls (callF fns wf n) n 11 "_law_straight" 1 1 []
  c11 : CallOkP P w K mg base CX0 cls (callF fns wf n) n 7 "_law_size" 1 1 []
  c12 : CallOkP P w K mg base CX0 cls (callF fns wf n) n 12 "_law_counts" 1 1 []
  c13 : CallOkP P w K mg base CX0 cls (callF fns wf n) n 9 "_law_a_product" 4 4 []
  c14 : CallOkP P w K mg base CX0 cls (callF fns wf n) n 4 "all_straight" 2 1 ["size"]
  c15 : CallOkP P w K mg base CX0 cls (callF fns wf n) n 15 "law" 1 1 []
theorem spz0 {P : Program} {w : World} {K : PySem.W.Frag} {mg : Str → Option Value} {base : Heap} {f : Addr} {fd : FuncData} {ps : List Str} {j np : Nat} (h : np = ps.length) : FnOk P w K mg base CX0 0 f fd ps (spz K cls (callF fns wf 0) j np) :=
  ⟨fun vs H Q E q => q.1.trans h, fun A outer s H args us vs Q E _ _ _ _ q => by obtain ⟨_, _, _, _, _, q⟩ := q; exact q.elim⟩
theorem all {P : Program} {w : World} {K : PySem.W.Frag} {mg : Str → Option Value} {base : Heap} (X : K.In base) (G0 : base.Ns mainGlobals mg) (c : He.SaysD fa fn K) : ∀ n, All P w K mg base n := by
  obtain ⟨fd_crooked_at, F_crooked_at⟩ := c.def_ 0 (d := d_crooked_at) rfl
  have g_crooked_at := He.glo_ok X G0 (c.fact 0 (f := .glo "crooked_at") rfl)
  obtain ⟨fd_choices, F_choices⟩ := c.def_ 1 (d := d_choices) rfl
  have g_choices := He.glo_ok X G0 (c.fact 1 (f := .glo "choices") rfl)
  obtain ⟨fd_count_of, F_count_of⟩ := c.def_ 2 (d := d_count_of) rfl
  have g_count_of := He.glo_ok X G0 (c.fact 2 (f := .glo "count_of") rfl)
  obtain ⟨fd_can_come, F_can_come⟩ := c.def_ 3 (d := d_can_come) rfl
  have g_can_come := He.glo_ok X G0 (c.fact 3 (f := .glo "can_come") rfl)
  obtain ⟨fd_all_straight, F_all_straight⟩ := c.def_ 4 (d := d_all_straight) rfl
  have g_all_straight := He.glo_ok X G0 (c.fact 4 (f := .glo "all_straight") rfl)
  obtain ⟨fd__law_draw, F__law_draw⟩ := c.def_ 5 (d := d__law_draw) rfl
  have g__law_draw := He.glo_ok X G0 (c.fact 5 (f := .glo "_law_draw") rfl)
  obtain ⟨fd__law_like, F__law_like⟩ := c.def_ 6 (d := d__law_like) rfl
  have g__law_like := He.glo_ok X G0 (c.fact 6 (f := .glo "_law_like") rfl)
  obtain ⟨fd__law_size, F__law_size⟩ := c.def_ 7 (d := d__law_size) rfl
  have g__law_size := He.glo_ok X G0 (c.fact 7 (f := .glo "_law_size") rfl)
  obtain ⟨fd__law_a_bracket, F__law_a_bracket⟩ := c.def_ 8 (d := d__law_a_bracket) rfl
  have g__law_a_bracket := He.glo_ok X G0 (c.fact 8 (f := .glo "_law_a_bracket") rfl)
  obtain ⟨fd__law_a_product, F__law_a_product⟩ := c.def_ 9 (d := d__law_a_product) rfl
  have g__law_a_product := He.glo_ok X G0 (c.fact 9 (f := .glo "_law_a_product") rfl)
  obtain ⟨fd__law_choices, F__law_choices⟩ := c.def_ 10 (d := d__law_choices) rfl
  have g__law_choices := He.glo_ok X G0 (c.fact 10 (f := .glo "_law_choices") rfl)
  obtain ⟨fd__law_straight, F__law_straight⟩ := c.def_ 11 (d := d__law_straight) rfl
  have g__law_straight := He.glo_ok X G0 (c.fact 11 (f := .glo "_law_straight") rfl)
  obtain ⟨fd__law_counts, F__law_counts⟩ := c.def_ 12 (d := d__law_counts) rfl
  have g__law_counts := He.glo_ok X G0 (c.fact 12 (f := .glo "_law_counts") rfl)
  obtain ⟨fd__law_less, F__law_less⟩ := c.def_ 13 (d := d__law_less) rfl
  have g__law_less := He.glo_ok X G0 (c.fact 13 (f := .glo "_law_less") rfl)
  obtain ⟨fd__law_due, F__law_due⟩ := c.def_ 14 (d := d__law_due) rfl
  have g__law_due := He.glo_ok X G0 (c.fact 14 (f := .glo "_law_due") rfl)
  obtain ⟨fd_law, F_law⟩ := c.def_ 15 (d := d_law) rfl
  have g_law := He.glo_ok X G0 (c.fact 15 (f := .glo "law") rfl)
  have m_all := He.free_ok X G0 (c.fact 16 (f := .free "all") rfl)
  have m_bool := He.free_ok X G0 (c.fact 17 (f := .free "bool") rfl)
  have m_isinstance := He.free_ok X G0 (c.fact 18 (f := .free "isinstance") rfl)
  have m_len := He.free_ok X G0 (c.fact 19 (f := .free "len") rfl)
  have m_list := He.free_ok X G0 (c.fact 20 (f := .free "list") rfl)
  have m_range := He.free_ok X G0 (c.fact 21 (f := .free "range") rfl)
  have m_sorted := He.free_ok X G0 (c.fact 22 (f := .free "sorted") rfl)
  have m_sum := He.free_ok X G0 (c.fact 23 (f := .free "sum") rfl)
  have m_tuple := He.free_ok X G0 (c.fact 24 (f := .free "tuple") rfl)
  obtain ⟨t_MOST, k_MOST⟩ := He.int_ok X G0 (c.fact 25 (f := .int "MOST" 4) rfl)
  obtain ⟨t_POINTS, k_POINTS⟩ := He.int_ok X G0 (c.fact 26 (f := .int "POINTS" 8) rfl)
  have b0 : BindK K fd_crooked_at ["one", "two"] 2 [] := bindK_of F_crooked_at 2 [] fun _ _ _ _ _ _ us ws hu hw => match us, ws, hu, hw with | [_, _], [], _, _ => rfl
  have b1 : BindK K fd_count_of ["product"] 1 [] := bindK_of F_count_of 1 [] fun _ _ _ _ _ _ us ws hu hw => match us, ws, hu, hw with | [_], [], _, _ => rfl
  have b2 : BindK K fd_choices ["row", "many"] 2 [] := bindK_of F_choices 2 [] fun _ _ _ _ _ _ us ws hu hw => match us, ws, hu, hw with | [_, _], [], _, _ => rfl
  have b3 : BindK K fd_can_come ["product", "bracket", "counts"] 3 [] := bindK_of F_can_come 3 [] fun _ _ _ _ _ _ us ws hu hw => match us, ws, hu, hw with | [_, _, _], [], _, _ => rfl
  have b4 : BindK K fd__law_like ["one", "two"] 2 [] := bindK_of F__law_like 2 [] fun _ _ _ _ _ _ us ws hu hw => match us, ws, hu, hw with | [_, _], [], _, _ => rfl
  have b5 : BindK K fd__law_draw ["tape", "many"] 2 [] := bindK_of F__law_draw 2 [] fun _ _ _ _ _ _ us ws hu hw => match us, ws, hu, hw with | [_, _], [], _, _ => rfl
  have b6 : BindK K fd__law_a_bracket ["tape", "big", "points"] 3 [] := bindK_of F__law_a_bracket 3 [] fun _ _ _ _ _ _ us ws hu hw => match us, ws, hu, hw with | [_, _, _], [], _, _ => rfl
  have b7 : BindK K fd__law_choices ["pool", "many"] 2 [] := bindK_of F__law_choices 2 [] fun _ _ _ _ _ _ us ws hu hw => match us, ws, hu, hw with | [_, _], [], _, _ => rfl
  have b8 : BindK K fd__law_due ["counts", "big", "brackets", "most"] 4 [] := bindK_of F__law_due 4 [] fun _ _ _ _ _ _ us ws hu hw => match us, ws, hu, hw with | [_, _, _, _], [], _, _ => rfl
  have b9 : BindK K fd__law_less ["counts", "bracket"] 2 [] := bindK_of F__law_less 2 [] fun _ _ _ _ _ _ us ws hu hw => match us, ws, hu, hw with | [_, _], [], _, _ => rfl
  have b10 : BindK K fd__law_straight ["product"] 1 [] := bindK_of F__law_straight 1 [] fun _ _ _ _ _ _ us ws hu hw => match us, ws, hu, hw with | [_], [], _, _ => rfl
  have b11 : BindK K fd__law_size ["tape"] 1 [] := bindK_of F__law_size 1 [] fun _ _ _ _ _ _ us ws hu hw => match us, ws, hu, hw with | [_], [], _, _ => rfl
  have b12 : BindK K fd__law_counts ["product"] 1 [] := bindK_of F__law_counts 1 [] fun _ _ _ _ _ _ us ws hu hw => match us, ws, hu, hw with | [_], [], _, _ => rfl
  have b13 : BindK K fd__law_a_product ["tape", "big", "points", "most"] 4 [] := bindK_of F__law_a_product 4 [] fun _ _ _ _ _ _ us ws hu hw => match us, ws, hu, hw with | [_, _, _, _], [], _, _ => rfl
  have b14 : BindK K fd_all_straight ["counts", "size"] 1 ["size"] := bindK_of F_all_straight 1 ["size"] fun _ _ _ _ _ _ us ws hu hw => match us, ws, hu, hw with | [_], [_], _, _ => rfl
  have b15 : BindK K fd_law ["script"] 1 [] := bindK_of F_law 1 [] fun _ _ _ _ _ _ us ws hu hw => match us, ws, hu, hw with | [_], [], _, _ => rfl
  intro n
  induction n with
  | zero => exact ⟨⟨_, _, _, spz0 rfl, rfl, g_crooked_at, F_crooked_at.kp, b0⟩, ⟨_, _, _, spz0 rfl, rfl, g_count_of, F_count_of.kp, b1⟩, ⟨_, _, _, spz0 rfl, rfl, g_choices, F_choices.kp, b2⟩, ⟨_, _, _, spz0 rfl, rfl, g_can_come, F_can_come.kp, b3⟩, ⟨_, _, _, spz0 rfl, rfl, g__law_like, F__law_like.kp, b4⟩, ⟨_, _, _, spz0 rfl, rfl, g__law_draw, F__law_draw.kp, b5⟩, ⟨_, _, _, spz0 rfl, rfl, g__law_a_bracket, F__law_a_bracket.kp, b6⟩, ⟨_, _, _, spz0 rfl, rfl, g__law_choices, F__law_choices.kp, b7⟩, ⟨_, _, _, spz0 rfl, rfl, g__law_due, F__law_due.kp, b8⟩, ⟨_, _, _, spz0 rfl, rfl, g__law_less, F__law_less.kp, b9⟩, ⟨_, _, _, spz0 rfl, rfl, g__law_straight, F__law_straight.kp, b10⟩, ⟨_, _, _, spz0 rfl, rfl, g__law_size, F__law_size.kp, b11⟩, ⟨_, _, _, spz0 rfl, rfl, g__law_counts, F__law_counts.kp, b12⟩, ⟨_, _, _, spz0 rfl, rfl, g__law_a_product, F__law_a_product.kp, b13⟩, ⟨_, _, _, spz0 rfl, rfl, g_all_straight, F_all_straight.kp, b14⟩, ⟨_, _, _, spz0 rfl, rfl, g_law, F_law.kp, b15⟩⟩
  | succ n ih =>
    have o_crooked_at := ok_crooked_at (P := P) (w := w) (mg := mg) (base := base) n F_crooked_at m_len m_range
    have o_choices := ok_choices (P := P) (w := w) (mg := mg) (base := base) n F_choices m_len m_sorted
    have o_count_of := ok_count_of (P := P) (w := w) (mg := mg) (base := base) n F_count_of k_POINTS
    have o_can_come := ok_can_come (P := P) (w := w) (mg := mg) (base := base) n F_can_come m_all m_range k_POINTS ih.c0 ih.c1
    have o_all_straight := ok_all_straight (P := P) (w := w) (mg := mg) (base := base) n F_all_straight m_range m_sorted m_sum m_tuple k_MOST k_POINTS ih.c2 ih.c3
    have o__law_draw := ok__law_draw (P := P) (w := w) (mg := mg) (base := base) n F__law_draw m_len
    have o__law_like := ok__law_like (P := P) (w := w) (mg := mg) (base := base) n F__law_like m_bool m_isinstance m_len m_list m_range m_tuple ih.c4
    have o__law_size := ok__law_size (P := P) (w := w) (mg := mg) (base := base) n F__law_size ih.c5
    have o__law_a_bracket := ok__law_a_bracket (P := P) (w := w) (mg := mg) (base := base) n F__law_a_bracket m_len m_list m_range m_sorted m_tuple ih.c5
    have o__law_a_product := ok__law_a_product (P := P) (w := w) (mg := mg) (base := base) n F__law_a_product m_range m_sorted m_tuple ih.c5 ih.c6
    have o__law_choices := ok__law_choices (P := P) (w := w) (mg := mg) (base := base) n F__law_choices m_len m_range ih.c7
    have o__law_straight := ok__law_straight (P := P) (w := w) (mg := mg) (base := base) n F__law_straight m_len m_range
    have o__law_counts := ok__law_counts (P := P) (w := w) (mg := mg) (base := base) n F__law_counts m_tuple
    have o__law_less := ok__law_less (P := P) (w := w) (mg := mg) (base := base) n F__law_less m_range m_tuple
    have o__law_due := ok__law_due (P := P) (w := w) (mg := mg) (base := base) n F__law_due m_sum ih.c8 ih.c9 ih.c10
    have o_law := ok_law (P := P) (w := w) (mg := mg) (base := base) n F_law m_list m_range m_sorted m_sum m_tuple ih.c11 ih.c5 ih.c12 ih.c13 ih.c8 ih.c7 ih.c14 ih.c4
    exact ⟨⟨_, _, _, o_crooked_at, rfl, g_crooked_at, F_crooked_at.kp, b0⟩, ⟨_, _, _, o_count_of, rfl, g_count_of, F_count_of.kp, b1⟩, ⟨_, _, _, o_choices, rfl, g_choices, F_choices.kp, b2⟩, ⟨_, _, _, o_can_come, rfl, g_can_come, F_can_come.kp, b3⟩, ⟨_, _, _, o__law_like, rfl, g__law_like, F__law_like.kp, b4⟩, ⟨_, _, _, o__law_draw, rfl, g__law_draw, F__law_draw.kp, b5⟩, ⟨_, _, _, o__law_a_bracket, rfl, g__law_a_bracket, F__law_a_bracket.kp, b6⟩, ⟨_, _, _, o__law_choices, rfl, g__law_choices, F__law_choices.kp, b7⟩, ⟨_, _, _, o__law_due, rfl, g__law_due, F__law_due.kp, b8⟩, ⟨_, _, _, o__law_less, rfl, g__law_less, F__law_less.kp, b9⟩, ⟨_, _, _, o__law_straight, rfl, g__law_straight, F__law_straight.kp, b10⟩, ⟨_, _, _, o__law_size, rfl, g__law_size, F__law_size.kp, b11⟩, ⟨_, _, _, o__law_counts, rfl, g__law_counts, F__law_counts.kp, b12⟩, ⟨_, _, _, o__law_a_product, rfl, g__law_a_product, F__law_a_product.kp, b13⟩, ⟨_, _, _, o_all_straight, rfl, g_all_straight, F_all_straight.kp, b14⟩, ⟨_, _, _, o_law, rfl, g_law, F_law.kp, b15⟩⟩
abbrev lvl : Nat := 120
theorem facts {P : Program} {w : World} {K : PySem.W.Frag} {h : Heap} {mg : Str → Option Value} {f : Addr} (X : K.In h) (G0 : h.Ns mainGlobals mg) (hfa : mg ("law" : Str) = some (.ref f)) (c : He.SaysD fa fn K) :
    ∃ fd : FuncData, (∀ (s : Shared) (v : Value), BindsTo s fd ⟨[v], []⟩ [("script", v)]) ∧ ∀ base : Heap, K.In base → base.Ns mainGlobals mg → FnOk P w K mg base CX0 lvl f fd ["script"] (spz K cls (callF fns wf lvl) 15 1) := by
  obtain ⟨fd, F⟩ := c.def_ 15 (d := d_law) rfl
  have e := hfa.symm.trans (He.glo_ok X G0 (c.fact 15 (f := .glo "law") rfl))
  cases e
  have b := FunD.bindsA (ps := ["script"]) F fun _ _ _ _ _ _ us hl => match us, hl with | [_], _ => rfl
  refine ⟨fd, fun s v => b s [v] rfl, fun base X G0 => ?_⟩
  have ih := all (P := P) (w := w) X G0 c (lvl - 1)
  have m_list := He.free_ok X G0 (c.fact 20 (f := .free "list") rfl)
  have m_range := He.free_ok X G0 (c.fact 21 (f := .free "range") rfl)
  have m_sorted := He.free_ok X G0 (c.fact 22 (f := .free "sorted") rfl)
  have m_sum := He.free_ok X G0 (c.fact 23 (f := .free "sum") rfl)
  have m_tuple := He.free_ok X G0 (c.fact 24 (f := .free "tuple") rfl)
  exact ok_law (P := P) (w := w) (mg := mg) (base := base) (lvl - 1) F m_list m_range m_sorted m_sum m_tuple ih.c11 ih.c5 ih.c12 ih.c13 ih.c8 ih.c7 ih.c14 ih.c4
end G

namespace G
open PySem PySem.Spec PyProof.Rows L2 Z
def loo0 : List Str := ["crooked_at", "choices", "count_of", "can_come", "all_straight", "_law_draw", "_law_like", "_law_size", "_law_a_bracket", "_law_a_product", "_law_choices", "_law_straight", "_law_counts", "_law_less", "_law_due", "SIZE", "MOST", "POINTS"]
def loo : List Str := loo0
abbrev R : PySem.W.OpenRow := PySem.W.OpenLaw.row PySem.Challenge.rw_bracketyard_k40_all_straight_products
abbrev hk : PySem.W.Hook := He.hookD 4 fa fn
def ob (s : PySem.W.SharedT) : He.AlD := He.obsDG 4 fa fn (HandSHeadRun.getT s)
theorem ob_eq (s : PySem.W.SharedT) : ob s = hk.obs s.abs := He.obsDG_eq (HandSHeadRun.getT_eq s)
theorem run (w : World) : HandSHeadRun.RunEq R (PySem.W.view R.prog [20]) hk ob 4000 loo w := by
  intro os
  kernel_rfl
/-- the script as the law is asked: its own list, hidden by nothing -/
theorem entry {K : PySem.W.Frag} (law_true : ∀ ns : List Int, ns.length ≤ 63 → ∃ st, callF fns wf lvl 15 [.scr ns] [] = .ok (.bl true, false) st) (H : Hp) (a : Addr) (ns : List Int) (hl : ns.length ≤ 63) (hS : SqL K H a (ns.map V.int)) : spz K cls (callF fns wf lvl) 15 1 [.ref a] H (fun v _ => v = .bl true) fun _ _ _ => False := by
  obtain ⟨st, e⟩ := law_true ns hl
  refine ⟨rfl, ⟨[.pu (.scr ns)], [], [], []⟩, [.scr ns], rfl, entry_good hS, ?_⟩
  dsimp only
  rw [e]
  intro v As M H2 _ _ r
  exact r
theorem holds_of (law_true : ∀ ns : List Int, ns.length ≤ 63 → ∃ st, callF fns wf lvl 15 [.scr ns] [] = .ok (.bl true, false) st) : PySem.Challenge.rw_bracketyard_k40_all_straight_products.Holds := by
  open PySem.W PySem.Calls in
  w_on; o_law
  refine HandSHeadRun.head_any (r := PySem.W.OpenLaw.row PySem.Challenge.rw_bracketyard_k40_all_straight_products) (q := PySem.W.view (PySem.W.OpenLaw.row PySem.Challenge.rw_bracketyard_k40_all_straight_products).prog [20]) (H := hk) (ob := ob) (M := 4000) (loose := loo) (d := HandSHeadRun.topDef (PySem.W.OpenLaw.row PySem.Challenge.rw_bracketyard_k40_all_straight_products).prog 20) (kwd := []) ob_eq
    (by kernel_rfl) (fun s => by kernel_rfl) run (by kernel_rfl) (by kernel_rfl) (by kernel_rfl) (by rfl) (by first | assumption | decide +kernel) (by decide +kernel) ⟨rfl, rfl, rfl, rfl, rfl, by decide +kernel⟩ ?hw ?hc
  case hw => w_witness2
  case hc =>
    refine L2.walk_ofE (l := PySem.Challenge.rw_bracketyard_k40_all_straight_products) (n := 63) (k := lvl) (x := "script") (CX := CX0) rfl (by decide) (by kernel_rfl) ⟨rfl, by decide, by decide⟩ ?F (fun _ _ _ _ z => z)
    intro w mg fad h Y G0 hmg0
    obtain ⟨K, KX, c⟩ := Y
    have hmg : mg ("law" : Str) = some (.ref fad) := by
      have e : (HandSHeadRun.topDef (PySem.W.OpenLaw.row PySem.Challenge.rw_bracketyard_k40_all_straight_products).prog 20).name = ("law" : Str) := by kernel_rfl
      rw [← e]
      exact hmg0
    obtain ⟨fd, hb, hF⟩ := facts (P := (PySem.Challenge.rw_bracketyard_k40_all_straight_products).prog) (w := w) KX G0 hmg c
    exact ⟨K, fd, spz K cls (callF fns wf lvl) 15 1, KX, hb, fun H a ns hl _ hS => entry law_true H a ns hl hS, hF⟩
end G

theorem PySem.Challenge.cw_bracketyard_k40_all_straight_products_holds : PySem.Challenge.rw_bracketyard_k40_all_straight_products.Holds := by
  exact G.holds_of G.law_true
