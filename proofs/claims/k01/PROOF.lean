import PyProof.Rows.All
import Wide.All
import OpenK.AllK
import Wide.FinOn
import PyProof.EqAt
import PyProof.EqKinds
import PyProof.TupleCall
import HandS.Base
import HandS.Call
import HandS.List
import HandS.Comp
import HandS.Ends
import HandS.Words
import HandS.WordsList
import HandS.Exc
import HandS.ExcOwn
import HandS.TryOnly
import HandS.Iter
import HandS.WordsExc
import HandS.More
import HandS.IsInst
import HandS.Style
import HandS.TryMany
import HandS.Defaults
import HandS.TupAny
import KE.SortData
import HandS.Deep
import KE.KLam
import HandS.Lambda
import HandS.EndTab
import HandS.HeadWalk
import HandS.HeadHook4
import HandS.ForExc
import KE.KStateDown
import HandS.Head0
import HandS.Head1
import HandS.Head2
import HandS.HeadEnd
import HandS.HeadHook1
import HandS.HeadHook2
import HandS.HeadHook3
import PySem.Challenge.RW_hullhall_k01_sides_and_ways
set_option Elab.async false
set_option linter.all false
set_option maxRecDepth 100000
set_option maxHeartbeats 0
namespace DL
open PySem PySem.Spec L2
open PyProof.Rows hiding St

/-! ### data: what a value says, without addresses; loc n: the n-th list of our own, which may change -/
inductive D where
  | non
  | bl (b : Bool)
  | int (i : Int)
  | str (x : Str)
  | tup (l : List D)
  | lst (l : List D)
  | loc (n : Nat)
  | adr (a : Addr)
  | ty (n : String)
  /-- a locked list (the script) -/
  | scr (l : List D)
abbrev Cells := List (List D)
/-- a raised exception: the class's name, what it carries -/
structure Ex where
  name : Str
  part : Option D
inductive R (γ : Type) where
  | ok (a : γ) (M : Cells)
  | ex (e : Ex) (M : Cells)
  | no
def R.bind {γ δ : Type} (r : R γ) (k : γ → Cells → R δ) : R δ := match r with
  | .ok a M => k a M
  | .ex e M => .ex e M
  | .no => .no
structure Sx where
  ρ : List (Option D)
  M : Cells

mutual
def Rel (H : Hp) (N : Addr → Prop) (α : List Addr) : D → V → Prop
  | .non, v => v = .non
  | .bl b, v => v = .bl b
  | .int i, v => v = .int i
  | .str x, v => v = .str x
  | .tup l, v => ∃ a vs, v = .ref a ∧ H a = some (.tup vs) ∧ Rels H N α l vs
  | .lst l, v => ∃ a vs, v = .ref a ∧ ¬ N a ∧ H a = some (.lst vs) ∧ Rels H N α l vs
  | .loc n, v => ∃ a, v = .ref a ∧ α[n]? = some a
  | .adr a, v => v = .ref a
  | .ty n, v => v = .ty n
  | .scr l, v => ∃ a o vs, v = .ref a ∧ H a = some (.frz o (.lst vs)) ∧ Rels H N α l vs
def Rels (H : Hp) (N : Addr → Prop) (α : List Addr) : List D → List V → Prop
  | [], vs => vs = []
  | d :: l, vs => ∃ v r, vs = v :: r ∧ Rel H N α d v ∧ Rels H N α l r
end

/-- nothing stands there but a code table, maybe -/
def Fz (H : Hp) (b : Addr) : Prop := ∀ o, H b = some o → ∃ ps, o = .tbl ps
theorem fz_of {H : Hp} {b : Addr} (h : H b = none) : Fz H b := fun o e => by rw [h] at e; cases e
structure Ext (α : List Addr) (N : Addr → Prop) (H : Hp) (α' : List Addr) (N' : Addr → Prop) (H' : Hp) : Prop where
  pre : ∃ β, α' = α ++ β ∧ ∀ b ∈ β, Fz H b
  nn : ∀ a, N a → N' a
  nb : ∀ a, N' a → N a ∨ Fz H a
  keep : ∀ b o, H b = some o → ((∃ xs, o = .lst xs) → b ∉ α) → (∀ ps, o ≠ .tbl ps) → H' b = some o
  there : ∀ b, ¬ Fz H b → ¬ Fz H' b

theorem Ext.refl {α : List Addr} {N : Addr → Prop} {H : Hp} : Ext α N H α N H :=
  ⟨⟨[], by simp, by simp⟩, fun _ h => h, fun _ h => .inl h, fun _ _ h _ _ => h, fun _ h => h⟩
theorem Ext.trans {α α1 α2 : List Addr} {N N1 N2 : Addr → Prop} {H H1 H2 : Hp} (a : Ext α N H α1 N1 H1) (b : Ext α1 N1 H1 α2 N2 H2) : Ext α N H α2 N2 H2 := by
  obtain ⟨β, e1, f1⟩ := a.pre
  obtain ⟨γ, e2, f2⟩ := b.pre
  have back : ∀ x, Fz H1 x → Fz H x := fun x h => Classical.byContradiction fun q => a.there x q h
  refine ⟨⟨β ++ γ, by rw [e2, e1, List.append_assoc], fun x hx => ?_⟩, fun x h => b.nn x (a.nn x h), fun x h => ?_, fun x o h1 h2 h3 => ?_, fun x h => b.there x (a.there x h)⟩
  · rcases List.mem_append.mp hx with h | h
    · exact f1 x h
    · exact back x (f2 x h)
  · rcases b.nb x h with h | h
    · exact a.nb x h
    · exact .inr (back x h)
  · refine b.keep x o (a.keep x o h1 h2 h3) (fun hl hm => ?_) h3
    rw [e1] at hm
    rcases List.mem_append.mp hm with z | z
    · exact h2 hl z
    · obtain ⟨ps, e⟩ := f1 x z o h1; exact h3 ps e

theorem keepT {α : List Addr} {N N' : Addr → Prop} {H H' : Hp} {α' : List Addr} {a : Addr} {vs : List V} (e : Ext α N H α' N' H') (h : H a = some (.tup vs)) : H' a = some (.tup vs) :=
  e.keep a _ h (fun ⟨_, z⟩ => by cases z) (fun _ z => by cases z)
theorem keepF {α : List Addr} {N N' : Addr → Prop} {H H' : Hp} {α' : List Addr} {a : Addr} {o : Obj} {vs : HO} (e : Ext α N H α' N' H') (h : H a = some (.frz o vs)) : H' a = some (.frz o vs) :=
  e.keep a _ h (fun ⟨_, z⟩ => by cases z) (fun _ z => by cases z)
theorem keepL {α : List Addr} {N N' : Addr → Prop} {H H' : Hp} {α' : List Addr} {a : Addr} {vs : List V} (e : Ext α N H α' N' H') (ha : a ∉ α) (h : H a = some (.lst vs)) : H' a = some (.lst vs) :=
  e.keep a _ h (fun _ => ha) (fun _ z => by cases z)
theorem nf_of {H : Hp} {a : Addr} {u : HO} (hu : ∀ ps, u ≠ .tbl ps) (h : H a = some u) : ¬ Fz H a := fun z => by
  obtain ⟨ps, e⟩ := z _ h; exact hu ps e
theorem pre_get {α α' : List Addr} {n : Nat} {a : Addr} (h : α[n]? = some a) (p : ∃ β : List Addr, α' = α ++ β ∧ True) : α'[n]? = some a := by
  obtain ⟨β, e, _⟩ := p
  rw [e, List.getElem?_append_left (List.getElem?_eq_some_iff.mp h).1]
  exact h

section
variable {α α' : List Addr} {N N' : Addr → Prop} {H H' : Hp}
mutual
theorem Rel.mono (sub : ∀ a ∈ α, N a) (e : Ext α N H α' N' H') : ∀ {d : D} {v : V}, Rel H N α d v → Rel H' N' α' d v
  | .non, _, h => by unfold Rel at h ⊢; exact h
  | .bl _, _, h => by unfold Rel at h ⊢; exact h
  | .int _, _, h => by unfold Rel at h ⊢; exact h
  | .str _, _, h => by unfold Rel at h ⊢; exact h
  | .tup l, _, h => by
    unfold Rel at h ⊢
    obtain ⟨a, vs, h1, h2, h3⟩ := h
    exact ⟨a, vs, h1, keepT e h2, Rels.mono sub e h3⟩
  | .lst l, _, h => by
    unfold Rel at h ⊢
    obtain ⟨a, vs, h1, h0, h2, h3⟩ := h
    refine ⟨a, vs, h1, fun z => ?_, keepL e (fun z => h0 (sub a z)) h2, Rels.mono sub e h3⟩
    rcases e.nb a z with z | z
    · exact h0 z
    · exact nf_of (fun _ e => by cases e) h2 z
  | .loc n, _, h => by
    unfold Rel at h ⊢
    obtain ⟨a, h1, h2⟩ := h
    obtain ⟨β, e1, _⟩ := e.pre
    exact ⟨a, h1, pre_get h2 ⟨β, e1, trivial⟩⟩
  | .adr _, _, h => by unfold Rel at h ⊢; exact h
  | .ty _, _, h => by unfold Rel at h ⊢; exact h
  | .scr l, _, h => by
    unfold Rel at h ⊢
    obtain ⟨a, o, vs, h1, h2, h3⟩ := h
    exact ⟨a, o, vs, h1, keepF e h2, Rels.mono sub e h3⟩
theorem Rels.mono (sub : ∀ a ∈ α, N a) (e : Ext α N H α' N' H') : ∀ {l : List D} {vs : List V}, Rels H N α l vs → Rels H' N' α' l vs
  | [], _, h => by unfold Rels at h ⊢; exact h
  | d :: l, _, h => by
    unfold Rels at h ⊢
    obtain ⟨v, r, h1, h2, h3⟩ := h
    exact ⟨v, r, h1, Rel.mono sub e h2, Rels.mono sub e h3⟩
end
end
mutual
/-- fewer forbidden places -/
theorem Rel.less {H : Hp} {N N' : Addr → Prop} {α : List Addr} (hn : ∀ a, N' a → N a) : ∀ {d : D} {v : V}, Rel H N α d v → Rel H N' α d v
  | .non, _, h => by unfold Rel at h ⊢; exact h
  | .bl _, _, h => by unfold Rel at h ⊢; exact h
  | .int _, _, h => by unfold Rel at h ⊢; exact h
  | .str _, _, h => by unfold Rel at h ⊢; exact h
  | .tup l, _, h => by
    unfold Rel at h ⊢
    obtain ⟨a, vs, h1, h2, h3⟩ := h
    exact ⟨a, vs, h1, h2, Rels.less hn h3⟩
  | .lst l, _, h => by
    unfold Rel at h ⊢
    obtain ⟨a, vs, h1, h0, h2, h3⟩ := h
    exact ⟨a, vs, h1, fun z => h0 (hn a z), h2, Rels.less hn h3⟩
  | .loc n, _, h => by unfold Rel at h ⊢; exact h
  | .adr _, _, h => by unfold Rel at h ⊢; exact h
  | .ty _, _, h => by unfold Rel at h ⊢; exact h
  | .scr l, _, h => by
    unfold Rel at h ⊢
    obtain ⟨a, o, vs, h1, h2, h3⟩ := h
    exact ⟨a, o, vs, h1, h2, Rels.less hn h3⟩
theorem Rels.less {H : Hp} {N N' : Addr → Prop} {α : List Addr} (hn : ∀ a, N' a → N a) : ∀ {l : List D} {vs : List V}, Rels H N α l vs → Rels H N' α l vs
  | [], _, h => by unfold Rels at h ⊢; exact h
  | d :: l, _, h => by
    unfold Rels at h ⊢
    obtain ⟨v, r, h1, h2, h3⟩ := h
    exact ⟨v, r, h1, Rel.less hn h2, Rels.less hn h3⟩
end
mutual
def D.lf : D → Bool
  | .tup l => lfs l
  | .lst l => lfs l
  | .scr l => lfs l
  | .loc _ => false
  | _ => true
def lfs : List D → Bool
  | [] => true
  | d :: l => d.lf && lfs l
end
mutual
/-- no list within -/
def D.nol : D → Bool
  | .tup l => nols l
  | .lst _ => false
  | .scr _ => false
  | .loc _ => false
  | _ => true
def nols : List D → Bool
  | [] => true
  | d :: l => d.nol && nols l
end
mutual
theorem Rel.lf {H : Hp} {N : Addr → Prop} {α α' : List Addr} : ∀ {d : D} {v : V}, d.lf = true → Rel H N α d v → Rel H N α' d v
  | .non, _, _, h => by unfold Rel at h ⊢; exact h
  | .bl _, _, _, h => by unfold Rel at h ⊢; exact h
  | .int _, _, _, h => by unfold Rel at h ⊢; exact h
  | .str _, _, _, h => by unfold Rel at h ⊢; exact h
  | .tup l, _, f, h => by
    unfold Rel at h ⊢
    obtain ⟨a, vs, h1, h2, h3⟩ := h
    exact ⟨a, vs, h1, h2, Rels.lf (by unfold D.lf at f; exact f) h3⟩
  | .lst l, _, f, h => by
    unfold Rel at h ⊢
    obtain ⟨a, vs, h1, h0, h2, h3⟩ := h
    exact ⟨a, vs, h1, h0, h2, Rels.lf (by unfold D.lf at f; exact f) h3⟩
  | .loc n, _, f, h => by unfold D.lf at f; cases f
  | .adr _, _, _, h => by unfold Rel at h ⊢; exact h
  | .ty _, _, _, h => by unfold Rel at h ⊢; exact h
  | .scr l, _, f, h => by
    unfold Rel at h ⊢
    obtain ⟨a, o, vs, h1, h2, h3⟩ := h
    exact ⟨a, o, vs, h1, h2, Rels.lf (by unfold D.lf at f; exact f) h3⟩
theorem Rels.lf {H : Hp} {N : Addr → Prop} {α α' : List Addr} : ∀ {l : List D} {vs : List V}, lfs l = true → Rels H N α l vs → Rels H N α' l vs
  | [], _, _, h => by unfold Rels at h ⊢; exact h
  | d :: l, _, f, h => by
    unfold Rels at h ⊢
    unfold lfs at f
    obtain ⟨f1, f2⟩ := Bool.and_eq_true_iff.mp f
    obtain ⟨v, r, h1, h2, h3⟩ := h
    exact ⟨v, r, h1, Rel.lf f1 h2, Rels.lf f2 h3⟩
end
mutual
theorem Rel.nil {H : Hp} {N : Addr → Prop} {α : List Addr} : ∀ {d : D} {v : V}, Rel H N [] d v → Rel H N α d v
  | .non, _, h => by unfold Rel at h ⊢; exact h
  | .bl _, _, h => by unfold Rel at h ⊢; exact h
  | .int _, _, h => by unfold Rel at h ⊢; exact h
  | .str _, _, h => by unfold Rel at h ⊢; exact h
  | .tup l, _, h => by
    unfold Rel at h ⊢
    obtain ⟨a, vs, h1, h2, h3⟩ := h
    exact ⟨a, vs, h1, h2, Rels.nil h3⟩
  | .lst l, _, h => by
    unfold Rel at h ⊢
    obtain ⟨a, vs, h1, h0, h2, h3⟩ := h
    exact ⟨a, vs, h1, h0, h2, Rels.nil h3⟩
  | .loc n, _, h => by
    unfold Rel at h
    obtain ⟨a, _, h2⟩ := h
    simp at h2
  | .adr _, _, h => by unfold Rel at h ⊢; exact h
  | .ty _, _, h => by unfold Rel at h ⊢; exact h
  | .scr l, _, h => by
    unfold Rel at h ⊢
    obtain ⟨a, o, vs, h1, h2, h3⟩ := h
    exact ⟨a, o, vs, h1, h2, Rels.nil h3⟩
theorem Rels.nil {H : Hp} {N : Addr → Prop} {α : List Addr} : ∀ {l : List D} {vs : List V}, Rels H N [] l vs → Rels H N α l vs
  | [], _, h => by unfold Rels at h ⊢; exact h
  | d :: l, _, h => by
    unfold Rels at h ⊢
    obtain ⟨v, r, h1, h2, h3⟩ := h
    exact ⟨v, r, h1, Rel.nil h2, Rels.nil h3⟩
end
mutual
theorem Rel.nol {H : Hp} {N N' : Addr → Prop} {α α' : List Addr} : ∀ {d : D} {v : V}, d.nol = true → Rel H N α d v → Rel H N' α' d v
  | .non, _, _, h => by unfold Rel at h ⊢; exact h
  | .bl _, _, _, h => by unfold Rel at h ⊢; exact h
  | .int _, _, _, h => by unfold Rel at h ⊢; exact h
  | .str _, _, _, h => by unfold Rel at h ⊢; exact h
  | .tup l, _, f, h => by
    unfold Rel at h ⊢
    obtain ⟨a, vs, h1, h2, h3⟩ := h
    exact ⟨a, vs, h1, h2, Rels.nol (by unfold D.nol at f; exact f) h3⟩
  | .lst l, _, f, h => by unfold D.nol at f; cases f
  | .loc n, _, f, h => by unfold D.nol at f; cases f
  | .adr _, _, _, h => by unfold Rel at h ⊢; exact h
  | .ty _, _, _, h => by unfold Rel at h ⊢; exact h
  | .scr l, _, f, h => by unfold D.nol at f; cases f
theorem Rels.nol {H : Hp} {N N' : Addr → Prop} {α α' : List Addr} : ∀ {l : List D} {vs : List V}, nols l = true → Rels H N α l vs → Rels H N' α' l vs
  | [], _, _, h => by unfold Rels at h ⊢; exact h
  | d :: l, _, f, h => by
    unfold Rels at h ⊢
    unfold nols at f
    obtain ⟨f1, f2⟩ := Bool.and_eq_true_iff.mp f
    obtain ⟨v, r, h1, h2, h3⟩ := h
    exact ⟨v, r, h1, Rel.nol f1 h2, Rels.nol f2 h3⟩
end
theorem Rels.length {H : Hp} {N : Addr → Prop} {α : List Addr} : ∀ {l : List D} {vs : List V}, Rels H N α l vs → l.length = vs.length
  | [], _, h => by unfold Rels at h; rw [h]; rfl
  | d :: l, _, h => by
    unfold Rels at h
    obtain ⟨v, r, h1, _, h3⟩ := h
    rw [h1]; simp [Rels.length h3]
theorem Rels.get {H : Hp} {N : Addr → Prop} {α : List Addr} : ∀ {l : List D} {vs : List V} {i : Nat} {d : D}, Rels H N α l vs → l[i]? = some d → ∃ v, vs[i]? = some v ∧ Rel H N α d v
  | [], _, _, _, _, e => by simp at e
  | d :: l, _, 0, _, h, e => by
    unfold Rels at h
    obtain ⟨v, r, h1, h2, _⟩ := h
    simp at e; subst e; subst h1
    exact ⟨v, rfl, h2⟩
  | d :: l, _, i + 1, _, h, e => by
    unfold Rels at h
    obtain ⟨v, r, h1, _, h3⟩ := h
    subst h1
    obtain ⟨u, q1, q2⟩ := Rels.get (i := i) h3 (by simpa using e)
    exact ⟨u, by simpa using q1, q2⟩
theorem Rels.append {H : Hp} {N : Addr → Prop} {α : List Addr} {l2 : List D} {ws : List V} (h2 : Rels H N α l2 ws) : ∀ {l : List D} {vs : List V}, Rels H N α l vs → Rels H N α (l ++ l2) (vs ++ ws)
  | [], _, h => by unfold Rels at h; subst h; exact h2
  | d :: l, _, h => by
    unfold Rels at h
    obtain ⟨v, r, h1, q1, q2⟩ := h
    subst h1
    show Rels H N α (d :: (l ++ l2)) (v :: (r ++ ws))
    unfold Rels
    exact ⟨v, _, rfl, q1, Rels.append h2 q2⟩
theorem Rels.one {H : Hp} {N : Addr → Prop} {α : List Addr} {d : D} {v : V} (h : Rel H N α d v) : Rels H N α [d] [v] := by
  unfold Rels; exact ⟨v, [], rfl, h, by unfold Rels; rfl⟩
theorem Rels.cons {H : Hp} {N : Addr → Prop} {α : List Addr} {d : D} {v : V} {l : List D} {vs : List V} (h : Rel H N α d v) (t : Rels H N α l vs) : Rels H N α (d :: l) (v :: vs) := by
  unfold Rels; exact ⟨v, vs, rfl, h, t⟩
theorem Rels.take {H : Hp} {N : Addr → Prop} {α : List Addr} : ∀ {l : List D} {vs : List V} (n : Nat), Rels H N α l vs → Rels H N α (l.take n) (vs.take n)
  | _, _, 0, _ => by simp [Rels]
  | [], _, n + 1, h => by unfold Rels at h; subst h; simp [Rels]
  | d :: l, _, n + 1, h => by
    unfold Rels at h
    obtain ⟨v, r, h1, q1, q2⟩ := h
    subst h1
    show Rels H N α (d :: l.take n) (v :: r.take n)
    exact Rels.cons q1 (Rels.take n q2)
theorem Rels.drop {H : Hp} {N : Addr → Prop} {α : List Addr} : ∀ {l : List D} {vs : List V} (n : Nat), Rels H N α l vs → Rels H N α (l.drop n) (vs.drop n)
  | _, _, 0, h => h
  | [], _, n + 1, h => by unfold Rels at h; subst h; simp [Rels]
  | d :: l, _, n + 1, h => by
    unfold Rels at h
    obtain ⟨v, r, h1, q1, q2⟩ := h
    subst h1
    show Rels H N α (l.drop n) (r.drop n)
    exact Rels.drop n q2
theorem Rels.set {H : Hp} {N : Addr → Prop} {α : List Addr} {d : D} {v : V} (hd : Rel H N α d v) : ∀ {l : List D} {vs : List V} (n : Nat), Rels H N α l vs → Rels H N α (l.set n d) (vs.set n v)
  | [], _, n, h => by unfold Rels at h; subst h; simp [Rels]
  | e :: l, _, 0, h => by
    unfold Rels at h
    obtain ⟨w, r, h1, q1, q2⟩ := h
    subst h1
    exact Rels.cons hd q2
  | e :: l, _, n + 1, h => by
    unfold Rels at h
    obtain ⟨w, r, h1, q1, q2⟩ := h
    subst h1
    exact Rels.cons q1 (Rels.set hd n q2)
theorem Rels.reverse {H : Hp} {N : Addr → Prop} {α : List Addr} : ∀ {l : List D} {vs : List V}, Rels H N α l vs → Rels H N α l.reverse vs.reverse
  | [], _, h => by unfold Rels at h; subst h; simp [Rels]
  | d :: l, _, h => by
    unfold Rels at h
    obtain ⟨v, r, h1, q1, q2⟩ := h
    subst h1
    rw [List.reverse_cons, List.reverse_cons]
    exact Rels.append (Rels.one q1) (Rels.reverse q2)
theorem Rels.eraseIdx {H : Hp} {N : Addr → Prop} {α : List Addr} : ∀ {l : List D} {vs : List V} (n : Nat), Rels H N α l vs → Rels H N α (l.eraseIdx n) (vs.eraseIdx n)
  | [], _, n, h => by unfold Rels at h; subst h; simp [Rels]
  | e :: l, _, 0, h => by
    unfold Rels at h
    obtain ⟨w, r, h1, q1, q2⟩ := h
    subst h1
    exact q2
  | e :: l, _, n + 1, h => by
    unfold Rels at h
    obtain ⟨w, r, h1, q1, q2⟩ := h
    subst h1
    exact Rels.cons q1 (Rels.eraseIdx n q2)

/-! ### what stands by of code tables -/
structure TPr where
  p : Hp → Prop
  mono : ∀ H H', p H → (∀ b o, H b = some o → (∀ xs, o ≠ .lst xs) → H' b = some o) → p H'

/-- the cells -/
structure StC (T : TPr) (N : Addr → Prop) (H : Hp) (M : Cells) (α : List Addr) : Prop where
  nd : α.Nodup
  sub : ∀ a ∈ α, N a
  som : ∀ a, N a → ¬ Fz H a
  len : α.length = M.length
  cel : ∀ (n : Nat) (l : List D), M[n]? = some l → ∃ a vs, α[n]? = some a ∧ H a = some (.lst vs) ∧ Rels H N α l vs
  tab : T.p H
/-- the cells and the slots -/
structure StR (T : TPr) (N : Addr → Prop) (H : Hp) (σ : St) (s : Sx) (α : List Addr) : Prop where
  c : StC T N H s.M α
  slt : ∀ (i : Nat) (d : D), s.ρ[i]? = some (some d) → ∃ v, σ[i]? = some (some v) ∧ Rel H N α d v
  lnr : s.ρ.length = σ.length

/-- a raised exception as it lies -/
def XR (mg : Str → Option Value) (e : Ex) (cls : Value) (dd : Option Addr) (H : Hp) (N : Addr → Prop) (α : List Addr) : Prop :=
  mg e.name = some cls ∧ match e.part with
    | none => True
    | some d => ∃ a v, dd = some a ∧ H a = some (.xd [(("part" : Str), v)]) ∧ Rel H N α d v

abbrev RG (γ δ : Type) := Hp → (Addr → Prop) → List Addr → γ → δ → Prop
section
variable {γ γ' δ δ' : Type}
def Post (T : TPr) (mg : Str → Option Value) (G : RG γ δ) (N : Addr → Prop) (α : List Addr) (H : Hp) (σ : St) (ρ : List (Option D)) (W : WX) (Q : δ → Hp → Prop) : R γ → Prop
  | .ok d M => ∀ v H' α' N', StR T N' H' σ ⟨ρ, M⟩ α' → Ext α N H α' N' H' → G H' N' α' d v → Q v H'
  | .ex e M => ∀ cls dd H' α' N', StR T N' H' σ ⟨ρ, M⟩ α' → Ext α N H α' N' H' → XR mg e cls dd H' N' α' → W cls dd σ H'
  | .no => False
def tG (T : TPr) (mg : Str → Option Value) (G : RG γ δ) (W : WX) (f : Sx → R γ) : St → Hp → (δ → Hp → Prop) → Prop :=
  fun σ H Q => ∃ s α N, StR T N H σ s α ∧ Post T mg G N α H σ s.ρ W Q (f s)
variable {T : TPr} {mg : Str → Option Value} {G : RG γ δ} {G' : RG γ' δ'} {N : Addr → Prop} {α : List Addr} {H : Hp} {σ : St} {ρ : List (Option D)} {W : WX}
theorem Post.later {Q : δ → Hp → Prop} {r : R γ} {N1 : Addr → Prop} {α1 : List Addr} {H1 : Hp} (e1 : Ext α N H α1 N1 H1) (h : Post T mg G N α H σ ρ W Q r) : Post T mg G N1 α1 H1 σ ρ W Q r := by
  cases r with
  | no => exact h
  | ex e M => exact fun cls dd H' α' N' s2 e2 x => h cls dd H' α' N' s2 (e1.trans e2) x
  | ok c2 M2 => exact fun v2 H' α' N' s2 e2 g2 => h v2 H' α' N' s2 (e1.trans e2) g2
theorem Post.bind {Q : δ' → Hp → Prop} {r : R γ} {k : γ → Cells → R γ'} (h : Post T mg G' N α H σ ρ W Q (r.bind k)) :
    Post T mg G N α H σ ρ W (fun v H1 => ∃ M α1 N1 c, StR T N1 H1 σ ⟨ρ, M⟩ α1 ∧ Ext α N H α1 N1 H1 ∧ G H1 N1 α1 c v ∧ Post T mg G' N1 α1 H1 σ ρ W Q (k c M)) r := by
  cases r with
  | no => exact h
  | ex e M => exact h
  | ok c M =>
    intro v H1 α1 N1 s1 e1 g1
    exact ⟨M, α1, N1, c, s1, e1, g1, Post.later e1 h⟩
theorem Post.mono {Q Q' : δ → Hp → Prop} {r : R γ} (hq : ∀ v H', Q v H' → Q' v H') (h : Post T mg G N α H σ ρ W Q r) : Post T mg G N α H σ ρ W Q' r := by
  cases r with
  | no => exact h
  | ex e M => exact h
  | ok c M => exact fun v H' α' N' s e g => hq v H' (h v H' α' N' s e g)
theorem Post.now {Q : δ → Hp → Prop} {c : γ} {M : Cells} {v : δ} (h : Post T mg G N α H σ ρ W Q (.ok c M)) (s : StR T N H σ ⟨ρ, M⟩ α) (g : G H N α c v) : Q v H :=
  h v H α N s Ext.refl g
theorem tG.mk {Q : δ → Hp → Prop} {f : Sx → R γ} {M : Cells} (s : StR T N H σ ⟨ρ, M⟩ α) (h : Post T mg G N α H σ ρ W Q (f ⟨ρ, M⟩)) : tG T mg G W f σ H Q := ⟨⟨ρ, M⟩, α, N, s, h⟩
end
theorem _root_.L2.PE.imp {X : Cx} {e : Expr} {t t' : TE} (h : PE X e t) (hi : ∀ σ H Q, t' σ H Q → t σ H Q) : PE X e t' := ⟨fun pins s σ H Q I q => h.run pins s σ H Q I (hi σ H Q q)⟩
theorem _root_.L2.PT.imp {X : Cx} {e : Expr} {t t' : TT} (h : PT X e t) (hi : ∀ σ H Q, t' σ H Q → t σ H Q) : PT X e t' := ⟨fun pins s σ H Q I q => h.run pins s σ H Q I (hi σ H Q q)⟩
theorem _root_.L2.PW.imp {X : Cx} {e : Expr} {t t' : TT} (h : PW X e t) (hi : ∀ σ H Q, t' σ H Q → t σ H Q) : PW X e t' := ⟨fun w pins s σ H Q I q => h.run w pins s σ H Q I (hi σ H Q q)⟩
theorem _root_.L2.PA.imp {X : Cx} {e : List Expr} {t t' : TA} (h : PA X e t) (hi : ∀ σ H Q, t' σ H Q → t σ H Q) : PA X e t' := ⟨fun p pins s σ H Q I q => h.run p pins s σ H Q I (hi σ H Q q)⟩
theorem _root_.L2.PS.imp {X : Cx} {e : Stmt} {t t' : TS} (h : PS X e t) (hi : ∀ D σ H, t' D σ H → t D σ H) : PS X e t' := ⟨fun pins s σ H D I q => h.run pins s σ H D I (hi D σ H q)⟩
theorem _root_.L2.PSs.imp {X : Cx} {e : List Stmt} {t t' : TS} (h : PSs X e t) (hi : ∀ D σ H, t' D σ H → t D σ H) : PSs X e t' := ⟨fun pins s σ H D I q => h.run pins s σ H D I (hi D σ H q)⟩
end DL

namespace DL
open PySem PySem.Spec L2
open PyProof.Rows hiding St

abbrev RelD : RG D V := fun H N α d v => Rel H N α d v
abbrev RelL : RG (List D) (List V) := fun H N α d v => Rels H N α d v
abbrev RelB : RG Bool Bool := fun _ _ _ c b => c = b
abbrev RelO : RG (Option Int) (Option Int) := fun _ _ _ c b => c = b
abbrev tD (T : TPr) (mg : Str → Option Value) (W : WX) (f : Sx → R D) : TE := tG T mg RelD W f
abbrev tL (T : TPr) (mg : Str → Option Value) (W : WX) (f : Sx → R (List D)) : TA := tG T mg RelL W f
abbrev tB' (T : TPr) (mg : Str → Option Value) (W : WX) (f : Sx → R Bool) : TT := tG T mg RelB W f

section
variable {T : TPr} {mg : Str → Option Value} {W : WX} {σ : L2.St} {H : Hp} {N : Addr → Prop} {α : List Addr}

theorem StC.keep {M M' : Cells} {N' : Addr → Prop} {α' : List Addr} {H' : Hp} {ρ : List (Option D)} (s : StR T N H σ ⟨ρ, M⟩ α) (c : StC T N' H' M' α') (e : Ext α N H α' N' H') : StR T N' H' σ ⟨ρ, M'⟩ α' :=
  ⟨c, fun i d h => by obtain ⟨v, h1, h2⟩ := s.slt i d h; exact ⟨v, h1, Rel.mono s.c.sub e h2⟩, s.lnr⟩
/-- what holds of grown heaps where no cell changed -/
theorem StC.grow {M : Cells} {H' : Hp} (c : StC T N H M α) (k : ∀ b o, H b = some o → H' b = some o) : StC T N H' M α := by
  have e : Ext α N H α N H' := ⟨⟨[], by simp, by simp⟩, fun _ h => h, fun _ h => .inl h, fun b o h _ _ => k b o h, fun b h z => h fun o e => z o (k b o e)⟩
  exact ⟨c.nd, c.sub, fun a h => e.there a (c.som a h), c.len, fun n l h => by
    obtain ⟨a, vs, h1, h2, h3⟩ := c.cel n l h
    exact ⟨a, vs, h1, k _ _ h2, Rels.mono c.sub e h3⟩, T.mono _ _ c.tab fun b o h _ => k b o h⟩
theorem Ext.grow {H' : Hp} (k : ∀ b o, H b = some o → H' b = some o) : Ext α N H α N H' :=
  ⟨⟨[], by simp, by simp⟩, fun _ h => h, fun _ h => .inl h, fun b o h _ _ => k b o h, fun b h z => h fun o e => z o (k b o e)⟩
theorem new_keep {p : Addr} {o : HO} (h : H p = none) : ∀ b u, H b = some u → upd H p o b = some u := fun b u e => by
  rw [upd_ne (ne_of_none e h)]; exact e

/-! ### names, constants -/
def fVar (i : Nat) : Sx → R D := fun s => match s.ρ[i]? with
  | some (some d) => .ok d s.M
  | _ => .no
def fC (d : D) : Sx → R D := fun s => .ok d s.M
theorem var_imp {i : Nat} {Q : VK} (h : tD T mg W (fVar i) σ H Q) : tVar i σ H Q := by
  obtain ⟨s, α, N, hs, p⟩ := h
  unfold fVar at p
  cases q : s.ρ[i]? with
  | none => rw [q] at p; exact p.elim
  | some o =>
    cases o with
    | none => rw [q] at p; exact p.elim
    | some d =>
      rw [q] at p
      obtain ⟨v, h1, h2⟩ := hs.slt i d q
      exact ⟨v, h1, Post.now p hs h2⟩
theorem c_imp {d : D} {v : V} {Q : VK} (hv : ∀ H N α, Rel H N α d v) (h : tD T mg W (fC d) σ H Q) : tC v σ H Q := by
  obtain ⟨s, α, N, hs, p⟩ := h
  exact Post.now p hs (hv _ _ _)

/-! ### values -/
def opt {γ : Type} (o : Option γ) (M : Cells) : R γ := match o with
  | some z => .ok z M
  | none => .no
def fOp (g : Cells → D → D → Option D) (fa fb : Sx → R D) : Sx → R D := fun s =>
  (fa s).bind fun d M1 => (fb ⟨s.ρ, M1⟩).bind fun e M2 => opt (g M2 d e) M2
def fUn (g : Cells → D → Option D) (fa : Sx → R D) : Sx → R D := fun s => (fa s).bind fun d M1 => opt (g M1 d) M1
def fCB (g : Cells → List D → Option D) (fa : Sx → R (List D)) : Sx → R D := fun s => (fa s).bind fun l M1 => opt (g M1 l) M1
/-- an operation on values, told by data -/
def OpD (T : TPr) (r : R2) (g : Cells → D → D → Option D) : Prop := ∀ {N : Addr → Prop} {H : Hp} {M : Cells} {α : List Addr} {d e : D} {x y : V} {z : D} {Q : VK}, StC T N H M α → Rel H N α d x → Rel H N α e y → g M d e = some z →
  (∀ v H', StC T N H' M α → Ext α N H α N H' → Rel H' N α z v → Q v H') → r x y H Q
def UnD (T : TPr) (r : V → Hp → VK → Prop) (g : Cells → D → Option D) : Prop := ∀ {N : Addr → Prop} {H : Hp} {M : Cells} {α : List Addr} {d : D} {x : V} {z : D} {Q : VK}, StC T N H M α → Rel H N α d x → g M d = some z →
  (∀ v H', StC T N H' M α → Ext α N H α N H' → Rel H' N α z v → Q v H') → r x H Q
def CbD (T : TPr) (r : List V → Hp → VK → Prop) (g : Cells → List D → Option D) : Prop := ∀ {N : Addr → Prop} {H : Hp} {M : Cells} {α : List Addr} {l : List D} {xs : List V} {z : D} {Q : VK}, StC T N H M α → Rels H N α l xs → g M l = some z →
  (∀ v H', StC T N H' M α → Ext α N H α N H' → Rel H' N α z v → Q v H') → r xs H Q
theorem Post.opt {γ δ : Type} {G : RG γ δ} {ρ : List (Option D)} {Q : δ → Hp → Prop} {o : Option γ} {M : Cells} (h : Post T mg G N α H σ ρ W Q (opt o M)) : ∃ z, o = some z ∧ Post T mg G N α H σ ρ W Q (.ok z M) := by
  cases o with
  | none => exact h.elim
  | some z => exact ⟨z, rfl, h⟩
theorem op_imp {r : R2} {g : Cells → D → D → Option D} {fa fb : Sx → R D} (ho : OpD T r g) {Q : VK} (h : tD T mg W (fOp g fa fb) σ H Q) : tOp r (tD T mg W fa) (tD T mg W fb) σ H Q := by
  obtain ⟨s, α, N, hs, p⟩ := h
  refine ⟨s, α, N, hs, Post.mono (fun x H1 h1 => ?_) p.bind⟩
  obtain ⟨M1, α1, N1, d, s1, e1, g1, p1⟩ := h1
  refine ⟨_, α1, N1, s1, Post.mono (fun y H2 h2 => ?_) p1.bind⟩
  obtain ⟨M2, α2, N2, e, s2, e2, g2, p2⟩ := h2
  obtain ⟨z, hz, p3⟩ := p2.opt
  exact ho s2.c (Rel.mono s1.c.sub e2 g1) g2 hz fun v H' c e rz => p3 v H' α2 N2 (StC.keep s2 c e) e rz
theorem un_imp {r : V → Hp → VK → Prop} {g : Cells → D → Option D} {fa : Sx → R D} (ho : UnD T r g) {Q : VK} (h : tD T mg W (fUn g fa) σ H Q) : tUn r (tD T mg W fa) σ H Q := by
  obtain ⟨s, α, N, hs, p⟩ := h
  refine ⟨s, α, N, hs, Post.mono (fun x H1 h1 => ?_) p.bind⟩
  obtain ⟨M1, α1, N1, d, s1, e1, g1, p1⟩ := h1
  obtain ⟨z, hz, p3⟩ := p1.opt
  exact ho s1.c g1 hz fun v H' c e rz => p3 v H' α1 N1 (StC.keep s1 c e) e rz
theorem cb_imp {r : List V → Hp → VK → Prop} {g : Cells → List D → Option D} {fa : Sx → R (List D)} (ho : CbD T r g) {Q : VK} (h : tD T mg W (fCB g fa) σ H Q) : tCB r (tL T mg W fa) σ H Q := by
  obtain ⟨s, α, N, hs, p⟩ := h
  refine ⟨s, α, N, hs, Post.mono (fun x H1 h1 => ?_) p.bind⟩
  obtain ⟨M1, α1, N1, d, s1, e1, g1, p1⟩ := h1
  obtain ⟨z, hz, p3⟩ := p1.opt
  exact ho s1.c g1 hz fun v H' c e rz => p3 v H' α1 N1 (StC.keep s1 c e) e rz

/-! ### argument lists -/
def fNil : Sx → R (List D) := fun s => .ok [] s.M
def fCons (fa : Sx → R D) (fr : Sx → R (List D)) : Sx → R (List D) := fun s => (fa s).bind fun d M1 => (fr ⟨s.ρ, M1⟩).bind fun l M2 => .ok (d :: l) M2
theorem nil_imp {Q : List V → Hp → Prop} (h : tL T mg W fNil σ H Q) : tNil σ H Q := by
  obtain ⟨s, α, N, hs, p⟩ := h
  exact Post.now p hs (by unfold RelL Rels; rfl)
theorem cons_imp {fa : Sx → R D} {fr : Sx → R (List D)} {Q : List V → Hp → Prop} (h : tL T mg W (fCons fa fr) σ H Q) : tCons (tD T mg W fa) (tL T mg W fr) σ H Q := by
  obtain ⟨s, α, N, hs, p⟩ := h
  refine ⟨s, α, N, hs, Post.mono (fun x H1 h1 => ?_) p.bind⟩
  obtain ⟨M1, α1, N1, d, s1, e1, g1, p1⟩ := h1
  refine ⟨_, α1, N1, s1, Post.mono (fun y H2 h2 => ?_) p1.bind⟩
  obtain ⟨M2, α2, N2, e, s2, e2, g2, p2⟩ := h2
  exact Post.now p2 s2 (Rels.cons (Rel.mono s1.c.sub e2 g1) g2)

/-! ### displays -/
def fTup (f : Sx → R (List D)) : Sx → R D := fun s => (f s).bind fun l M => if l.length ≤ 100000 then .ok (.tup l) M else .no
def fLst (f : Sx → R (List D)) : Sx → R D := fun s => (f s).bind fun l M => if l.length ≤ 100000 then .ok (.lst l) M else .no
theorem sz_of {n : Nat} (h : n ≤ 100000) : n ≤ sizeLine := Nat.le_trans h (by decide)
theorem Post.ite {γ δ : Type} {G : RG γ δ} {ρ : List (Option D)} {Q : δ → Hp → Prop} {c : Prop} [Decidable c] {r : R γ} (h : Post T mg G N α H σ ρ W Q (if c then r else .no)) : c ∧ Post T mg G N α H σ ρ W Q r := by
  by_cases hc : c
  · rw [if_pos hc] at h; exact ⟨hc, h⟩
  · rw [if_neg hc] at h; exact h.elim
/-- a new tuple -/
theorem tup_new {l : List D} {vs : List V} {p : Addr} (r : Rels H N α l vs) (sub : ∀ a ∈ α, N a) (hp : H p = none) : Rel (upd H p (.tup vs)) N α (.tup l) (.ref p) := by
  unfold Rel
  exact ⟨p, vs, rfl, upd_same, Rels.mono sub (Ext.grow (new_keep hp)) r⟩
theorem lst_new {l : List D} {vs : List V} {p : Addr} (r : Rels H N α l vs) (sub : ∀ a ∈ α, N a) (som : ∀ a, N a → ¬ Fz H a) (hp : H p = none) : Rel (upd H p (.lst vs)) N α (.lst l) (.ref p) := by
  unfold Rel
  exact ⟨p, vs, rfl, fun z => som p z (fz_of hp), upd_same, Rels.mono sub (Ext.grow (new_keep hp)) r⟩
theorem tup_imp {f : Sx → R (List D)} {Q : VK} (h : tD T mg W (fTup f) σ H Q) : tTup (tL T mg W f) σ H Q := by
  obtain ⟨s, α, N, hs, p⟩ := h
  refine ⟨s, α, N, hs, Post.mono (fun x H1 h1 => ?_) p.bind⟩
  obtain ⟨M1, α1, N1, l, s1, e1, g1, p1⟩ := h1
  obtain ⟨hl, p2⟩ := p1.ite
  have hl' := Rels.length g1
  exact ⟨sz_of (by omega), fun p hp => p2 _ _ α1 N1 (StC.keep s1 (s1.c.grow (new_keep hp)) (Ext.grow (new_keep hp))) (Ext.grow (new_keep hp)) (tup_new g1 s1.c.sub hp)⟩
theorem lst_imp {f : Sx → R (List D)} {Q : VK} (h : tD T mg W (fLst f) σ H Q) : tLst (tL T mg W f) σ H Q := by
  obtain ⟨s, α, N, hs, p⟩ := h
  refine ⟨s, α, N, hs, Post.mono (fun x H1 h1 => ?_) p.bind⟩
  obtain ⟨M1, α1, N1, l, s1, e1, g1, p1⟩ := h1
  obtain ⟨hl, p2⟩ := p1.ite
  have hl' := Rels.length g1
  exact ⟨sz_of (by omega), fun p hp => p2 _ _ α1 N1 (StC.keep s1 (s1.c.grow (new_keep hp)) (Ext.grow (new_keep hp))) (Ext.grow (new_keep hp)) (lst_new g1 s1.c.sub s1.c.som hp)⟩

/-! ### tests -/
def toB (r : R D) : R Bool := r.bind fun d M => match d with
  | .bl b => .ok b M
  | _ => .no
def fTst (f : Sx → R D) : Sx → R Bool := fun s => toB (f s)
def fAnd (f g : Sx → R Bool) : Sx → R Bool := fun s => (f s).bind fun b M => if b = true then g ⟨s.ρ, M⟩ else .ok false M
def fOr (f g : Sx → R Bool) : Sx → R Bool := fun s => (f s).bind fun b M => if b = true then .ok true M else g ⟨s.ρ, M⟩
def fNot (f : Sx → R Bool) : Sx → R Bool := fun s => (f s).bind fun b M => .ok (!b) M
def fIf (c : Sx → R Bool) (f g : Sx → R D) : Sx → R D := fun s => (c s).bind fun b M => if b = true then f ⟨s.ρ, M⟩ else g ⟨s.ρ, M⟩
def ofB (f : Sx → R Bool) : Sx → R D := fun s => (f s).bind fun b M => .ok (.bl b) M
theorem tst_imp {f : Sx → R D} {Q : Bool → Hp → Prop} (h : tB' T mg W (fTst f) σ H Q) : tTest (tD T mg W f) σ H Q := by
  obtain ⟨s, α, N, hs, p⟩ := h
  refine ⟨s, α, N, hs, Post.mono (fun x H1 h1 => ?_) (Post.bind (G := RelD) p)⟩
  obtain ⟨M1, α1, N1, d, s1, e1, g1, p1⟩ := h1
  cases d with
  | bl b =>
    unfold RelD Rel at g1
    exact ⟨b, g1, Post.now p1 s1 rfl⟩
  | _ => exact p1.elim
theorem and_imp {f g : Sx → R Bool} {Q : Bool → Hp → Prop} (h : tB' T mg W (fAnd f g) σ H Q) : tAnd (tB' T mg W f) (tB' T mg W g) σ H Q := by
  obtain ⟨s, α, N, hs, p⟩ := h
  refine ⟨s, α, N, hs, Post.mono (fun x H1 h1 => ?_) (Post.bind (G := RelB) p)⟩
  obtain ⟨M1, α1, N1, b, s1, e1, g1, p1⟩ := h1
  cases g1
  cases x with
  | true => exact ⟨_, α1, N1, s1, p1⟩
  | false => exact Post.now p1 s1 rfl
theorem or_imp {f g : Sx → R Bool} {Q : Bool → Hp → Prop} (h : tB' T mg W (fOr f g) σ H Q) : tOr (tB' T mg W f) (tB' T mg W g) σ H Q := by
  obtain ⟨s, α, N, hs, p⟩ := h
  refine ⟨s, α, N, hs, Post.mono (fun x H1 h1 => ?_) (Post.bind (G := RelB) p)⟩
  obtain ⟨M1, α1, N1, b, s1, e1, g1, p1⟩ := h1
  cases g1
  cases x with
  | true => exact Post.now p1 s1 rfl
  | false => exact ⟨_, α1, N1, s1, p1⟩
theorem not_imp {f : Sx → R Bool} {Q : Bool → Hp → Prop} (h : tB' T mg W (fNot f) σ H Q) : tNot (tB' T mg W f) σ H Q := by
  obtain ⟨s, α, N, hs, p⟩ := h
  refine ⟨s, α, N, hs, Post.mono (fun x H1 h1 => ?_) (Post.bind (G := RelB) p)⟩
  obtain ⟨M1, α1, N1, b, s1, e1, g1, p1⟩ := h1
  cases g1
  exact Post.now p1 s1 rfl
theorem if_imp {c : Sx → R Bool} {f g : Sx → R D} {Q : VK} (h : tD T mg W (fIf c f g) σ H Q) : tIf (tB' T mg W c) (tD T mg W f) (tD T mg W g) σ H Q := by
  obtain ⟨s, α, N, hs, p⟩ := h
  refine ⟨s, α, N, hs, Post.mono (fun x H1 h1 => ?_) (Post.bind (G := RelB) p)⟩
  obtain ⟨M1, α1, N1, b, s1, e1, g1, p1⟩ := h1
  cases g1
  cases x with
  | true => exact ⟨_, α1, N1, s1, p1⟩
  | false => exact ⟨_, α1, N1, s1, p1⟩
def fAndV (fa fb : Sx → R D) : Sx → R D := fun s => (fa s).bind fun d M => match d with
  | .bl b => if b = true then fb ⟨s.ρ, M⟩ else .ok (.bl false) M
  | _ => .no
def fOrV (fa fb : Sx → R D) : Sx → R D := fun s => (fa s).bind fun d M => match d with
  | .bl b => if b = true then .ok (.bl true) M else fb ⟨s.ρ, M⟩
  | _ => .no
def fNotV (fa : Sx → R D) : Sx → R D := fun s => (fa s).bind fun d M => match d with
  | .bl b => .ok (.bl (!b)) M
  | _ => .no
theorem andV_imp {fa fb : Sx → R D} {Q : VK} (h : tD T mg W (fAndV fa fb) σ H Q) : tAndV (tD T mg W fa) (tD T mg W fb) σ H Q := by
  obtain ⟨s, α, N, hs, p⟩ := h
  refine ⟨s, α, N, hs, Post.mono (fun x H1 h1 => ?_) (Post.bind (G := RelD) p)⟩
  obtain ⟨M1, α1, N1, d, s1, e1, g1, p1⟩ := h1
  cases d with
  | bl b =>
    unfold RelD Rel at g1
    refine ⟨b, g1, ?_⟩
    cases b with
    | true => exact ⟨_, α1, N1, s1, p1⟩
    | false => exact Post.now p1 s1 (by unfold RelD Rel; rfl)
  | _ => exact p1.elim
theorem orV_imp {fa fb : Sx → R D} {Q : VK} (h : tD T mg W (fOrV fa fb) σ H Q) : tOrV (tD T mg W fa) (tD T mg W fb) σ H Q := by
  obtain ⟨s, α, N, hs, p⟩ := h
  refine ⟨s, α, N, hs, Post.mono (fun x H1 h1 => ?_) (Post.bind (G := RelD) p)⟩
  obtain ⟨M1, α1, N1, d, s1, e1, g1, p1⟩ := h1
  cases d with
  | bl b =>
    unfold RelD Rel at g1
    refine ⟨b, g1, ?_⟩
    cases b with
    | true => exact Post.now p1 s1 (by unfold RelD Rel; rfl)
    | false => exact ⟨_, α1, N1, s1, p1⟩
  | _ => exact p1.elim
theorem notV_imp {fa : Sx → R D} {Q : VK} (h : tD T mg W (fNotV fa) σ H Q) : tNotV (tD T mg W fa) σ H Q := by
  obtain ⟨s, α, N, hs, p⟩ := h
  refine ⟨s, α, N, hs, Post.mono (fun x H1 h1 => ?_) (Post.bind (G := RelD) p)⟩
  obtain ⟨M1, α1, N1, d, s1, e1, g1, p1⟩ := h1
  cases d with
  | bl b =>
    unfold RelD Rel at g1
    exact ⟨b, g1, Post.now p1 s1 (by unfold RelD Rel; rfl)⟩
  | _ => exact p1.elim
/-- a op b op' c -/
def fChain (g g' : Cells → D → D → Option D) (fa fb fc : Sx → R D) : Sx → R D := fun s =>
  (fa s).bind fun d M1 => (fb ⟨s.ρ, M1⟩).bind fun e M2 => (opt (g M2 d e) M2).bind fun z M3 => match z with
    | .bl b => if b = true then (fc ⟨s.ρ, M3⟩).bind fun w M4 => opt (g' M4 e w) M4 else .ok (.bl false) M3
    | _ => .no
theorem chain_imp {r r' : R2} {g g' : Cells → D → D → Option D} {fa fb fc : Sx → R D} (ho : OpD T r g) (ho' : OpD T r' g') {Q : VK} (h : tD T mg W (fChain g g' fa fb fc) σ H Q) : tChain r r' (tD T mg W fa) (tD T mg W fb) (tD T mg W fc) σ H Q := by
  obtain ⟨s, α, N, hs, p⟩ := h
  refine ⟨s, α, N, hs, Post.mono (fun x H1 h1 => ?_) (Post.bind (G := RelD) p)⟩
  obtain ⟨M1, α1, N1, d, s1, e1, g1, p1⟩ := h1
  refine ⟨_, α1, N1, s1, Post.mono (fun y H2 h2 => ?_) (Post.bind (G := RelD) p1)⟩
  obtain ⟨M2, α2, N2, e, s2, e2, g2, p2⟩ := h2
  cases q : g M2 d e with
  | none => rw [q] at p2; exact p2.elim
  | some z =>
    refine ho s2.c (Rel.mono s1.c.sub e2 g1) g2 q fun v H' c ex rz => ?_
    rw [q] at p2
    have s3 := StC.keep s2 c ex
    cases z with
    | bl b =>
      unfold Rel at rz
      refine ⟨b, rz, ?_⟩
      have p3 : Post T mg RelD N2 α2 H2 σ s.ρ W Q (if b = true then (fc ⟨s.ρ, M2⟩).bind fun w M4 => DL.opt (g' M4 e w) M4 else .ok (.bl false) M2) := p2
      cases b with
      | false =>
        rw [if_neg (by decide)] at p3 ⊢
        exact p3 _ _ _ _ s3 ex (by unfold RelD Rel; rfl)
      | true =>
        rw [if_pos rfl] at p3 ⊢
        have p4 : Post T mg RelD N2 α2 H' σ s.ρ W Q ((fc ⟨s.ρ, M2⟩).bind fun w M4 => DL.opt (g' M4 e w) M4) := by
          exact Post.later ex p3
        refine ⟨_, α2, N2, s3, Post.mono (fun w H4 h4 => ?_) (Post.bind (G := RelD) p4)⟩
        obtain ⟨M4, α4, N4, ww, s4, e4, g4, p5⟩ := h4
        obtain ⟨z4, hz4, p6⟩ := p5.opt
        exact ho' s4.c (Rel.mono s3.c.sub e4 (Rel.mono s2.c.sub ex g2)) g4 hz4 fun v H5 c e rz => p6 v H5 α4 N4 (StC.keep s4 c e) e rz
    | _ => exact p2.elim
end
end DL

namespace DL
open PySem PySem.Spec L2
open PyProof.Rows hiding St

/-! ### statements -/
inductive RS where
  | nx (s : Sx)
  | rt (d : D) (s : Sx)
  | bk (s : Sx)
  | ct (s : Sx)
  | ex (e : Ex) (s : Sx)
  | no
def PostS (T : TPr) (mg : Str → Option Value) (N : Addr → Prop) (α : List Addr) (H : Hp) (W : WX) (Dn : Ends) : RS → Prop
  | .nx s => ∀ σ' H' α' N', StR T N' H' σ' s α' → Ext α N H α' N' H' → Dn.nx σ' H'
  | .bk s => ∀ σ' H' α' N', StR T N' H' σ' s α' → Ext α N H α' N' H' → Dn.bk σ' H'
  | .ct s => ∀ σ' H' α' N', StR T N' H' σ' s α' → Ext α N H α' N' H' → Dn.ct σ' H'
  | .rt d s => ∀ v σ' H' α' N', StR T N' H' σ' s α' → Ext α N H α' N' H' → Rel H' N' α' d v → Dn.rt v H'
  | .ex e s => ∀ cls dd σ' H' α' N', StR T N' H' σ' s α' → Ext α N H α' N' H' → XR mg e cls dd H' N' α' → W cls dd σ' H'
  | .no => False
def tS (T : TPr) (mg : Str → Option Value) (W : WX) (f : Sx → RS) : TS := fun Dn σ H => ∃ s α N, StR T N H σ s α ∧ PostS T mg N α H W Dn (f s)
def R.toS {γ : Type} (r : R γ) (ρ : List (Option D)) (k : γ → Cells → RS) : RS := match r with
  | .ok a M => k a M
  | .ex e M => .ex e ⟨ρ, M⟩
  | .no => .no
section
variable {T : TPr} {mg : Str → Option Value} {W : WX} {σ : L2.St} {H : Hp} {N : Addr → Prop} {α : List Addr} {Dn : Ends}
theorem PostS.later {r : RS} {N1 : Addr → Prop} {α1 : List Addr} {H1 : Hp} (e1 : Ext α N H α1 N1 H1) (h : PostS T mg N α H W Dn r) : PostS T mg N1 α1 H1 W Dn r := by
  cases r with
  | no => exact h
  | nx s => exact fun σ' H' α' N' s2 e2 => h σ' H' α' N' s2 (e1.trans e2)
  | bk s => exact fun σ' H' α' N' s2 e2 => h σ' H' α' N' s2 (e1.trans e2)
  | ct s => exact fun σ' H' α' N' s2 e2 => h σ' H' α' N' s2 (e1.trans e2)
  | rt d s => exact fun v σ' H' α' N' s2 e2 => h v σ' H' α' N' s2 (e1.trans e2)
  | ex e s => exact fun c d σ' H' α' N' s2 e2 => h c d σ' H' α' N' s2 (e1.trans e2)
theorem PostS.bind {γ δ : Type} {G : RG γ δ} {ρ : List (Option D)} {r : R γ} {k : γ → Cells → RS} (h : PostS T mg N α H W Dn (r.toS ρ k)) :
    Post T mg G N α H σ ρ W (fun v H1 => ∃ M α1 N1 c, StR T N1 H1 σ ⟨ρ, M⟩ α1 ∧ Ext α N H α1 N1 H1 ∧ G H1 N1 α1 c v ∧ PostS T mg N1 α1 H1 W Dn (k c M)) r := by
  cases r with
  | no => exact h
  | ex e M => exact fun cls dd H' α' N' s2 e2 x => h cls dd σ H' α' N' s2 e2 x
  | ok c M => exact fun v H1 α1 N1 s1 e1 g1 => ⟨M, α1, N1, c, s1, e1, g1, PostS.later e1 h⟩
theorem PostS.nxNow {s : Sx} (h : PostS T mg N α H W Dn (.nx s)) (hs : StR T N H σ s α) : Dn.nx σ H := h σ H α N hs Ext.refl

def fSkip : Sx → RS := fun s => .nx s
def fSeq (f g : Sx → RS) : Sx → RS := fun s => match f s with
  | .nx s1 => g s1
  | r => r
theorem skip_imp (h : tS T mg W fSkip Dn σ H) : tNext Dn σ H := by
  obtain ⟨s, α, N, hs, p⟩ := h
  exact p.nxNow hs
theorem seq_imp {f g : Sx → RS} (h : tS T mg W (fSeq f g) Dn σ H) : tSeq (tS T mg W f) (tS T mg W g) Dn σ H := by
  obtain ⟨s, α, N, hs, p⟩ := h
  refine ⟨s, α, N, hs, ?_⟩
  unfold fSeq at p
  cases q : f s with
  | nx s1 => rw [q] at p; exact fun σ' H' α' N' s' e => ⟨s1, α', N', s', PostS.later e p⟩
  | rt d s1 => rw [q] at p; exact p
  | bk s1 => rw [q] at p; exact p
  | ct s1 => rw [q] at p; exact p
  | ex e s1 => rw [q] at p; exact p
  | no => rw [q] at p; exact p
def fRet (f : Sx → R D) : Sx → RS := fun s => (f s).toS s.ρ fun d M => .rt d ⟨s.ρ, M⟩
def fRetN : Sx → RS := fun s => .rt .non s
theorem ret_imp {f : Sx → R D} (h : tS T mg W (fRet f) Dn σ H) : tRet (tD T mg W f) Dn σ H := by
  obtain ⟨s, α, N, hs, p⟩ := h
  refine ⟨s, α, N, hs, Post.mono (fun v H1 h1 => ?_) (PostS.bind (G := RelD) p)⟩
  obtain ⟨M1, α1, N1, d, s1, e1, g1, p1⟩ := h1
  exact p1 v σ H1 α1 N1 s1 Ext.refl g1
theorem retN_imp (h : tS T mg W fRetN Dn σ H) : tRetN Dn σ H := by
  obtain ⟨s, α, N, hs, p⟩ := h
  exact p .non σ H α N hs Ext.refl (by unfold Rel; rfl)
def fDrop (f : Sx → R D) : Sx → RS := fun s => (f s).toS s.ρ fun _ M => .nx ⟨s.ρ, M⟩
theorem drop_imp {f : Sx → R D} (h : tS T mg W (fDrop f) Dn σ H) : tDrop (tD T mg W f) Dn σ H := by
  obtain ⟨s, α, N, hs, p⟩ := h
  refine ⟨s, α, N, hs, Post.mono (fun v H1 h1 => ?_) (PostS.bind (G := RelD) p)⟩
  obtain ⟨M1, α1, N1, d, s1, e1, g1, p1⟩ := h1
  exact p1.nxNow s1
def fIfS (c : Sx → R Bool) (f g : Sx → RS) : Sx → RS := fun s => (c s).toS s.ρ fun b M => if b = true then f ⟨s.ρ, M⟩ else g ⟨s.ρ, M⟩
theorem ifS_imp {c : Sx → R Bool} {f g : Sx → RS} (h : tS T mg W (fIfS c f g) Dn σ H) : tIfS (tB' T mg W c) (tS T mg W f) (tS T mg W g) Dn σ H := by
  obtain ⟨s, α, N, hs, p⟩ := h
  refine ⟨s, α, N, hs, Post.mono (fun x H1 h1 => ?_) (PostS.bind (G := RelB) p)⟩
  obtain ⟨M1, α1, N1, b, s1, e1, g1, p1⟩ := h1
  cases g1
  cases x with
  | true => exact ⟨_, α1, N1, s1, p1⟩
  | false => exact ⟨_, α1, N1, s1, p1⟩
def fBrk : Sx → RS := fun s => .bk s
def fCnt : Sx → RS := fun s => .ct s
theorem brk_imp (h : tS T mg W fBrk Dn σ H) : tBreak Dn σ H := by
  obtain ⟨s, α, N, hs, p⟩ := h
  exact p σ H α N hs Ext.refl
theorem cnt_imp (h : tS T mg W fCnt Dn σ H) : tCont Dn σ H := by
  obtain ⟨s, α, N, hs, p⟩ := h
  exact p σ H α N hs Ext.refl

/-! ### targets -/
theorem StR.set {ρ : List (Option D)} {M : Cells} {i : Nat} {d : D} {v : V} (s : StR T N H σ ⟨ρ, M⟩ α) (r : Rel H N α d v) : StR T N H (σ.set i (some v)) ⟨ρ.set i (some d), M⟩ α := by
  refine ⟨s.c, fun j e h => ?_, by simpa using s.lnr⟩
  by_cases hj : i = j
  · subst hj
    by_cases hl : i < ρ.length
    · have h' : (ρ.set i (some d))[i]? = some (some e) := h
      rw [List.getElem?_set_self hl] at h'
      cases h'
      have hl' : i < σ.length := by have := s.lnr; simp at this; omega
      exact ⟨v, by rw [List.getElem?_set_self hl'], r⟩
    · have h' : (ρ.set i (some d))[i]? = some (some e) := h
      rw [List.getElem?_eq_none (by simpa using hl)] at h'
      cases h'
  · have h' : (ρ.set i (some d))[j]? = some (some e) := h
    rw [List.getElem?_set_ne hj] at h'
    obtain ⟨w, h1, h2⟩ := s.slt j e h'
    exact ⟨w, by rw [List.getElem?_set_ne hj]; exact h1, h2⟩
/-- only the slots ws differ -/
def Off (ws : List Nat) (σ σ' : L2.St) : Prop := σ'.length = σ.length ∧ ∀ i, i ∉ ws → σ'[i]? = σ[i]?
theorem Off.refl {ws : List Nat} {σ : L2.St} : Off ws σ σ := ⟨rfl, fun _ _ => rfl⟩
theorem Off.trans {ws : List Nat} {σ σ1 σ2 : L2.St} (a : Off ws σ σ1) (b : Off ws σ1 σ2) : Off ws σ σ2 := ⟨b.1.trans a.1, fun i h => (b.2 i h).trans (a.2 i h)⟩
theorem wipe_get {σ : L2.St} {i : Nat} : ∀ {vs : List Nat}, (wipe σ vs)[i]? = if i ∈ vs ∧ i < σ.length then some none else σ[i]?
  | [] => by simp [wipe]
  | v :: vs => by
    unfold wipe
    have ih := wipe_get (σ := σ) (i := i) (vs := vs)
    by_cases hv : v = i
    · subst hv
      by_cases hl : v < σ.length
      · rw [List.getElem?_set_self (by rw [wipe_length]; exact hl), if_pos ⟨by simp, hl⟩]
      · rw [List.getElem?_eq_none (by simp [wipe_length]; omega), if_neg (fun h => hl h.2), List.getElem?_eq_none (by omega)]
    · rw [List.getElem?_set_ne hv, ih]
      have hm : (i ∈ v :: vs) ↔ i ∈ vs := by simp [Ne.symm hv]
      simp only [hm]
theorem Off.wipe {ws : List Nat} {σ σ' : L2.St} (h : Off ws (L2.wipe σ ws) σ') : L2.wipe σ' ws = L2.wipe σ ws := by
  refine List.ext_getElem? fun i => ?_
  rw [wipe_get, wipe_get, h.1, wipe_length]
  by_cases hi : i ∈ ws
  · by_cases hl : i < σ.length
    · rw [if_pos ⟨hi, hl⟩, if_pos ⟨hi, hl⟩]
    · rw [if_neg (fun z => hl z.2), if_neg (fun z => hl z.2), List.getElem?_eq_none (by rw [h.1, wipe_length]; omega), List.getElem?_eq_none (by omega)]
  · rw [if_neg (fun z => hi z.1), if_neg (fun z => hi z.1), h.2 i hi, wipe_get, if_neg (fun z => hi z.1)]

/-- a target -/
def tT (T : TPr) (ws : List Nat) (g : D → Sx → Option Sx) : TG := fun v σ H Q => ∃ d s α N s', StR T N H σ s α ∧ Rel H N α d v ∧ g d s = some s' ∧
  ∀ σ' H' α' N', StR T N' H' σ' s' α' → Ext α N H α' N' H' → Off ws σ σ' → Q σ' H'
def tTs (T : TPr) (ws : List Nat) (g : List D → Sx → Option Sx) : TGs := fun vs σ H Q => ∃ ds s α N s', StR T N H σ s α ∧ Rels H N α ds vs ∧ g ds s = some s' ∧
  ∀ σ' H' α' N', StR T N' H' σ' s' α' → Ext α N H α' N' H' → Off ws σ σ' → Q σ' H'
def bName (i : Nat) : D → Sx → Option Sx := fun d s => some ⟨s.ρ.set i (some d), s.M⟩
def bNil : List D → Sx → Option Sx := fun l s => match l with
  | [] => some s
  | _ => none
def bCons (g : D → Sx → Option Sx) (h : List D → Sx → Option Sx) : List D → Sx → Option Sx := fun l s => match l with
  | d :: r => (g d s).bind fun s1 => h r s1
  | _ => none
def bTup (n : Nat) (h : List D → Sx → Option Sx) : D → Sx → Option Sx := fun d s => match d with
  | .tup l => if l.length = n then h l s else none
  | _ => none
def bLst (n : Nat) (h : List D → Sx → Option Sx) : D → Sx → Option Sx := fun d s => match d with
  | .lst l => if l.length = n then h l s else none
  | _ => none
theorem off_set {ws : List Nat} {σ : L2.St} {i : Nat} {v : Option V} (h : i ∈ ws) : Off ws σ (σ.set i v) := ⟨by simp, fun j hj => List.getElem?_set_ne (fun e => hj (by rw [← e]; exact h))⟩
theorem bName_imp {ws : List Nat} {i : Nat} (hi : i ∈ ws) {v : V} {Q : L2.St → Hp → Prop} (h : tT T ws (bName i) v σ H Q) : gName i v σ H Q := by
  obtain ⟨d, s, α, N, s', hs, r, e, k⟩ := h
  cases e
  exact k _ H α N (StR.set hs r) Ext.refl (off_set hi)
theorem bNil_imp {ws : List Nat} {vs : List V} {Q : L2.St → Hp → Prop} (h : tTs T ws bNil vs σ H Q) : gNil vs σ H Q := by
  obtain ⟨ds, s, α, N, s', hs, r, e, k⟩ := h
  cases ds with
  | nil => cases e; unfold Rels at r; exact ⟨r, k σ H α N hs Ext.refl Off.refl⟩
  | cons _ _ => cases e
theorem bCons_imp {ws : List Nat} {g : D → Sx → Option Sx} {gs : List D → Sx → Option Sx} {vs : List V} {Q : L2.St → Hp → Prop} (h : tTs T ws (bCons g gs) vs σ H Q) : gCons (tT T ws g) (tTs T ws gs) vs σ H Q := by
  obtain ⟨ds, s, α, N, s', hs, r, e, k⟩ := h
  cases ds with
  | nil => cases e
  | cons d l =>
    unfold Rels at r
    obtain ⟨v, vr, ev, r1, r2⟩ := r
    unfold bCons at e
    cases q : g d s with
    | none => simp [q] at e
    | some s1 =>
      simp only [q, Option.bind_some] at e
      exact ⟨v, vr, ev, d, s, α, N, s1, hs, r1, q, fun σ1 H1 α1 N1 t1 e1 o1 => ⟨l, s1, α1, N1, s', t1, Rels.mono hs.c.sub e1 r2, e, fun σ2 H2 α2 N2 t2 e2 o2 => k σ2 H2 α2 N2 t2 (e1.trans e2) (o1.trans o2)⟩⟩
theorem rd_sqT {K : PySem.W.Frag} {H : Hp} {a : Addr} {vs : List V} (h : H a = some (.tup vs)) : SqT K H a vs := .inl (.inl h)
theorem rd_sqL {K : PySem.W.Frag} {H : Hp} {a : Addr} {vs : List V} (h : H a = some (.lst vs)) : SqL K H a vs := .inl (.inl h)
theorem bTup_imp {K : PySem.W.Frag} {ws : List Nat} {n : Nat} {gs : List D → Sx → Option Sx} {v : V} {Q : L2.St → Hp → Prop} (h : tT T ws (bTup n gs) v σ H Q) : gTup K n (tTs T ws gs) v σ H Q := by
  obtain ⟨d, s, α, N, s', hs, r, e, k⟩ := h
  cases d with
  | tup l =>
    unfold Rel at r
    obtain ⟨a, vs, h1, h2, h3⟩ := r
    unfold bTup at e
    by_cases hl : l.length = n
    · simp only [hl, if_true] at e
      exact ⟨a, vs, h1, rd_sqT h2, by rw [← Rels.length h3]; exact hl, l, s, α, N, s', hs, h3, e, k⟩
    · simp [hl] at e
  | _ => cases e
theorem bLst_imp {K : PySem.W.Frag} {ws : List Nat} {n : Nat} {gs : List D → Sx → Option Sx} {v : V} {Q : L2.St → Hp → Prop} (h : tT T ws (bLst n gs) v σ H Q) : gLst K n (tTs T ws gs) v σ H Q := by
  obtain ⟨d, s, α, N, s', hs, r, e, k⟩ := h
  cases d with
  | lst l =>
    unfold Rel at r
    obtain ⟨a, vs, h1, h0, h2, h3⟩ := r
    unfold bLst at e
    by_cases hl : l.length = n
    · simp only [hl, if_true] at e
      exact ⟨a, vs, h1, rd_sqL h2, by rw [← Rels.length h3]; exact hl, l, s, α, N, s', hs, h3, e, k⟩
    · simp [hl] at e
  | _ => cases e
def fAsg (f : Sx → R D) (g : D → Sx → Option Sx) : Sx → RS := fun s => (f s).toS s.ρ fun d M => match g d ⟨s.ρ, M⟩ with
  | some s' => .nx s'
  | none => .no
theorem asg_imp {ws : List Nat} {f : Sx → R D} {g : D → Sx → Option Sx} (h : tS T mg W (fAsg f g) Dn σ H) : tAsg (tD T mg W f) (tT T ws g) Dn σ H := by
  obtain ⟨s, α, N, hs, p⟩ := h
  refine ⟨s, α, N, hs, Post.mono (fun v H1 h1 => ?_) (PostS.bind (G := RelD) p)⟩
  obtain ⟨M1, α1, N1, d, s1, e1, g1, p1⟩ := h1
  cases q : g d ⟨s.ρ, M1⟩ with
  | none => rw [q] at p1; exact p1.elim
  | some s' =>
    rw [q] at p1
    exact ⟨d, _, α1, N1, s', s1, g1, q, fun σ' H' α' N' t e _ => p1 σ' H' α' N' t e⟩
/-- name = value -/
theorem set_imp {i : Nat} {f : Sx → R D} (h : tS T mg W (fAsg f (bName i)) Dn σ H) : tAsg (tD T mg W f) (gName i) Dn σ H := by
  obtain ⟨s, α, N, hs, p⟩ := asg_imp (ws := [i]) h
  exact ⟨s, α, N, hs, Post.mono (fun v H1 h1 => bName_imp (by simp) h1) p⟩
/-- a, b = x, y -/
def fPar (i j : Nat) (f : Sx → R (List D)) : Sx → RS := fun s => (f s).toS s.ρ fun l M => match l with
  | [d, e] => .nx ⟨(s.ρ.set i (some d)).set j (some e), M⟩
  | _ => .no
theorem par_imp {i j : Nat} {f : Sx → R (List D)} (h : tS T mg W (fPar i j f) Dn σ H) : tPar i j (tL T mg W f) Dn σ H := by
  obtain ⟨s, α, N, hs, p⟩ := h
  refine ⟨s, α, N, hs, Post.mono (fun v H1 h1 => ?_) (PostS.bind (G := RelL) p)⟩
  obtain ⟨M1, α1, N1, l, s1, e1, g1, p1⟩ := h1
  match l, p1, g1 with
  | [d, e], p1, g1 =>
    unfold RelL Rels at g1
    obtain ⟨v1, r1, rfl, q1, q2⟩ := g1
    unfold Rels at q2
    obtain ⟨v2, r2, rfl, q3, q4⟩ := q2
    unfold Rels at q4
    subst q4
    exact ⟨v1, v2, rfl, p1.nxNow ((StR.set s1 q1).set q3)⟩
  | [], p1, _ => exact p1.elim
  | [_], p1, _ => exact p1.elim
  | _ :: _ :: _ :: _, p1, _ => exact p1.elim
/-- name op= e -/
def fAug (g : Cells → D → D → Option D) (i : Nat) (f : Sx → R D) : Sx → RS := fun s => match s.ρ[i]? with
  | some (some d) => (f s).toS s.ρ fun e M => match g M d e with
    | some z => .nx ⟨s.ρ.set i (some z), M⟩
    | none => .no
  | _ => .no
theorem aug_imp {r : TIp} {g : Cells → D → D → Option D} {i : Nat} {f : Sx → R D} (ho : OpD T r g) (h : tS T mg W (fAug g i f) Dn σ H) : tAug i (tD T mg W f) r Dn σ H := by
  obtain ⟨s, α, N, hs, p⟩ := h
  unfold fAug at p
  cases q : s.ρ[i]? with
  | none => rw [q] at p; exact p.elim
  | some o =>
    cases o with
    | none => rw [q] at p; exact p.elim
    | some d =>
      rw [q] at p
      obtain ⟨v, h1, h2⟩ := hs.slt i d q
      refine ⟨v, h1, s, α, N, hs, Post.mono (fun y H1 hh => ?_) (PostS.bind (G := RelD) p)⟩
      obtain ⟨M1, α1, N1, e, s1, e1, g1, p1⟩ := hh
      cases qz : g M1 d e with
      | none => rw [qz] at p1; exact p1.elim
      | some z =>
        rw [qz] at p1
        exact ho s1.c (Rel.mono hs.c.sub e1 h2) g1 qz fun w H' c ex rz => p1 _ H' α1 N1 ((StC.keep s1 c ex).set rz) ex

/-! ### while -/
def fWhile (c : Sx → R Bool) (b : Sx → RS) : Nat → Sx → RS
  | 0, _ => .no
  | n + 1, s => (c s).toS s.ρ fun t M => if t = true then (match b ⟨s.ρ, M⟩ with
    | .nx s1 => fWhile c b n s1
    | .ct s1 => fWhile c b n s1
    | .bk s1 => .nx s1
    | r => r) else .nx ⟨s.ρ, M⟩
theorem while_imp {c : Sx → R Bool} {b : Sx → RS} (n : Nat) (h : tS T mg W (fWhile c b n) Dn σ H) : tWhile (tB' T mg W c) (tS T mg W b) Dn σ H := by
  refine ⟨fun m σ H => tS T mg W (fWhile c b m) Dn σ H, ⟨n, h⟩, ?_⟩
  intro m σ H h
  obtain ⟨s, α, N, hs, p⟩ := h
  cases m with
  | zero => exact p.elim
  | succ m =>
    refine ⟨s, α, N, hs, Post.mono (fun t H1 h1 => ?_) (PostS.bind (G := RelB) p)⟩
    obtain ⟨M1, α1, N1, b', s1, e1, g1, p1⟩ := h1
    cases g1
    cases t with
    | false => exact p1.nxNow s1
    | true =>
      rw [if_pos rfl] at p1 ⊢
      refine ⟨fun σ' H' => tS T mg W (fWhile c b m) Dn σ' H', fun σ' H' h' => ⟨m, Nat.lt_succ_self _, h'⟩, ⟨s.ρ, M1⟩, α1, N1, s1, ?_⟩
      cases q : b ⟨s.ρ, M1⟩ with
      | nx s2 => rw [q] at p1; exact fun σ' H' α' N' t e => ⟨s2, α', N', t, PostS.later e p1⟩
      | ct s2 => rw [q] at p1; exact fun σ' H' α' N' t e => ⟨s2, α', N', t, PostS.later e p1⟩
      | bk s2 => rw [q] at p1; exact p1
      | rt d s2 => rw [q] at p1; exact p1
      | ex d s2 => rw [q] at p1; exact p1
      | no => rw [q] at p1; exact p1

/-! ### for -/
/-- a walk of the items ds: from here on, whatever is done with the cells -/
def ItD (T : TPr) (J : It) (ds : List D) (α : List Addr) (N : Addr → Prop) (H : Hp) : Prop :=
  ∀ (i : Nat) (α2 : List Addr) (N2 : Addr → Prop) (H2 : Hp), Ext α N H α2 N2 H2 → (∀ a ∈ α2, N2 a) →
    (i = ds.length → J.stop i H2) ∧ ∀ d, ds[i]? = some d → J.go i H2 ∧ ∀ x H3, J.yld i H2 x H3 → (∀ b o, H2 b = some o → H3 b = some o) ∧ Rel H3 N2 α2 d x
def PostI (T : TPr) (mg : Str → Option Value) (N : Addr → Prop) (α : List Addr) (H : Hp) (σ : L2.St) (ρ : List (Option D)) (W : WX) (Q : It → Hp → Prop) : R (List D) → Prop
  | .ok ds M => ∀ J H' α' N', StR T N' H' σ ⟨ρ, M⟩ α' → Ext α N H α' N' H' → ItD T J ds α' N' H' → Q J H'
  | .ex e M => ∀ cls dd H' α' N', StR T N' H' σ ⟨ρ, M⟩ α' → Ext α N H α' N' H' → XR mg e cls dd H' N' α' → W cls dd σ H'
  | .no => False
def tI (T : TPr) (mg : Str → Option Value) (W : WX) (f : Sx → R (List D)) : TI := fun σ H Q => ∃ s α N, StR T N H σ s α ∧ PostI T mg N α H σ s.ρ W Q (f s)
def fForL (g : D → Sx → Option Sx) (b : Sx → RS) : List D → Sx → RS
  | [], s => .nx s
  | d :: r, s => match g d s with
    | none => .no
    | some s1 => match b s1 with
      | .nx s2 => fForL g b r s2
      | .ct s2 => fForL g b r s2
      | .bk s2 => .nx s2
      | x => x
def fFor (fi : Sx → R (List D)) (g : D → Sx → Option Sx) (b : Sx → RS) : Sx → RS := fun s => (fi s).toS s.ρ fun ds M => fForL g b ds ⟨s.ρ, M⟩
theorem StR.grow {s : Sx} {H' : Hp} (h : StR T N H σ s α) (k : ∀ b o, H b = some o → H' b = some o) : StR T N H' σ s α :=
  ⟨h.c.grow k, fun i d e => by obtain ⟨v, h1, h2⟩ := h.slt i d e; exact ⟨v, h1, Rel.mono h.c.sub (Ext.grow k) h2⟩, h.lnr⟩
theorem ItD.later {J : It} {ds : List D} {α1 : List Addr} {N1 : Addr → Prop} {H1 : Hp} (e : Ext α N H α1 N1 H1) (h : ItD T J ds α N H) : ItD T J ds α1 N1 H1 := fun i α2 N2 H2 e2 s2 => h i α2 N2 H2 (e.trans e2) s2
theorem for_imp {ws : List Nat} {fi : Sx → R (List D)} {g : D → Sx → Option Sx} {b : Sx → RS} (h : tS T mg W (fFor fi g b) Dn σ H) : tFor (tI T mg W fi) (tT T ws g) (tS T mg W b) Dn σ H := by
  obtain ⟨s, α, N, hs, p⟩ := h
  refine ⟨s, α, N, hs, ?_⟩
  unfold fFor at p
  cases q : fi s with
  | no => rw [q] at p; exact p
  | ex e M => rw [q] at p; exact fun cls dd H' α' N' s2 e2 x => p cls dd σ H' α' N' s2 e2 x
  | ok ds M =>
    rw [q] at p
    intro J H1 α1 N1 s1 e1 it
    have p1 : PostS T mg N1 α1 H1 W Dn (fForL g b ds ⟨s.ρ, M⟩) := PostS.later e1 p
    refine ⟨fun i m σ H => m = ds.length - i ∧ i ≤ ds.length ∧ ∃ s α N, StR T N H σ s α ∧ Ext α1 N1 H1 α N H ∧ PostS T mg N α H W Dn (fForL g b (ds.drop i) s), ⟨ds.length, by simp, Nat.zero_le _, _, α1, N1, s1, Ext.refl, p1⟩, ?_⟩
    rintro i m σ2 H2 ⟨rfl, hi, s2, α2, N2, t2, e2, p2⟩
    obtain ⟨hstop, hgo⟩ := it i α2 N2 H2 e2 t2.c.sub
    by_cases hlt : i < ds.length
    · have hd : ds[i]? = some ds[i] := by simp [hlt]
      obtain ⟨go, yl⟩ := hgo _ hd
      have hdr : ds.drop i = ds[i] :: ds.drop (i + 1) := List.drop_eq_getElem_cons hlt
      rw [hdr] at p2
      refine .inr ⟨go, fun σ' H' => ∃ s α N, StR T N H' σ' s α ∧ Ext α1 N1 H1 α N H' ∧ PostS T mg N α H' W Dn (fForL g b (ds.drop (i + 1)) s), fun σ' H' ⟨s3, α3, N3, t3, e3, p3⟩ => ⟨ds.length - (i + 1), by omega, rfl, hlt, s3, α3, N3, t3, e3, p3⟩, fun x H3 hy => ?_⟩
      obtain ⟨k3, r3⟩ := yl x H3 hy
      unfold fForL at p2
      cases qg : g ds[i] s2 with
      | none => rw [qg] at p2; exact p2.elim
      | some s3 =>
        rw [qg] at p2
        dsimp only at p2
        refine ⟨ds[i], s2, α2, N2, s3, t2.grow k3, r3, qg, fun σ4 H4 α4 N4 t4 e4 _ => ⟨s3, α4, N4, t4, ?_⟩⟩
        have e4' : Ext α2 N2 H2 α4 N4 H4 := (Ext.grow k3).trans e4
        have p4 := PostS.later e4' p2
        cases qb : b s3 with
        | nx s5 => rw [qb] at p4; exact fun σ' H' α' N' t e => ⟨s5, α', N', t, (e2.trans e4').trans e, PostS.later e p4⟩
        | ct s5 => rw [qb] at p4; exact fun σ' H' α' N' t e => ⟨s5, α', N', t, (e2.trans e4').trans e, PostS.later e p4⟩
        | bk s5 => rw [qb] at p4; exact p4
        | rt d s5 => rw [qb] at p4; exact p4
        | ex d s5 => rw [qb] at p4; exact p4
        | no => rw [qb] at p4; exact p4
    · have e : i = ds.length := by omega
      refine .inl ⟨hstop e, ?_⟩
      rw [e, List.drop_length] at p2
      exact p2.nxNow t2
end
end DL

namespace DL
open PySem PySem.Spec L2
open PyProof.Rows hiding St

section
variable {T : TPr} {mg : Str → Option Value} {W : WX} {σ : L2.St} {H : Hp} {N : Addr → Prop} {α : List Addr} {Dn : Ends}
theorem Ext.growN {N' : Addr → Prop} {H' : Hp} (k : ∀ b o, H b = some o → H' b = some o) (nn : ∀ a, N a → N' a) (nb : ∀ a, N' a → N a ∨ Fz H a) : Ext α N H α N' H' :=
  ⟨⟨[], by simp, by simp⟩, nn, nb, fun b o h _ _ => k b o h, fun b h z => h fun o e => z o (k b o e)⟩
theorem StR.growN {s : Sx} {N' : Addr → Prop} {H' : Hp} (h : StR T N H σ s α) (k : ∀ b o, H b = some o → H' b = some o) (nn : ∀ a, N a → N' a) (nb : ∀ a, N' a → N a ∨ Fz H a) (som : ∀ a, N' a → ¬ Fz H' a) : StR T N' H' σ s α :=
  have e : Ext α N H α N' H' := Ext.growN k nn nb
  ⟨⟨h.c.nd, fun a ha => nn a (h.c.sub a ha), som, h.c.len, fun n l q => by
    obtain ⟨a, vs, h1, h2, h3⟩ := h.c.cel n l q
    exact ⟨a, vs, h1, k _ _ h2, Rels.mono h.c.sub e h3⟩, T.mono _ _ h.c.tab fun b o h _ => k b o h⟩,
   fun i d q => by obtain ⟨v, h1, h2⟩ := h.slt i d q; exact ⟨v, h1, Rel.mono h.c.sub e h2⟩, h.lnr⟩
mutual
/-- a forbidden list that is no cell changes -/
theorem Rel.wr {p : Addr} {vs ws : List V} (hN : N p) (hp : H p = some (.lst vs)) : ∀ {d : D} {v : V}, Rel H N α d v → Rel (upd H p (.lst ws)) N α d v
  | .non, _, h => by unfold Rel at h ⊢; exact h
  | .bl _, _, h => by unfold Rel at h ⊢; exact h
  | .int _, _, h => by unfold Rel at h ⊢; exact h
  | .str _, _, h => by unfold Rel at h ⊢; exact h
  | .tup l, _, h => by
    unfold Rel at h ⊢
    obtain ⟨a, us, h1, h2, h3⟩ := h
    refine ⟨a, us, h1, ?_, Rels.wr hN hp h3⟩
    have ne : a ≠ p := fun e => by subst e; rw [hp] at h2; cases h2
    rw [upd_ne ne]; exact h2
  | .lst l, _, h => by
    unfold Rel at h ⊢
    obtain ⟨a, us, h1, h0, h2, h3⟩ := h
    refine ⟨a, us, h1, h0, ?_, Rels.wr hN hp h3⟩
    have ne : a ≠ p := fun e => h0 (by rw [e]; exact hN)
    rw [upd_ne ne]; exact h2
  | .loc n, _, h => by unfold Rel at h ⊢; exact h
  | .adr _, _, h => by unfold Rel at h ⊢; exact h
  | .ty _, _, h => by unfold Rel at h ⊢; exact h
  | .scr l, _, h => by
    unfold Rel at h ⊢
    obtain ⟨a, o, us, h1, h2, h3⟩ := h
    refine ⟨a, o, us, h1, ?_, Rels.wr hN hp h3⟩
    have ne : a ≠ p := fun e => by subst e; rw [hp] at h2; cases h2
    rw [upd_ne ne]; exact h2
theorem Rels.wr {p : Addr} {vs ws : List V} (hN : N p) (hp : H p = some (.lst vs)) : ∀ {l : List D} {us : List V}, Rels H N α l us → Rels (upd H p (.lst ws)) N α l us
  | [], _, h => by unfold Rels at h ⊢; exact h
  | d :: l, _, h => by
    unfold Rels at h ⊢
    obtain ⟨v, r, h1, h2, h3⟩ := h
    exact ⟨v, r, h1, Rel.wr hN hp h2, Rels.wr hN hp h3⟩
end
theorem tab_wr {p : Addr} {vs ws : List V} (hp : H p = some (.lst vs)) (h : T.p H) : T.p (upd H p (.lst ws)) := T.mono _ _ h fun b o e nl => by
  rw [upd_ne (fun z => by rw [z, hp] at e; cases e; exact nl _ rfl)]; exact e
/-- a forbidden list that is no cell changes -/
theorem StR.wr {s : Sx} {p : Addr} {vs ws : List V} (h : StR T N H σ s α) (hN : N p) (hn : p ∉ α) (hp : H p = some (.lst vs)) : StR T N (upd H p (.lst ws)) σ s α :=
  ⟨⟨h.c.nd, h.c.sub, fun a ha z => by
    by_cases e : a = p
    · obtain ⟨ps, w⟩ := z (.lst ws) (by rw [e]; exact upd_same); cases w
    · exact h.c.som a ha fun u hu => z u (by rw [upd_ne e]; exact hu), h.c.len, fun n l q => by
    obtain ⟨a, us, h1, h2, h3⟩ := h.c.cel n l q
    have ne : a ≠ p := fun e => hn (by rw [← e]; exact List.mem_of_getElem? h1)
    exact ⟨a, us, h1, by rw [upd_ne ne]; exact h2, Rels.wr hN hp h3⟩, tab_wr hp h.c.tab⟩,
   fun i d q => by obtain ⟨v, h1, h2⟩ := h.slt i d q; exact ⟨v, h1, Rel.wr hN hp h2⟩, h.lnr⟩
theorem Ext.wr {α1 : List Addr} {N1 : Addr → Prop} {H1 : Hp} {p : Addr} {o : HO} (e : Ext α N H α1 N1 H1) (hp : Fz H p) (hno : ∀ ps, o ≠ .tbl ps) : Ext α N H α1 N1 (upd H1 p o) :=
  ⟨e.pre, e.nn, e.nb, fun b u h1 h2 h3 => by
    rw [upd_ne (fun z => by obtain ⟨ps, q⟩ := hp u (by rw [← z]; exact h1); exact h3 ps q)]
    exact e.keep b u h1 h2 h3, fun b h z => by
    by_cases q : b = p
    · obtain ⟨ps, w⟩ := z o (by rw [q]; exact upd_same); exact hno ps w
    · exact e.there b h fun u hu => z u (by rw [upd_ne q]; exact hu)⟩
theorem Ext.back {α1 : List Addr} {N1 : Addr → Prop} {H1 : Hp} (e : Ext α N H α1 N1 H1) {p : Addr} (h : Fz H1 p) : Fz H p := Classical.byContradiction fun q => e.there p q h
theorem Ext.notin {α1 : List Addr} {N1 : Addr → Prop} {H1 : Hp} (e : Ext α N H α1 N1 H1) {p : Addr} {xs : List V} (hp : p ∉ α) (h : H p = some (.lst xs)) : p ∉ α1 := by
  obtain ⟨β, e1, f⟩ := e.pre
  rw [e1]
  intro hm
  rcases List.mem_append.mp hm with z | z
  · exact hp z
  · obtain ⟨ps, q⟩ := f p z _ h; cases q
/-- what was laid is there -/
theorem nf_upd {p : Addr} {o : HO} (ho : ∀ ps, o ≠ .tbl ps) {a : Addr} (h : a ≠ p → ¬ Fz H a) : ¬ Fz (upd H p o) a := fun z => by
  by_cases q : a = p
  · obtain ⟨ps, w⟩ := z o (by rw [q]; exact upd_same); exact ho ps w
  · exact h q fun u hu => z u (by rw [upd_ne q]; exact hu)

/-! ### a new list -/
def PostL (T : TPr) (mg : Str → Option Value) (N : Addr → Prop) (α : List Addr) (H : Hp) (σ : L2.St) (ρ : List (Option D)) (W : WX) (Q : VK) : R (List D) → Prop
  | .ok l M => ∀ p vs H' α' N', StR T N' H' σ ⟨ρ, M⟩ α' → Ext α N H α' N' H' → N' p → p ∉ α' → Fz H p → H' p = some (.lst vs) → Rels H' N' α' l vs → Q (.ref p) H'
  | .ex e M => ∀ cls dd H' α' N', StR T N' H' σ ⟨ρ, M⟩ α' → Ext α N H α' N' H' → XR mg e cls dd H' N' α' → W cls dd σ H'
  | .no => False
def tFL (T : TPr) (mg : Str → Option Value) (W : WX) (f : Sx → R (List D)) : TE := fun σ H Q => ∃ s α N, StR T N H σ s α ∧ PostL T mg N α H σ s.ρ W Q (f s)
theorem PostL.later {ρ : List (Option D)} {Q : VK} {r : R (List D)} {N1 : Addr → Prop} {α1 : List Addr} {H1 : Hp} (e1 : Ext α N H α1 N1 H1) (h : PostL T mg N α H σ ρ W Q r) : PostL T mg N1 α1 H1 σ ρ W Q r := by
  cases r with
  | no => exact h
  | ex e M => exact fun cls dd H' α' N' s2 e2 x => h cls dd H' α' N' s2 (e1.trans e2) x
  | ok l M => exact fun p vs H' α' N' s2 e2 n1 n2 n3 n4 n5 => h p vs H' α' N' s2 (e1.trans e2) n1 n2 (e1.back n3) n4 n5
theorem StR.lessN {s : Sx} {N' : Addr → Prop} (h : StR T N H σ s α) (hn : ∀ a, N' a → N a) (hs : ∀ a ∈ α, N' a) : StR T N' H σ s α :=
  ⟨⟨h.c.nd, hs, fun a ha => h.c.som a (hn a ha), h.c.len, fun n l q => by
    obtain ⟨a, us, h1, h2, h3⟩ := h.c.cel n l q
    exact ⟨a, us, h1, h2, Rels.less hn h3⟩, h.c.tab⟩, fun i d q => by obtain ⟨v, h1, h2⟩ := h.slt i d q; exact ⟨v, h1, Rel.less hn h2⟩, h.lnr⟩
/-- the new list, which no one changes -/
def fFz (f : Sx → R (List D)) : Sx → R D := fun s => (f s).bind fun l M => .ok (.lst l) M
theorem fz_imp {f : Sx → R (List D)} {Q : VK} (h : tD T mg W (fFz f) σ H Q) : tFL T mg W f σ H Q := by
  obtain ⟨s, α, N, hs, p⟩ := h
  refine ⟨s, α, N, hs, ?_⟩
  unfold fFz at p
  cases q : f s with
  | no => rw [q] at p; exact p
  | ex e M => rw [q] at p; exact p
  | ok l M =>
    rw [q] at p
    intro a vs H' α' N' s1 e1 n1 n2 n3 n4 n5
    have hn : ∀ b, (N' b ∧ b ≠ a) → N' b := fun b h => h.1
    have s2 : StR T (fun b => N' b ∧ b ≠ a) H' σ ⟨s.ρ, M⟩ α' := s1.lessN hn fun b hb => ⟨s1.c.sub b hb, fun z => n2 (by rw [← z]; exact hb)⟩
    refine p (.ref a) H' α' (fun b => N' b ∧ b ≠ a) s2 ⟨e1.pre, fun b h => ⟨e1.nn b h, fun z => ?_⟩, fun b h => e1.nb b h.1, e1.keep, e1.there⟩ ?_
    · rw [z] at h; exact hs.c.som a h n3
    · unfold RelD Rel
      exact ⟨a, vs, rfl, fun z => z.2 rfl, n4, Rels.less hn n5⟩
/-- a written list, new -/
def fNew (f : Sx → R (List D)) : Sx → R (List D) := fun s => (f s).bind fun l M => if l.length ≤ 100000 then .ok l M else .no
theorem PostL.bind {γ δ : Type} {G : RG γ δ} {ρ : List (Option D)} {Q : VK} {r : R γ} {k : γ → Cells → R (List D)} (h : PostL T mg N α H σ ρ W Q (r.bind k)) :
    Post T mg G N α H σ ρ W (fun v H1 => ∃ M α1 N1 c, StR T N1 H1 σ ⟨ρ, M⟩ α1 ∧ Ext α N H α1 N1 H1 ∧ G H1 N1 α1 c v ∧ PostL T mg N1 α1 H1 σ ρ W Q (k c M)) r := by
  cases r with
  | no => exact h
  | ex e M => exact h
  | ok c M => exact fun v H1 α1 N1 s1 e1 g1 => ⟨M, α1, N1, c, s1, e1, g1, PostL.later e1 h⟩
/-- a list is laid -/
theorem PostL.lay {ρ : List (Option D)} {Q : VK} {l : List D} {M : Cells} {p : Addr} {vs : List V} (h : PostL T mg N α H σ ρ W Q (.ok l M)) (s : StR T N H σ ⟨ρ, M⟩ α) (r : Rels H N α l vs) (hp : H p = none) : Q (.ref p) (upd H p (.lst vs)) := by
  have k := new_keep (o := .lst vs) hp
  have nn : ∀ a, N a → (N a ∨ a = p) := fun a h => .inl h
  have nb : ∀ a, (N a ∨ a = p) → N a ∨ Fz H a := fun a h => h.elim .inl fun z => .inr (by rw [z]; exact fz_of hp)
  have e : Ext α N H α (fun a => N a ∨ a = p) (upd H p (.lst vs)) := Ext.growN k nn nb
  refine h p vs _ α _ (s.growN k nn nb fun a ha => ?_) e (.inr rfl) (fun hm => s.c.som p (s.c.sub p hm) (fz_of hp)) (fz_of hp) upd_same (Rels.mono s.c.sub e r)
  exact nf_upd (fun _ z => by cases z) fun z => s.c.som a (ha.resolve_right z)
theorem new_imp {f : Sx → R (List D)} {Q : VK} (h : tFL T mg W (fNew f) σ H Q) : tLst (tL T mg W f) σ H Q := by
  obtain ⟨s, α, N, hs, p⟩ := h
  refine ⟨s, α, N, hs, Post.mono (fun x H1 h1 => ?_) (PostL.bind (G := RelL) p)⟩
  obtain ⟨M1, α1, N1, l, s1, e1, g1, p1⟩ := h1
  by_cases hl : l.length ≤ 100000
  · rw [if_pos hl] at p1
    have hl' := Rels.length g1
    exact ⟨sz_of (by omega), fun a ha => p1.lay s1 g1 ha⟩
  · rw [if_neg hl] at p1; exact p1.elim
/-- name = a new list of our own -/
def fOwn (i : Nat) (f : Sx → R (List D)) : Sx → RS := fun s => (f s).toS s.ρ fun l M => .nx ⟨s.ρ.set i (some (.loc M.length)), M ++ [l]⟩
mutual
theorem Rel.more {β : List Addr} : ∀ {d : D} {v : V}, Rel H N α d v → Rel H N (α ++ β) d v
  | .non, _, h => by unfold Rel at h ⊢; exact h
  | .bl _, _, h => by unfold Rel at h ⊢; exact h
  | .int _, _, h => by unfold Rel at h ⊢; exact h
  | .str _, _, h => by unfold Rel at h ⊢; exact h
  | .tup l, _, h => by
    unfold Rel at h ⊢
    obtain ⟨a, us, h1, h2, h3⟩ := h
    exact ⟨a, us, h1, h2, Rels.more h3⟩
  | .lst l, _, h => by
    unfold Rel at h ⊢
    obtain ⟨a, us, h1, h0, h2, h3⟩ := h
    exact ⟨a, us, h1, h0, h2, Rels.more h3⟩
  | .loc n, _, h => by
    unfold Rel at h ⊢
    obtain ⟨a, h1, h2⟩ := h
    exact ⟨a, h1, pre_get h2 ⟨β, rfl, trivial⟩⟩
  | .adr _, _, h => by unfold Rel at h ⊢; exact h
  | .ty _, _, h => by unfold Rel at h ⊢; exact h
  | .scr l, _, h => by
    unfold Rel at h ⊢
    obtain ⟨a, o, us, h1, h2, h3⟩ := h
    exact ⟨a, o, us, h1, h2, Rels.more h3⟩
theorem Rels.more {β : List Addr} : ∀ {l : List D} {us : List V}, Rels H N α l us → Rels H N (α ++ β) l us
  | [], _, h => by unfold Rels at h ⊢; exact h
  | d :: l, _, h => by
    unfold Rels at h ⊢
    obtain ⟨v, r, h1, h2, h3⟩ := h
    exact ⟨v, r, h1, Rel.more h2, Rels.more h3⟩
end
/-- a new list becomes a cell -/
theorem StR.cell {ρ : List (Option D)} {M : Cells} {p : Addr} {vs : List V} {l : List D} (s : StR T N H σ ⟨ρ, M⟩ α) (hN : N p) (hn : p ∉ α) (hp : H p = some (.lst vs)) (r : Rels H N α l vs) : StR T N H σ ⟨ρ, M ++ [l]⟩ (α ++ [p]) := by
  have hl := s.c.len
  refine ⟨⟨?_, fun a ha => ?_, s.c.som, by simp [hl], fun n l' q => ?_, s.c.tab⟩, fun i d q => by obtain ⟨v, h1, h2⟩ := s.slt i d q; exact ⟨v, h1, Rel.more h2⟩, s.lnr⟩
  · rw [List.nodup_append]
    refine ⟨s.c.nd, by simp, fun a ha b hb e => ?_⟩
    simp at hb
    exact hn (by rw [← hb, ← e]; exact ha)
  · rcases List.mem_append.mp ha with z | z
    · exact s.c.sub a z
    · simp at z; rw [z]; exact hN
  · have q' : (M ++ [l])[n]? = some l' := q
    by_cases hlt : n < M.length
    · rw [List.getElem?_append_left hlt] at q'
      obtain ⟨a, us, h1, h2, h3⟩ := s.c.cel n l' q'
      exact ⟨a, us, pre_get h1 ⟨[p], rfl, trivial⟩, h2, Rels.more h3⟩
    · have e : n = M.length := by
        have := (List.getElem?_eq_some_iff.mp q').1
        simp at this; omega
      subst e
      rw [List.getElem?_append_right (Nat.le_refl _)] at q'
      simp at q'
      subst q'
      have hl' : α.length = M.length := hl
      exact ⟨p, vs, by rw [List.getElem?_append_right (by omega)]; simp [hl'], hp, Rels.more r⟩
theorem own_imp {i : Nat} {f : Sx → R (List D)} (h : tS T mg W (fOwn i f) Dn σ H) : tAsg (tFL T mg W f) (gName i) Dn σ H := by
  obtain ⟨s, α, N, hs, p⟩ := h
  refine ⟨s, α, N, hs, ?_⟩
  unfold fOwn at p
  cases q : f s with
  | no => rw [q] at p; exact p
  | ex e M => rw [q] at p; exact fun cls dd H' α' N' s2 e2 x => p cls dd σ H' α' N' s2 e2 x
  | ok l M =>
    rw [q] at p
    intro a vs H' α' N' s1 e1 n1 n2 n3 n4 n5
    have s2 := s1.cell n1 n2 n4 n5
    have hl : α'.length = M.length := s1.c.len
    obtain ⟨β, eβ, fβ⟩ := e1.pre
    refine p _ H' (α' ++ [a]) N' (s2.set (v := .ref a) ?_) ⟨⟨β ++ [a], by rw [eβ, List.append_assoc], fun b hb => ?_⟩, e1.nn, e1.nb, e1.keep, e1.there⟩
    · unfold Rel
      exact ⟨a, rfl, by rw [List.getElem?_append_right (by omega)]; simp [hl]⟩
    · rcases List.mem_append.mp hb with z | z
      · exact fβ b z
      · simp at z; rw [z]; exact n3

/-! ### list comprehensions -/
def wipeD (ρ : List (Option D)) : List Nat → List (Option D)
  | [] => ρ
  | v :: vs => (wipeD ρ vs).set v none
theorem wipeD_length (ρ : List (Option D)) : ∀ vs : List Nat, (wipeD ρ vs).length = ρ.length
  | [] => rfl
  | v :: vs => by unfold wipeD; rw [List.length_set, wipeD_length ρ vs]
theorem wipeD_get {ρ : List (Option D)} {i : Nat} : ∀ {vs : List Nat}, (wipeD ρ vs)[i]? = if i ∈ vs ∧ i < ρ.length then some none else ρ[i]?
  | [] => by simp [wipeD]
  | v :: vs => by
    unfold wipeD
    have ih := wipeD_get (ρ := ρ) (i := i) (vs := vs)
    by_cases hv : v = i
    · subst hv
      by_cases hl : v < ρ.length
      · rw [List.getElem?_set_self (by rw [wipeD_length]; exact hl), if_pos ⟨by simp, hl⟩]
      · rw [List.getElem?_eq_none (by simp [wipeD_length]; omega), if_neg (fun h => hl h.2), List.getElem?_eq_none (by omega)]
    · rw [List.getElem?_set_ne hv, ih]
      have hm : (i ∈ v :: vs) ↔ i ∈ vs := by simp [Ne.symm hv]
      simp only [hm]
theorem StR.wipe {ρ : List (Option D)} {M : Cells} {vs : List Nat} (s : StR T N H σ ⟨ρ, M⟩ α) : StR T N H (L2.wipe σ vs) ⟨wipeD ρ vs, M⟩ α := by
  refine ⟨s.c, fun i d h => ?_, by have := s.lnr; simpa [wipeD_length, wipe_length] using this⟩
  have h' : (wipeD ρ vs)[i]? = some (some d) := h
  rw [wipeD_get] at h'
  have hl : ρ.length = σ.length := s.lnr
  by_cases c : i ∈ vs ∧ i < ρ.length
  · rw [if_pos c] at h'; cases h'
  · rw [if_neg c] at h'
    obtain ⟨v, h1, h2⟩ := s.slt i d h'
    exact ⟨v, by rw [wipe_get, if_neg (by rw [← hl]; exact c)]; exact h1, h2⟩
def fLcGo (g : D → Sx → Option Sx) (t : Sx → R Bool) (e : Sx → R D) (ρ : List (Option D)) : List D → Cells → R (List D)
  | [], M => .ok [] M
  | d :: r, M => match g d ⟨ρ, M⟩ with
    | none => .no
    | some s1 => match t s1 with
      | .ok b M1 => if b = true then (match e ⟨s1.ρ, M1⟩ with
        | .ok y M2 => (fLcGo g t e ρ r M2).bind fun l M3 => .ok (y :: l) M3
        | _ => .no) else fLcGo g t e ρ r M1
      | _ => .no
def fLc (fi : Sx → R (List D)) (g : D → Sx → Option Sx) (t : Sx → R Bool) (e : Sx → R D) (vs : List Nat) : Sx → R (List D) := fun s =>
  (fi s).bind fun ds M => if ds.length ≤ 100000 then fLcGo g t e (wipeD s.ρ vs) ds M else .no
def fTrue : Sx → R Bool := fun s => .ok true s.M
theorem true_imp {Q : Bool → Hp → Prop} (h : tB' T mg W fTrue σ H Q) : tYes σ H Q := by
  obtain ⟨s, α, N, hs, p⟩ := h
  exact Post.now p hs rfl
abbrev W0 : WX := fun _ _ _ _ => False
def R.pre (acc : List D) (r : R (List D)) : R (List D) := r.bind fun l M => .ok (acc ++ l) M
theorem pre_cons {acc : List D} {y : D} {r : R (List D)} : R.pre acc (r.bind fun l M3 => .ok (y :: l) M3) = R.pre (acc ++ [y]) r := by
  cases r <;> simp [R.pre, R.bind]
theorem lc_imp {fi : Sx → R (List D)} {g : D → Sx → Option Sx} {t : Sx → R Bool} {e : Sx → R D} {vs : List Nat} {Q : VK} (h : tFL T mg W (fLc fi g t e vs) σ H Q) :
    tLc (tI T mg W fi) (tT T vs g) (tB' T mg W0 t) (tD T mg W0 e) vs σ H Q := by
  obtain ⟨s, α, N, hs, p⟩ := h
  refine ⟨s, α, N, hs, ?_⟩
  unfold fLc at p
  cases q : fi s with
  | no => rw [q] at p; exact p
  | ex e M => rw [q] at p; exact p
  | ok ds M =>
    rw [q] at p
    intro J H1 α1 N1 s1 e1 it L hL
    have p : PostL T mg N α H σ s.ρ W Q (if ds.length ≤ 100000 then fLcGo g t e (wipeD s.ρ vs) ds M else .no) := p
    by_cases hz : ds.length ≤ 100000
    case neg => rw [if_neg hz] at p; exact p.elim
    rw [if_pos hz] at p
    have hL0 : Fz H L := e1.back (fz_of hL)
    have k := new_keep (o := .lst []) hL
    have nn : ∀ a, N1 a → (N1 a ∨ a = L) := fun a h => .inl h
    have nb : ∀ a, (N1 a ∨ a = L) → N1 a ∨ Fz H1 a := fun a h => h.elim .inl fun z => .inr (by rw [z]; exact fz_of hL)
    have eL : Ext α1 N1 H1 α1 (fun a => N1 a ∨ a = L) (upd H1 L (.lst [])) := Ext.growN k nn nb
    have sL : StR T (fun a => N1 a ∨ a = L) (upd H1 L (.lst [])) σ ⟨s.ρ, M⟩ α1 := s1.growN k nn nb fun a ha => nf_upd (fun _ z => by cases z) fun z => s1.c.som a (ha.resolve_right z)
    have nL : L ∉ α1 := fun hm => s1.c.som L (s1.c.sub L hm) (fz_of hL)
    have pL : PostL T mg N1 α1 H1 σ s.ρ W Q (R.pre [] (fLcGo g t e (wipeD s.ρ vs) ds M)) := by
      have : R.pre [] (fLcGo g t e (wipeD s.ρ vs) ds M) = fLcGo g t e (wipeD s.ρ vs) ds M := by cases fLcGo g t e (wipeD s.ρ vs) ds M <;> simp [R.pre, R.bind]
      rw [this]; exact PostL.later e1 p
    refine ⟨fun i m H => m = ds.length - i ∧ i ≤ ds.length ∧ ∃ M α N acc us, StR T N H σ ⟨s.ρ, M⟩ α ∧ Ext α1 N1 H1 α N H ∧ H L = some (.lst us) ∧ N L ∧ L ∉ α ∧ Rels H N α acc us ∧ acc.length ≤ i ∧ PostL T mg N1 α1 H1 σ s.ρ W Q (R.pre acc (fLcGo g t e (wipeD s.ρ vs) (ds.drop i) M)),
      ⟨ds.length, by simp, Nat.zero_le _, M, α1, _, [], [], sL, eL, upd_same, .inr rfl, nL, by unfold Rels; rfl, by simp, pL⟩, ?_⟩
    rintro i m H2 ⟨rfl, hi, M2, α2, N2, acc, us, t2, e2, hu, n1, n2, ra, la, p2⟩
    obtain ⟨hstop, hgo⟩ := it i α2 N2 H2 e2 t2.c.sub
    by_cases hlt : i < ds.length
    · have hd : ds[i]? = some ds[i] := by simp [hlt]
      obtain ⟨go, yl⟩ := hgo _ hd
      have hdr : ds.drop i = ds[i] :: ds.drop (i + 1) := List.drop_eq_getElem_cons hlt
      rw [hdr] at p2
      refine .inr ⟨go, fun H' => ∃ M α N acc us, StR T N H' σ ⟨s.ρ, M⟩ α ∧ Ext α1 N1 H1 α N H' ∧ H' L = some (.lst us) ∧ N L ∧ L ∉ α ∧ Rels H' N α acc us ∧ acc.length ≤ i + 1 ∧ PostL T mg N1 α1 H1 σ s.ρ W Q (R.pre acc (fLcGo g t e (wipeD s.ρ vs) (ds.drop (i + 1)) M)),
        fun H' h' => ⟨ds.length - (i + 1), by omega, rfl, hlt, h'⟩, fun x H3 hy => ?_⟩
      obtain ⟨k3, r3⟩ := yl x H3 hy
      have t3 := t2.grow k3
      unfold fLcGo at p2
      cases qg : g ds[i] ⟨wipeD s.ρ vs, M2⟩ with
      | none => rw [qg] at p2; exact p2.elim
      | some sg =>
        rw [qg] at p2
        dsimp only at p2
        refine ⟨ds[i], ⟨wipeD s.ρ vs, M2⟩, α2, N2, sg, StR.wipe t3, r3, qg, fun σ4 H4 α4 N4 t4 e4 off => ⟨Off.wipe off, sg, α4, N4, t4, ?_⟩⟩
        have e24 : Ext α2 N2 H2 α4 N4 H4 := (Ext.grow k3).trans e4
        cases qt : t sg with
        | no => rw [qt] at p2; exact p2.elim
        | ex _ _ => rw [qt] at p2; exact p2.elim
        | ok b M5 =>
          rw [qt] at p2
          dsimp only at p2
          intro b' H5 α5 N5 t5 e5 hb
          cases hb
          have e25 := e24.trans e5
          cases b with
          | false =>
            rw [if_neg (by decide)] at p2 ⊢
            refine ⟨M5, α5, N5, acc, us, StC.keep t2 t5.c e25, e2.trans e25, e25.keep L _ hu (fun _ => n2) (fun _ z => by cases z), e25.nn L n1, e25.notin n2 hu, Rels.mono t2.c.sub e25 ra, by omega, p2⟩
          | true =>
            rw [if_pos rfl] at p2 ⊢
            refine ⟨⟨sg.ρ, M5⟩, α5, N5, t5, ?_⟩
            cases qe : e ⟨sg.ρ, M5⟩ with
            | no => rw [qe] at p2; exact p2.elim
            | ex _ _ => rw [qe] at p2; exact p2.elim
            | ok y M6 =>
              rw [qe] at p2
              dsimp only at p2
              rw [pre_cons] at p2
              intro y' H6 α6 N6 t6 e6 ry
              have e26 := e25.trans e6
              have hu6 := e26.keep L _ hu (fun _ => n2) (fun _ z => by cases z)
              have n16 := e26.nn L n1
              have n26 := e26.notin n2 hu
              have ra6 := Rels.mono t2.c.sub e26 ra
              have hl := Rels.length ra
              have s6 : StR T N6 H6 σ ⟨s.ρ, M6⟩ α6 := StC.keep t2 t6.c e26
              refine ⟨us, hu6, Nat.lt_of_lt_of_le (by omega : us.length < 100001) (by decide), M6, α6, N6, acc ++ [y], us ++ [y'], s6.wr n16 n26 hu6, (e2.trans e26).wr (fz_of hL) (fun _ z => by cases z), upd_same, n16, n26, Rels.wr n16 hu6 (Rels.append (Rels.one ry) ra6), by simp; omega, p2⟩
    · have ei : i = ds.length := by omega
      refine .inl ⟨hstop ei, ?_⟩
      rw [ei, List.drop_length] at p2
      have p3 : PostL T mg N1 α1 H1 σ s.ρ W Q (.ok (acc ++ []) M2) := p2
      rw [List.append_nil] at p3
      exact p3 L us H2 α2 N2 t2 e2 n1 n2 (fz_of hL) hu ra
end
end DL

namespace DL
open PySem PySem.Spec L2
open PyProof.Rows hiding St

section
variable {T : TPr} {mg : Str → Option Value} {W : WX} {σ : L2.St} {H : Hp} {N : Addr → Prop} {α : List Addr} {Dn : Ends}
/-! ### ints -/
def gI (f : Int → Int → D) : Cells → D → D → Option D := fun _ d e => match d, e with
  | .int i, .int j => some (f i j)
  | _, _ => none
def gIc (C : Int → Int → Bool) (f : Int → Int → D) : Cells → D → D → Option D := fun _ d e => match d, e with
  | .int i, .int j => if C i j = true then some (f i j) else none
  | _, _ => none
theorem rel_int {H : Hp} {N : Addr → Prop} {α : List Addr} {i : Int} : Rel H N α (.int i) (.int i) := by unfold Rel; rfl
theorem rel_bl {H : Hp} {N : Addr → Prop} {α : List Addr} {i : Bool} : Rel H N α (.bl i) (.bl i) := by unfold Rel; rfl
theorem rel_non {H : Hp} {N : Addr → Prop} {α : List Addr} : Rel H N α .non .non := by unfold Rel; rfl
theorem rel_str {H : Hp} {N : Addr → Prop} {α : List Addr} {i : Str} : Rel H N α (.str i) (.str i) := by unfold Rel; rfl
theorem od_I0 {f : Int → Int → V} {f' : Int → Int → D} (hf : ∀ i j H N α, Rel H N α (f' i j) (f i j)) : OpD T (rI0 f) (gI f') := by
  intro N H M α d e x y z Q c r1 r2 h k
  cases d <;> cases e <;> try (cases h; done)
  unfold Rel at r1 r2
  cases h
  exact ⟨_, _, r1, r2, k _ H c Ext.refl (hf _ _ _ _ _)⟩
theorem od_Ic {C : Int → Int → Prop} {C' : Int → Int → Bool} {f : Int → Int → V} {f' : Int → Int → D} (hC : ∀ i j, C' i j = true → C i j) (hf : ∀ i j H N α, Rel H N α (f' i j) (f i j)) : OpD T (rI C f) (gIc C' f') := by
  intro N H M α d e x y z Q c r1 r2 h k
  cases d <;> cases e <;> try (cases h; done)
  rename_i i j
  unfold Rel at r1 r2
  unfold gIc at h
  by_cases hc : C' i j = true
  · simp only [hc, if_true] at h
    cases h
    exact ⟨_, _, r1, r2, hC _ _ hc, k _ H c Ext.refl (hf _ _ _ _ _)⟩
  · simp [hc] at h
def mulOk (i j : Int) : Bool := (decide (-(2 ^ 64) < i) && decide (i < 2 ^ 64)) || (decide (-(2 ^ 64) < j) && decide (j < 2 ^ 64))
abbrev nAdd := gI fun i j => .int (i + j)
abbrev nSub := gI fun i j => .int (i - j)
abbrev nMul := gIc mulOk fun i j => .int (i * j)
abbrev nDiv := gIc (fun _ j => decide (0 < j) && decide (j < 1073741824)) fun i j => .int (i / j)
abbrev nMod := gIc (fun _ j => decide (0 < j)) fun i j => .int (i % j)
abbrev nLt := gI fun i j => .bl (decide (i < j))
abbrev nLe := gI fun i j => .bl (decide (i ≤ j))
abbrev nGt := gI fun i j => .bl (decide (j < i))
abbrev nGe := gI fun i j => .bl (decide (j ≤ i))
theorem mulOk_c (i j : Int) (h : mulOk i j = true) : CMul i j := by
  unfold mulOk at h
  simp only [Bool.or_eq_true, Bool.and_eq_true, decide_eq_true_eq] at h
  exact h
theorem od_add : OpD T (rI0 fun i j => .int (i + j)) nAdd := od_I0 fun _ _ _ _ _ => rel_int
theorem od_sub : OpD T (rI0 fun i j => .int (i - j)) nSub := od_I0 fun _ _ _ _ _ => rel_int
theorem od_mul : OpD T (rI CMul fun i j => .int (i * j)) nMul := od_Ic mulOk_c fun _ _ _ _ _ => rel_int
theorem od_div : OpD T (rI CDiv fun i j => .int (i / j)) nDiv := od_Ic (fun i j h => by simpa [CDiv] using h) fun _ _ _ _ _ => rel_int
theorem od_mod : OpD T (rI (fun _ j => 0 < j) fun i j => .int (i % j)) nMod := od_Ic (fun i j h => by simpa using h) fun _ _ _ _ _ => rel_int
theorem od_lt : OpD T (rI0 fun i j => .bl (decide (i < j))) nLt := od_I0 fun _ _ _ _ _ => rel_bl
theorem od_le : OpD T (rI0 fun i j => .bl (decide (i ≤ j))) nLe := od_I0 fun _ _ _ _ _ => rel_bl
theorem od_gt : OpD T (rI0 fun i j => .bl (decide (j < i))) nGt := od_I0 fun _ _ _ _ _ => rel_bl
theorem od_ge : OpD T (rI0 fun i j => .bl (decide (j ≤ i))) nGe := od_I0 fun _ _ _ _ _ => rel_bl
abbrev nNeg : Cells → D → Option D := fun _ d => match d with
  | .int i => some (.int (-i))
  | _ => none
theorem ud_neg : UnD T (rU fun i => .int (-i)) nNeg := by
  intro N H M α d x z Q c r1 h k
  cases d <;> try (cases h; done)
  unfold Rel at r1
  cases h
  exact ⟨_, r1, k _ H c Ext.refl rel_int⟩
/-- bools less bools -/
def rSubB : R2 := fun x y H Q => ∃ i j, x = .bl i ∧ y = .bl j ∧ Q (.int (b2i i - b2i j)) H
theorem op_subB {X : Cx} : OpR X (binaryOp .Sub) rSubB := by
  intro pins s σ H x y v u Q I rx ry h
  obtain ⟨i, k, rfl, rfl, q⟩ := h
  cases rx
  cases ry
  exact sub_bool ⟨.int _, H, I.tok _, ⟨_, rfl⟩, q⟩
abbrev nSubB : Cells → D → D → Option D := fun _ d e => match d, e with
  | .bl i, .bl j => some (.int (b2i i - b2i j))
  | _, _ => none
theorem od_subB : OpD T rSubB nSubB := by
  intro N H M α d e x y z Q c r1 r2 h k
  cases d <;> cases e <;> try (cases h; done)
  unfold Rel at r1 r2
  cases h
  exact ⟨_, _, r1, r2, k _ H c Ext.refl rel_int⟩

/-! ### sequences -/
def seqOf (M : Cells) : D → Option (Bool × List D)
  | .tup l => some (true, l)
  | .lst l => some (false, l)
  | .loc n => M[n]?.map fun l => (false, l)
  | .scr l => some (false, l)
  | _ => none
theorem seq_rel {M : Cells} {d : D} {x : V} {b : Bool} {l : List D} (c : StC T N H M α) (r : Rel H N α d x) (h : seqOf M d = some (b, l)) :
    ∃ a vs, x = .ref a ∧ (b = true → H a = some (.tup vs)) ∧ (b = false → Rd H a (.lst vs)) ∧ Rels H N α l vs := by
  cases d <;> try (cases h; done)
  · rename_i l'
    unfold Rel at r
    obtain ⟨a, vs, h1, h2, h3⟩ := r
    unfold seqOf at h
    cases h
    exact ⟨a, vs, h1, fun _ => h2, fun z => (by cases z), h3⟩
  · rename_i l'
    unfold Rel at r
    obtain ⟨a, vs, h1, h0, h2, h3⟩ := r
    unfold seqOf at h
    cases h
    exact ⟨a, vs, h1, fun z => (by cases z), fun _ => .inl h2, h3⟩
  · rename_i n
    unfold Rel at r
    obtain ⟨a, h1, h2⟩ := r
    unfold seqOf at h
    cases q : M[n]? with
    | none => simp [q] at h
    | some l' =>
      simp only [q, Option.map_some] at h
      cases h
      obtain ⟨a', vs, e1, e2, e3⟩ := c.cel n l q
      rw [h2] at e1
      cases e1
      exact ⟨a, vs, h1, fun z => (by cases z), fun _ => .inl e2, e3⟩
  · rename_i l'
    unfold Rel at r
    obtain ⟨a, o, vs, h1, h2, h3⟩ := r
    unfold seqOf at h
    cases h
    exact ⟨a, vs, h1, fun z => (by cases z), fun _ => .inr ⟨o, h2⟩, h3⟩
theorem seq_sq {K : PySem.W.Frag} {a : Addr} {vs : List V} {b : Bool} (h1 : b = true → H a = some (.tup vs)) (h2 : b = false → Rd H a (.lst vs)) : SqL K H a vs ∨ SqT K H a vs := by
  cases b with
  | true => exact .inr (rd_sqT (h1 rfl))
  | false => exact .inl (.inl (h2 rfl))
theorem atI_rel {l : List D} {vs : List V} {i : Int} {d : D} (r : Rels H N α l vs) (h : atI l i = some d) : ∃ v, atI vs i = some v ∧ Rel H N α d v := by
  unfold atI at h ⊢
  rw [← Rels.length r]
  cases q : ixN l.length i with
  | none => rw [q] at h; cases h
  | some j =>
    rw [q] at h
    obtain ⟨v, h1, h2⟩ := Rels.get r (show l[j]? = some d from h)
    exact ⟨v, h1, h2⟩
/-- xs[i], t[i] -/
def gIx : Cells → D → D → Option D := fun M d e => match seqOf M d, e with
  | some (_, l), .int i => atI l i
  | _, _ => none
theorem od_ix {K : PySem.W.Frag} : OpD T (rIx K) gIx := by
  intro N H M α d e x y z Q c r1 r2 h k
  unfold gIx at h
  cases q : seqOf M d with
  | none => rw [q] at h; cases h
  | some p =>
    obtain ⟨b, l⟩ := p
    rw [q] at h
    cases e <;> try (cases h; done)
    obtain ⟨a, vs, h1, h2, h3, h4⟩ := seq_rel c r1 q
    obtain ⟨v, g1, g2⟩ := atI_rel h4 h
    unfold Rel at r2
    have kk := k v H c Ext.refl g2
    cases b with
    | true => exact .inr (.inl ⟨a, vs, _, v, h1, r2, rd_sqT (h2 rfl), g1, kk⟩)
    | false => exact .inl ⟨a, vs, _, v, h1, r2, .inl (h3 rfl), g1, kk⟩
/-- len(x) -/
def gLen : Cells → List D → Option D := fun M l => match l with
  | [d] => (seqOf M d).map fun p => .int p.2.length
  | _ => none
abbrev rLen (K : PySem.W.Frag) : List V → Hp → VK → Prop := fun xs H Q => ∃ p ys, xs = [.ref p] ∧ (SqL K H p ys ∨ SqT K H p ys) ∧ Q (.int ys.length) H
theorem rels1 {d : D} {xs : List V} (h : Rels H N α [d] xs) : ∃ x, xs = [x] ∧ Rel H N α d x := by
  unfold Rels at h
  obtain ⟨v, r, h1, h2, h3⟩ := h
  unfold Rels at h3
  subst h3
  exact ⟨v, h1, h2⟩
theorem rels2 {d e : D} {xs : List V} (h : Rels H N α [d, e] xs) : ∃ x y, xs = [x, y] ∧ Rel H N α d x ∧ Rel H N α e y := by
  unfold Rels at h
  obtain ⟨v, r, h1, h2, h3⟩ := h
  obtain ⟨y, h4, h5⟩ := rels1 h3
  subst h4
  exact ⟨v, y, h1, h2, h5⟩
theorem cd_len {K : PySem.W.Frag} : CbD T (rLen K) gLen := by
  intro N H M α l xs z Q c r h k
  match l, h, r with
  | [d], h, r =>
    obtain ⟨x, rfl, r1⟩ := rels1 r
    unfold gLen at h
    cases q : seqOf M d with
    | none => simp [q] at h
    | some p =>
      obtain ⟨b, l⟩ := p
      simp only [q, Option.map_some] at h
      cases h
      obtain ⟨a, vs, h1, h2, h3, h4⟩ := seq_rel c r1 q
      refine ⟨a, vs, by rw [h1], seq_sq h2 h3, k _ H c Ext.refl ?_⟩
      unfold Rel
      rw [Rels.length h4]
  | [], h, _ => cases h
  | _ :: _ :: _, h, _ => cases h
/-- tuple(x): of a list a new one, of a tuple itself -/
def gTupOf : Cells → List D → Option D := fun M l => match l with
  | [d] => (seqOf M d).map fun p => .tup p.2
  | _ => none
abbrev rTupOf (K : PySem.W.Frag) : List V → Hp → VK → Prop := fun xs H Q => ∃ p ys, xs = [.ref p] ∧ ((SqL K H p ys ∧ ∀ l, H l = none → Q (.ref l) (upd H l (.tup ys))) ∨ (SqT K H p ys ∧ Q (.ref p) H))
theorem cd_tupOf {K : PySem.W.Frag} : CbD T (rTupOf K) gTupOf := by
  intro N H M α l xs z Q c r h k
  match l, h, r with
  | [d], h, r =>
    obtain ⟨x, rfl, r1⟩ := rels1 r
    unfold gTupOf at h
    cases q : seqOf M d with
    | none => simp [q] at h
    | some p =>
      obtain ⟨b, l⟩ := p
      simp only [q, Option.map_some] at h
      cases h
      obtain ⟨a, vs, h1, h2, h3, h4⟩ := seq_rel c r1 q
      refine ⟨a, vs, by rw [h1], ?_⟩
      cases b with
      | true => exact .inr ⟨rd_sqT (h2 rfl), k _ H c Ext.refl (by unfold Rel; exact ⟨a, vs, rfl, h2 rfl, h4⟩)⟩
      | false => exact .inl ⟨.inl (h3 rfl), fun p hp => k _ _ (c.grow (new_keep hp)) (Ext.grow (new_keep hp)) (tup_new h4 c.sub hp)⟩
  | [], h, _ => cases h
  | _ :: _ :: _, h, _ => cases h
/-- abs, int(x), max, min of two -/
def gAbs : Cells → List D → Option D := fun _ l => match l with
  | [.int i] => some (.int (if i < 0 then -i else i))
  | _ => none
theorem cd_abs : CbD T (fun xs H Q => ∃ i, xs = [.int i] ∧ Q (.int (if i < 0 then -i else i)) H) gAbs := by
  intro N H M α l xs z Q c r h k
  match l, h, r with
  | [.int i], h, r =>
    obtain ⟨x, rfl, r1⟩ := rels1 r
    unfold Rel at r1
    cases h
    exact ⟨i, by rw [r1], k _ H c Ext.refl rel_int⟩
def gInt : Cells → List D → Option D := fun _ l => match l with
  | [.int i] => some (.int i)
  | [.bl b] => some (.int (if b then 1 else 0))
  | _ => none
theorem cd_int : CbD T (fun xs H Q => (∃ i, xs = [.int i] ∧ Q (.int i) H) ∨ ∃ k, xs = [.bl k] ∧ Q (.int (if k then 1 else 0)) H) gInt := by
  intro N H M α l xs z Q c r h k
  match l, h, r with
  | [.int i], h, r =>
    obtain ⟨x, rfl, r1⟩ := rels1 r
    unfold Rel at r1
    cases h
    exact .inl ⟨i, by rw [r1], k _ H c Ext.refl rel_int⟩
  | [.bl i], h, r =>
    obtain ⟨x, rfl, r1⟩ := rels1 r
    unfold Rel at r1
    cases h
    exact .inr ⟨i, by rw [r1], k _ H c Ext.refl rel_int⟩
def gMax2 : Cells → List D → Option D := fun _ l => match l with
  | [.int i, .int j] => some (.int (if j > i then j else i))
  | _ => none
def gMin2 : Cells → List D → Option D := fun _ l => match l with
  | [.int i, .int j] => some (.int (if j < i then j else i))
  | _ => none
theorem cd_max2 : CbD T (fun xs H Q => ∃ i j, xs = [.int i, .int j] ∧ Q (.int (if j > i then j else i)) H) gMax2 := by
  intro N H M α l xs z Q c r h k
  match l, h, r with
  | [.int i, .int j], h, r =>
    obtain ⟨x, y, rfl, r1, r2⟩ := rels2 r
    unfold Rel at r1 r2
    cases h
    exact ⟨i, j, by rw [r1, r2], k _ H c Ext.refl rel_int⟩
theorem cd_min2 : CbD T (fun xs H Q => ∃ i j, xs = [.int i, .int j] ∧ Q (.int (if j < i then j else i)) H) gMin2 := by
  intro N H M α l xs z Q c r h k
  match l, h, r with
  | [.int i, .int j], h, r =>
    obtain ⟨x, y, rfl, r1, r2⟩ := rels2 r
    unfold Rel at r1 r2
    cases h
    exact ⟨i, j, by rw [r1, r2], k _ H c Ext.refl rel_int⟩

/-! ### == of data -/
mutual
def pyOf : D → Option PyData
  | .non => some .none
  | .bl b => some (.bool b)
  | .int i => some (.int i)
  | .str x => some (.str x)
  | .tup l => (pysOf l).map .tuple
  | .lst l => (pysOf l).map .list
  | .loc _ => none
  | .adr _ => none
  | .ty _ => none
  | .scr _ => none
def pysOf : List D → Option (List PyData)
  | [] => some []
  | d :: l => match pyOf d, pysOf l with
    | some p, some ps => some (p :: ps)
    | _, _ => none
end
mutual
theorem py_rel {K : PySem.W.Frag} : ∀ {d : D} {x : V} {p : PyData}, Rel H N α d x → pyOf d = some p → Dp K H x p
  | .non, _, _, r, h => by unfold Rel at r; unfold pyOf at h; cases h; rw [r]; exact .non
  | .bl b, _, _, r, h => by unfold Rel at r; unfold pyOf at h; cases h; rw [r]; exact .bl b
  | .int b, _, _, r, h => by unfold Rel at r; unfold pyOf at h; cases h; rw [r]; exact .int b
  | .str b, _, _, r, h => by unfold Rel at r; unfold pyOf at h; cases h; rw [r]; exact .str b
  | .tup l, _, _, r, h => by
    unfold Rel at r; unfold pyOf at h
    obtain ⟨a, vs, h1, h2, h3⟩ := r
    cases q : pysOf l with
    | none => rw [q] at h; cases h
    | some ps => rw [q] at h; cases h; rw [h1]; exact .tup (rd_sqT h2) (pys_rel h3 q)
  | .lst l, _, _, r, h => by
    unfold Rel at r; unfold pyOf at h
    obtain ⟨a, vs, h1, h0, h2, h3⟩ := r
    cases q : pysOf l with
    | none => rw [q] at h; cases h
    | some ps => rw [q] at h; cases h; rw [h1]; exact .lst (rd_sqL h2) (pys_rel h3 q)
  | .loc _, _, _, _, h => by unfold pyOf at h; cases h
  | .adr _, _, _, _, h => by unfold pyOf at h; cases h
  | .ty _, _, _, _, h => by unfold pyOf at h; cases h
  | .scr _, _, _, _, h => by unfold pyOf at h; cases h
theorem pys_rel {K : PySem.W.Frag} : ∀ {l : List D} {xs : List V} {ps : List PyData}, Rels H N α l xs → pysOf l = some ps → DpAll K H xs ps
  | [], _, _, r, h => by unfold Rels at r; unfold pysOf at h; cases h; rw [r]; exact .nil
  | d :: l, _, _, r, h => by
    unfold Rels at r; unfold pysOf at h
    obtain ⟨v, vs, h1, h2, h3⟩ := r
    cases q1 : pyOf d with
    | none => rw [q1] at h; simp at h
    | some p =>
      cases q2 : pysOf l with
      | none => rw [q1, q2] at h; simp at h
      | some ps =>
        rw [q1, q2] at h; simp at h; subst h; rw [h1]
        exact .cons (py_rel h2 q1) (pys_rel h3 q2)
end
def pyAt (M : Cells) (d : D) : Option PyData := match d with
  | .loc n => match M[n]? with
    | some l => (pysOf l).map .list
    | none => none
  | d => pyOf d
theorem pyAt_rel {K : PySem.W.Frag} {M : Cells} {d : D} {x : V} {p : PyData} (c : StC T N H M α) (r : Rel H N α d x) (h : pyAt M d = some p) : Dp K H x p := by
  cases d
  case loc n =>
    unfold pyAt at h
    unfold Rel at r
    obtain ⟨a, h1, h2⟩ := r
    dsimp only at h
    cases q : M[n]? with
    | none => rw [q] at h; cases h
    | some l =>
      rw [q] at h
      dsimp only at h
      obtain ⟨a', vs, e1, e2, e3⟩ := c.cel n l q
      rw [h2] at e1
      cases e1
      cases q2 : pysOf l with
      | none => rw [q2] at h; cases h
      | some ps => rw [q2] at h; cases h; rw [h1]; exact .lst (rd_sqL e2) (pys_rel e3 q2)
  all_goals exact py_rel r h
def dEq (M : Cells) (d e : D) : Option Bool := match pyAt M d, pyAt M e with
  | some p, some q => if SeqAt.shaped p && SeqAt.shaped q then some (PyData.eqv p q) else none
  | _, _ => none
def gEq : Cells → D → D → Option D := fun M d e => (dEq M d e).map .bl
def gNe : Cells → D → D → Option D := fun M d e => (dEq M d e).map fun b => .bl (!b)
theorem dEq_some {M : Cells} {d e : D} {b : Bool} (h : dEq M d e = some b) : ∃ p q, pyAt M d = some p ∧ pyAt M e = some q ∧ SeqAt.shaped p = true ∧ SeqAt.shaped q = true ∧ b = PyData.eqv p q := by
  unfold dEq at h
  cases q1 : pyAt M d with
  | none => rw [q1] at h; simp at h
  | some p =>
    cases q2 : pyAt M e with
    | none => rw [q1, q2] at h; simp at h
    | some q =>
      rw [q1, q2] at h
      dsimp only at h
      by_cases hs : (SeqAt.shaped p && SeqAt.shaped q) = true
      · rw [if_pos hs] at h
        obtain ⟨s1, s2⟩ := Bool.and_eq_true_iff.mp hs
        exact ⟨p, q, rfl, rfl, s1, s2, (Option.some.inj h).symm⟩
      · rw [if_neg hs] at h; cases h
theorem od_eq {K : PySem.W.Frag} : OpD T (rEqD K) gEq := by
  intro N H M α d e x y z Q c r1 r2 h k
  unfold gEq at h
  cases q : dEq M d e with
  | none => rw [q] at h; cases h
  | some b =>
    rw [q] at h; cases h
    obtain ⟨p, p', h1, h2, s1, s2, rfl⟩ := dEq_some q
    exact ⟨p, p', pyAt_rel c r1 h1, pyAt_rel c r2 h2, s1, s2, k _ H c Ext.refl rel_bl⟩
theorem od_ne {K : PySem.W.Frag} : OpD T (rNeD K) gNe := by
  intro N H M α d e x y z Q c r1 r2 h k
  unfold gNe at h
  cases q : dEq M d e with
  | none => rw [q] at h; cases h
  | some b =>
    rw [q] at h; cases h
    obtain ⟨p, p', h1, h2, s1, s2, rfl⟩ := dEq_some q
    exact ⟨p, p', pyAt_rel c r1 h1, pyAt_rel c r2 h2, s1, s2, k _ H c Ext.refl rel_bl⟩
/-- is None, is not None -/
def D.isNon : D → Bool
  | .non => true
  | _ => false
def gIsN : Cells → D → D → Option D := fun _ d e => match e with
  | .non => some (.bl d.isNon)
  | _ => none
def gNotN : Cells → D → D → Option D := fun _ d e => match e with
  | .non => some (.bl (!d.isNon))
  | _ => none
theorem non_iff {d : D} {x : V} (r : Rel H N α d x) : decide (x = .non) = d.isNon := by
  cases d <;> unfold Rel at r
  · rw [r]; rfl
  · rw [r]; rfl
  · rw [r]; rfl
  · rw [r]; rfl
  · obtain ⟨a, _, h1, _⟩ := r; rw [h1]; rfl
  · obtain ⟨a, _, h1, _⟩ := r; rw [h1]; rfl
  · obtain ⟨a, h1, _⟩ := r; rw [h1]; rfl
  · rw [r]; rfl
  · rw [r]; rfl
  · obtain ⟨a, _, _, h1, _⟩ := r; rw [h1]; rfl
theorem od_isN : OpD T (fun x y H Q => y = .non ∧ Q (.bl (decide (x = .non))) H) gIsN := by
  intro N H M α d e x y z Q c r1 r2 h k
  cases e <;> try (cases h; done)
  unfold gIsN at h
  unfold Rel at r2
  refine ⟨r2, k _ H c Ext.refl ?_⟩
  rw [non_iff r1]
  cases h
  exact rel_bl
theorem od_notN : OpD T (fun x y H Q => y = .non ∧ Q (.bl (!decide (x = .non))) H) gNotN := by
  intro N H M α d e x y z Q c r1 r2 h k
  cases e <;> try (cases h; done)
  unfold gNotN at h
  unfold Rel at r2
  refine ⟨r2, k _ H c Ext.refl ?_⟩
  rw [non_iff r1]
  cases h
  exact rel_bl

/-! ### a def's promise by a function on data -/
inductive Pu where
  | ok (d : D)
  | ex (e : Ex)
  | no
def spD (T : TPr) (mg : Str → Option Value) (n : Nat) (fM : List D → Cells → R D) : Sp := fun vs H Q E => ∃ ds M α N, ds.length = n ∧ StC T N H M α ∧ Rels H N α ds vs ∧ match fM ds M with
  | .ok d M' => ∀ v H', StC T N H' M' α → Ext α N H α N H' → Rel H' N α d v → Q v H'
  | .ex e M' => ∀ cls dd H', StC T N H' M' α → Ext α N H α N H' → XR mg e cls dd H' N α → E cls dd H'
  | .no => False
/-- a function that has no list of ours in hand -/
def lift (p : List D → Pu) : List D → Cells → R D := fun ds M => match M with
  | [] => match p ds with
    | .ok d => .ok d []
    | .ex e => .ex e []
    | .no => .no
  | _ :: _ => .no
abbrev spP (T : TPr) (mg : Str → Option Value) (n : Nat) (p : List D → Pu) : Sp := spD T mg n (lift p)
def fCall (p : List D → Pu) (f : Sx → R (List D)) : Sx → R D := fun s => (f s).bind fun ds M => if lfs ds = true then (match p ds with
  | .ok d => .ok d M
  | .ex e => .ex e M
  | .no => .no) else .no
theorem Ext.ofNil {H' : Hp} (e : Ext [] N H [] N H') : Ext α N H α N H' := ⟨⟨[], by simp, by simp⟩, e.nn, e.nb, fun b o h _ t => e.keep b o h (fun _ => by simp) t, e.there⟩
theorem StC.ofNil {M : Cells} {H' : Hp} (c : StC T N H M α) (c' : StC T N H' [] []) (e : Ext [] N H [] N H') : StC T N H' M α :=
  ⟨c.nd, c.sub, c'.som, c.len, fun n l q => by
    obtain ⟨a, vs, h1, h2, h3⟩ := c.cel n l q
    exact ⟨a, vs, h1, e.keep a _ h2 (fun _ => by simp) (fun _ z => by cases z), Rels.mono c.sub e.ofNil h3⟩, c'.tab⟩
theorem XR.nil {e : Ex} {cls : Value} {dd : Option Addr} (h : XR mg e cls dd H N []) : XR mg e cls dd H N α := by
  obtain ⟨h1, h2⟩ := h
  refine ⟨h1, ?_⟩
  cases q : e.part with
  | none => trivial
  | some d =>
    rw [q] at h2
    obtain ⟨a, v, e1, e2, e3⟩ := h2
    exact ⟨a, v, e1, e2, Rel.nil e3⟩
theorem call_imp {n : Nat} {p : List D → Pu} {f : Sx → R (List D)} (hn : ∀ ds, p ds ≠ .no → ds.length = n) {Q : VK} (h : tD T mg W (fCall p f) σ H Q) : tCallS (spP T mg n p) (WE W) (tL T mg W f) σ H Q := by
  obtain ⟨s, α, N, hs, q⟩ := h
  refine ⟨s, α, N, hs, Post.mono (fun vs H1 h1 => ?_) (Post.bind (G := RelL) q)⟩
  obtain ⟨M1, α1, N1, ds, s1, e1, g1, p1⟩ := h1
  obtain ⟨hl, p2⟩ := p1.ite
  refine ⟨ds, [], [], N1, hn ds fun z => by rw [z] at p2; exact p2, ⟨by simp, by simp, s1.c.som, rfl, fun n l q => by simp at q, s1.c.tab⟩, Rels.lf hl g1, ?_⟩
  unfold lift
  cases hp : p ds with
  | no => rw [hp] at p2; exact p2
  | ok d =>
    rw [hp] at p2
    exact fun v H' c e r => p2 v H' α1 N1 (StC.keep s1 (s1.c.ofNil c e) e.ofNil) e.ofNil (Rel.nil r)
  | ex x =>
    rw [hp] at p2
    exact fun cls dd H' c e r => p2 cls dd H' α1 N1 (StC.keep s1 (s1.c.ofNil c e) e.ofNil) e.ofNil r.nil
/-- the first argument a list of ours, that the def may change -/
def fCallM (fM : List D → Cells → R D) (f : Sx → R (List D)) : Sx → R D := fun s => (f s).bind fun ds M => match ds with
  | .loc n :: r => match M[n]? with
    | some l => if (lfs r && lfs l) = true then (match fM (.loc 0 :: r) [l] with
      | .ok d [l'] => if (d.lf && lfs l') = true then .ok d (M.set n l') else .no
      | .ex e [l'] => if (lfs l' && e.part.isNone) = true then .ex e (M.set n l') else .no
      | _ => .no) else .no
    | none => .no
  | _ => .no
theorem StC.one {M : Cells} {n : Nat} {a : Addr} {l : List D} (c : StC T N H M α) (h1 : α[n]? = some a) (h2 : M[n]? = some l) (hl : lfs l = true) : StC T N H [l] [a] := by
  obtain ⟨a', vs, e1, e2, e3⟩ := c.cel n l h2
  rw [h1] at e1
  cases e1
  refine ⟨by simp, fun b hb => ?_, c.som, rfl, fun m l' q => ?_, c.tab⟩
  · simp at hb
    rw [hb]
    exact c.sub a (List.mem_of_getElem? h1)
  · match m, q with
    | 0, q =>
      simp at q
      subst q
      exact ⟨a, vs, rfl, e2, Rels.lf hl e3⟩
    | m + 1, q => simp at q
theorem Ext.ofOne {H' : Hp} {a : Addr} (ha : a ∈ α) (e : Ext [a] N H [a] N H') : Ext α N H α N H' := ⟨⟨[], by simp, by simp⟩, e.nn, e.nb, fun b o h t u => e.keep b o h (fun z hm => by simp at hm; exact t z (by rw [hm]; exact ha)) u, e.there⟩
theorem StC.back {M : Cells} {n : Nat} {a : Addr} {l' : List D} {H' : Hp} (c : StC T N H M α) (h1 : α[n]? = some a) (hl : lfs l' = true) (c' : StC T N H' [l'] [a]) (e : Ext [a] N H [a] N H') : StC T N H' (M.set n l') α := by
  have ha : a ∈ α := List.mem_of_getElem? h1
  refine ⟨c.nd, c.sub, c'.som, by rw [List.length_set]; exact c.len, fun m l q => ?_, c'.tab⟩
  have q' : (M.set n l')[m]? = some l := q
  by_cases hm : n = m
  · subst hm
    have hlt : n < M.length := by have := (List.getElem?_eq_some_iff.mp h1).1; rw [c.len] at this; exact this
    rw [List.getElem?_set_self hlt] at q'
    cases q'
    obtain ⟨a', vs, e1, e2, e3⟩ := c'.cel 0 l' rfl
    cases e1
    exact ⟨a, vs, h1, e2, Rels.lf hl e3⟩
  · rw [List.getElem?_set_ne hm] at q'
    obtain ⟨b, vs, e1, e2, e3⟩ := c.cel m l q'
    have ne : b ≠ a := fun z => by
      subst z
      obtain ⟨u1, v1⟩ := List.getElem?_eq_some_iff.mp h1
      obtain ⟨u2, v2⟩ := List.getElem?_eq_some_iff.mp e1
      exact hm ((List.getElem_inj c.nd).mp (v1.trans v2.symm))
    exact ⟨b, vs, e1, e.keep b _ e2 (fun _ hb => by simp at hb; exact ne hb) (fun _ z => by cases z), Rels.mono c.sub (e.ofOne ha) e3⟩
theorem Rel.lf' {d : D} {v : V} {a : Addr} (hd : d.lf = true) (h : Rel H N [a] d v) : Rel H N α d v := Rel.lf hd h
theorem callM_imp {n : Nat} {fM : List D → Cells → R D} {f : Sx → R (List D)} (hn : ∀ ds M, fM ds M ≠ .no → ds.length = n) {Q : VK} (h : tD T mg W (fCallM fM f) σ H Q) : tCallS (spD T mg n fM) (WE W) (tL T mg W f) σ H Q := by
  obtain ⟨s, α, N, hs, q⟩ := h
  refine ⟨s, α, N, hs, Post.mono (fun vs H1 h1 => ?_) (Post.bind (G := RelL) q)⟩
  obtain ⟨M1, α1, N1, ds, s1, e1, g1, p1⟩ := h1
  match ds, p1, g1 with
  | .loc j :: r, p1, g1 =>
    dsimp only at p1
    cases qj : M1[j]? with
    | none => rw [qj] at p1; exact p1.elim
    | some l =>
      rw [qj] at p1
      dsimp only at p1
      obtain ⟨hl, p2⟩ := p1.ite
      obtain ⟨hr, hl⟩ := Bool.and_eq_true_iff.mp hl
      unfold RelL Rels at g1
      obtain ⟨v, vr, rfl, g2, g3⟩ := g1
      unfold Rel at g2
      obtain ⟨a, rfl, ha⟩ := g2
      have hne : fM (.loc 0 :: r) [l] ≠ .no := fun z => by rw [z] at p2; exact p2
      refine ⟨.loc 0 :: r, [l], [a], N1, hn _ _ hne, s1.c.one ha qj hl, ?_, ?_⟩
      · exact Rels.cons (by unfold Rel; exact ⟨a, rfl, rfl⟩) (Rels.lf hr g3)
      · cases hp : fM (.loc 0 :: r) [l] with
        | no => exact (hne hp).elim
        | ok d M' =>
          rw [hp] at p2
          match M', p2 with
          | [l'], p2 =>
            dsimp only at p2
            obtain ⟨hd, p3⟩ := p2.ite
            obtain ⟨hd, hl'⟩ := Bool.and_eq_true_iff.mp hd
            exact fun w H' c e r' => p3 w H' α1 N1 (StC.keep s1 (s1.c.back ha hl' c e) (e.ofOne (List.mem_of_getElem? ha))) (e.ofOne (List.mem_of_getElem? ha)) (Rel.lf hd r')
          | [], p2 => exact p2.elim
          | _ :: _ :: _, p2 => exact p2.elim
        | ex x M' =>
          rw [hp] at p2
          match M', p2 with
          | [l'], p2 =>
            dsimp only at p2
            obtain ⟨hd, p3⟩ := p2.ite
            obtain ⟨hl', hx⟩ := Bool.and_eq_true_iff.mp hd
            intro cls dd H' c e r'
            refine p3 cls dd H' α1 N1 (StC.keep s1 (s1.c.back ha hl' c e) (e.ofOne (List.mem_of_getElem? ha))) (e.ofOne (List.mem_of_getElem? ha)) ⟨r'.1, ?_⟩
            cases qx : x.part with
            | none => trivial
            | some y => rw [qx] at hx; cases hx
          | [], p2 => exact p2.elim
          | _ :: _ :: _, p2 => exact p2.elim
  | [], p1, _ => exact p1.elim
  | .non :: _, p1, _ => exact p1.elim
  | .bl _ :: _, p1, _ => exact p1.elim
  | .int _ :: _, p1, _ => exact p1.elim
  | .str _ :: _, p1, _ => exact p1.elim
  | .tup _ :: _, p1, _ => exact p1.elim
  | .lst _ :: _, p1, _ => exact p1.elim
  | .adr _ :: _, p1, _ => exact p1.elim
  | .ty _ :: _, p1, _ => exact p1.elim
  | .scr _ :: _, p1, _ => exact p1.elim
end
end DL

namespace DL
open PySem PySem.Spec L2
open PyProof.Rows hiding St

/-! ### what leaves a def -/
mutual
def fz (M : Cells) (m : Nat) : D → Option D
  | .non => some .non
  | .bl b => some (.bl b)
  | .int i => some (.int i)
  | .str x => some (.str x)
  | .tup l => (fzs M m l).map .tup
  | .lst l => (fzs M m l).map .lst
  | .loc n => if n < m then some (.loc n) else match M[n]? with
    | some l => if lfs l = true then some (.lst l) else none
    | none => none
  | .adr a => some (.adr a)
  | .ty n => some (.ty n)
  | .scr _ => none
def fzs (M : Cells) (m : Nat) : List D → Option (List D)
  | [] => some []
  | d :: l => match fz M m d, fzs M m l with
    | some p, some ps => some (p :: ps)
    | _, _ => none
end
def cutM (M : Cells) (m : Nat) : Option Cells := if (M.take m).all lfs = true then some (M.take m) else none
def RS.out (m : Nat) : RS → R D
  | .nx s => match cutM s.M m with
    | some M => .ok .non M
    | none => .no
  | .rt d s => match cutM s.M m, fz s.M m d with
    | some M, some e => .ok e M
    | _, _ => .no
  | .ex e s => match cutM s.M m with
    | some M => match e.part with
      | none => .ex e M
      | some d => if d.lf = true then .ex e M else .no
    | none => .no
  | _ => .no
section
variable {T : TPr} {mg : Str → Option Value} {W : WX} {σ : L2.St} {H : Hp} {N : Addr → Prop} {α : List Addr} {Dn : Ends}
section
variable {α' : List Addr} {N' : Addr → Prop} {H' : Hp} {M' : Cells}
theorem cut_pre (e : Ext α N H α' N' H') {n : Nat} (h : n < α.length) : α'[n]? = α[n]? := by
  obtain ⟨β, e1, _⟩ := e.pre
  rw [e1, List.getElem?_append_left h]
mutual
theorem fz_rel (c : StC T N' H' M' α') (e : Ext α N H α' N' H') (som : ∀ a, N a → ¬ Fz H a) : ∀ {d d' : D} {v : V}, Rel H' N' α' d v → fz M' α.length d = some d' → Rel H' N α d' v
  | .non, _, _, h, q => by unfold fz at q; cases q; unfold Rel at h ⊢; exact h
  | .bl _, _, _, h, q => by unfold fz at q; cases q; unfold Rel at h ⊢; exact h
  | .int _, _, _, h, q => by unfold fz at q; cases q; unfold Rel at h ⊢; exact h
  | .str _, _, _, h, q => by unfold fz at q; cases q; unfold Rel at h ⊢; exact h
  | .adr _, _, _, h, q => by unfold fz at q; cases q; unfold Rel at h ⊢; exact h
  | .ty _, _, _, h, q => by unfold fz at q; cases q; unfold Rel at h ⊢; exact h
  | .scr _, _, _, h, q => by unfold fz at q; cases q
  | .tup l, _, _, h, q => by
    unfold fz at q
    cases q2 : fzs M' α.length l with
    | none => rw [q2] at q; cases q
    | some l' =>
      rw [q2] at q; cases q
      unfold Rel at h ⊢
      obtain ⟨a, vs, h1, h2, h3⟩ := h
      exact ⟨a, vs, h1, h2, fzs_rel c e som h3 q2⟩
  | .lst l, _, _, h, q => by
    unfold fz at q
    cases q2 : fzs M' α.length l with
    | none => rw [q2] at q; cases q
    | some l' =>
      rw [q2] at q; cases q
      unfold Rel at h ⊢
      obtain ⟨a, vs, h1, h0, h2, h3⟩ := h
      exact ⟨a, vs, h1, fun z => h0 (e.nn a z), h2, fzs_rel c e som h3 q2⟩
  | .loc n, _, _, h, q => by
    unfold Rel at h
    obtain ⟨a, h1, h2⟩ := h
    unfold fz at q
    by_cases hn : n < α.length
    · rw [if_pos hn] at q; cases q
      unfold Rel
      exact ⟨a, h1, by rw [← cut_pre e hn]; exact h2⟩
    · rw [if_neg hn] at q
      cases qm : M'[n]? with
      | none => rw [qm] at q; cases q
      | some l =>
        rw [qm] at q
        dsimp only at q
        by_cases hl : lfs l = true
        · rw [if_pos hl] at q; cases q
          obtain ⟨a', vs, g1, g2, g3⟩ := c.cel n l qm
          rw [h2] at g1; cases g1
          unfold Rel
          refine ⟨a, vs, h1, fun z => ?_, g2, Rels.less e.nn (Rels.lf hl g3)⟩
          obtain ⟨β, e1, fβ⟩ := e.pre
          rw [e1, List.getElem?_append_right (by omega)] at h2
          exact som a z (fβ a (List.mem_of_getElem? h2))
        · rw [if_neg hl] at q; cases q
theorem fzs_rel (c : StC T N' H' M' α') (e : Ext α N H α' N' H') (som : ∀ a, N a → ¬ Fz H a) : ∀ {l l' : List D} {vs : List V}, Rels H' N' α' l vs → fzs M' α.length l = some l' → Rels H' N α l' vs
  | [], _, _, h, q => by unfold fzs at q; cases q; unfold Rels at h ⊢; exact h
  | d :: l, _, _, h, q => by
    unfold fzs at q
    unfold Rels at h
    obtain ⟨v, r, h1, h2, h3⟩ := h
    cases q1 : fz M' α.length d with
    | none => rw [q1] at q; simp at q
    | some p =>
      cases q2 : fzs M' α.length l with
      | none => rw [q1, q2] at q; simp at q
      | some ps =>
        rw [q1, q2] at q; simp at q; subst q; rw [h1]
        exact Rels.cons (fz_rel c e som h2 q1) (fzs_rel c e som h3 q2)
end
theorem Ext.cut (e : Ext α N H α' N' H') (sub : ∀ a ∈ α, N a) : Ext α N H α N H' := ⟨⟨[], by simp, by simp⟩, fun _ h => h, fun _ h => .inl h, e.keep, e.there⟩
theorem StC.cut {M1 : Cells} (c0 : StC T N H M α) (c : StC T N' H' M' α') (e : Ext α N H α' N' H') (q : cutM M' α.length = some M1) : StC T N H' M1 α := by
  unfold cutM at q
  by_cases hl : (M'.take α.length).all lfs = true
  · rw [if_pos hl] at q; cases q
    obtain ⟨β, e1, _⟩ := e.pre
    have hle : α.length ≤ M'.length := by rw [← c.len, e1]; simp
    refine ⟨c0.nd, c0.sub, fun a h => e.there a (c0.som a h), by rw [List.length_take]; omega, fun n l h => ?_, c.tab⟩
    have hn : n < α.length := by
      have := (List.getElem?_eq_some_iff.mp h).1
      rw [List.length_take] at this
      omega
    have hM : M'[n]? = some l := by rw [List.getElem?_take] at h; rw [if_pos hn] at h; exact h
    obtain ⟨a, vs, g1, g2, g3⟩ := c.cel n l hM
    have hll : lfs l = true := List.all_eq_true.mp hl l (List.mem_of_getElem? h)
    exact ⟨a, vs, by rw [← cut_pre e hn]; exact g1, g2, Rels.less e.nn (Rels.lf hll g3)⟩
  · rw [if_neg hl] at q; cases q
end
end
def init0 (Nm : List Str) (ds : List D) : List (Option D) := ds.map some ++ List.replicate (Nm.length - ds.length) none
theorem init_slt {H : Hp} {N : Addr → Prop} {α : List Addr} {Nm : List Str} {ds : List D} {vs : List V} (r : Rels H N α ds vs) (i : Nat) (d : D) (h : (init0 Nm ds)[i]? = some (some d)) : ∃ v, (L2.start Nm vs)[i]? = some (some v) ∧ Rel H N α d v := by
  unfold init0 at h
  by_cases hi : i < ds.length
  · rw [List.getElem?_append_left (by simpa using hi)] at h
    rw [List.getElem?_map] at h
    cases q : ds[i]? with
    | none => rw [q] at h; cases h
    | some d' =>
      rw [q] at h
      have e : d' = d := by simpa using h
      subst e
      obtain ⟨v, h1, h2⟩ := Rels.get r q
      refine ⟨v, ?_, h2⟩
      unfold L2.start
      rw [List.getElem?_append_left (by rw [List.length_map, ← Rels.length r]; exact hi), List.getElem?_map, h1]
      rfl
  · rw [List.getElem?_append_right (by simpa using Nat.le_of_not_lt hi)] at h
    rw [List.getElem?_replicate] at h
    split at h
    · cases h
    · cases h
/-- THE RULE for a def: its body as a function on data -/
theorem fn_ok {T : TPr} {P : Program} {w : World} {K : PySem.W.Frag} {mg : Str → Option Value} {base : Heap} {x qual : Str} {st : Stmt} {f : Addr} {fd : FuncData} {Nm ps : List Str} {dvs : List V} {kws : List (Str × V)} {k : Nat} {fM : List D → Cells → R D}
    (F : FunD K x qual (defArgs st) (defBody st) (defScope st) dvs kws f fd) (S : FnScope Nm ps (defScope st))
    (hb : ∀ ds M, fM ds M ≠ .no → ds.length = ps.length → ∃ g : Sx → RS, (∀ (cdv : Value) (A : Around) (outer : List Env) (s : Shared) (H : Hp) (E : XK), Room k (A.deeper (envOfC qual (defScope st) s.heap.objs.size f cdv)) →
      PSs (cxOf (L2.CX P w) P w K mg base Nm qual (defScope st) f cdv A outer s H E) (defBody st) (tS T mg (fun cls d _ H => E cls d H) g)) ∧ RS.out M.length (g ⟨init0 Nm ds, M⟩) = fM ds M) :
    FnOk P w K mg base (L2.CX P w) (k + 1) f fd ps (spD T mg ps.length fM) := by
  refine F.ok S (fun vs H Q E h => ?_) (fun cdv A outer s H vs Q E hr hsp => ?_)
  · obtain ⟨ds, M, α, N, h1, _, h2, _⟩ := h
    rw [← Rels.length h2]; exact h1
  · obtain ⟨ds, M, α, N, h1, c, r, post⟩ := hsp
    have hne : fM ds M ≠ .no := fun z => by rw [z] at post; exact post
    obtain ⟨g, hd, ho⟩ := hb ds M hne h1
    refine ⟨_, hd cdv A outer s H E hr, ⟨init0 Nm ds, M⟩, α, N, ⟨c, init_slt r, ?_⟩, ?_⟩
    · have := Rels.length r
      unfold init0 L2.start
      simp; omega
    · rw [← ho] at post
      rw [← c.len] at post
      cases q : g ⟨init0 Nm ds, M⟩ with
      | no => rw [q] at post; exact post
      | bk s1 => rw [q] at post; exact post.elim
      | ct s1 => rw [q] at post; exact post.elim
      | nx s1 =>
        rw [q] at post
        intro σ' H' α' N' s' e
        unfold RS.out at post
        dsimp only at post
        cases qc : cutM s1.M α.length with
        | none => rw [qc] at post; exact post.elim
        | some M1 =>
          rw [qc] at post
          exact post .non H' (c.cut s'.c e qc) (e.cut c.sub) rel_non
      | rt d s1 =>
        rw [q] at post
        intro v σ' H' α' N' s' e rv
        unfold RS.out at post
        dsimp only at post
        cases qc : cutM s1.M α.length with
        | none => rw [qc] at post; exact post.elim
        | some M1 =>
          cases qf : fz s1.M α.length d with
          | none => rw [qc, qf] at post; exact post.elim
          | some d' =>
            rw [qc, qf] at post
            exact post v H' (c.cut s'.c e qc) (e.cut c.sub) (fz_rel s'.c e c.som rv qf)
      | ex x s1 =>
        rw [q] at post
        intro cls dd σ' H' α' N' s' e xr
        unfold RS.out at post
        dsimp only at post
        cases qc : cutM s1.M α.length with
        | none => rw [qc] at post; exact post.elim
        | some M1 =>
          rw [qc] at post
          dsimp only at post
          obtain ⟨x1, x2⟩ := xr
          cases qp : x.part with
          | none =>
            rw [qp] at post
            exact post cls dd H' (c.cut s'.c e qc) (e.cut c.sub) ⟨x1, by rw [qp]; trivial⟩
          | some d =>
            rw [qp] at post x2
            dsimp only at post
            by_cases hl : d.lf = true
            · rw [if_pos hl] at post
              obtain ⟨a, v, y1, y2, y3⟩ := x2
              exact post cls dd H' (c.cut s'.c e qc) (e.cut c.sub) ⟨x1, by rw [qp]; exact ⟨a, v, y1, y2, Rel.less e.nn (Rel.lf hl y3)⟩⟩
            · rw [if_neg hl] at post; exact post.elim
/-- the same for a def that has no list of ours in hand -/
theorem fn_okP {T : TPr} {P : Program} {w : World} {K : PySem.W.Frag} {mg : Str → Option Value} {base : Heap} {x qual : Str} {st : Stmt} {f : Addr} {fd : FuncData} {Nm ps : List Str} {dvs : List V} {kws : List (Str × V)} {k : Nat} {p : List D → Pu}
    (F : FunD K x qual (defArgs st) (defBody st) (defScope st) dvs kws f fd) (S : FnScope Nm ps (defScope st))
    (hb : ∀ ds, p ds ≠ .no → ds.length = ps.length → ∃ g : Sx → RS, (∀ (cdv : Value) (A : Around) (outer : List Env) (s : Shared) (H : Hp) (E : XK), Room k (A.deeper (envOfC qual (defScope st) s.heap.objs.size f cdv)) →
      PSs (cxOf (L2.CX P w) P w K mg base Nm qual (defScope st) f cdv A outer s H E) (defBody st) (tS T mg (fun cls d _ H => E cls d H) g)) ∧ RS.out 0 (g ⟨init0 Nm ds, []⟩) = lift p ds []) :
    FnOk P w K mg base (L2.CX P w) (k + 1) f fd ps (spP T mg ps.length p) := by
  refine fn_ok F S fun ds M hne hl => ?_
  cases M with
  | cons _ _ => exact (hne rfl).elim
  | nil => exact hb ds (fun z => hne (by unfold lift; rw [z])) hl

section
variable {T : TPr} {mg : Str → Option Value} {W : WX} {σ : L2.St} {H : Hp} {N : Addr → Prop} {α : List Addr} {Dn : Ends}
/-! ### raise -/
def fRaise (x : Str) : Sx → RS := fun s => .ex ⟨x, none⟩ s
theorem raise_imp {x : Str} {cls : Value} (hm : mg x = some cls) (h : tS T mg W (fRaise x) Dn σ H) : W cls none σ H := by
  obtain ⟨s, α, N, hs, p⟩ := h
  exact p cls none σ H α N hs Ext.refl ⟨hm, trivial⟩

/-! ### walks -/
theorem PostI.of {G : RG D V} {ρ : List (Option D)} {Q : It → Hp → Prop} {r : R D} {k : D → Option (List D)} (h : PostI T mg N α H σ ρ W Q (r.bind fun d M => opt (k d) M)) :
    Post T mg G N α H σ ρ W (fun v H1 => ∃ M α1 N1 c ds, StR T N1 H1 σ ⟨ρ, M⟩ α1 ∧ Ext α N H α1 N1 H1 ∧ G H1 N1 α1 c v ∧ k c = some ds ∧ ∀ J, ItD T J ds α1 N1 H1 → Q J H1) r := by
  cases r with
  | no => exact h
  | ex e M => exact h
  | ok c M =>
    intro v H1 α1 N1 s1 e1 g1
    have h' : PostI T mg N α H σ ρ W Q (opt (k c) M) := h
    cases q : k c with
    | none => rw [q] at h'; exact h'.elim
    | some ds =>
      rw [q] at h'
      exact ⟨M, α1, N1, c, ds, s1, e1, g1, q, fun J it => h' J H1 α1 N1 s1 e1 it⟩
/-- over a list (not one of ours), over a tuple -/
def asLst : D → Option (List D)
  | .lst l => some l
  | _ => none
def asTup : D → Option (List D)
  | .tup l => some l
  | _ => none
def fIt (k : D → Option (List D)) (f : Sx → R D) : Sx → R (List D) := fun s => (f s).bind fun d M => opt (k d) M
theorem it_lst {K : PySem.W.Frag} {ds : List D} {vs : List V} {a : Addr} (sub : ∀ b ∈ α, N b) (hn : ¬ N a) (h : H a = some (.lst vs)) (r : Rels H N α ds vs) : ItD T (Itl K a) ds α N H := by
  intro i α2 N2 H2 e2 s2
  have h2 : SqL K H2 a vs := rd_sqL (keepL e2 (fun z => hn (sub a z)) h)
  have r2 := Rels.mono sub e2 r
  have hl := Rels.length r
  refine ⟨fun hi => ⟨vs, h2, by omega⟩, fun d hd => ?_⟩
  obtain ⟨v, g1, g2⟩ := Rels.get r2 hd
  refine ⟨⟨vs, v, h2, g1⟩, fun x H3 hy => ?_⟩
  obtain ⟨e, y⟩ := hy
  subst e
  refine ⟨fun _ _ q => q, ?_⟩
  have := y vs h2
  rw [g1] at this
  cases this
  exact g2
theorem it_tup {K : PySem.W.Frag} {ds : List D} {vs : List V} {a : Addr} (sub : ∀ b ∈ α, N b) (h : H a = some (.tup vs)) (r : Rels H N α ds vs) : ItD T (Itt K a) ds α N H := by
  intro i α2 N2 H2 e2 s2
  have h2 : SqT K H2 a vs := rd_sqT (keepT e2 h)
  have r2 := Rels.mono sub e2 r
  have hl := Rels.length r
  refine ⟨fun hi => ⟨vs, h2, by omega⟩, fun d hd => ?_⟩
  obtain ⟨v, g1, g2⟩ := Rels.get r2 hd
  refine ⟨⟨vs, v, h2, g1⟩, fun x H3 hy => ?_⟩
  obtain ⟨e, y⟩ := hy
  subst e
  refine ⟨fun _ _ q => q, ?_⟩
  have := y vs h2
  rw [g1] at this
  cases this
  exact g2
theorem itl_imp {K : PySem.W.Frag} {f : Sx → R D} {Q : It → Hp → Prop} (h : tI T mg W (fIt asLst f) σ H Q) : iList K (tD T mg W f) σ H Q := by
  obtain ⟨s, α, N, hs, p⟩ := h
  refine ⟨s, α, N, hs, Post.mono (fun v H1 h1 => ?_) (PostI.of (G := RelD) p)⟩
  obtain ⟨M1, α1, N1, d, ds, s1, e1, g1, k1, q⟩ := h1
  cases d <;> try (cases k1; done)
  rename_i l
  cases k1
  unfold RelD Rel at g1
  obtain ⟨a, vs, h1, h0, h2, h3⟩ := g1
  exact ⟨a, h1, ⟨vs, rd_sqL h2⟩, q _ (it_lst s1.c.sub h0 h2 h3)⟩
theorem itt_imp {K : PySem.W.Frag} {f : Sx → R D} {Q : It → Hp → Prop} (h : tI T mg W (fIt asTup f) σ H Q) : iTup K (tD T mg W f) σ H Q := by
  obtain ⟨s, α, N, hs, p⟩ := h
  refine ⟨s, α, N, hs, Post.mono (fun v H1 h1 => ?_) (PostI.of (G := RelD) p)⟩
  obtain ⟨M1, α1, N1, d, ds, s1, e1, g1, k1, q⟩ := h1
  cases d <;> try (cases k1; done)
  rename_i l
  cases k1
  unfold RelD Rel at g1
  obtain ⟨a, vs, h1, h2, h3⟩ := g1
  exact ⟨a, h1, ⟨vs, rd_sqT h2⟩, q _ (it_tup s1.c.sub h2 h3)⟩
/-- over range(..) -/
def rgList (lo : Int) (n : Nat) : List D := (List.range n).map fun (i : Nat) => D.int (lo + (i : Int))
theorem rg_get {lo : Int} {n i : Nat} : (rgList lo n)[i]? = if i < n then some (.int (lo + i)) else none := by
  unfold rgList
  rw [List.getElem?_map]
  by_cases h : i < n
  · rw [if_pos h, List.getElem?_range h]; rfl
  · rw [if_neg h, List.getElem?_eq_none (by simpa using Nat.le_of_not_lt h)]; rfl
end
end DL

namespace DL
open PySem PySem.Spec L2
open PyProof.Rows hiding St

section
variable {T : TPr} {mg : Str → Option Value} {W : WX} {σ : L2.St} {H : Hp} {N : Addr → Prop} {α : List Addr} {Dn : Ends}
/-! ### ranges -/
def rgOk (j : Int) : Bool := decide (-1000000000 ≤ j) && decide (j ≤ 1000000000)
def asRg1 : List D → Option (List D)
  | [.int j] => if rgOk j = true then some (rgList 0 j.toNat) else none
  | _ => none
def asRg2 : List D → Option (List D)
  | [.int i, .int j] => if (rgOk i && rgOk j) = true then some (rgList i (j - i).toNat) else none
  | _ => none
theorem PostI.of' {γ δ : Type} {G : RG γ δ} {ρ : List (Option D)} {Q : It → Hp → Prop} {r : R γ} {k : γ → Option (List D)} (h : PostI T mg N α H σ ρ W Q (r.bind fun d M => opt (k d) M)) :
    Post T mg G N α H σ ρ W (fun v H1 => ∃ M α1 N1 c ds, StR T N1 H1 σ ⟨ρ, M⟩ α1 ∧ Ext α N H α1 N1 H1 ∧ G H1 N1 α1 c v ∧ k c = some ds ∧ ∀ J, ItD T J ds α1 N1 H1 → Q J H1) r := by
  cases r with
  | no => exact h
  | ex e M => exact h
  | ok c M =>
    intro v H1 α1 N1 s1 e1 g1
    have h' : PostI T mg N α H σ ρ W Q (opt (k c) M) := h
    cases q : k c with
    | none => rw [q] at h'; exact h'.elim
    | some ds =>
      rw [q] at h'
      exact ⟨M, α1, N1, c, ds, s1, e1, g1, q, fun J it => h' J H1 α1 N1 s1 e1 it⟩
def fIts (k : List D → Option (List D)) (f : Sx → R (List D)) : Sx → R (List D) := fun s => (f s).bind fun d M => opt (k d) M
theorem it_rg {lo : Int} {n : Nat} : ItD T (Itr lo n) (rgList lo n) α N H := by
  intro i α2 N2 H2 e2 s2
  have hl : (rgList lo n).length = n := by unfold rgList; simp
  rw [hl]
  refine ⟨fun hi => Nat.le_of_eq hi.symm, fun d hd => ?_⟩
  rw [rg_get] at hd
  by_cases h : i < n
  · rw [if_pos h] at hd
    cases hd
    refine ⟨h, fun x H3 hy => ?_⟩
    obtain ⟨e, y⟩ := hy
    subst e y
    exact ⟨fun _ _ q => q, rel_int⟩
  · rw [if_neg h] at hd; cases hd
theorem rgOk_b {j : Int} (h : rgOk j = true) : -(2 ^ 62) ≤ j ∧ j < 2 ^ 62 := by
  unfold rgOk at h
  simp only [Bool.and_eq_true, decide_eq_true_eq] at h
  omega
theorem rg1_imp {f : Sx → R (List D)} {Q : It → Hp → Prop} (h : tI T mg W (fIts asRg1 f) σ H Q) : iRng1 (tL T mg W f) σ H Q := by
  obtain ⟨s, α, N, hs, p⟩ := h
  refine ⟨s, α, N, hs, Post.mono (fun v H1 h1 => ?_) (PostI.of' (G := RelL) p)⟩
  obtain ⟨M1, α1, N1, d, ds, s1, e1, g1, k1, q⟩ := h1
  match d, k1, g1 with
  | [.int j], k1, g1 =>
    obtain ⟨x, rfl, r1⟩ := rels1 g1
    unfold Rel at r1
    unfold asRg1 at k1
    dsimp only at k1
    by_cases hj : rgOk j = true
    · rw [if_pos hj] at k1; cases k1
      exact ⟨j, by rw [r1], (rgOk_b hj).1, (rgOk_b hj).2, q _ it_rg⟩
    · rw [if_neg hj] at k1; cases k1
theorem rg2_imp {f : Sx → R (List D)} {Q : It → Hp → Prop} (h : tI T mg W (fIts asRg2 f) σ H Q) : iRng2 (tL T mg W f) σ H Q := by
  obtain ⟨s, α, N, hs, p⟩ := h
  refine ⟨s, α, N, hs, Post.mono (fun v H1 h1 => ?_) (PostI.of' (G := RelL) p)⟩
  obtain ⟨M1, α1, N1, d, ds, s1, e1, g1, k1, q⟩ := h1
  match d, k1, g1 with
  | [.int i, .int j], k1, g1 =>
    obtain ⟨x, y, rfl, r1, r2⟩ := rels2 g1
    unfold Rel at r1 r2
    unfold asRg2 at k1
    dsimp only at k1
    by_cases hj : (rgOk i && rgOk j) = true
    · rw [if_pos hj] at k1; cases k1
      obtain ⟨a, b⟩ := Bool.and_eq_true_iff.mp hj
      exact ⟨i, j, by rw [r1, r2], ⟨(rgOk_b a).1, (rgOk_b a).2, (rgOk_b b).1, (rgOk_b b).2⟩, q _ it_rg⟩
    · rw [if_neg hj] at k1; cases k1

/-! ### methods of lists -/
def MtD (T : TPr) (r : V → List V → Hp → VK → Prop) (g : Cells → D → List D → Option (D × Cells)) : Prop := ∀ {N : Addr → Prop} {H : Hp} {M : Cells} {α : List Addr} {d : D} {l : List D} {x : V} {xs : List V} {z : D} {M' : Cells} {Q : VK}, StC T N H M α → Rel H N α d x → Rels H N α l xs → g M d l = some (z, M') →
  (∀ v H', StC T N H' M' α → Ext α N H α N H' → Rel H' N α z v → Q v H') → r x xs H Q
def isLst (M : Cells) : D → Bool
  | .loc n => (M[n]?).isSome
  | .lst _ => true
  | _ => false
def fMt (g : Cells → D → List D → Option (D × Cells)) (fo : Sx → R D) (fa : Sx → R (List D)) : Sx → R D := fun s => (fo s).bind fun d M1 => if isLst M1 d = true then
  (fa ⟨s.ρ, M1⟩).bind fun l M2 => match g M2 d l with
    | some (z, M') => .ok z M'
    | none => .no
  else .no
theorem isLst_ty {K : PySem.W.Frag} {M : Cells} {d : D} {x : V} (c : StC T N H M α) (r : Rel H N α d x) (h : isLst M d = true) : tyV K "list" x H := by
  cases d <;> try (cases h; done)
  · unfold Rel at r
    obtain ⟨a, vs, h1, h0, h2, h3⟩ := r
    rw [h1]
    exact .inl ⟨rfl, vs, rd_sqL h2⟩
  · rename_i n
    unfold Rel at r
    obtain ⟨a, h1, h2⟩ := r
    unfold isLst at h
    dsimp only at h
    cases q : M[n]? with
    | none => rw [q] at h; cases h
    | some l =>
      obtain ⟨a', vs, e1, e2, e3⟩ := c.cel n l q
      rw [h2] at e1; cases e1
      rw [h1]
      exact .inl ⟨rfl, vs, rd_sqL e2⟩
theorem mt_imp {K : PySem.W.Frag} {r : V → List V → Hp → VK → Prop} {g : Cells → D → List D → Option (D × Cells)} {fo : Sx → R D} {fa : Sx → R (List D)} (ho : MtD T r g) {Q : VK} (h : tD T mg W (fMt g fo fa) σ H Q) : tBM K "list" r (tD T mg W fo) (tL T mg W fa) σ H Q := by
  obtain ⟨s, α, N, hs, p⟩ := h
  refine ⟨s, α, N, hs, Post.mono (fun x H1 h1 => ?_) (Post.bind (G := RelD) p)⟩
  obtain ⟨M1, α1, N1, d, s1, e1, g1, p1⟩ := h1
  obtain ⟨hl, p2⟩ := p1.ite
  refine ⟨isLst_ty s1.c g1 hl, _, α1, N1, s1, Post.mono (fun xs H2 h2 => ?_) (Post.bind (G := RelL) p2)⟩
  obtain ⟨M2, α2, N2, l, s2, e2, g2, p3⟩ := h2
  cases q : g M2 d l with
  | none => rw [q] at p3; exact p3.elim
  | some zz =>
    obtain ⟨z, M'⟩ := zz
    rw [q] at p3
    exact ho s2.c (Rel.mono s1.c.sub e2 g1) g2 q fun v H' c e rz => p3 v H' α2 N2 (StC.keep s2 c e) e rz
theorem mt0_imp {K : PySem.W.Frag} {r : V → List V → Hp → VK → Prop} {g : Cells → D → List D → Option (D × Cells)} {fo : Sx → R D} (ho : MtD T r g) {Q : VK} (h : tD T mg W (fMt g fo fNil) σ H Q) : tBM0 K "list" r (tD T mg W fo) σ H Q := by
  obtain ⟨s, α, N, hs, p⟩ := h
  refine ⟨s, α, N, hs, Post.mono (fun x H1 h1 => ?_) (Post.bind (G := RelD) p)⟩
  obtain ⟨M1, α1, N1, d, s1, e1, g1, p1⟩ := h1
  obtain ⟨hl, p2⟩ := p1.ite
  refine ⟨isLst_ty s1.c g1 hl, ?_⟩
  have p3 : Post T mg RelD N1 α1 H1 σ s.ρ W Q (match g M1 d [] with
    | some (z, M') => .ok z M'
    | none => .no) := p2
  cases q : g M1 d [] with
  | none => rw [q] at p3; exact p3.elim
  | some zz =>
    obtain ⟨z, M'⟩ := zz
    rw [q] at p3
    exact ho s1.c g1 (by unfold Rels; rfl) q fun v H' c e rz => p3 v H' α1 N1 (StC.keep s1 c e) e rz
/-- a cell is written -/
theorem StC.put {M : Cells} {n : Nat} {a : Addr} {l l' : List D} {ws : List V} (c : StC T N H M α) (h1 : α[n]? = some a) (h2 : M[n]? = some l) (r : Rels H N α l' ws) : StC T N (upd H a (.lst ws)) (M.set n l') α ∧ Ext α N H α N (upd H a (.lst ws)) := by
  obtain ⟨a', vs, e1, e2, e3⟩ := c.cel n l h2
  rw [h1] at e1; cases e1
  have ha : a ∈ α := List.mem_of_getElem? h1
  have hN : N a := c.sub a ha
  have hnf : ∀ b, ¬ Fz H b → ¬ Fz (upd H a (.lst ws)) b := fun b h => nf_upd (fun _ z => by cases z) fun _ => h
  refine ⟨⟨c.nd, c.sub, fun b h => hnf b (c.som b h), by rw [List.length_set]; exact c.len, fun m q hq => ?_, tab_wr e2 c.tab⟩, ⟨⟨[], by simp, by simp⟩, fun _ h => h, fun _ h => .inl h, fun b o hb t u => ?_, hnf⟩⟩
  · have hq' : (M.set n l')[m]? = some q := hq
    by_cases hm : n = m
    · subst hm
      have hlt : n < M.length := (List.getElem?_eq_some_iff.mp h2).1
      rw [List.getElem?_set_self hlt] at hq'
      cases hq'
      exact ⟨a, ws, h1, upd_same, Rels.wr hN e2 r⟩
    · rw [List.getElem?_set_ne hm] at hq'
      obtain ⟨b, us, f1, f2, f3⟩ := c.cel m q hq'
      have ne : b ≠ a := fun z => by
        subst z
        obtain ⟨u1, v1⟩ := List.getElem?_eq_some_iff.mp h1
        obtain ⟨u2, v2⟩ := List.getElem?_eq_some_iff.mp f1
        exact hm ((List.getElem_inj c.nd).mp (v1.trans v2.symm))
      exact ⟨b, us, f1, by rw [upd_ne ne]; exact f2, Rels.wr hN e2 f3⟩
  · rw [upd_ne (fun z => t (by rw [z, e2] at hb; exact ⟨vs, (Option.some.inj hb).symm⟩) (by rw [z]; exact ha))]
    exact hb
theorem loc_rel {M : Cells} {n : Nat} {x : V} {l : List D} (c : StC T N H M α) (r : Rel H N α (.loc n) x) (h : M[n]? = some l) : ∃ a vs, x = .ref a ∧ α[n]? = some a ∧ H a = some (.lst vs) ∧ Rels H N α l vs := by
  unfold Rel at r
  obtain ⟨a, h1, h2⟩ := r
  obtain ⟨a', vs, e1, e2, e3⟩ := c.cel n l h
  rw [h2] at e1; cases e1
  exact ⟨a, vs, h1, h2, e2, e3⟩
def gAppend : Cells → D → List D → Option (D × Cells) := fun M d l => match d, l with
  | .loc n, [e] => match M[n]? with
    | some xs => if xs.length < 100000 then some (.non, M.set n (xs ++ [e])) else none
    | none => none
  | _, _ => none
theorem sz_lt {n : Nat} (h : n < 100000) : n < sizeLine := Nat.lt_of_lt_of_le h (by decide)
theorem md_append : MtD T rAppend gAppend := by
  intro N H M α d l x xs z M' Q c r1 r2 h k
  match d, l, h, r1, r2 with
  | .loc n, [e], h, r1, r2 =>
    unfold gAppend at h
    dsimp only at h
    cases q : M[n]? with
    | none => rw [q] at h; cases h
    | some ys =>
      rw [q] at h
      dsimp only at h
      by_cases hz : ys.length < 100000
      · rw [if_pos hz] at h; cases h
        obtain ⟨a, vs, h1, h2, h3, h4⟩ := loc_rel c r1 q
        obtain ⟨y, rfl, r3⟩ := rels1 r2
        have hl := Rels.length h4
        obtain ⟨c', e'⟩ := c.put h2 q (Rels.append (Rels.one r3) h4)
        exact ⟨a, vs, y, h1, rfl, h3, sz_lt (by omega), k _ _ c' e' rel_non⟩
      · rw [if_neg hz] at h; cases h
def gInsert : Cells → D → List D → Option (D × Cells) := fun M d l => match d, l with
  | .loc n, [.int i, e] => match M[n]? with
    | some xs => if xs.length < 100000 ∧ 0 ≤ i ∧ i ≤ 100000 then some (.non, M.set n (xs.take i.toNat ++ [e] ++ xs.drop i.toNat)) else none
    | none => none
  | _, _ => none
def rInsert : V → List V → Hp → VK → Prop := fun x vs H Q => ∃ (l : Addr) (xs : List V) (i : Int) (y : V), x = .ref l ∧ vs = [.int i, y] ∧ H l = some (.lst xs) ∧ xs.length < sizeLine ∧ 0 ≤ i ∧ i < 2 ^ 63 ∧
    Q .non (upd H l (.lst (xs.take i.toNat ++ [y] ++ xs.drop i.toNat)))
theorem md_insert : MtD T rInsert gInsert := by
  intro N H M α d l x xs z M' Q c r1 r2 h k
  match d, l, h, r1, r2 with
  | .loc n, [.int i, e], h, r1, r2 =>
    unfold gInsert at h
    dsimp only at h
    cases q : M[n]? with
    | none => rw [q] at h; cases h
    | some ys =>
      rw [q] at h
      dsimp only at h
      by_cases hz : ys.length < 100000 ∧ 0 ≤ i ∧ i ≤ 100000
      · rw [if_pos hz] at h; cases h
        obtain ⟨a, vs, h1, h2, h3, h4⟩ := loc_rel c r1 q
        obtain ⟨y0, y, rfl, r0, r3⟩ := rels2 r2
        unfold Rel at r0
        subst r0
        have hl := Rels.length h4
        obtain ⟨c', e'⟩ := c.put h2 q (Rels.append (Rels.drop i.toNat h4) (Rels.append (Rels.one r3) (Rels.take i.toNat h4)))
        exact ⟨a, vs, i, y, h1, rfl, h3, sz_lt (by omega), hz.2.1, by omega, k _ _ c' e' rel_non⟩
      · rw [if_neg hz] at h; cases h
def gPop : Cells → D → List D → Option (D × Cells) := fun M d l => match d, l with
  | .loc n, [] => match M[n]? with
    | some xs => match xs[xs.length - 1]? with
      | some y => some (y, M.set n xs.dropLast)
      | none => none
    | none => none
  | _, _ => none
theorem Rels.dropLast {H : Hp} {N : Addr → Prop} {α : List Addr} {l : List D} {vs : List V} (h : Rels H N α l vs) : Rels H N α l.dropLast vs.dropLast := by
  rw [List.dropLast_eq_take, List.dropLast_eq_take, Rels.length h]
  exact Rels.take _ h
theorem md_pop : MtD T rPop gPop := by
  intro N H M α d l x xs z M' Q c r1 r2 h k
  match d, l, h, r1, r2 with
  | .loc n, [], h, r1, r2 =>
    unfold gPop at h
    dsimp only at h
    cases q : M[n]? with
    | none => rw [q] at h; cases h
    | some ys =>
      rw [q] at h
      dsimp only at h
      cases q2 : ys[ys.length - 1]? with
      | none => rw [q2] at h; cases h
      | some y =>
        rw [q2] at h; cases h
        obtain ⟨a, vs, h1, h2, h3, h4⟩ := loc_rel c r1 q
        unfold Rels at r2
        subst r2
        obtain ⟨v, g1, g2⟩ := Rels.get h4 q2
        obtain ⟨c', e'⟩ := c.put h2 q (Rels.dropLast h4)
        exact ⟨a, vs, v, h1, rfl, h3, by rw [← Rels.length h4]; exact g1, k _ _ c' e' (Rel.mono c.sub e' g2)⟩
def gPopAt : Cells → D → List D → Option (D × Cells) := fun M d l => match d, l with
  | .loc n, [.int i] => match M[n]? with
    | some xs => if -1000000 ≤ i ∧ i ≤ 1000000 then match seqIndex? i xs.length with
      | some j => match xs[j]? with
        | some y => some (y, M.set n (xs.eraseIdx j))
        | none => none
      | none => none
      else none
    | none => none
  | _, _ => none
theorem md_popAt : MtD T rPopAt gPopAt := by
  intro N H M α d l x xs z M' Q c r1 r2 h k
  match d, l, h, r1, r2 with
  | .loc n, [.int i], h, r1, r2 =>
    unfold gPopAt at h
    dsimp only at h
    cases q : M[n]? with
    | none => rw [q] at h; cases h
    | some ys =>
      rw [q] at h
      dsimp only at h
      by_cases hi : -1000000 ≤ i ∧ i ≤ 1000000
      case neg => rw [if_neg hi] at h; cases h
      rw [if_pos hi] at h
      cases q3 : seqIndex? i ys.length with
      | none => rw [q3] at h; cases h
      | some j =>
        rw [q3] at h
        dsimp only at h
        cases q2 : ys[j]? with
        | none => rw [q2] at h; cases h
        | some y =>
          rw [q2] at h; cases h
          obtain ⟨a, vs, h1, h2, h3, h4⟩ := loc_rel c r1 q
          obtain ⟨y0, rfl, r0⟩ := rels1 r2
          unfold Rel at r0
          subst r0
          obtain ⟨v, g1, g2⟩ := Rels.get h4 q2
          obtain ⟨c', e'⟩ := c.put h2 q (Rels.eraseIdx j h4)
          exact ⟨a, vs, i, j, v, h1, rfl, h3, by omega, by omega, by rw [← Rels.length h4]; exact q3, g1, k _ _ c' e' (Rel.mono c.sub e' g2)⟩
/-- xs[i] = e -/
def fSetIx (fe fo fi : Sx → R D) : Sx → RS := fun s => (fe s).toS s.ρ fun d M1 => (fo ⟨s.ρ, M1⟩).toS s.ρ fun o M2 => (fi ⟨s.ρ, M2⟩).toS s.ρ fun i M3 => match o, i with
  | .loc n, .int j => match M3[n]? with
    | some xs => match ixN xs.length j with
      | some k => .nx ⟨s.ρ, M3.set n (xs.set k d)⟩
      | none => .no
    | none => .no
  | _, _ => .no
theorem setIx_imp {fe fo fi : Sx → R D} (h : tS T mg W (fSetIx fe fo fi) Dn σ H) : tAsg (tD T mg W fe) (L2.gSub (tD T mg W fo) (tD T mg W fi) rSetL) Dn σ H := by
  obtain ⟨s, α, N, hs, p⟩ := h
  refine ⟨s, α, N, hs, Post.mono (fun v H1 h1 => ?_) (PostS.bind (G := RelD) p)⟩
  obtain ⟨M1, α1, N1, d, s1, e1, g1, p1⟩ := h1
  refine ⟨_, α1, N1, s1, Post.mono (fun o H2 h2 => ?_) (PostS.bind (G := RelD) p1)⟩
  obtain ⟨M2, α2, N2, od, s2, e2, g2, p2⟩ := h2
  refine ⟨_, α2, N2, s2, Post.mono (fun i H3 h3 => ?_) (PostS.bind (G := RelD) p2)⟩
  obtain ⟨M3, α3, N3, id', s3, e3, g3, p3⟩ := h3
  match od, id', p3, g2, g3 with
  | .loc n, .int j, p3, g2, g3 =>
    dsimp only at p3
    cases q : M3[n]? with
    | none => rw [q] at p3; exact p3.elim
    | some xs =>
      rw [q] at p3
      dsimp only at p3
      cases qk : ixN xs.length j with
      | none => rw [qk] at p3; exact p3.elim
      | some k =>
        rw [qk] at p3
        obtain ⟨a, vs, h1, h2, h3, h4⟩ := loc_rel s3.c (Rel.mono s2.c.sub e3 g2) q
        unfold RelD Rel at g3
        have rd : Rel H3 N3 α3 d v := Rel.mono s2.c.sub e3 (Rel.mono s1.c.sub e2 g1)
        obtain ⟨c', e'⟩ := s3.c.put h2 q (Rels.set rd k h4)
        exact ⟨a, vs, j, k, h1, g3, h3, by rw [← Rels.length h4]; exact qk, p3 _ _ α3 N3 (StC.keep s3 c' e') e'⟩

/-! ### slices, + of tuples and lists -/
def dcut (l : List D) (lo hi : Option Int) : List D := (l.drop (HT.sIx l.length 0 lo)).take (HT.sIx l.length l.length hi - HT.sIx l.length 0 lo)
theorem dcut_rel {l : List D} {vs : List V} {lo hi : Option Int} (r : Rels H N α l vs) : Rels H N α (dcut l lo hi) (cutV vs lo hi) := by
  unfold dcut cutV
  rw [Rels.length r]
  exact Rels.take _ (Rels.drop _ r)
def fNoPart : Sx → R (Option Int) := fun s => .ok none s.M
def fPart (f : Sx → R D) : Sx → R (Option Int) := fun s => (f s).bind fun d M => match d with
  | .int i => .ok (some i) M
  | _ => .no
abbrev tO' (T : TPr) (mg : Str → Option Value) (W : WX) (f : Sx → R (Option Int)) : TO := tG T mg RelO W f
theorem noPart_imp {Q : Option Int → Hp → Prop} (h : tO' T mg W fNoPart σ H Q) : tNoPart σ H Q := by
  obtain ⟨s, α, N, hs, p⟩ := h
  exact Post.now p hs rfl
theorem part_imp {f : Sx → R D} {Q : Option Int → Hp → Prop} (h : tO' T mg W (fPart f) σ H Q) : tPart (tD T mg W f) σ H Q := by
  obtain ⟨s, α, N, hs, p⟩ := h
  refine ⟨s, α, N, hs, Post.mono (fun x H1 h1 => ?_) (Post.bind (G := RelD) p)⟩
  obtain ⟨M1, α1, N1, d, s1, e1, g1, p1⟩ := h1
  cases d with
  | int i =>
    unfold RelD Rel at g1
    exact ⟨i, g1, Post.now p1 s1 rfl⟩
  | _ => exact p1.elim
def gCut : Cells → D → Option Int → Option Int → Option D := fun M d lo hi => match seqOf M d with
  | some (true, l) => some (.tup (dcut l lo hi))
  | some (false, l) => some (.lst (dcut l lo hi))
  | none => none
def fSl (fo : Sx → R D) (fl fh : Sx → R (Option Int)) : Sx → R D := fun s => (fo s).bind fun d M1 => (fl ⟨s.ρ, M1⟩).bind fun lo M2 => (fh ⟨s.ρ, M2⟩).bind fun hi M3 => opt (gCut M3 d lo hi) M3
def rSl (K : PySem.W.Frag) : V → Option Int → Option Int → Hp → VK → Prop := fun x lo hi H Q => rSlA K x lo hi H Q ∨ rSlL K x lo hi H Q
theorem whole_cut {vs : List V} {lo hi : Option Int} (h : HT.sIx vs.length 0 lo = 0 ∧ HT.sIx vs.length vs.length hi = vs.length) : cutV vs lo hi = vs := by
  unfold cutV
  rw [h.1, h.2]
  simp
theorem sl_imp {K : PySem.W.Frag} {fo : Sx → R D} {fl fh : Sx → R (Option Int)} {Q : VK} (h : tD T mg W (fSl fo fl fh) σ H Q) : tSl (rSl K) (tD T mg W fo) (tO' T mg W fl) (tO' T mg W fh) σ H Q := by
  obtain ⟨s, α, N, hs, p⟩ := h
  refine ⟨s, α, N, hs, Post.mono (fun x H1 h1 => ?_) (Post.bind (G := RelD) p)⟩
  obtain ⟨M1, α1, N1, d, s1, e1, g1, p1⟩ := h1
  refine ⟨_, α1, N1, s1, Post.mono (fun lo H2 h2 => ?_) (Post.bind (G := RelO) p1)⟩
  obtain ⟨M2, α2, N2, lo', s2, e2, g2, p2⟩ := h2
  refine ⟨_, α2, N2, s2, Post.mono (fun hi H3 h3 => ?_) (Post.bind (G := RelO) p2)⟩
  obtain ⟨M3, α3, N3, hi', s3, e3, g3, p3⟩ := h3
  cases g2
  cases g3
  obtain ⟨z, hz, p4⟩ := p3.opt
  have rd := Rel.mono s2.c.sub e3 (Rel.mono s1.c.sub e2 g1)
  unfold gCut at hz
  cases q : seqOf M3 d with
  | none => rw [q] at hz; cases hz
  | some bl =>
    obtain ⟨b, l⟩ := bl
    rw [q] at hz
    obtain ⟨a, vs, h1, h2, h3, h4⟩ := seq_rel s3.c rd q
    have fin : ∀ o p, H3 p = none → (∀ ps, o ≠ .tbl ps) → Rel (upd H3 p o) N3 α3 z (.ref p) → Q (.ref p) (upd H3 p o) := fun o p hp _ r => p4 _ _ α3 N3 (StC.keep s3 (s3.c.grow (new_keep hp)) (Ext.grow (new_keep hp))) (Ext.grow (new_keep hp)) r
    cases b with
    | true =>
      cases hz
      refine .inl ⟨a, vs, h1, rd_sqT (h2 rfl), fun hw => ?_, fun hw p hp => fin _ p hp (fun _ z => by cases z) (tup_new (dcut_rel h4) s3.c.sub hp)⟩
      refine p4 _ _ α3 N3 s3 Ext.refl ?_
      unfold RelD Rel
      exact ⟨a, vs, rfl, h2 rfl, by rw [← whole_cut hw]; exact dcut_rel h4⟩
    | false =>
      cases hz
      exact .inr ⟨a, vs, h1, .inl (h3 rfl), fun p hp => fin _ p hp (fun _ z => by cases z) (lst_new (dcut_rel h4) s3.c.sub s3.c.som hp)⟩
def gCat : Cells → D → D → Option D := fun M d e => match seqOf M d, seqOf M e with
  | some (true, l), some (true, m) => if l.length + m.length ≤ 100000 then some (.tup (l ++ m)) else none
  | _, _ => none
theorem od_catT {K : PySem.W.Frag} : OpD T (rCatA K) gCat := by
  intro N H M α d e x y z Q c r1 r2 h k
  unfold gCat at h
  split at h
  · rename_i l m q1 q2
    by_cases hl : l.length + m.length ≤ 100000
    · rw [if_pos hl] at h; cases h
      obtain ⟨a, vs, h1, h2, h3, h4⟩ := seq_rel c r1 q1
      obtain ⟨b, ws, i1, i2, i3, i4⟩ := seq_rel c r2 q2
      have l1 := Rels.length h4
      have l2 := Rels.length i4
      refine ⟨a, b, vs, ws, h1, i1, rd_sqT (h2 rfl), rd_sqT (i2 rfl), sz_of (by omega), fun hx => ?_, fun hx hy => ?_, fun hx hy p hp => ?_⟩
      · subst hx
        have e : l = [] := List.eq_nil_of_length_eq_zero l1
        subst e
        exact k _ H c Ext.refl (by unfold Rel; exact ⟨b, ws, rfl, i2 rfl, i4⟩)
      · subst hy
        have e : m = [] := List.eq_nil_of_length_eq_zero l2
        subst e
        exact k _ H c Ext.refl (by unfold Rel; exact ⟨a, vs, rfl, h2 rfl, by rw [List.append_nil]; exact h4⟩)
      · exact k _ _ (c.grow (new_keep hp)) (Ext.grow (new_keep hp)) (tup_new (Rels.append i4 h4) c.sub hp)
    · rw [if_neg hl] at h; cases h
  · cases h
/-- lists that are no locked ones -/
def lstOf (M : Cells) : D → Option (List D)
  | .lst l => some l
  | .loc n => M[n]?
  | _ => none
theorem lst_rel {M : Cells} {d : D} {x : V} {l : List D} (c : StC T N H M α) (r : Rel H N α d x) (h : lstOf M d = some l) : ∃ a vs, x = .ref a ∧ H a = some (.lst vs) ∧ Rels H N α l vs := by
  cases d <;> try (cases h; done)
  · cases h
    unfold Rel at r
    obtain ⟨a, vs, h1, h0, h2, h3⟩ := r
    exact ⟨a, vs, h1, h2, h3⟩
  · obtain ⟨a, vs, h1, _, h3, h4⟩ := loc_rel c r h
    exact ⟨a, vs, h1, h3, h4⟩
def gCatL : Cells → D → D → Option D := fun M d e => match lstOf M d, lstOf M e with
  | some l, some m => if l.length + m.length ≤ 100000 then some (.lst (l ++ m)) else none
  | _, _ => none
theorem od_catL : OpD T rCat gCatL := by
  intro N H M α d e x y z Q c r1 r2 h k
  unfold gCatL at h
  split at h
  · rename_i l m q1 q2
    by_cases hl : l.length + m.length ≤ 100000
    · rw [if_pos hl] at h; cases h
      obtain ⟨a, vs, h1, h2, h3⟩ := lst_rel c r1 q1
      obtain ⟨b, ws, i1, i2, i3⟩ := lst_rel c r2 q2
      have l1 := Rels.length h3
      have l2 := Rels.length i3
      exact ⟨a, b, vs, ws, h1, i1, h2, i2, sz_of (by omega), fun p hp => k _ _ (c.grow (new_keep hp)) (Ext.grow (new_keep hp)) (lst_new (Rels.append i3 h3) c.sub c.som hp)⟩
    · rw [if_neg hl] at h; cases h
  · cases h
end
end DL

namespace DL
open PySem PySem.Spec L2
open PyProof.Rows hiding St

section
variable {X : Cx} {T : TPr} {W : WX} {pos : Pos}
/-! ### the rules, from a piece of syntax to its function on data -/
theorem e_var (i : Nat) {x : Str} (hN : X.N[i]? = some x := by rfl) (hv : Vis X.env.scope x := by first | exact Or.inl rfl | exact Or.inr (Or.inl rfl) | exact Or.inr (Or.inr rfl)) (hd : (x == ("__debug__" : Str)) = false := by decide)
    (hcd : (x == ("__classdict__" : Str)) = false := by decide) : PE X (.Name x pos) (tD T X.mg W (fVar i)) := (pv i hN hv hd hcd).imp fun _ _ _ => var_imp
theorem e_int {i j} : PE X (.Constant (.int i) j pos) (tD T X.mg W (fC (.int i))) := pe_int.imp fun _ _ _ => c_imp fun _ _ _ => rel_int
theorem e_bl {i j} : PE X (.Constant (.bool i) j pos) (tD T X.mg W (fC (.bl i))) := pe_bl.imp fun _ _ _ => c_imp fun _ _ _ => rel_bl
theorem e_str {i j} : PE X (.Constant (.str i) j pos) (tD T X.mg W (fC (.str i))) := pe_str.imp fun _ _ _ => c_imp fun _ _ _ => rel_str
theorem e_non {j} : PE X (.Constant .none j pos) (tD T X.mg W (fC .non)) := pe_non.imp fun _ _ _ => c_imp fun _ _ _ => rel_non
/-- a built-in class as a value, an own class, a def -/
theorem e_ty {x : Str} {n : String} (hg : Gl X x) (hm : X.mg x = none) (hv : bootBuiltins x = some (.type n)) (hn : x ≠ "__name__" := by decide) (hd : (x == ("__debug__" : Str)) = false := by decide) : PE X (.Name x pos) (tD T X.mg W (fC (.ty n))) :=
  (pe_bltn (v := .ty n) hg hm hv rfl hn hd).imp fun _ _ _ => c_imp fun _ _ _ => by unfold Rel; rfl
theorem e_own {x : Str} {a : Addr} (hg : Gl X x) (hm : X.mg x = some (.ref a)) (hd : (x == ("__debug__" : Str)) = false := by decide) : PE X (.Name x pos) (tD T X.mg W (fC (.adr a))) :=
  (pe_glob (v := .ref a) hg hm rfl hd).imp fun _ _ _ => c_imp fun _ _ _ => by unfold Rel; rfl
variable {a b c e : Expr} {es rest : List Expr} {fa fb fc : Sx → R D} {fl : Sx → R (List D)} {ta tb tc : Sx → R Bool}
theorem e_op {op : Operator} {r : R2} {g : Cells → D → D → Option D} (ho : OpR X (binaryOp op) r) (hd : OpD T r g) (ha : PE X a (tD T X.mg W fa)) (hb : PE X b (tD T X.mg W fb)) : PE X (.BinOp a op b pos) (tD T X.mg W (fOp g fa fb)) := (pe_op ho ha hb).imp fun _ _ _ => op_imp hd
theorem e_un {op : UnaryOp} {r : V → Hp → VK → Prop} {g : Cells → D → Option D} (ho : UnR X (unaryOp op) r) (hd : UnD T r g) (ha : PE X a (tD T X.mg W fa)) : PE X (.UnaryOp op a pos) (tD T X.mg W (fUn g fa)) := (pe_un ho ha).imp fun _ _ _ => un_imp hd
theorem e_cmp {op : CmpOp} {r : R2} {g : Cells → D → D → Option D} (ho : OpR X (compareOp op) r) (hd : OpD T r g) (ha : PE X a (tD T X.mg W fa)) (hb : PE X b (tD T X.mg W fb)) (hm : behindInMarks op b = false := by first | exact nomark _ (by decide) (by decide) | rfl) : PE X (.Compare a [op] [b] pos) (tD T X.mg W (fOp g fa fb)) := (pe_cmpR ho ha hb hm).imp fun _ _ _ => op_imp hd
theorem t_cmp {op : CmpOp} {r : R2} {g : Cells → D → D → Option D} (ho : OpR X (compareOp op) r) (hd : OpD T r g) (ha : PE X a (tD T X.mg W fa)) (hb : PE X b (tD T X.mg W fb)) (hm : behindInMarks op b = false := by first | exact nomark _ (by decide) (by decide) | rfl) : PT X (.Compare a [op] [b] pos) (tB' T X.mg W (fTst (fOp g fa fb))) :=
  (pt_cmpR ho ha hb hm).imp fun _ _ _ h => op_imp hd (Q := fun x H' => ∃ k, x = .bl k ∧ _) (tst_imp h)
theorem e_chain {op op' : CmpOp} {r r' : R2} {g g' : Cells → D → D → Option D} (ho : OpR X (compareOp op) r) (hd : OpD T r g) (ho' : OpR X (compareOp op') r') (hd' : OpD T r' g') (ha : PE X a (tD T X.mg W fa)) (hb : PE X b (tD T X.mg W fb)) (hc : PE X c (tD T X.mg W fc)) (hm : lastMarks [op, op'] [b, c] = false := by rfl) :
    PE X (.Compare a [op, op'] [b, c] pos) (tD T X.mg W (fChain g g' fa fb fc)) := (pe_chain ho ho' ha hb hc hm).imp fun _ _ _ => chain_imp hd hd'
theorem t_chain {op op' : CmpOp} {r r' : R2} {g g' : Cells → D → D → Option D} (ho : OpR X (compareOp op) r) (hd : OpD T r g) (ho' : OpR X (compareOp op') r') (hd' : OpD T r' g') (ha : PE X a (tD T X.mg W fa)) (hb : PE X b (tD T X.mg W fb)) (hc : PE X c (tD T X.mg W fc)) (hm : lastMarks [op, op'] [b, c] = false := by rfl) :
    PT X (.Compare a [op, op'] [b, c] pos) (tB' T X.mg W (fTst (fChain g g' fa fb fc))) := (pt_chain ho ho' ha hb hc hm).imp fun _ _ _ h => chain_imp hd hd' (Q := fun x H' => ∃ k, x = .bl k ∧ _) (tst_imp h)
theorem e_and (ha : PE X a (tD T X.mg W fa)) (hb : PE X (.BoolOp .And (b :: rest) pos) (tD T X.mg W fb)) : PE X (.BoolOp .And (a :: b :: rest) pos) (tD T X.mg W (fAndV fa fb)) := (pe_and ha hb).imp fun _ _ _ => andV_imp
theorem e_or (ha : PE X a (tD T X.mg W fa)) (hb : PE X (.BoolOp .Or (b :: rest) pos) (tD T X.mg W fb)) : PE X (.BoolOp .Or (a :: b :: rest) pos) (tD T X.mg W (fOrV fa fb)) := (pe_or ha hb).imp fun _ _ _ => orV_imp
theorem e_one {op} (ha : PE X a (tD T X.mg W fa)) : PE X (.BoolOp op [a] pos) (tD T X.mg W fa) := pe_one ha
theorem e_not (ha : PE X a (tD T X.mg W fa)) : PE X (.UnaryOp .Not a pos) (tD T X.mg W (fNotV fa)) := (pe_not ha).imp fun _ _ _ => notV_imp
theorem e_if (hc : PT X c (tB' T X.mg W tc)) (ha : PE X a (tD T X.mg W fa)) (hb : PE X b (tD T X.mg W fb)) : PE X (.IfExp c a b pos) (tD T X.mg W (fIf tc fa fb)) := (pe_ifExp hc ha hb).imp fun _ _ _ => if_imp
/-- tests -/
theorem t_val (ha : PE X a (tD T X.mg W fa)) (he : ∀ whole, isTrue a X.env whole = (do let v ← whole; standAt a.pos; holding [v] (truthy v)) := by intro _; rfl) : PT X a (tB' T X.mg W (fTst fa)) := (pt_val ha he).imp fun _ _ _ h => tst_imp h
theorem t_not (ha : PT X a (tB' T X.mg W ta)) : PT X (.UnaryOp .Not a pos) (tB' T X.mg W (fNot ta)) := (pt_not ha).imp fun _ _ _ => not_imp
theorem w_and (ha : PT X a (tB' T X.mg W ta)) (hb : PW X (.BoolOp .And (b :: rest) pos) (tB' T X.mg W tb)) : PW X (.BoolOp .And (a :: b :: rest) pos) (tB' T X.mg W (fAnd ta tb)) := L2.PW.imp (pw_and ha hb) fun _ _ _ => and_imp
theorem w_or (ha : PT X a (tB' T X.mg W ta)) (hb : PW X (.BoolOp .Or (b :: rest) pos) (tB' T X.mg W tb)) : PW X (.BoolOp .Or (a :: b :: rest) pos) (tB' T X.mg W (fOr ta tb)) := L2.PW.imp (pw_or ha hb) fun _ _ _ => or_imp
theorem w_and1 (ha : PT X a (tB' T X.mg W ta)) : PW X (.BoolOp .And [a] pos) (tB' T X.mg W ta) := pw_and1 ha
theorem w_or1 (ha : PT X a (tB' T X.mg W ta)) : PW X (.BoolOp .Or [a] pos) (tB' T X.mg W ta) := pw_or1 ha
/-- argument lists, displays -/
theorem a_nil : PA X [] (tL T X.mg W fNil) := pa_nil.imp fun _ _ _ => nil_imp
theorem a_cons (ha : PE X e (tD T X.mg W fa)) (hr : PA X es (tL T X.mg W fl)) (hs : starEach (e :: es) X.env = (false, eval e X.env) :: starEach es X.env := by rfl) : PA X (e :: es) (tL T X.mg W (fCons fa fl)) := (pa_cons ha hr hs).imp fun _ _ _ => cons_imp
theorem e_tup {x1} (h : PA X es (tL T X.mg W fl)) : PE X (.Tuple es x1 pos) (tD T X.mg W (fTup fl)) := (pe_tup h).imp fun _ _ _ => tup_imp
theorem e_lst (h : PA X es (tL T X.mg W fl)) : PE X (.List es pos) (tD T X.mg W (fLst fl)) := (pe_lst h).imp fun _ _ _ => lst_imp
theorem f_lst (h : PA X es (tL T X.mg W fl)) : PE X (.List es pos) (tFL T X.mg W (fNew fl)) := (pe_lst h).imp fun _ _ _ => new_imp
theorem e_fz {f : Sx → R (List D)} (h : PE X e (tFL T X.mg W f)) : PE X e (tD T X.mg W (fFz f)) := h.imp fun _ _ _ => fz_imp
/-- subscripts, slices -/
theorem e_ix (ha : PE X a (tD T X.mg W fa)) (hb : PE X b (tD T X.mg W fb)) (hs : PlainIx b := by exact fun _ _ => rfl) : PE X (.Subscript a b pos) (tD T X.mg W (fOp gIx fa fb)) := (pe_ix ix_seq ha hb hs).imp fun _ _ _ => op_imp od_ix
theorem o_no : PO X none (tO' T X.mg W fNoPart) := ⟨fun pins s σ H Q I h => po_none.run pins s σ H Q I (noPart_imp h)⟩
theorem o_some (ha : PE X a (tD T X.mg W fa)) : PO X (some a) (tO' T X.mg W (fPart fa)) := ⟨fun pins s σ H Q I h => (po_some ha).run pins s σ H Q I (part_imp h)⟩
theorem e_sl {lo hi : Option Expr} {p2 : Pos} {f1 f2 : Sx → R (Option Int)} (ha : PE X a (tD T X.mg W fa)) (hl : PO X lo (tO' T X.mg W f1)) (hh : PO X hi (tO' T X.mg W f2)) : PE X (.Subscript a (.Slice lo hi none p2) pos) (tD T X.mg W (fSl fa f1 f2)) :=
  (pe_slice (sl_tupA.or sl_list) ha hl hh).imp fun _ _ _ => sl_imp
/-- calls of built-ins, of built-in classes -/
theorem e_cb {id : String} {x : Str} {p : Pos} {r : List V → Hp → VK → Prop} {g : Cells → List D → Option D} (hc : CallR X (.builtin id) r) (hd : CbD T r g) (hg : Gl X x) (hm : X.mg x = none) (hv : bootBuiltins x = some (.builtin id)) (ha : PA X (e :: es) (tL T X.mg W fl)) (hn : x ≠ "__name__" := by decide) (hdb : (x == ("__debug__" : Str)) = false := by decide)
    (he : starEach (e :: es) X.env = (false, eval e X.env) :: starEach es X.env := by rfl) (hpl : (backTo pos (starEach es X.env)).any (·.1) = false := by rfl) : PE X (.Call (.Name x p) (e :: es) [] pos) (tD T X.mg W (fCB g fl)) :=
  (pe_callB hc hg hm hv ha hn hdb he hpl).imp fun _ _ _ => cb_imp hd
theorem e_ct {n : String} {x : Str} {p : Pos} {r : List V → Hp → VK → Prop} {g : Cells → List D → Option D} (hc : CallR X (.type n) r) (hd : CbD T r g) (hg : Gl X x) (hm : X.mg x = none) (hv : bootBuiltins x = some (.type n)) (ha : PA X (e :: es) (tL T X.mg W fl)) (hn : x ≠ "__name__" := by decide) (hdb : (x == ("__debug__" : Str)) = false := by decide)
    (he : starEach (e :: es) X.env = (false, eval e X.env) :: starEach es X.env := by rfl) (hpl : (backTo pos (starEach es X.env)).any (·.1) = false := by rfl) : PE X (.Call (.Name x p) (e :: es) [] pos) (tD T X.mg W (fCB g fl)) :=
  (pe_callTy hc hg hm hv ha hn hdb he hpl).imp fun _ _ _ => cb_imp hd
end
/-! ### a def of the text, callable: where it stands and what it promises -/
structure Cal (T : TPr) (P : Program) (w : World) (K : PySem.W.Frag) (mg : Str → Option Value) (base : Heap) (k : Nat) (x : Str) (n : Nat) (fM : List D → Cells → R D) : Prop where
  ex : ∃ (f : Addr) (fd : FuncData) (ps : List Str), mg x = some (.ref f) ∧ PySem.W.keepIn K (.ref f) = true ∧ Binds K fd ps [] ∧ FnOk P w K mg base (L2.CX P w) k f fd ps (spD T mg n fM)
theorem Cal.mono {T : TPr} {P : Program} {w : World} {K : PySem.W.Frag} {mg : Str → Option Value} {base : Heap} {j k : Nat} {x : Str} {n : Nat} {fM : List D → Cells → R D} (c : Cal T P w K mg base j x n fM) (h : j ≤ k) : Cal T P w K mg base k x n fM := by
  obtain ⟨f, fd, ps, h1, h2, h3, h4⟩ := c.ex
  exact ⟨f, fd, ps, h1, h2, h3, h4.mono h⟩
section
variable {X : Cx} {T : TPr} {W : WX} {pos p : Pos} {k n : Nat} {x : Str} {e : Expr} {es : List Expr} {fl : Sx → R (List D)}
/-- what holds around a piece of a def's body -/
structure Bd (X : Cx) (W : WX) (k : Nat) : Prop where
  tk : Takes X W
  rm : Room k X.A
theorem callS_imp {T : TPr} {mg : Str → Option Value} {W : WX} {σ : L2.St} {H : Hp} {n : Nat} {p : List D → Pu} {f : Sx → R (List D)} {Q : VK} (h : tD T mg W (fCall (fun ds => if ds.length = n then p ds else .no) f) σ H Q) : tCallS (spP T mg n p) (WE W) (tL T mg W f) σ H Q := by
  have h2 := call_imp (n := n) (fun ds hd => by by_cases hl : ds.length = n; exact hl; rw [if_neg hl] at hd; exact (hd rfl).elim) h
  obtain ⟨s, α, N, hs, q⟩ := h2
  refine ⟨s, α, N, hs, Post.mono (fun vs H1 h1 => ?_) q⟩
  obtain ⟨ds, M, α1, N1, e1, e2, e3, e4⟩ := h1
  refine ⟨ds, M, α1, N1, e1, e2, e3, ?_⟩
  have : lift (fun ds => if ds.length = n then p ds else .no) ds M = lift p ds M := by unfold lift; cases M <;> simp [e1]
  rw [this] at e4
  exact e4
/-- f(e, ..), a def that has no list of ours in hand -/
theorem e_call {pu : List D → Pu} (B : Bd X W k) (F : Cal T X.prog X.w X.K X.mg X.base k x n (lift pu)) (hn : ∀ ds, pu ds ≠ .no → ds.length = n) (hg : Gl X x) (ha : PA X (e :: es) (tL T X.mg W fl)) (hdb : (x == ("__debug__" : Str)) = false := by decide)
    (he : starEach (e :: es) X.env = (false, eval e X.env) :: starEach es X.env := by rfl) (hpl : (backTo pos (starEach es X.env)).any (·.1) = false := by rfl) : PE X (.Call (.Name x p) (e :: es) [] pos) (tD T X.mg W (fCall pu fl)) := by
  obtain ⟨f, fd, ps, h1, h2, h3, h4⟩ := F.ex
  exact (pe_callS h4 B.rm hg h1 h2 h3 (fun σ => passAt B.tk σ) ha hdb he hpl).imp fun _ _ _ => call_imp hn
/-- f(e, ..), the first argument a list of ours -/
theorem e_callM {fM : List D → Cells → R D} (B : Bd X W k) (F : Cal T X.prog X.w X.K X.mg X.base k x n fM) (hn : ∀ ds M, fM ds M ≠ .no → ds.length = n) (hg : Gl X x) (ha : PA X (e :: es) (tL T X.mg W fl)) (hdb : (x == ("__debug__" : Str)) = false := by decide)
    (he : starEach (e :: es) X.env = (false, eval e X.env) :: starEach es X.env := by rfl) (hpl : (backTo pos (starEach es X.env)).any (·.1) = false := by rfl) : PE X (.Call (.Name x p) (e :: es) [] pos) (tD T X.mg W (fCallM fM fl)) := by
  obtain ⟨f, fd, ps, h1, h2, h3, h4⟩ := F.ex
  exact (pe_callS h4 B.rm hg h1 h2 h3 (fun σ => passAt B.tk σ) ha hdb he hpl).imp fun _ _ _ => callM_imp hn
end
section
variable {X : Cx} {T : TPr} {W : WX} {pos pos' : Pos} {e : Expr} {st : Stmt} {rest sts : List Stmt} {f : Sx → R D} {g h : Sx → RS} {c : Expr} {tc : Sx → R Bool} {body : List Stmt}
/-! ### statements -/
theorem s_nil : PSs X [] (tS T X.mg W fSkip) := pss_nil.imp fun _ _ _ => skip_imp
theorem s_cons (h1 : PS X st (tS T X.mg W g)) (h2 : PSs X rest (tS T X.mg W h)) : PSs X (st :: rest) (tS T X.mg W (fSeq g h)) := (pss_cons h1 h2).imp fun _ _ _ => seq_imp
theorem s_one (h1 : PS X st (tS T X.mg W g)) : PSs X [st] (tS T X.mg W g) := pss_one h1
theorem s_ret (he : PE X e (tD T X.mg W f)) : PS X (.Return (some e) pos) (tS T X.mg W (fRet f)) := (ps_ret he).imp fun _ _ _ => ret_imp
theorem s_retN : PS X (.Return none pos) (tS T X.mg W fRetN) := ps_retN.imp fun _ _ _ => retN_imp
theorem s_expr (he : PE X e (tD T X.mg W f)) (hs : swapsWith e none pos.line X.env = pure false := by rfl) : PS X (.Expr e pos) (tS T X.mg W (fDrop f)) := (ps_expr he hs).imp fun _ _ _ => drop_imp
theorem s_if (hc : PT X c (tB' T X.mg W tc)) (ha : PSs X body (tS T X.mg W g)) (hb : PSs X sts (tS T X.mg W h)) : PS X (.If c body sts pos) (tS T X.mg W (fIfS tc g h)) := (ps_if hc ha hb).imp fun _ _ _ => ifS_imp
theorem s_break : PS X (.Break pos) (tS T X.mg W fBrk) := ps_break.imp fun _ _ _ => brk_imp
theorem s_cont : PS X (.Continue pos) (tS T X.mg W fCnt) := ps_continue.imp fun _ _ _ => cnt_imp
theorem s_pass : PS X (.Pass pos) (tS T X.mg W fSkip) := ps_pass.imp fun _ _ _ => skip_imp
/-- name = value -/
theorem s_set (i : Nat) {x : Str} (hN : X.N.Nodup) (he : PE X e (tD T X.mg W f)) (hi : X.N[i]? = some x := by rfl) (hx : Loc X.env.scope x := by first | exact Or.inl rfl | exact Or.inr rfl) (hs : swapsWith e (some (.Name x pos')) pos.line X.env = pure false := by rfl) (hf : X.fn x = true ∨ X.env.scope.names.lookup x = some .local := by first | exact .inl rfl | exact .inr rfl) :
    PS X (.Assign [.Name x pos'] e pos) (tS T X.mg W (fAsg f (bName i))) := (ps_set hN hi hx he hs hf).imp fun _ _ _ => set_imp
/-- name = a new list of our own -/
theorem s_own (i : Nat) {x : Str} {fl : Sx → R (List D)} (hN : X.N.Nodup) (he : PE X e (tFL T X.mg W fl)) (hi : X.N[i]? = some x := by rfl) (hx : Loc X.env.scope x := by first | exact Or.inl rfl | exact Or.inr rfl) (hs : swapsWith e (some (.Name x pos')) pos.line X.env = pure false := by rfl) (hf : X.fn x = true ∨ X.env.scope.names.lookup x = some .local := by first | exact .inl rfl | exact .inr rfl) :
    PS X (.Assign [.Name x pos'] e pos) (tS T X.mg W (fOwn i fl)) := (ps_set hN hi hx he hs hf).imp fun _ _ _ => own_imp
/-- targets -/
theorem g_name {ws : List Nat} (i : Nat) {x : Str} (hN : X.N.Nodup) (hi : X.N[i]? = some x := by rfl) (hx : Loc X.env.scope x := by first | exact Or.inl rfl | exact Or.inr rfl) (hw : i ∈ ws := by decide) (hf : X.fn x = true ∨ X.env.scope.names.lookup x = some .local := by first | exact .inl rfl | exact .inr rfl) :
    PG X (.Name x pos) (tT T ws (bName i)) := ⟨fun pins s σ H v u Q I r q => (pg_name hN hi hx hf).run pins s σ H v u Q I r (bName_imp hw q)⟩
theorem gs_nil {ws : List Nat} : PGs X [] (tTs T ws bNil) := ⟨fun pins s σ H v u Q I r q => pgs_nil.run pins s σ H v u Q I r (bNil_imp q)⟩
theorem gs_cons {ws : List Nat} {es : List Expr} {g1 : D → Sx → Option Sx} {g2 : List D → Sx → Option Sx} (h1 : PG X e (tT T ws g1)) (h2 : PGs X es (tTs T ws g2)) (hs : (assignEach (e :: es) X.env).map (·.2) = assign e X.env :: (assignEach es X.env).map (·.2) := by rfl) :
    PGs X (e :: es) (tTs T ws (bCons g1 g2)) := ⟨fun pins s σ H v u Q I r q => (pgs_cons h1 h2 hs).run pins s σ H v u Q I r (bCons_imp q)⟩
theorem g_tup {ws : List Nat} {es : List Expr} {k n : Nat} {g2 : List D → Sx → Option Sx} (hc : X.calm = true) (h : PGs X es (tTs T ws g2)) (hn : (assignEach es X.env).length = n := by rfl) (hst : (assignEach es X.env).findIdx? (·.1) = none := by rfl) :
    PG X (.Tuple es k pos) (tT T ws (bTup n g2)) := ⟨fun pins s σ H v u Q I r q => (pg_tup hc h hn hst).run pins s σ H v u Q I r (bTup_imp q)⟩
theorem g_lst {ws : List Nat} {es : List Expr} {k n : Nat} {g2 : List D → Sx → Option Sx} (hc : X.calm = true) (h : PGs X es (tTs T ws g2)) (hn : (assignEach es X.env).length = n := by rfl) (hst : (assignEach es X.env).findIdx? (·.1) = none := by rfl) :
    PG X (.Tuple es k pos) (tT T ws (bLst n g2)) := ⟨fun pins s σ H v u Q I r q => (pg_lst hc h hn hst).run pins s σ H v u Q I r (bLst_imp q)⟩
theorem s_asg {ws : List Nat} {tg : Expr} {g1 : D → Sx → Option Sx} (he : PE X e (tD T X.mg W f)) (hg : PG X tg (tT T ws g1)) (hs : swapsWithSole [tg] e pos.line X.env = pure false := by rfl) (hw : swappedStores [tg] e X.env = pure none := by rfl)
    (h1 : (assignEach [tg] X.env).map (·.2) = [assign tg X.env] := by rfl) : PS X (.Assign [tg] e pos) (tS T X.mg W (fAsg f g1)) := (ps_asg he hg hs hw h1).imp fun _ _ _ => asg_imp
theorem s_par (i j : Nat) {x y : Str} {a b : Expr} {fl : Sx → R (List D)} {px py pt : Pos} {kt k2 pt2} (hc : X.calm = true) (hN : X.N.Nodup) (ha : PA X [a, b] (tL T X.mg W fl)) (hi : X.N[i]? = some x := by rfl) (hj : X.N[j]? = some y := by rfl) (hij : i ≠ j := by decide)
    (hx : X.env.scope.names.lookup x = some .local := by rfl) (hy : X.env.scope.names.lookup y = some .local := by rfl)
    (hw : swappedStores [.Tuple [.Name x px, .Name y py] kt pt] (.Tuple [a, b] k2 pt2) X.env = pure (some [x, y]) := by rfl)
    (hs : swapsWithSole [.Tuple [.Name x px, .Name y py] kt pt] (.Tuple [a, b] k2 pt2) pos.line X.env = pure false := by rfl) :
    PS X (.Assign [.Tuple [.Name x px, .Name y py] kt pt] (.Tuple [a, b] k2 pt2) pos) (tS T X.mg W (fPar i j fl)) := (ps_par hc hN hi hj hij hx hy ha hw hs).imp fun _ _ _ => par_imp
theorem s_aug (i : Nat) {x : Str} {op : Operator} {r : TIp} {gg : Cells → D → D → Option D} (hN : X.N.Nodup) (he : PE X e (tD T X.mg W f)) (ho : PIp X op r) (hd : OpD T r gg) (hi : X.N[i]? = some x := by rfl) (hx : Loc X.env.scope x := by first | exact Or.inl rfl | exact Or.inr rfl) (hf : X.fn x = true ∨ X.env.scope.names.lookup x = some .local := by first | exact .inl rfl | exact .inr rfl) :
    PS X (.AugAssign (.Name x pos') op e pos) (tS T X.mg W (fAug gg i f)) := (ps_aug hN hi hx he ho hf).imp fun _ _ _ => aug_imp hd
theorem s_while (n : Nat) (hp : PassesOwn (model X.prog X.w) X.A X.env X.xe) (hc : PT X c (tB' T X.mg W tc)) (hb : PSs X body (tS T X.mg W g)) : PS X (.While c body [] pos) (tS T X.mg W (fWhile tc g n)) := (ps_while hp hc hb).imp fun _ _ _ => while_imp n
theorem s_for {ws : List Nat} {tg iter : Expr} {fi : Sx → R (List D)} {g1 : D → Sx → Option Sx} (hp : PassesOwn (model X.prog X.w) X.A X.env X.xe) (hc : X.calm = true) (hi : PI X tg iter (tI T X.mg W fi)) (hg : PG X tg (tT T ws g1)) (hb : PSs X body (tS T X.mg W g))
    (hs : ∀ x, foldedSetIterable iter X.env x = pure x := by intro _; rfl) : PS X (.For tg iter body [] pos) (tS T X.mg W (fFor fi g1 g)) := (ps_for hp hc hi hg hb hs).imp fun _ _ _ => for_imp
/-- what a loop walks -/
theorem i_lst {tg : Expr} (h : PE X e (tD T X.mg W f)) : PI X tg e (tI T X.mg W (fIt asLst f)) := ⟨fun pins s σ H R I q => (pi_list h).run pins s σ H R I (itl_imp q)⟩
theorem i_tup {tg : Expr} (h : PE X e (tD T X.mg W f)) : PI X tg e (tI T X.mg W (fIt asTup f)) := ⟨fun pins s σ H R I q => (pi_tup h).run pins s σ H R I (itt_imp q)⟩
theorem i_rg1 {tg a : Expr} {p : Pos} {fl : Sx → R (List D)} (hg : Gl X "range") (hm : X.mg "range" = none) (ha : PA X [a] (tL T X.mg W fl)) (hs : starEach [a] X.env = [(false, eval a X.env)] := by rfl) : PI X tg (.Call (.Name "range" p) [a] [] pos) (tI T X.mg W (fIts asRg1 fl)) :=
  ⟨fun pins s σ H R I q => (pi_range1 hg hm ha hs).run pins s σ H R I (rg1_imp q)⟩
theorem i_rg2 {tg a b : Expr} {p : Pos} {fl : Sx → R (List D)} (hg : Gl X "range") (hm : X.mg "range" = none) (ha : PA X [a, b] (tL T X.mg W fl)) (hs : starEach [a, b] X.env = [(false, eval a X.env), (false, eval b X.env)] := by rfl) (hs2 : starEach [b] X.env = [(false, eval b X.env)] := by rfl) : PI X tg (.Call (.Name "range" p) [a, b] [] pos) (tI T X.mg W (fIts asRg2 fl)) :=
  ⟨fun pins s σ H R I q => (pi_range2 hg hm ha hs hs2).run pins s σ H R I (rg2_imp q)⟩
/-- raise X('..') -/
theorem s_raise {x m : Str} {C : Addr} {j : Nat} {p p2 p3 : Pos} (hc : X.calm = true) (tk : Takes X W) (q : PySem.W.excIn X.K C [.type "ValueError", .type "Exception", .type "BaseException", .type "object"] "ValueError.__new__" = true) (gC : X.mg x = some (.ref C)) (kC : PySem.W.keepIn X.K (.ref C) = true) (r : Raises X (.ref C)) (hg : Gl X x)
    (hdb : (x == ("__debug__" : Str)) = false := by decide) : PS X (.Raise (some (.Call (.Name x p) [.Constant (.str m) j p2] [] p3)) none pos) (tS T X.mg W (fRaise x)) :=
  (ps_raise hc tk (pmk_own PySem.F.excBase_ValueError q gC kC r hg hdb)).imp fun _ _ _ => raise_imp gC
/-- o[i] = e -/
theorem s_setIx {o i : Expr} {fo fi : Sx → R D} {p2 : Pos} (he : PE X e (tD T X.mg W f)) (ho : PE X o (tD T X.mg W fo)) (hi : PE X i (tD T X.mg W fi))
    (ha : ∀ v, assign (.Subscript o i p2) X.env v = (do
      let ov ← holding [v] (eval o X.env)
      let iv ← holding [v, ov] (eval i X.env)
      standAt p2
      holding [v, ov, iv] (setItem ov iv v)
      release [v, ov, iv] []) := by intro _; rfl) (hs : swapsWithSole [.Subscript o i p2] e pos.line X.env = pure false := by rfl) (hw : swappedStores [.Subscript o i p2] e X.env = pure none := by rfl)
    (h1 : (assignEach [.Subscript o i p2] X.env).map (·.2) = [assign (.Subscript o i p2) X.env] := by rfl) : PS X (.Assign [.Subscript o i p2] e pos) (tS T X.mg W (fSetIx f fo fi)) :=
  (ps_asg he (pg_sub ho hi set_list ha) hs hw h1).imp fun _ _ _ => setIx_imp
/-- methods of lists -/
theorem e_mt {id : String} {name : Str} {o a : Expr} {es : List Expr} {apos : Pos} {r : V → List V → Hp → VK → Prop} {gm : Cells → D → List D → Option (D × Cells)} {fo : Sx → R D} {fl : Sx → R (List D)} (slot : Slot "list" name id) (hty : typeOf (.builtin id) = pure (.type "method_descriptor")) (hm : MtR X id r) (hd : MtD T r gm) (ho : PE X o (tD T X.mg W fo)) (ha : PA X (a :: es) (tL T X.mg W fl))
    (hbase : attributeBase o name X.env (eval o X.env) = eval o X.env := by rfl)
    (hfew : ((backTo pos (starEach (a :: es) X.env)).all (fun x => !x.1) && (backToKw pos (keywordEach [] X.env)).all (fun x => x.1.isSome)
      && decide ((a :: es).length + ([] : List Keyword).length + (if ([] : List Keyword).isEmpty then 0 else 1) < 30)) = true := by rfl)
    (hline : (apos.endLine == pos.line) = true := by rfl) (hs : starEach (a :: es) X.env = (false, eval a X.env) :: starEach es X.env := by rfl) (hplain : (backTo pos (starEach es X.env)).any (·.1) = false := by rfl) :
    PE X (.Call (.Attribute o name apos) (a :: es) [] pos) (tD T X.mg W (fMt gm fo fl)) := (pe_bm PySem.F.plainAttrs_list slot hty hm ho ha hbase hfew hline hs hplain).imp fun _ _ _ => mt_imp hd
theorem e_mt0 {id : String} {name : Str} {o : Expr} {apos : Pos} {r : V → List V → Hp → VK → Prop} {gm : Cells → D → List D → Option (D × Cells)} {fo : Sx → R D} (slot : Slot "list" name id) (hty : typeOf (.builtin id) = pure (.type "method_descriptor")) (hm : MtR X id r) (hd : MtD T r gm) (ho : PE X o (tD T X.mg W fo))
    (hbase : attributeBase o name X.env (eval o X.env) = eval o X.env := by rfl) (hline : (apos.endLine == pos.line) = true := by rfl) :
    PE X (.Call (.Attribute o name apos) [] [] pos) (tD T X.mg W (fMt gm fo fNil)) := (pe_bm0 PySem.F.plainAttrs_list slot hty hm ho hbase hline).imp fun _ _ _ => mt0_imp hd
/-- list comprehensions -/
theorem f_lc {elt tg iter : Expr} {ifs : List Expr} {scope : Scope} {own : List (Str × Nat)} {fi : Sx → R (List D)} {g1 : D → Sx → Option Sx} {ft : Sx → R Bool} {fe : Sx → R D} (hc : X.calm = true) (hN : X.N.Nodup) (hi : PI X tg iter (tI T X.mg W fi)) (ok : BlkOk X.N X.env.scope scope own)
    (hg : ∀ (s : Shared) (H : Hp) (C : Addr) (cl : List (Str × Addr)) (fp : List Addr), PG (X.blk s H scope (compEnvC scope cl C X.env) fp) tg (tT T (own.map (·.2)) g1)) (ht : ∀ (s : Shared) (H : Hp) (C : Addr) (cl : List (Str × Addr)) (fp : List Addr), PTs (X.blk s H scope (compEnvC scope cl C X.env) fp) ifs (tB' T X.mg W0 ft))
    (he : ∀ (s : Shared) (H : Hp) (C : Addr) (cl : List (Str × Addr)) (fp : List Addr), PE (X.blk s H scope (compEnvC scope cl C X.env) fp) elt (tD T X.mg W0 fe)) (hs : ∀ x, foldedSetIterable iter X.env x = pure x := by intro _; rfl) :
    PE X (.ListComp elt [⟨tg, iter, ifs, 0⟩] scope pos) (tFL T X.mg W (fLc fi g1 ft fe (own.map (·.2)))) := (pe_lc hc hN hi ok hg ht he hs).imp fun _ _ _ => lc_imp
theorem ts_nil : PTs X [] (tB' T X.mg W fTrue) := ⟨fun pins s σ H Q I h => pts_nil.run pins s σ H Q I (true_imp h)⟩
theorem ts_one {c : Expr} {ft : Sx → R Bool} (h : PT X c (tB' T X.mg W ft)) : PTs X [c] (tB' T X.mg W ft) := pts_one h
end
end DL

namespace DL
open PySem PySem.Spec L2
open PyProof.Rows hiding St

/-! ### around a body -/
theorem Bd.hu {X : Cx} {W : WX} {k : Nat} (B : Bd X W k) : X.A.units + 64 < cLine := B.rm.units
theorem Bd.hu5 {X : Cx} {W : WX} {k : Nat} (B : Bd X W k) : X.A.units + 65 < cLine := by have := B.rm.un; omega
theorem Bd.blk {X : Cx} {W : WX} {k : Nat} (B : Bd X W k) {s : Shared} {H : Hp} {scope : Scope} {cenv : Env} {fp : List Addr} : Bd (X.blk s H scope cenv fp) W0 k :=
  ⟨fun _ _ x => by obtain ⟨_, _, _, _, _, _, _, _, _, _, _, _, _, _, _, _, z⟩ := x; exact z.elim, B.rm⟩
/-- an own error's class without an own __init__ -/
structure ExC (K : PySem.W.Frag) (mg : Str → Option Value) (x : Str) : Prop where
  ex : ∃ C, mg x = some (.ref C) ∧ PySem.W.excIn K C [.type "ValueError", .type "Exception", .type "BaseException", .type "object"] "ValueError.__new__" = true ∧ PySem.W.keepIn K (.ref C) = true ∧ PySem.W.subIn K (.ref C) (.type "BaseException") = some true ∧ PySem.W.typeIn K (.ref C) = some (.type "type")
theorem s_raiseE {X : Cx} {T : TPr} {W : WX} {k : Nat} {x m : Str} {j : Nat} {pos p p2 p3 : Pos} (B : Bd X W k) (Z : ExC X.K X.mg x) (hg : Gl X x) (hc : X.calm = true := by rfl) (hdb : (x == ("__debug__" : Str)) = false := by decide) :
    PS X (.Raise (some (.Call (.Name x p) [.Constant (.str m) j p2] [] p3)) none pos) (tS T X.mg W (fRaise x)) := by
  obtain ⟨C, h1, h2, h3, h4, h5⟩ := Z.ex
  exact s_raise hc B.tk h2 h1 h3 (raises_own h4 h5) hg hdb
section
variable {T : TPr} {mg : Str → Option Value} {W : WX} {σ : L2.St} {H : Hp} {N : Addr → Prop} {α : List Addr} {Dn : Ends}
/-! ### isinstance -/
def isiD (d : D) (n : String) : Option Bool := match d with
  | .adr _ => none
  | .ty _ => none
  | .tup _ => if n = "tuple" then some true else if n = "int" then some false else if n = "bool" then some false else none
  | .int _ => if n = "tuple" then some false else if n = "int" then some true else if n = "bool" then some false else none
  | .bl _ => if n = "tuple" then some false else if n = "int" then some true else if n = "bool" then some true else none
  | _ => if n = "tuple" then some false else if n = "int" then some false else if n = "bool" then some false else none
def gIsi : Cells → List D → Option D := fun _ l => match l with
  | [d, .ty n] => (isiD d n).map .bl
  | _ => none
def tyName : D → String
  | .non => "NoneType"
  | .bl _ => "bool"
  | .int _ => "int"
  | .str _ => "str"
  | .tup _ => "tuple"
  | _ => "list"
theorem isi_kit {d : D} {n : String} {b : Bool} (h : isiD d n = some b) : kitB (tyName d) n = some b := by
  have k : ∀ a, a = "NoneType" ∨ a = "bool" ∨ a = "int" ∨ a = "str" ∨ a = "tuple" ∨ a = "list" → (kitB a "tuple" = some (decide (a = "tuple")) ∧ kitB a "int" = some (decide (a = "int" ∨ a = "bool")) ∧ kitB a "bool" = some (decide (a = "bool"))) := by
    intro a h
    rcases h with rfl | rfl | rfl | rfl | rfl | rfl <;> decide +kernel
  have go : ∀ a (x y z : Bool), (a = "NoneType" ∨ a = "bool" ∨ a = "int" ∨ a = "str" ∨ a = "tuple" ∨ a = "list") → decide (a = "tuple") = x → decide (a = "int" ∨ a = "bool") = y → decide (a = "bool") = z → (if n = "tuple" then some x else if n = "int" then some y else if n = "bool" then some z else none) = some b → kitB a n = some b := by
    intro a x y z ha h1 h2 h3 h
    obtain ⟨k1, k2, k3⟩ := k a ha
    by_cases n1 : n = "tuple"
    · rw [if_pos n1] at h; rw [n1, k1, h1]; exact h
    · rw [if_neg n1] at h
      by_cases n2 : n = "int"
      · rw [if_pos n2] at h; rw [n2, k2, h2]; exact h
      · rw [if_neg n2] at h
        by_cases n3 : n = "bool"
        · rw [if_pos n3] at h; rw [n3, k3, h3]; exact h
        · rw [if_neg n3] at h; cases h
  cases d
  case adr => cases h
  case ty => cases h
  case non => exact go "NoneType" false false false (by decide) (by decide) (by decide) (by decide) h
  case bl => exact go "bool" false true true (by decide) (by decide) (by decide) (by decide) h
  case int => exact go "int" false true false (by decide) (by decide) (by decide) (by decide) h
  case str => exact go "str" false false false (by decide) (by decide) (by decide) (by decide) h
  case tup => exact go "tuple" true false false (by decide) (by decide) (by decide) (by decide) h
  all_goals exact go "list" false false false (by decide) (by decide) (by decide) (by decide) h
theorem isi_ty {K : PySem.W.Frag} {M : Cells} {d : D} {x : V} {n : String} {b : Bool} (c : StC T N H M α) (r : Rel H N α d x) (h : isiD d n = some b) : TyX K H x (.type (tyName d)) := by
  cases d
  case adr => cases h
  case ty => cases h
  case non => unfold Rel at r; rw [r]; exact .base .non
  case bl => unfold Rel at r; rw [r]; exact .base (.bl _)
  case int => unfold Rel at r; rw [r]; exact .base (.int _)
  case str => unfold Rel at r; rw [r]; exact .base (.str _)
  case tup => unfold Rel at r; obtain ⟨a, vs, h1, h2, h3⟩ := r; rw [h1]; exact .base (.tup h2)
  case lst => unfold Rel at r; obtain ⟨a, vs, h1, h0, h2, h3⟩ := r; rw [h1]; exact .base (.lst h2)
  case scr => unfold Rel at r; obtain ⟨a, o, vs, h1, h2, h3⟩ := r; rw [h1]; exact .base (.frz h2)
  case loc m =>
    unfold Rel at r; obtain ⟨a, h1, h2⟩ := r
    have hlt : m < M.length := by rw [← c.len]; exact (List.getElem?_eq_some_iff.mp h2).1
    obtain ⟨a', vs, e1, e2, e3⟩ := c.cel m M[m] (by simp [hlt])
    rw [h2] at e1; cases e1
    rw [h1]; exact .base (.lst e2)
theorem cd_isi {K : PySem.W.Frag} : CbD T (rIsi K) gIsi := by
  intro N H M α l xs z Q c r h k
  match l, h, r with
  | [d, .ty n], h, r =>
    obtain ⟨x, y, rfl, r1, r2⟩ := rels2 r
    unfold Rel at r2
    unfold gIsi at h
    dsimp only at h
    cases q : isiD d n with
    | none => rw [q] at h; cases h
    | some b =>
      rw [q] at h; cases h
      exact ⟨x, y, .type (tyName d), .type n, b, rfl, by rw [r2]; exact .ty n, isi_ty c r1 q, kit_ty (isi_kit q), k _ H c Ext.refl rel_bl⟩
/-! ### is, is not of bools -/
def gIsB : Cells → D → D → Option D := fun _ d e => match d, e with
  | .bl a, .bl b => some (.bl (decide (a = b)))
  | _, _ => none
def gNotB : Cells → D → D → Option D := fun _ d e => match d, e with
  | .bl a, .bl b => some (.bl (!decide (a = b)))
  | _, _ => none
theorem od_isB : OpD T rIsB gIsB := by
  intro N H M α d e x y z Q c r1 r2 h k
  cases d <;> cases e <;> try (cases h; done)
  unfold Rel at r1 r2
  cases h
  exact ⟨_, _, r1, r2, k _ H c Ext.refl rel_bl⟩
theorem od_notB : OpD T rNotB gNotB := by
  intro N H M α d e x y z Q c r1 r2 h k
  cases d <;> cases e <;> try (cases h; done)
  unfold Rel at r1 r2
  cases h
  exact ⟨_, _, r1, r2, k _ H c Ext.refl rel_bl⟩
/-! ### powers, op= -/
abbrev nPow := gIc (fun i j => decide (0 ≤ j) && decide (j ≤ 1000000) && decide (i.natAbs < 2 ^ 64)) fun i j => .int (i ^ j.toNat)
theorem od_pow : OpD T (rI CPow fun i j => .int (i ^ j.toNat)) nPow := od_Ic (fun i j h => by
  simp only [Bool.and_eq_true, decide_eq_true_eq] at h
  exact ⟨h.1.1, h.1.2, h.2⟩) fun _ _ _ _ _ => rel_int
theorem od_ipadd : OpD T (ipI fun i j => i + j) nAdd := by
  intro N H M α d e x y z Q c r1 r2 h k
  cases d <;> cases e <;> try (cases h; done)
  unfold Rel at r1 r2
  cases h
  exact ⟨_, _, r1, r2, k _ H c Ext.refl rel_int⟩
theorem od_ipsub : OpD T (ipI fun i j => i - j) nSub := by
  intro N H M α d e x y z Q c r1 r2 h k
  cases d <;> cases e <;> try (cases h; done)
  unfold Rel at r1 r2
  cases h
  exact ⟨_, _, r1, r2, k _ H c Ext.refl rel_int⟩
/-! ### in, not in a list -/
def dIn (M : Cells) (d e : D) : Option Bool := match pyAt M d, pyAt M e with
  | some p, some (.list qs) => if SeqAt.shaped p && SeqAt.shaped (.list qs) then some (qs.any fun z => PyData.eqv z p) else none
  | _, _ => none
def gIn : Cells → D → D → Option D := fun M d e => (dIn M d e).map .bl
def gNotIn : Cells → D → D → Option D := fun M d e => (dIn M d e).map fun b => .bl (!b)
theorem dIn_some {M : Cells} {d e : D} {b : Bool} (h : dIn M d e = some b) : ∃ p qs, pyAt M d = some p ∧ pyAt M e = some (.list qs) ∧ SeqAt.shaped p = true ∧ SeqAt.shaped (.list qs) = true ∧ b = qs.any fun z => PyData.eqv z p := by
  unfold dIn at h
  split at h
  · rename_i p qs q1 q2
    by_cases hs : (SeqAt.shaped p && SeqAt.shaped (.list qs)) = true
    · rw [if_pos hs] at h
      obtain ⟨s1, s2⟩ := Bool.and_eq_true_iff.mp hs
      exact ⟨p, qs, q1, q2, s1, s2, (Option.some.inj h).symm⟩
    · rw [if_neg hs] at h; cases h
  · cases h
theorem od_in {K : PySem.W.Frag} : OpD T (rInD K) gIn := by
  intro N H M α d e x y z Q c r1 r2 h k
  unfold gIn at h
  cases q : dIn M d e with
  | none => rw [q] at h; cases h
  | some b =>
    rw [q] at h; cases h
    obtain ⟨p, qs, h1, h2, s1, s2, rfl⟩ := dIn_some q
    exact ⟨p, qs, pyAt_rel c r1 h1, pyAt_rel c r2 h2, s1, s2, k _ H c Ext.refl rel_bl⟩
theorem od_notIn {K : PySem.W.Frag} : OpD T (rNotInD K) gNotIn := by
  intro N H M α d e x y z Q c r1 r2 h k
  unfold gNotIn at h
  cases q : dIn M d e with
  | none => rw [q] at h; cases h
  | some b =>
    rw [q] at h; cases h
    obtain ⟨p, qs, h1, h2, s1, s2, rfl⟩ := dIn_some q
    exact ⟨p, qs, pyAt_rel c r1 h1, pyAt_rel c r2 h2, s1, s2, k _ H c Ext.refl rel_bl⟩
/-- list(x) -/
def gListOf : Cells → List D → Option D := fun M l => match l with
  | [d] => (seqOf M d).map fun p => .lst p.2
  | _ => none
theorem cd_listOf {K : PySem.W.Frag} : CbD T (fun xs H Q => ∃ p ys, xs = [.ref p] ∧ (SqL K H p ys ∨ SqT K H p ys) ∧ ∀ l, H l = none → Q (.ref l) (upd H l (.lst ys))) gListOf := by
  intro N H M α l xs z Q c r h k
  match l, h, r with
  | [d], h, r =>
    obtain ⟨x, rfl, r1⟩ := rels1 r
    unfold gListOf at h
    cases q : seqOf M d with
    | none => simp [q] at h
    | some p =>
      obtain ⟨b, l⟩ := p
      simp only [q, Option.map_some] at h
      cases h
      obtain ⟨a, vs, h1, h2, h3, h4⟩ := seq_rel c r1 q
      exact ⟨a, vs, by rw [h1], seq_sq h2 h3, fun p hp => k _ _ (c.grow (new_keep hp)) (Ext.grow (new_keep hp)) (lst_new h4 c.sub c.som hp)⟩
  | [], h, _ => cases h
  | _ :: _ :: _, h, _ => cases h
end
/-- a, b, c = x, y, z -/
def fPar3 (i j m : Nat) (f : Sx → R (List D)) : Sx → RS := fun s => (f s).toS s.ρ fun l M => match l with
  | [d, e, g] => .nx ⟨((s.ρ.set i (some d)).set j (some e)).set m (some g), M⟩
  | _ => .no
/-- name = [..] on one line -/
theorem s_setLc {X : Cx} {T : TPr} {W : WX} (i : Nat) {y : Str} {py pos spos : Pos} {elt tg iter : Expr} {ifs : List Expr} {scope : Scope} {own : List (Str × Nat)} {fi : Sx → R (List D)} {g1 : D → Sx → Option Sx} {ft : Sx → R Bool} {fe : Sx → R D} (hc : X.calm = true) (hN : X.N.Nodup) (hi : PI X tg iter (tI T X.mg W fi)) (ok : BlkOk X.N X.env.scope scope own)
    (hg : ∀ (s : Shared) (H : Hp) (C : Addr) (cl : List (Str × Addr)) (fp : List Addr), PG (X.blk s H scope (compEnvC scope cl C X.env) fp) tg (tT T (own.map (·.2)) g1)) (ht : ∀ (s : Shared) (H : Hp) (C : Addr) (cl : List (Str × Addr)) (fp : List Addr), PTs (X.blk s H scope (compEnvC scope cl C X.env) fp) ifs (tB' T X.mg W0 ft))
    (he : ∀ (s : Shared) (H : Hp) (C : Addr) (cl : List (Str × Addr)) (fp : List Addr), PE (X.blk s H scope (compEnvC scope cl C X.env) fp) elt (tD T X.mg W0 fe)) (hy : X.N[i]? = some y := by rfl) (hyl : X.env.scope.names.lookup y = some .local := by rfl)
    (hsw : swapsWith (.ListComp elt [⟨tg, iter, ifs, 0⟩] scope pos) (some (.Name y py)) spos.line X.env = pure true := by exact sw_true rfl rfl rfl (by decide +kernel)) (hs : ∀ x, foldedSetIterable iter X.env x = pure x := by intro _; rfl) :
    PS X (.Assign [.Name y py] (.ListComp elt [⟨tg, iter, ifs, 0⟩] scope pos) spos) (tS T X.mg W (fAsg (fFz (fLc fi g1 ft fe (own.map (·.2)))) (bName i))) :=
  (ps_setLc hc hN hy hyl hsw hi ok hg ht he hs).imp fun D σ H h => by
    have h2 := set_imp h
    exact lc_imp (fz_imp h2)

/-! ### sorted -/
section
variable {prog : Program} {w : World} {A : Around} {E : Value → Shared → Prop} {s : Shared}
theorem collectT {t : Addr} {us : List Value} {Q : List Value → Shared → Prop} (ht : IsTup s.heap t us.toArray) (hsz : us.length ≤ sizeLine)
    (h : Q us { s with heap := (s.heap.push (PyProof.Rows.seqObj "list" #[] 0)).update s.heap.objs.size (Obj.mapSeq (· ++ us.toArray)) }) : wpAny (model prog w) A (collect (.ref t)) Q E s := by
  obtain ⟨ob, hob, hcl, m, hdt⟩ := id ht
  have hob2 : (s.heap.push (PyProof.Rows.seqObj "list" #[] 0)).get? t = some ob := Heap.get?_push_of_some _ hob
  have hnew : (s.heap.push (PyProof.Rows.seqObj "list" #[] 0)).get? s.heap.objs.size = some (PyProof.Rows.seqObj "list" #[] 0) := Heap.get?_push_size _ rfl
  unfold collect
  refine wpAny_bind (wpAny_runValue (codeAny_builtin PyProof.Rows.entry_proto_collect' ?_))
  show wpAny (model prog w) _ (do again (.builtin "list.__iadd__" ⟨[← newList [], .ref t], []⟩)) _ _ s
  refine wpAny_bind (wpAny_newList (wpAny_pure ⟨Code.quiet_builtin _ (by decide +kernel), codeAny_builtin PyProof.Rows.entry_list_iadd' ?_⟩))
  show wpAny (model prog w) _ (Builtin.List.listExtendWith (.ref s.heap.objs.size) (.ref t) (.ref s.heap.objs.size)) _ _ { s with heap := s.heap.push (PyProof.Rows.seqObj "list" #[] 0) }
  unfold Builtin.List.listExtendWith
  refine wpAny_bind (wpAny_typeOf (T := "tuple") ⟨ob, hob2, hcl⟩ ?_)
  have h2 : (Value.type "tuple" == Value.type "tuple") = true := by rfl
  rw [if_pos (by rw [h2]; simp)]
  refine wpAny_bind (PyProof.Rows.listItems_at hob2 hdt (wpAny_bind (PyProof.Rows.listItems_at (xs := #[]) (n := 0) hnew rfl ?_)))
  rw [if_neg (by simp)]
  refine wpAny_bind (PyProof.Rows.listUpdate_at (xs := #[]) (n := 0) hnew rfl (wpAny_pure ?_) (Nat.zero_le _) (by simp only [Array.size_append, List.size_toArray, List.length_nil]; omega))
  show wpAny (model prog w) A (do
      let u ← load s.heap.objs.size
      match u.data with
      | .seq zs _ => pure zs.toList
      | _ => unsupported "internal:collect") Q E { s with heap := (s.heap.push (PyProof.Rows.seqObj "list" #[] 0)).update s.heap.objs.size (Obj.mapSeq (· ++ us.toArray)) }
  refine wpAny_bind (wpAny_load (PyProof.Rows.get?_update_seq hnew _) ?_)
  show wpAny (model prog w) _ (pure ((#[] : Array Value) ++ us.toArray).toList) Q E _
  rw [show ((#[] : Array Value) ++ us.toArray).toList = us by simp]
  exact wpAny_pure h
theorem sortedT {t : Addr} {vs : List Value} {β : Type} {bs : List β} {enc : β → PyData} {R : Value → β → Prop} {Q : Value → Shared → Prop} (ht : IsTup s.heap t vs.toArray) (e : PySem.W.EachIs R vs bs) (er : PySem.W.EachIs (fun v b => ∃ as, Reads s.heap v (enc b) as) vs bs) (hal : PySem.W.AllAlike (bs.map enc)) (hk : PySem.W.Sortable (bs.map enc))
    (hL : bs.length ≤ sizeLine) (hu : ∀ b, b ∈ bs → A.units + 2 + (enc b).depth < cLine) (h : ∀ out, out.length = bs.length → PySem.W.EachIs R out (bs.mergeSort (PySem.W.dataLe false enc)) → Q (.ref (s.heap.objs.size + 1)) { s with heap := PyProof.Rows.sortedAll s.heap vs (List.toArray out) }) :
    wpAny (model prog w) A (call (.builtin "sorted") [.ref t]) Q E s := by
  have hL2 : vs.length ≤ sizeLine := by rw [e.length]; exact hL
  have er' : PySem.W.EachIs (fun v b => ∃ as, Reads (PySem.W.sortingHeap (PySem.W.copyHeap s.heap vs) (s.heap.objs.size + 1) vs) v (enc b) as) vs bs := er.mono fun _ _ ⟨as, r⟩ => ⟨as, PyProof.Rows.Reads.keeps (fun _ _ => PySem.W.sorting_copy_old) r⟩
  have S := PySem.W.SortsAt.data (prog := prog) (w := w) (A := A.in1.in1) (s := { s with heap := PySem.W.sortingHeap (PySem.W.copyHeap s.heap vs) (s.heap.objs.size + 1) vs }) (PySem.W.each_map (R := fun v d => ∃ as, Reads (PySem.W.sortingHeap (PySem.W.copyHeap s.heap vs) (s.heap.objs.size + 1) vs) v d as) enc er') hal hk (PySem.W.bound_map hu)
  have fin := h _ (by rw [PySem.W.sortVals_length false rfl]; exact e.length) (PySem.W.sortVals_data false e er' hal)
  refine PyProof.Rows.call_function_entry_kw PyProof.Rows.kind_sorted PyProof.Rows.plain_sorted PyProof.Rows.entry_sorted (PyProof.Rows.args_sorted1 _) ?_
  unfold Builtin.«sorted»
  refine wpAny_bind (m := checkCount "sorted" 1 1 _) (wpAny_pure (wpAny_bind (collectT ht hL2 (wpAny_bind (wpAny_newList ?_ hL2)))))
  have hsz : ((s.heap.push (PyProof.Rows.seqObj "list" #[] 0)).update s.heap.objs.size (Obj.mapSeq (· ++ vs.toArray))).objs.size = s.heap.objs.size + 1 := by rw [Heap.size_update, PyProof.Rows.size_push']
  show wpAny (model prog w) _ _ _ _ { s with heap := PySem.W.copyHeap s.heap vs }
  rw [hsz]
  refine wpAny_bind (wpAny_holding (PyProof.Rows.wpAny_call_entry_kw PyProof.Rows.slot_list_sort ⟨_, PySem.W.copyHeap_at s.heap vs, rfl⟩ PyProof.Rows.entry_list_sort ?body (PyProof.Rows.args_list_sort _)))
  case body =>
    show wpAny (model prog w) A.in1.in1 (Builtin.«list.sort» ⟨[.ref (s.heap.objs.size + 1)], []⟩) _ _ _
    exact PySem.W.list_sort_vals (s := { s with heap := PySem.W.copyHeap s.heap vs }) (PySem.W.copyHeap_at s.heap vs) S hL2 ⟨_, rfl, wpAny_pure ⟨_, rfl, fin⟩⟩
end
end DL

namespace DL
open PySem PySem.Spec L2
open PyProof.Rows hiding St

theorem each_of_paired {β : Type} : ∀ {zs : List (V × β)} {us : List Value}, Vals (zs.map (·.1)) us → PySem.W.EachIs (fun u (z : V × β) => RelV z.1 u) us zs
  | [], _, h => by cases h; exact .nil
  | z :: zs, _, h => by
    cases h with
    | cons a t => exact .cons a (each_of_paired t)
theorem paired_of_each {β : Type} : ∀ {zs : List (V × β)} {us : List Value}, PySem.W.EachIs (fun u (z : V × β) => RelV z.1 u) us zs → Vals (zs.map (·.1)) us
  | [], _, h => by cases h; exact .nil
  | z :: zs, _, h => by
    cases h with
    | cons a t => exact .cons a (paired_of_each t)
/-- sorted(xs), sorted(t): the items read as data -/
def rSortedD (K : PySem.W.Frag) : List V → Hp → VK → Prop := fun vs H Q => ∃ (a : Addr) (β : Type) (zs : List (V × β)) (enc : β → PyData), vs = [V.ref a] ∧ (SqL K H a (zs.map (·.1)) ∨ SqT K H a (zs.map (·.1))) ∧
  DpAll K H (zs.map (·.1)) (zs.map fun z => enc z.2) ∧ PySem.W.AllAlike (zs.map fun z => enc z.2) ∧ PySem.W.Sortable (zs.map fun z => enc z.2) ∧ (∀ z ∈ zs, (enc z.2).depth ≤ 60) ∧
  ∀ p, H p = none → Q (.ref p) (upd H p (.lst ((zs.mergeSort (PySem.W.dataLe false fun z => enc z.2)).map (·.1))))
theorem cr_sortedD {X : Cx} (hu : X.A.units + 64 < cLine) : CallR X (.builtin "sorted") (rSortedD X.K) := by
  intro pins s σ H vs us Q I r h
  obtain ⟨a, β, zs, enc, rfl, hs, hd, hal, hk, hdep, q⟩ := h
  rw [Vals.ref1 r]
  have fin : ∀ (its : List Value), Vals (zs.map (·.1)) its → zs.length ≤ sizeLine → ∀ out : List Value, out.length = zs.length → PySem.W.EachIs (fun u (z : V × β) => RelV z.1 u) out (zs.mergeSort (PySem.W.dataLe false fun z => enc z.2)) →
      EP X pins σ Q (.ref (s.heap.objs.size + 1)) { s with heap := PyProof.Rows.sortedAll s.heap its (List.toArray out) } := by
    intro its rv hz out hl ho
    obtain ⟨ep, he'⟩ := PyProof.Rows.sortedAll_at s.heap its out.toArray
    have hlen : ((zs.mergeSort (PySem.W.dataLe false fun z => enc z.2)).map (·.1)).length ≤ sizeLine := by
      rw [List.length_map, List.length_mergeSort]; exact hz
    exact ⟨.ref _, upd H (s.heap.objs.size + 1) (.lst _), I.laid (t' := s.toks) (fun _ _ => PyProof.Rows.sortedAll_old) (Nat.le_succ _) ⟨hlen, out, ep, paired_of_each ho, he'⟩, rfl, q _ (I.hok.fresh (Nat.le_succ _))⟩
  have dep : ∀ z, z ∈ zs → X.A.units + 2 + (enc z.2).depth < cLine := fun z hz => by have := hdep z hz; omega
  rcases hs with hs | hs
  · obtain ⟨its, rv, hl, hz⟩ := I.list hs
    obtain ⟨as, hr⟩ := Dp.readsAll I _ _ its hd rv
    have hz' : zs.length ≤ sizeLine := by rw [List.length_map] at hz; exact hz
    exact PySem.W.sorted_data (R := fun u (z : V × β) => RelV z.1 u) (enc := fun z => enc z.2) hl.isList (each_of_paired rv) (PySem.W.readsAll_each (fun z : V × β => enc z.2) hr) hal hk hz' dep fun out hlo ho => fin its rv hz' out hlo ho
  · obtain ⟨its, rv, hl, hz⟩ := I.tuple hs
    obtain ⟨as, hr⟩ := Dp.readsAll I _ _ its hd rv
    have hz' : zs.length ≤ sizeLine := by rw [List.length_map] at hz; exact hz
    exact sortedT (R := fun u (z : V × β) => RelV z.1 u) (enc := fun z => enc z.2) hl (each_of_paired rv) (PySem.W.readsAll_each (fun z : V × β => enc z.2) hr) hal hk hz' dep fun out hlo ho => fin its rv hz' out hlo ho

/-! ### points, ints -/
abbrev Pt := Int × Int
def pt (p : Pt) : D := .tup [.int p.1, .int p.2]
def unPt : D → Option Pt
  | .tup [.int x, .int y] => some (x, y)
  | _ => none
def unPts : List D → Option (List Pt)
  | [] => some []
  | d :: l => match unPt d, unPts l with
    | some p, some ps => some (p :: ps)
    | _, _ => none
theorem unPt_some {d : D} {p : Pt} (h : unPt d = some p) : d = pt p := by
  unfold unPt at h
  split at h
  · cases h; rfl
  · cases h
theorem unPts_some : ∀ {l : List D} {ps : List Pt}, unPts l = some ps → l = ps.map pt
  | [], _, h => by unfold unPts at h; cases h; rfl
  | d :: l, ps, h => by
    unfold unPts at h
    cases q1 : unPt d with
    | none => rw [q1] at h; simp at h
    | some p =>
      cases q2 : unPts l with
      | none => rw [q1, q2] at h; simp at h
      | some qs =>
        rw [q1, q2] at h; simp at h; subst h
        rw [unPt_some q1, unPts_some q2]; rfl
theorem unPts_map : ∀ ps : List Pt, unPts (ps.map pt) = some ps
  | [] => rfl
  | p :: ps => by
    show unPts (pt p :: ps.map pt) = _
    unfold unPts
    rw [unPts_map ps]
    rfl
def lePt (p q : Pt) : Bool := decide (p.1 < q.1 ∨ (p.1 = q.1 ∧ p.2 ≤ q.2))
def unInts : List D → Option (List Int)
  | [] => some []
  | .int i :: l => match unInts l with
    | some is => some (i :: is)
    | none => none
  | _ :: _ => none
theorem unInts_some : ∀ {l : List D} {ps : List Int}, unInts l = some ps → l = ps.map D.int
  | [], _, h => by unfold unInts at h; cases h; rfl
  | .int i :: l, ps, h => by
    unfold unInts at h
    cases q2 : unInts l with
    | none => rw [q2] at h; simp at h
    | some qs => rw [q2] at h; simp at h; subst h; rw [unInts_some q2]; rfl
  | .non :: _, _, h => by unfold unInts at h; cases h
  | .bl _ :: _, _, h => by unfold unInts at h; cases h
  | .str _ :: _, _, h => by unfold unInts at h; cases h
  | .tup _ :: _, _, h => by unfold unInts at h; cases h
  | .lst _ :: _, _, h => by unfold unInts at h; cases h
  | .loc _ :: _, _, h => by unfold unInts at h; cases h
  | .adr _ :: _, _, h => by unfold unInts at h; cases h
  | .ty _ :: _, _, h => by unfold unInts at h; cases h
  | .scr _ :: _, _, h => by unfold unInts at h; cases h
theorem unInts_map : ∀ ps : List Int, unInts (ps.map D.int) = some ps
  | [] => rfl
  | p :: ps => by
    show unInts (D.int p :: ps.map D.int) = _
    unfold unInts
    rw [unInts_map ps]
/-- sorted of points, of ints -/
def gSorted : Cells → List D → Option D := fun M l => match l with
  | [d] => match seqOf M d with
    | some (_, l) => match unPts l with
      | some ps => some (.lst ((ps.mergeSort lePt).map pt))
      | none => match unInts l with
        | some is => some (.lst ((is.mergeSort fun a b => decide (a ≤ b)).map D.int))
        | none => none
    | none => none
  | _ => none
section
variable {T : TPr} {H : Hp} {N : Addr → Prop} {α : List Addr}
theorem Rels.zip {β : Type} {f : β → D} : ∀ {bs : List β} {vs : List V}, Rels H N α (bs.map f) vs → ∃ zs : List (V × β), zs.map (·.1) = vs ∧ zs.map (·.2) = bs ∧ ∀ z ∈ zs, Rel H N α (f z.2) z.1
  | [], _, h => by
    have h' : Rels H N α [] _ := h
    unfold Rels at h'
    exact ⟨[], by rw [h']; rfl, rfl, by simp⟩
  | b :: bs, _, h => by
    have h' : Rels H N α (f b :: bs.map f) _ := h
    unfold Rels at h'
    obtain ⟨v, r, h1, h2, h3⟩ := h'
    obtain ⟨zs, e1, e2, e3⟩ := Rels.zip h3
    refine ⟨(v, b) :: zs, by rw [h1, List.map_cons, e1], by rw [List.map_cons, e2], fun z hz => ?_⟩
    rcases List.mem_cons.mp hz with e | hz
    · rw [e]; exact h2
    · exact e3 z hz
theorem Rels.unzip {β : Type} {f : β → D} : ∀ {zs : List (V × β)}, (∀ z ∈ zs, Rel H N α (f z.2) z.1) → Rels H N α (zs.map fun z => f z.2) (zs.map (·.1))
  | [], _ => by simp [Rels]
  | z :: zs, h => Rels.cons (h z (by simp)) (Rels.unzip fun y hy => h y (by simp [hy]))
theorem sorted_go {K : PySem.W.Frag} {β : Type} {M : Cells} {f : β → D} {enc : β → PyData} {le : β → β → Bool} {a : Addr} {vs : List V} {bs : List β} {Q : VK} (c : StC T N H M α) (hs : SqL K H a vs ∨ SqT K H a vs) (r : Rels H N α (bs.map f) vs)
    (hp : ∀ b, pyOf (f b) = some (enc b)) (hal : ∀ b b', PySem.W.alike (enc b) (enc b') = true) (hk : (∀ b, ∃ x r, enc b = .tuple (x :: r)) ∨ ∀ b, enc b ≠ .none ∧ ∀ xs, enc b ≠ .tuple xs) (hd : ∀ b, (enc b).depth ≤ 60)
    (hle : ∀ b b', le b b' = PySem.W.dataLe false enc b b') (k : ∀ v H', StC T N H' M α → Ext α N H α N H' → Rel H' N α (.lst ((bs.mergeSort le).map f)) v → Q v H') : rSortedD K [V.ref a] H Q := by
  obtain ⟨zs, e1, e2, e3⟩ := Rels.zip r
  have hpy : ∀ zs : List (V × β), (∀ z ∈ zs, Rel H N α (f z.2) z.1) → DpAll K H (zs.map (·.1)) (zs.map fun z => enc z.2) := by
    intro zs
    induction zs with
    | nil => intro _; exact .nil
    | cons z zs ih => intro h; exact .cons (py_rel (h z (by simp)) (hp _)) (ih fun y hy => h y (by simp [hy]))
  refine ⟨a, β, zs, enc, rfl, by rw [e1]; exact hs, hpy zs e3, PySem.W.AllAlike.of fun z z' => hal _ _, ?_, fun z _ => hd _, fun p hp => ?_⟩
  · rcases hk with hk | hk
    · exact PySem.W.Sortable.tuples fun z => hk _
    · exact PySem.W.Sortable.others fun z => hk _
  · have hm : (zs.mergeSort (PySem.W.dataLe false fun z => enc z.2)).map (·.2) = bs.mergeSort le := by
      rw [← e2]
      exact PySem.W.sort_maps (fun z : V × β => z.2) fun z _ y _ => (hle z.2 y.2).symm
    have hr : Rels H N α ((zs.mergeSort (PySem.W.dataLe false fun z => enc z.2)).map fun z => f z.2) ((zs.mergeSort (PySem.W.dataLe false fun z => enc z.2)).map (·.1)) := Rels.unzip fun z hz => e3 z (List.mem_mergeSort.mp hz)
    have hr2 : Rels H N α ((bs.mergeSort le).map f) ((zs.mergeSort (PySem.W.dataLe false fun z => enc z.2)).map (·.1)) := by
      rw [← hm, List.map_map]; exact hr
    exact k _ _ (c.grow (new_keep hp)) (Ext.grow (new_keep hp)) (lst_new hr2 c.sub c.som hp)
theorem cd_sorted {K : PySem.W.Frag} : CbD T (rSortedD K) gSorted := by
  intro N H M α l xs z Q c r h k
  match l, h, r with
  | [d], h, r =>
    obtain ⟨x, rfl, r1⟩ := rels1 r
    unfold gSorted at h
    dsimp only at h
    cases q : seqOf M d with
    | none => rw [q] at h; cases h
    | some bl =>
      obtain ⟨b, l⟩ := bl
      rw [q] at h
      dsimp only at h
      obtain ⟨a, vs, h1, h2, h3, h4⟩ := seq_rel c r1 q
      rw [h1]
      cases qp : unPts l with
      | some ps =>
        rw [qp] at h; cases h
        rw [unPts_some qp] at h4
        refine sorted_go c (seq_sq h2 h3) h4 (enc := fun p => .tuple [.int p.1, .int p.2]) (fun p => rfl) (fun p p' => rfl) (.inl fun p => ⟨_, _, rfl⟩) (fun p => by simp [PyData.depth, PyData.depthAll]) (fun p p' => ?_) k
        exact (congrFun (congrFun (PySem.W.dataLe_ii (β := Pt) (·.1) (·.2)) p) p').symm
      | none =>
        rw [qp] at h
        dsimp only at h
        cases qi : unInts l with
        | none => rw [qi] at h; cases h
        | some is =>
          rw [qi] at h; cases h
          rw [unInts_some qi] at h4
          refine sorted_go c (seq_sq h2 h3) h4 (enc := fun p => .int p) (fun p => rfl) (fun p p' => rfl) (.inr fun p => ⟨by simp, by simp⟩) (fun p => by simp [PyData.depth]) (fun p p' => ?_) k
          exact (congrFun (congrFun (PySem.W.dataLe_int (β := Int) id) p) p').symm
  | [], h, _ => cases h
  | _ :: _ :: _, h, _ => cases h
end
end DL

namespace DL
open PySem PySem.Spec L2
open PyProof.Rows hiding St

/-! ### a def's promise, read off its own function on data -/
def RS.pu (r : RS) : Pu := match RS.out 0 r with
  | .ok d [] => .ok d
  | .ex e [] => .ex e
  | _ => .no
/-- a def without a list of ours in hand -/
def aut (n : Nat) (Nm : List Str) (g : Sx → RS) : List D → Pu := fun ds => if ds.length = n then (g ⟨init0 Nm ds, []⟩).pu else .no
theorem aut_len {n : Nat} {Nm : List Str} {g : Sx → RS} (ds : List D) (h : aut n Nm g ds ≠ .no) : ds.length = n := by
  unfold aut at h
  by_cases hl : ds.length = n
  · exact hl
  · rw [if_neg hl] at h; exact (h rfl).elim
theorem cut0 {M : Cells} : cutM M 0 = some [] := by unfold cutM; simp
theorem pu_lift {r : RS} {p : List D → Pu} {ds : List D} (h : p ds = r.pu) (hn : p ds ≠ .no) : RS.out 0 r = lift p ds [] := by
  have q : ∀ x : R D, (match x with | .ok d [] => Pu.ok d | .ex e [] => Pu.ex e | _ => Pu.no) ≠ .no → x = match (match x with | .ok d [] => Pu.ok d | .ex e [] => Pu.ex e | _ => Pu.no) with
      | .ok d => .ok d []
      | .ex e => .ex e []
      | .no => .no := by
    intro x hx
    match x, hx with
    | .ok d [], _ => rfl
    | .ex e [], _ => rfl
    | .ok d (_ :: _), hx => exact (hx rfl).elim
    | .ex d (_ :: _), hx => exact (hx rfl).elim
    | .no, hx => exact (hx rfl).elim
  unfold lift
  rw [h] at hn ⊢
  exact q _ hn
theorem fn_aut {T : TPr} {P : Program} {w : World} {K : PySem.W.Frag} {mg : Str → Option Value} {base : Heap} {x qual : Str} {st : Stmt} {f : Addr} {fd : FuncData} {Nm ps : List Str} {dvs : List V} {kws : List (Str × V)} {k : Nat} {g : Sx → RS}
    (F : FunD K x qual (defArgs st) (defBody st) (defScope st) dvs kws f fd) (S : FnScope Nm ps (defScope st))
    (hb : ∀ (cdv : Value) (A : Around) (outer : List Env) (s : Shared) (H : Hp) (E : XK), Room k (A.deeper (envOfC qual (defScope st) s.heap.objs.size f cdv)) →
      PSs (cxOf (L2.CX P w) P w K mg base Nm qual (defScope st) f cdv A outer s H E) (defBody st) (tS T mg (fun cls d _ H => E cls d H) g)) :
    FnOk P w K mg base (L2.CX P w) (k + 1) f fd ps (spP T mg ps.length (aut ps.length Nm g)) :=
  fn_okP F S fun ds hn hl => ⟨g, hb, pu_lift (by unfold aut; rw [if_pos hl]) hn⟩
/-- a def with lists of ours in hand -/
def autM (n : Nat) (Nm : List Str) (g : Sx → RS) : List D → Cells → R D := fun ds M => if ds.length = n then RS.out M.length (g ⟨init0 Nm ds, M⟩) else .no
theorem autM_len {n : Nat} {Nm : List Str} {g : Sx → RS} (ds : List D) (M : Cells) (h : autM n Nm g ds M ≠ .no) : ds.length = n := by
  unfold autM at h
  by_cases hl : ds.length = n
  · exact hl
  · rw [if_neg hl] at h; exact (h rfl).elim
theorem fn_autM {T : TPr} {P : Program} {w : World} {K : PySem.W.Frag} {mg : Str → Option Value} {base : Heap} {x qual : Str} {st : Stmt} {f : Addr} {fd : FuncData} {Nm ps : List Str} {dvs : List V} {kws : List (Str × V)} {k : Nat} {g : Sx → RS}
    (F : FunD K x qual (defArgs st) (defBody st) (defScope st) dvs kws f fd) (S : FnScope Nm ps (defScope st))
    (hb : ∀ (cdv : Value) (A : Around) (outer : List Env) (s : Shared) (H : Hp) (E : XK), Room k (A.deeper (envOfC qual (defScope st) s.heap.objs.size f cdv)) →
      PSs (cxOf (L2.CX P w) P w K mg base Nm qual (defScope st) f cdv A outer s H E) (defBody st) (tS T mg (fun cls d _ H => E cls d H) g)) :
    FnOk P w K mg base (L2.CX P w) (k + 1) f fd ps (spD T mg ps.length (autM ps.length Nm g)) :=
  fn_ok F S fun ds M hn hl => ⟨g, hb, by unfold autM; rw [if_pos hl]⟩

/-! ### a def whose answer is all its caller's own -/
mutual
def D.sh (m : Nat) : D → D
  | .tup l => .tup (shs m l)
  | .lst l => .lst (shs m l)
  | .scr l => .scr (shs m l)
  | .loc n => .loc (m + n)
  | d => d
def shs (m : Nat) : List D → List D
  | [] => []
  | d :: l => d.sh m :: shs m l
end
mutual
theorem Rel.sh {H : Hp} {N : Addr → Prop} {α β : List Addr} : ∀ {d : D} {v : V}, Rel H N β d v → Rel H N (α ++ β) (d.sh α.length) v
  | .non, _, h => by unfold D.sh; unfold Rel at h ⊢; exact h
  | .bl _, _, h => by unfold D.sh; unfold Rel at h ⊢; exact h
  | .int _, _, h => by unfold D.sh; unfold Rel at h ⊢; exact h
  | .str _, _, h => by unfold D.sh; unfold Rel at h ⊢; exact h
  | .tup l, _, h => by
    unfold D.sh
    unfold Rel at h ⊢
    obtain ⟨a, vs, h1, h2, h3⟩ := h
    exact ⟨a, vs, h1, h2, Rels.sh h3⟩
  | .lst l, _, h => by
    unfold D.sh
    unfold Rel at h ⊢
    obtain ⟨a, vs, h1, h0, h2, h3⟩ := h
    exact ⟨a, vs, h1, h0, h2, Rels.sh h3⟩
  | .loc n, _, h => by
    unfold D.sh
    unfold Rel at h ⊢
    obtain ⟨a, h1, h2⟩ := h
    exact ⟨a, h1, by rw [List.getElem?_append_right (by omega)]; rw [show α.length + n - α.length = n by omega]; exact h2⟩
  | .adr _, _, h => by unfold D.sh; unfold Rel at h ⊢; exact h
  | .ty _, _, h => by unfold D.sh; unfold Rel at h ⊢; exact h
  | .scr l, _, h => by
    unfold D.sh
    unfold Rel at h ⊢
    obtain ⟨a, o, vs, h1, h2, h3⟩ := h
    exact ⟨a, o, vs, h1, h2, Rels.sh h3⟩
theorem Rels.sh {H : Hp} {N : Addr → Prop} {α β : List Addr} : ∀ {l : List D} {vs : List V}, Rels H N β l vs → Rels H N (α ++ β) (shs α.length l) vs
  | [], _, h => by unfold shs; unfold Rels at h ⊢; exact h
  | d :: l, _, h => by
    unfold shs
    unfold Rels at h ⊢
    obtain ⟨v, r, h1, h2, h3⟩ := h
    exact ⟨v, r, h1, Rel.sh h2, Rels.sh h3⟩
end
def spO (T : TPr) (mg : Str → Option Value) (n : Nat) (p : List D → R D) : Sp := fun vs H Q E => ∃ ds N, ds.length = n ∧ StC T N H [] [] ∧ Rels H N [] ds vs ∧ match p ds with
  | .ok d M' => ∀ v H' α' N', StC T N' H' M' α' → Ext [] N H α' N' H' → Rel H' N' α' d v → Q v H'
  | .ex e _ => ∀ cls dd H', StC T N H' [] [] → Ext [] N H [] N H' → XR mg e cls dd H' N [] → E cls dd H'
  | .no => False
def RS.outO : RS → R D
  | .rt d s => .ok d s.M
  | .ex e s => match e.part with
    | none => .ex e []
    | some _ => .no
  | _ => .no
def autO (n : Nat) (Nm : List Str) (g : Sx → RS) : List D → R D := fun ds => if ds.length = n then RS.outO (g ⟨init0 Nm ds, []⟩) else .no
theorem autO_len {n : Nat} {Nm : List Str} {g : Sx → RS} (ds : List D) (h : autO n Nm g ds ≠ .no) : ds.length = n := by
  unfold autO at h
  by_cases hl : ds.length = n
  · exact hl
  · rw [if_neg hl] at h; exact (h rfl).elim
section
variable {T : TPr} {mg : Str → Option Value} {W : WX} {σ : L2.St} {H : Hp} {N : Addr → Prop} {α : List Addr} {Dn : Ends}
theorem StC.cut0 {N' : Addr → Prop} {H' : Hp} {M' : Cells} {α' : List Addr} (c : StC T N H [] []) (c' : StC T N' H' M' α') (e : Ext [] N H α' N' H') : StC T N H' [] [] :=
  ⟨by simp, by simp, fun a h => e.there a (c.som a h), rfl, fun n l q => by simp at q, c'.tab⟩
theorem fn_autO {P : Program} {w : World} {K : PySem.W.Frag} {base : Heap} {x qual : Str} {st : Stmt} {f : Addr} {fd : FuncData} {Nm ps : List Str} {dvs : List V} {kws : List (Str × V)} {k : Nat} {g : Sx → RS}
    (F : FunD K x qual (defArgs st) (defBody st) (defScope st) dvs kws f fd) (S : FnScope Nm ps (defScope st))
    (hb : ∀ (cdv : Value) (A : Around) (outer : List Env) (s : Shared) (H : Hp) (E : XK), Room k (A.deeper (envOfC qual (defScope st) s.heap.objs.size f cdv)) →
      PSs (cxOf (L2.CX P w) P w K mg base Nm qual (defScope st) f cdv A outer s H E) (defBody st) (tS T mg (fun cls d _ H => E cls d H) g)) :
    FnOk P w K mg base (L2.CX P w) (k + 1) f fd ps (spO T mg ps.length (autO ps.length Nm g)) := by
  refine F.ok S (fun vs H Q E h => ?_) (fun cdv A outer s H vs Q E hr hsp => ?_)
  · obtain ⟨ds, N, h1, _, h2, _⟩ := h
    rw [← Rels.length h2]; exact h1
  · obtain ⟨ds, N, h1, c, r, post⟩ := hsp
    refine ⟨_, hb cdv A outer s H E hr, ⟨init0 Nm ds, []⟩, [], N, ⟨c, init_slt r, ?_⟩, ?_⟩
    · have := Rels.length r
      unfold init0 L2.start
      simp; omega
    · unfold autO at post
      rw [if_pos h1] at post
      cases q : g ⟨init0 Nm ds, []⟩ with
      | no => rw [q] at post; exact post
      | bk s1 => rw [q] at post; exact post.elim
      | ct s1 => rw [q] at post; exact post.elim
      | nx s1 => rw [q] at post; exact post.elim
      | rt d s1 =>
        rw [q] at post
        intro v σ' H' α' N' s' e rv
        exact post v H' α' N' s'.c e rv
      | ex x s1 =>
        rw [q] at post
        intro cls dd σ' H' α' N' s' e xr
        unfold RS.outO at post
        dsimp only at post
        obtain ⟨x1, x2⟩ := xr
        cases qp : x.part with
        | none =>
          rw [qp] at post
          exact post cls dd H' (c.cut0 s'.c e) (e.cut (by simp)) ⟨x1, by rw [qp]; trivial⟩
        | some d => rw [qp] at post; exact post.elim
def fCallO (p : List D → R D) (f : Sx → R (List D)) : Sx → R D := fun s => (f s).bind fun ds M => if lfs ds = true then (match p ds with
  | .ok d Mb => .ok (d.sh M.length) (M ++ Mb.map (shs M.length))
  | .ex e _ => .ex e M
  | .no => .no) else .no
theorem StC.join {M Mb : Cells} {β : List Addr} {N' : Addr → Prop} {H' : Hp} (c : StC T N H M α) (c' : StC T N' H' Mb β) (e : Ext [] N H β N' H') : StC T N' H' (M ++ Mb.map (shs M.length)) (α ++ β) ∧ Ext α N H (α ++ β) N' H' := by
  have fβ : ∀ b ∈ β, Fz H b := by obtain ⟨γ, e1, f⟩ := e.pre; rw [e1]; simpa using f
  have e' : Ext α N H (α ++ β) N' H' := ⟨⟨β, rfl, fβ⟩, e.nn, e.nb, fun b o h _ t => e.keep b o h (fun _ => by simp) t, e.there⟩
  refine ⟨⟨?_, fun a ha => ?_, c'.som, by simp [c.len, c'.len], fun n l q => ?_, c'.tab⟩, e'⟩
  · rw [List.nodup_append]
    exact ⟨c.nd, c'.nd, fun a ha b hb z => c.som a (c.sub a ha) (by rw [z]; exact fβ b hb)⟩
  · rcases List.mem_append.mp ha with z | z
    · exact e.nn a (c.sub a z)
    · exact c'.sub a z
  · by_cases hn : n < M.length
    · rw [List.getElem?_append_left hn] at q
      obtain ⟨a, vs, h1, h2, h3⟩ := c.cel n l q
      exact ⟨a, vs, pre_get h1 ⟨β, rfl, trivial⟩, e.keep a _ h2 (fun _ => by simp) (fun _ z => by cases z), Rels.mono c.sub e' h3⟩
    · rw [List.getElem?_append_right (by omega), List.getElem?_map] at q
      cases q2 : Mb[n - M.length]? with
      | none => rw [q2] at q; cases q
      | some l' =>
        rw [q2] at q
        have q : shs M.length l' = l := Option.some.inj q
        obtain ⟨a, vs, h1, h2, h3⟩ := c'.cel _ l' q2
        refine ⟨a, vs, by rw [List.getElem?_append_right (by rw [c.len]; omega), c.len]; exact h1, h2, ?_⟩
        rw [← q, ← c.len]
        exact Rels.sh h3
theorem callO_imp {n : Nat} {p : List D → R D} {f : Sx → R (List D)} (hn : ∀ ds, p ds ≠ .no → ds.length = n) {Q : VK} (h : tD T mg W (fCallO p f) σ H Q) : tCallS (spO T mg n p) (WE W) (tL T mg W f) σ H Q := by
  obtain ⟨s, α, N, hs, q⟩ := h
  refine ⟨s, α, N, hs, Post.mono (fun vs H1 h1 => ?_) (Post.bind (G := RelL) q)⟩
  obtain ⟨M1, α1, N1, ds, s1, e1, g1, p1⟩ := h1
  obtain ⟨hl, p2⟩ := p1.ite
  refine ⟨ds, N1, hn ds fun z => by rw [z] at p2; exact p2, ⟨by simp, by simp, s1.c.som, rfl, fun n l q => by simp at q, s1.c.tab⟩, Rels.lf hl g1, ?_⟩
  cases hp : p ds with
  | no => rw [hp] at p2; exact p2
  | ok d Mb =>
    rw [hp] at p2
    intro v H' β N' c e r
    obtain ⟨cj, ej⟩ := s1.c.join c e
    refine p2 v H' _ N' ⟨cj, fun i d' qd => ?_, s1.lnr⟩ ej (by rw [← s1.c.len]; exact Rel.sh r)
    obtain ⟨v', y1, y2⟩ := s1.slt i d' qd
    exact ⟨v', y1, Rel.mono s1.c.sub ej y2⟩
  | ex x Mb =>
    rw [hp] at p2
    exact fun cls dd H' c e r => p2 cls dd H' α1 N1 (StC.keep s1 (s1.c.ofNil c e) e.ofNil) e.ofNil r.nil
end
structure CalO (T : TPr) (P : Program) (w : World) (K : PySem.W.Frag) (mg : Str → Option Value) (base : Heap) (k : Nat) (x : Str) (n : Nat) (p : List D → R D) : Prop where
  ex : ∃ (f : Addr) (fd : FuncData) (ps : List Str), mg x = some (.ref f) ∧ PySem.W.keepIn K (.ref f) = true ∧ Binds K fd ps [] ∧ FnOk P w K mg base (L2.CX P w) k f fd ps (spO T mg n p)
theorem CalO.mono {T : TPr} {P : Program} {w : World} {K : PySem.W.Frag} {mg : Str → Option Value} {base : Heap} {j k : Nat} {x : Str} {n : Nat} {p : List D → R D} (c : CalO T P w K mg base j x n p) (h : j ≤ k) : CalO T P w K mg base k x n p := by
  obtain ⟨f, fd, ps, h1, h2, h3, h4⟩ := c.ex
  exact ⟨f, fd, ps, h1, h2, h3, h4.mono h⟩
section
variable {X : Cx} {T : TPr} {W : WX} {pos p : Pos} {k n : Nat} {x : Str} {e : Expr} {es : List Expr} {fl : Sx → R (List D)}
theorem e_callO {pu : List D → R D} (B : Bd X W k) (F : CalO T X.prog X.w X.K X.mg X.base k x n pu) (hn : ∀ ds, pu ds ≠ .no → ds.length = n) (hg : Gl X x) (ha : PA X (e :: es) (tL T X.mg W fl)) (hdb : (x == ("__debug__" : Str)) = false := by decide)
    (he : starEach (e :: es) X.env = (false, eval e X.env) :: starEach es X.env := by rfl) (hpl : (backTo pos (starEach es X.env)).any (·.1) = false := by rfl) : PE X (.Call (.Name x p) (e :: es) [] pos) (tD T X.mg W (fCallO pu fl)) := by
  obtain ⟨f, fd, ps, h1, h2, h3, h4⟩ := F.ex
  exact (pe_callS h4 B.rm hg h1 h2 h3 (fun σ => passAt B.tk σ) ha hdb he hpl).imp fun _ _ _ => callO_imp hn
end
/-- an own list given back -/
def fOwnE (f : Sx → R (List D)) : Sx → R D := fun s => (f s).bind fun l M => .ok (.loc M.length) (M ++ [l])
section
variable {T : TPr} {mg : Str → Option Value} {W : WX} {σ : L2.St} {H : Hp}
theorem ownE_imp {f : Sx → R (List D)} {Q : VK} (h : tD T mg W (fOwnE f) σ H Q) : tFL T mg W f σ H Q := by
  obtain ⟨s, α, N, hs, p⟩ := h
  refine ⟨s, α, N, hs, ?_⟩
  unfold fOwnE at p
  cases q : f s with
  | no => rw [q] at p; exact p
  | ex e M => rw [q] at p; exact p
  | ok l M =>
    rw [q] at p
    intro a vs H' α' N' s1 e1 n1 n2 n3 n4 n5
    have s2 := s1.cell n1 n2 n4 n5
    have hl : α'.length = M.length := s1.c.len
    obtain ⟨β, eβ, fβ⟩ := e1.pre
    refine p _ H' (α' ++ [a]) N' s2 ⟨⟨β ++ [a], by rw [eβ, List.append_assoc], fun b hb => ?_⟩, e1.nn, e1.nb, e1.keep, e1.there⟩ ?_
    · rcases List.mem_append.mp hb with z | z
      · exact fβ b z
      · simp at z; rw [z]; exact n3
    · show Rel _ _ _ _ _
      unfold Rel
      exact ⟨a, rfl, by rw [List.getElem?_append_right (by omega)]; simp [hl]⟩
end
section
variable {X : Cx} {T : TPr} {W : WX} {e : Expr} {fl : Sx → R (List D)}
theorem e_ownE (h : PE X e (tFL T X.mg W fl)) : PE X e (tD T X.mg W (fOwnE fl)) := h.imp fun _ _ _ => ownE_imp
end
end DL

namespace DL
open PySem PySem.Spec L2
open PyProof.Rows hiding St

/-! ### the script, where it is an object of the module -/
def KSt (K : PySem.W.Frag) (sk : Option (Addr × List Int)) : Prop := ∀ a ns, sk = some (a, ns) → ∀ H : Hp, SqL K H a (ns.map V.int)
def gCutK (sk : Option (Addr × List Int)) : Cells → D → Option Int → Option Int → Option D := fun M d lo hi => match d with
  | .adr a => match sk with
    | some (b, ns) => if a = b then some (.lst (dcut (ns.map .int) lo hi)) else none
    | none => none
  | d => gCut M d lo hi
def fSlK (sk : Option (Addr × List Int)) (fo : Sx → R D) (fl fh : Sx → R (Option Int)) : Sx → R D := fun s => (fo s).bind fun d M1 => (fl ⟨s.ρ, M1⟩).bind fun lo M2 => (fh ⟨s.ρ, M2⟩).bind fun hi M3 => opt (gCutK sk M3 d lo hi) M3
section
variable {T : TPr} {mg : Str → Option Value} {W : WX} {σ : L2.St} {H : Hp} {N : Addr → Prop} {α : List Addr}
theorem rels_ints : ∀ ns : List Int, Rels H N α (ns.map .int) (ns.map V.int)
  | [] => by simp [Rels]
  | i :: r => Rels.cons rel_int (rels_ints r)
theorem cut_one {K : PySem.W.Frag} {Q : VK} {ρ : List (Option D)} {M3 : Cells} {d z : D} {x : V} {lo hi : Option Int} (s3 : StR T N H σ ⟨ρ, M3⟩ α) (rd : Rel H N α d x) (hz : gCut M3 d lo hi = some z)
    (p4 : ∀ v H' α' N', StR T N' H' σ ⟨ρ, M3⟩ α' → Ext α N H α' N' H' → Rel H' N' α' z v → Q v H') : rSl K x lo hi H Q := by
  unfold gCut at hz
  cases q : seqOf M3 d with
  | none => rw [q] at hz; cases hz
  | some bl =>
    obtain ⟨b, l⟩ := bl
    rw [q] at hz
    obtain ⟨a, vs, h1, h2, h3, h4⟩ := seq_rel s3.c rd q
    have fin : ∀ o p, H p = none → (∀ ps, o ≠ .tbl ps) → Rel (upd H p o) N α z (.ref p) → Q (.ref p) (upd H p o) := fun o p hp _ r => p4 _ _ α N (StC.keep s3 (s3.c.grow (new_keep hp)) (Ext.grow (new_keep hp))) (Ext.grow (new_keep hp)) r
    cases b with
    | true =>
      cases hz
      refine .inl ⟨a, vs, h1, rd_sqT (h2 rfl), fun hw => ?_, fun hw p hp => fin _ p hp (fun _ z => by cases z) (tup_new (dcut_rel h4) s3.c.sub hp)⟩
      refine p4 _ _ α N s3 Ext.refl ?_
      unfold Rel
      exact ⟨a, vs, rfl, h2 rfl, by rw [← whole_cut hw]; exact dcut_rel h4⟩
    | false =>
      cases hz
      exact .inr ⟨a, vs, h1, .inl (h3 rfl), fun p hp => fin _ p hp (fun _ z => by cases z) (lst_new (dcut_rel h4) s3.c.sub s3.c.som hp)⟩
theorem slK_imp {K : PySem.W.Frag} {sk : Option (Addr × List Int)} (hk : KSt K sk) {fo : Sx → R D} {fl fh : Sx → R (Option Int)} {Q : VK} (h : tD T mg W (fSlK sk fo fl fh) σ H Q) : tSl (rSl K) (tD T mg W fo) (tO' T mg W fl) (tO' T mg W fh) σ H Q := by
  obtain ⟨s, α, N, hs, p⟩ := h
  refine ⟨s, α, N, hs, Post.mono (fun x H1 h1 => ?_) (Post.bind (G := RelD) p)⟩
  obtain ⟨M1, α1, N1, d, s1, e1, g1, p1⟩ := h1
  refine ⟨_, α1, N1, s1, Post.mono (fun lo H2 h2 => ?_) (Post.bind (G := RelO) p1)⟩
  obtain ⟨M2, α2, N2, lo', s2, e2, g2, p2⟩ := h2
  refine ⟨_, α2, N2, s2, Post.mono (fun hi H3 h3 => ?_) (Post.bind (G := RelO) p2)⟩
  obtain ⟨M3, α3, N3, hi', s3, e3, g3, p3⟩ := h3
  cases g2
  cases g3
  obtain ⟨z, hz, p4⟩ := p3.opt
  have rd := Rel.mono s2.c.sub e3 (Rel.mono s1.c.sub e2 g1)
  unfold gCutK at hz
  split at hz
  · rename_i a
    split at hz
    · rename_i b ns
      by_cases hab : a = b
      · rw [if_pos hab] at hz
        subst hab
        cases hz
        unfold Rel at rd
        refine .inr ⟨a, ns.map V.int, rd, hk a ns rfl H3, fun p hp => ?_⟩
        exact p4 _ _ α3 N3 (StC.keep s3 (s3.c.grow (new_keep hp)) (Ext.grow (new_keep hp))) (Ext.grow (new_keep hp)) (lst_new (dcut_rel (rels_ints ns)) s3.c.sub s3.c.som hp)
      · rw [if_neg hab] at hz; cases hz
    · cases hz
  · exact cut_one s3 rd hz p4
end
section
variable {X : Cx} {T : TPr} {W : WX} {pos : Pos} {a : Expr} {fa : Sx → R D}
theorem e_slK {sk : Option (Addr × List Int)} {lo hi : Option Expr} {p2 : Pos} {f1 f2 : Sx → R (Option Int)} (hk : KSt X.K sk) (ha : PE X a (tD T X.mg W fa)) (hl : PO X lo (tO' T X.mg W f1)) (hh : PO X hi (tO' T X.mg W f2)) : PE X (.Subscript a (.Slice lo hi none p2) pos) (tD T X.mg W (fSlK sk fa f1 f2)) :=
  (pe_slice (sl_tupA.or sl_list) ha hl hh).imp fun _ _ _ => slK_imp hk
end

/-! ### a lambda handed to a def that tells which error came -/
def wTold (K : PySem.W.Frag) (cl : Str → Addr) (Q : VK) : List (Str × Str) → Value → Hp → Prop
  | [], _, _ => False
  | (e, r) :: l, cls, H => ∃ b, PySem.W.exmOne K cls (.ref (cl e)) = some b ∧ (b = true → Q (.str r) H) ∧ (b = false → wTold K cl Q l cls H)
def TTm (K : PySem.W.Frag) (cl : Str → Addr) (hs : List (Str × Str)) : (XK → Hp → VK → Prop) → Hp → VK → Prop := fun tl H Q => tl (fun cls _ H' => wTold K cl Q hs cls H') H Q
theorem told4_gives {X : Cx} {Ng : List Str} {x a e1 e2 e3 e4 q r1 r2 r3 r4 : Str} {sg : Scope} {g : Addr} {cdg : Value} {cl : Str → Addr} {j1 j2 j3 j4 : Nat} {p1 p2 p3 p8 a1 a2 a3 a4 b1 b2 b3 b4 c1 c2 c3 c4 d1 d2 d3 d4 : Pos}
    (g1 : sg.names.lookup e1 = some .globalImplicit) (g2 : sg.names.lookup e2 = some .globalImplicit) (g3 : sg.names.lookup e3 = some .globalImplicit) (g4 : sg.names.lookup e4 = some .globalImplicit)
    (m1 : X.mg e1 = some (.ref (cl e1))) (m2 : X.mg e2 = some (.ref (cl e2))) (m3 : X.mg e3 = some (.ref (cl e3))) (m4 : X.mg e4 = some (.ref (cl e4)))
    (k1 : (e1 == ("__debug__" : Str)) = false) (k2 : (e2 == ("__debug__" : Str)) = false) (k3 : (e3 == ("__debug__" : Str)) = false) (k4 : (e4 == ("__debug__" : Str)) = false)
    (h0 : ∀ f : Addr, (L2.start Ng [V.ref f])[0]? = some (some (V.ref f))) :
    LamX.GivesTo X Ng x sg g cdg [.Try [.Return (some (.Call (.Name a p1) [] [] p2)) p3] [.ExceptHandler (some (.Name e1 a1)) none [.Return (some (.Constant (.str r1) j1 b1)) c1] d1, .ExceptHandler (some (.Name e2 a2)) none [.Return (some (.Constant (.str r2) j2 b2)) c2] d2,
      .ExceptHandler (some (.Name e3 a3)) none [.Return (some (.Constant (.str r3) j3 b3)) c3] d3, .ExceptHandler (some (.Name e4 a4)) none [.Return (some (.Constant (.str r4) j4 b4)) c4] d4] [] [] p8] a q (TTm X.K cl [(e1, r1), (e2, r2), (e3, r3), (e4, r4)]) := by
  intro f c' s H Q tl act hc h
  have q1 : Gl (cxOf C8.CX0 X.prog X.w X.K X.mg X.base Ng x sg g cdg X.A X.stack s H C8.E0).nox e1 := g1
  have q2 : Gl (cxOf C8.CX0 X.prog X.w X.K X.mg X.base Ng x sg g cdg X.A X.stack s H C8.E0).nox e2 := g2
  have q3 : Gl (cxOf C8.CX0 X.prog X.w X.K X.mg X.base Ng x sg g cdg X.A X.stack s H C8.E0).nox e3 := g3
  have q4 : Gl (cxOf C8.CX0 X.prog X.w X.K X.mg X.base Ng x sg g cdg X.A X.stack s H C8.E0).nox e4 := g4
  have hh := HdsOk.cons (pos' := d1) (np := a1) (X := (cxOf C8.CX0 X.prog X.w X.K X.mg X.base Ng x sg g cdg X.A X.stack s H C8.E0).nox) (c := .ref (cl e1)) ⟨q1, k1, .inl m1⟩ (fun a oe cls d pn _ _ => pss_one (ps_ret (pos := c1) (pe_str (pos := b1) (x := r1) (j := j1))))
    (HdsOk.cons (pos' := d2) (np := a2) (c := .ref (cl e2)) ⟨q2, k2, .inl m2⟩ (fun a oe cls d pn _ _ => pss_one (ps_ret (pos := c2) (pe_str (pos := b2) (x := r2) (j := j2))))
    (HdsOk.cons (pos' := d3) (np := a3) (c := .ref (cl e3)) ⟨q3, k3, .inl m3⟩ (fun a oe cls d pn _ _ => pss_one (ps_ret (pos := c3) (pe_str (pos := b3) (x := r3) (j := j3))))
    (HdsOk.cons (pos' := d4) (np := a4) (c := .ref (cl e4)) ⟨q4, k4, .inl m4⟩ (fun a oe cls d pn _ _ => pss_one (ps_ret (pos := c4) (pe_str (pos := b4) (x := r4) (j := j4)))) .nil)))
  refine ⟨_, pss_one (ps_try_many (X := (cxOf C8.CX0 X.prog X.w X.K X.mg X.base Ng x sg g cdg X.A X.stack s H C8.E0).nox) (Wout := fun _ _ _ _ => False)
      (tb := fun W D σ H => ∃ Ech : XK, (∀ cls d σ' H', Ech cls d H' → W cls d σ' H') ∧ σ[0]? = some (some (.ref f)) ∧ H c' = some (LamX.CodeO c' q) ∧ tl Ech H D.rt)
      rfl rfl LamX.takes0 (fun W pn xe tk _ => ?_) hh), ?_⟩
  · refine ⟨fun pins s' σ H' D I h' => ?_⟩
    obtain ⟨Ech, hW, h1, h2, h3⟩ := h'
    have hp := act W pn xe Ech p1 p2 tk hW
    have hq := pss_one (ps_ret (pos := p3) hp)
    exact hq.run pins s' σ H' D I ⟨h1, h2, h3⟩
  · refine ⟨fun cls _ H' => wTold X.K cl Q [(e1, r1), (e2, r2), (e3, r3), (e4, r4)] cls H', fun cls d σ' H' w => ?_, h0 f, hc, h⟩
    obtain ⟨x1, y1, z1, w1⟩ := w
    refine ⟨x1, y1, fun hb a _ => z1 hb, fun hb => ?_⟩
    obtain ⟨x2, y2, z2, w2⟩ := w1 hb
    refine ⟨x2, y2, fun hb a _ => z2 hb, fun hb => ?_⟩
    obtain ⟨x3, y3, z3, w3⟩ := w2 hb
    refine ⟨x3, y3, fun hb a _ => z3 hb, fun hb => ?_⟩
    obtain ⟨x4, y4, z4, w4⟩ := w3 hb
    exact ⟨x4, y4, fun hb a _ => z4 hb, fun hb => w4 hb⟩
/-- the errors' classes, one unlike another -/
structure ToldF (K : PySem.W.Frag) (mg : Str → Option Value) (hs : List (Str × Str)) (cl : Str → Addr) : Prop where
  gl : ∀ p ∈ hs, mg p.1 = some (.ref (cl p.1))
  ex : ∀ p ∈ hs, ∀ q ∈ hs, PySem.W.exmOne K (.ref (cl p.1)) (.ref (cl q.1)) = some (decide (p.1 = q.1))
def toldBy : List (Str × Str) → Str → Option Str
  | [], _ => none
  | (e, r) :: l, x => if x = e then some r else toldBy l x
def fTold (hs : List (Str × Str)) (f : Sx → R D) : Sx → R D := fun s => match f s with
  | .ok d M => .ok d M
  | .ex e M => match toldBy hs e.name with
    | some r => .ok (.str r) M
    | none => .no
  | .no => .no
theorem toldBy_mem {x r : Str} : ∀ {l : List (Str × Str)}, toldBy l x = some r → ∃ r', (x, r') ∈ l
  | [], h => by cases h
  | (e, r') :: l, h => by
    unfold toldBy at h
    by_cases q : x = e
    · exact ⟨r', by rw [q]; exact List.mem_cons_self⟩
    · rw [if_neg q] at h
      obtain ⟨r2, h2⟩ := toldBy_mem h
      exact ⟨r2, List.mem_cons_of_mem _ h2⟩
theorem told_w {K : PySem.W.Frag} {mg : Str → Option Value} {hs : List (Str × Str)} {cl : Str → Addr} (Z : ToldF K mg hs cl) {Q : VK} {H : Hp} {x r r0 : Str} (hx : (x, r0) ∈ hs) (q : Q (.str r) H) : ∀ l : List (Str × Str), (∀ p ∈ l, p ∈ hs) → toldBy l x = some r → wTold K cl Q l (.ref (cl x)) H
  | [], _, h => by cases h
  | (e, r') :: l, hl, h => by
    unfold toldBy at h
    unfold wTold
    refine ⟨_, Z.ex _ hx _ (hl _ List.mem_cons_self), fun hb => ?_, fun hb => ?_⟩
    · have he : x = e := of_decide_eq_true hb
      rw [if_pos he] at h; cases h; exact q
    · have he : ¬ x = e := of_decide_eq_false hb
      rw [if_neg he] at h
      exact told_w Z hx q l (fun p hp => hl p (List.mem_cons_of_mem _ hp)) h
/-- the tables of code objects as what stands by -/
def tabT (TL : List (Addr × Str)) : TPr := ⟨fun H => LamX.Tabs TL H, fun H H' t k p hp => by
  obtain ⟨ps, h1, h2, h3⟩ := t p hp
  refine ⟨ps, k _ _ h1 (fun _ z => by cases z), h2, fun pos cv hc => ?_⟩
  obtain ⟨c, e1, e2⟩ := h3 pos cv hc
  exact ⟨c, e1, k _ _ e2 (fun xs z => by unfold LamX.CodeO at z; cases z)⟩⟩
theorem lam_imp {TL : List (Addr × Str)} {K : PySem.W.Frag} {mg : Str → Option Value} {hs : List (Str × Str)} {cl : Str → Addr} (Z : ToldF K mg hs cl) {W : WX} {fb : Sx → R D} {σ : L2.St} {H : Hp} {Q : VK} (h : tD (tabT TL) mg W (fTold hs fb) σ H Q) :
    LamX.tLam TL (TTm K cl hs) (fun E => tD (tabT TL) mg (fun cls d _ H => E cls d H) fb) σ H Q := by
  obtain ⟨s, α, N, hs', p⟩ := h
  refine ⟨hs'.c.tab, fun H1 eN T1 => ?_⟩
  have e : Ext α N H α N H1 := ⟨⟨[], by simp, by simp⟩, fun _ h => h, fun _ h => .inl h, fun b o hb _ ht => eN b o hb ht, fun b hb z => hb fun o ho => by
    refine Classical.byContradiction fun hn => ?_
    have := eN b o ho (fun ps q => hn ⟨ps, q⟩)
    obtain ⟨ps, q⟩ := z o this
    exact hn ⟨ps, q⟩⟩
  have c1 : StC (tabT TL) N H1 s.M α := ⟨hs'.c.nd, hs'.c.sub, fun a ha => e.there a (hs'.c.som a ha), hs'.c.len, fun n l q => by
    obtain ⟨a, vs, h1, h2, h3⟩ := hs'.c.cel n l q
    exact ⟨a, vs, h1, eN _ _ h2 (fun _ z => by cases z), Rels.mono hs'.c.sub e h3⟩, T1⟩
  have s1 : StR (tabT TL) N H1 σ s α := StC.keep hs' c1 e
  refine ⟨s, α, N, s1, ?_⟩
  have p1 := Post.later e p
  unfold fTold at p1
  cases q : fb s with
  | no => rw [q] at p1; exact p1
  | ok d M => rw [q] at p1; exact p1
  | ex x M =>
    rw [q] at p1
    dsimp only at p1
    intro cls dd H2 α2 N2 s2 e2 xr
    cases qt : toldBy hs x.name with
    | none => rw [qt] at p1; exact p1.elim
    | some r =>
      rw [qt] at p1
      obtain ⟨r0, hr⟩ := toldBy_mem qt
      have hc : cls = .ref (cl x.name) := by
        have := (Z.gl _ hr).symm.trans xr.1
        exact (Option.some.inj this).symm
      rw [hc]
      exact told_w Z hr (p1 _ H2 α2 N2 s2 e2 (by unfold RelD Rel; rfl)) hs (fun _ h => h) qt
section
variable {X : Cx} {W : WX}
theorem e_told {TL : List (Addr × Str)} {x a : Str} {st : Stmt} {g c P : Addr} {fd : FuncData} {k : Nat} {params : Arguments} {body : Expr} {scope : Scope} {p lpos pos : Pos} {hs : List (Str × Str)} {cl : Str → Addr} {fb : Sx → R D}
    (B : Bd X W (k + 2)) (Z : ToldF X.K X.mg hs cl) (F : FunD X.K x x (defArgs st) (defBody st) (defScope st) [] [] g fd) (hm : X.mg x = some (.ref g)) (bn : Binds X.K fd [a] []) (Sg : FnScope [a] [a] (defScope st)) (hva : Vis (defScope st) a)
    (hG : ∀ cdg q, LamX.GivesTo X [a] x (defScope st) g cdg (defBody st) a q (TTm X.K cl hs)) (TB : LamX.TabB X.base X.mg c P) (hcode : X.env.code = .ref c) (hT : (P, X.env.qual ++ "<lambda>") ∈ TL) (hu : ∀ p ∈ TL, p.1 = P → p.2 = X.env.qual ++ "<lambda>")
    (hg : Gl X x)
    (hbody : ∀ (A : Around) (outer : List Env) (s : Shared) (H : Hp) (E : XK) (f c' : Addr), Room k (A.deeper (LamX.lamEnv X scope s.heap.objs.size f c')) → PE (LamX.lamCx X A outer s H E scope f c') body (tD (tabT TL) X.mg (fun cls d _ H => E cls d H) fb))
    (L : LamX.LamS X.env.scope scope) (hdef : defaultsOf params X.env = ([], []) := by rfl)
    (hbind : ∀ (q : Str) (cl : List (Str × Addr)) (pm cv ctv : Value), bindArgs (PySem.W.kla_fn "<lambda>" q params body scope cl pm cv ctv) ⟨[], []⟩ = pure [] := by intros; rfl)
    (hdb : (x == ("__debug__" : Str)) = false := by decide) (hd : (a == ("__debug__" : Str)) = false := by decide) (hcd : (a == ("__classdict__" : Str)) = false := by decide) :
    PE X (.Call (.Name x p) [.Lambda params body scope lpos] [] pos) (tD (tabT TL) X.mg W (fTold hs fb)) := by
  obtain ⟨oc, od, dV, kV, doc, pm, an, cdv, ct, osl, rfl, lk, hcd2, hD, hK⟩ := F.ex
  exact (LamX.pe_lamcall (TT := TTm X.K cl hs) (t := fun E => tD (tabT TL) X.mg (fun cls d _ H => E cls d H) fb) hg hm F.kp lk hcd2 bn Sg rfl hva (hG _ _) TB hcode hT hu B.rm L hdef hbind hbody hdb hd hcd).imp fun _ _ _ => lam_imp Z
end
end DL

namespace DL
open PySem PySem.Spec L2
open PyProof.Rows hiding St

/-! ### the law's def, the end of a row -/
/-- the script as it lies -/
inductive Scr : Option (Addr × List Int) → D → List Int → Prop where
  | lst {ns : List Int} : Scr none (.lst (ns.map .int)) ns
  | frz {ns : List Int} : Scr none (.scr (ns.map .int)) ns
  | mod {a : Addr} {ns : List Int} : Scr (some (a, ns)) (.adr a) ns
def spLaw (K : PySem.W.Frag) (TL : List (Addr × Str)) : Sp := fun vs H Q _ => ∃ (a : Addr) (ns : List Int), vs = [.ref a] ∧ SqL K H a (ns.map V.int) ∧ ns.length ≤ 63 ∧ LamX.Tabs TL H ∧ ∀ H', Q (.bl true) H'
theorem fn_law {P : Program} {w : World} {K : PySem.W.Frag} {mg : Str → Option Value} {base : Heap} {x qual : Str} {st : Stmt} {fd : FuncData} {Nm : List Str} {k : Nat} {p : Str × Option Str} {TL : List (Addr × Str)} {g : Option (Addr × List Int) → Sx → RS}
    (F : FunD K x qual (defArgs st) (defBody st) (defScope st) [] [] (He.fAd K p) fd) (S : FnScope Nm ["script"] (defScope st))
    (hb : ∀ (sk : Option (Addr × List Int)), KSt K sk → ∀ (A : Around) (outer : List Env) (s : Shared) (H : Hp) (E : XK), Room k (A.deeper (envOfC qual (defScope st) s.heap.objs.size (He.fAd K p) (.ref (He.codeOf K p)))) →
      PSs (cxOf (L2.CX P w) P w K mg base Nm qual (defScope st) (He.fAd K p) (.ref (He.codeOf K p)) A outer s H E) (defBody st) (tS (tabT TL) mg (fun cls d _ H => E cls d H) (g sk)))
    (hok : ∀ sk d ns, Scr sk d ns → ns.length ≤ 63 → ∃ s1, g sk ⟨init0 Nm [d], []⟩ = .rt (.bl true) s1) :
    FnOk P w K mg base (L2.CX P w) (k + 1) (He.fAd K p) fd ["script"] (spLaw K TL) := by
  obtain ⟨oc, od, dV, kV, doc, pm, an, cdv, ct, osl, rfl, lk, hcd, hD, hK⟩ := F.ex
  obtain ⟨c', rfl⟩ := He.codeIn_ref hcd
  have ec : He.codeOf K p = c' := He.codeOf_eq lk rfl
  rw [ec] at hb
  refine fn_of lk hcd S (fun vs H Q E h => ?_) fun A outer s H vs Q E hr hsp => ?_
  · obtain ⟨a, ns, rfl, _⟩ := h; rfl
  · obtain ⟨a, ns, rfl, hS, hl, hT, q⟩ := hsp
    obtain ⟨sk, d, hk, hd, rd⟩ : ∃ (sk : Option (Addr × List Int)) (d : D), KSt K sk ∧ Scr sk d ns ∧ Rel H (fun _ => False) [] d (.ref a) := by
      rcases hS with (h | ⟨o, h⟩) | h
      · exact ⟨none, _, (fun _ _ z => by cases z), Scr.lst, by unfold Rel; exact ⟨a, _, rfl, fun z => z, h, rels_ints ns⟩⟩
      · exact ⟨none, _, (fun _ _ z => by cases z), Scr.frz, by unfold Rel; exact ⟨a, o, _, rfl, h, rels_ints ns⟩⟩
      · exact ⟨some (a, ns), _, (fun _ _ z H' => by cases z; exact .inr h), Scr.mod, by unfold Rel; rfl⟩
    obtain ⟨s1, hg⟩ := hok sk d ns hd hl
    refine ⟨_, hb sk hk A outer s H E hr, ⟨init0 Nm [d], []⟩, [], fun _ => False, ⟨⟨by simp, by simp, fun a z => z.elim, rfl, fun n l z => by simp at z, hT⟩, init_slt (Rels.one rd), ?_⟩, ?_⟩
    · unfold init0 L2.start
      simp
    · rw [hg]
      intro v σ' H' α' N' s' e rv
      unfold Rel at rv
      rw [rv]
      exact q H'
theorem cx_no {P : Program} {w : World} {o : List Env} {H : Hp} {s : Shared} {e : Value} {s' : Shared} (h : L2.CX P w o H s (fun _ _ _ => False) e s') : False := by
  obtain ⟨_, _, _, _, _, _, _, _, _, _, _, _, z⟩ := h
  exact z
/-- what the head tells of a row whose law makes lambdas: all that walk_ofTsE asks -/
theorem law_at {l : PySem.W.OpenLaw} {w : World} {K : PySem.W.Frag} {mg : Str → Option Value} {f : Addr} {h : Heap} {k : Nat} {fa : List He.Fa} {fn : List He.DefD} {ex : PySem.W.Frag → Bool} {q : Str} {fd : FuncData}
    (X : K.In h) (G : h.Ns mainGlobals mg) (hfa : mg ("law" : Str) = some (.ref f)) (c : He.SaysX fa fn [] [("law", none)] ex w h K) (hga : mg ("law" : Str) = some (.ref (He.ga K "law")))
    (b : ∀ (s : Shared) (u : Value), BindsTo s fd ⟨[u], []⟩ [("script", u)])
    (hF : ∀ base : Heap, K.In base → base.Ns mainGlobals mg → LamX.TabB base mg (He.codeOf K ("law", none)) (He.tabOf K (He.codeOf K ("law", none))) → FnOk l.prog w K mg base (L2.CX l.prog w) k (He.fAd K ("law", none)) fd ["script"] (spLaw K [(He.tabOf K (He.codeOf K ("law", none)), q)])) :
    LamX.LawAtS l w K (L2.CX l.prog w) k 63 "script" mg f h := by
  have e := hfa.symm.trans hga
  cases e
  have one : ∀ p ∈ [He.cT K ("law", none)], p = He.cT K ("law", none) := fun p hp => by simpa using hp
  refine ⟨fd, [He.cT K ("law", none)], _, fun p hp => ?_, fun p hp => ?_, fun p hp => ?_, b, fun H a ns hl _ hT hS => ⟨a, ns, rfl, hS, hl, fun p hp => ?_, fun _ => rfl⟩, fun base kb nb tb => hF base kb nb (tb (He.cT K ("law", none)) (by simp))⟩
  · rw [one p hp]; exact c.empty _ (by simp)
  · rw [one p hp]; exact c.out _ (by simp)
  · rw [one p hp]; exact PySem.W.codeHd_of_K X (c.hd _ (by simp))
  · have hp' : p = (He.tabOf K (He.codeOf K ("law", none)), q) := by simpa using hp
    rw [hp']
    exact LamX.TabS.nil (hT (He.cT K ("law", none)) (by simp))
/-- a def by its facts -/
theorem cal_of {T : TPr} {P : Program} {w : World} {K : PySem.W.Frag} {mg : Str → Option Value} {base : Heap} {x : Str} {st : Stmt} {fd : FuncData} {ps : List Str} {k : Nat} {fM : List D → Cells → R D} (g : mg x = some (.ref (He.ga K x)))
    (F : FunD K x x (defArgs st) (defBody st) (defScope st) [] [] (He.fAd K (x, none)) fd) (b : Binds K fd ps []) (h : FnOk P w K mg base (L2.CX P w) k (He.fAd K (x, none)) fd ps (spD T mg ps.length fM)) : Cal T P w K mg base k x ps.length fM :=
  ⟨_, fd, ps, g, F.kp, b, h⟩
theorem calO_of {T : TPr} {P : Program} {w : World} {K : PySem.W.Frag} {mg : Str → Option Value} {base : Heap} {x : Str} {st : Stmt} {fd : FuncData} {ps : List Str} {k : Nat} {p : List D → R D} (g : mg x = some (.ref (He.ga K x)))
    (F : FunD K x x (defArgs st) (defBody st) (defScope st) [] [] (He.fAd K (x, none)) fd) (b : Binds K fd ps []) (h : FnOk P w K mg base (L2.CX P w) k (He.fAd K (x, none)) fd ps (spO T mg ps.length p)) : CalO T P w K mg base k x ps.length p :=
  ⟨_, fd, ps, g, F.kp, b, h⟩
theorem exC_of {K : PySem.W.Frag} {mg : Str → Option Value} {x : Str} (g : mg x = some (.ref (He.ga K x))) (c : (He.Fa.exc x).ok K = true) : ExC K mg x := by
  obtain ⟨h1, h2, h3, h4⟩ := He.exc_ok c
  exact ⟨_, g, h1, h2, h3, h4⟩
/-! ### fuel by the arguments -/
mutual
def D.sz : D → Nat
  | .int i => i.natAbs + 1
  | .tup l => szs l + 1
  | .lst l => szs l + 1
  | _ => 1
def szs : List D → Nat
  | [] => 0
  | d :: l => d.sz + szs l + 1
end
def fuelOf (ds : List D) : Nat := 1000 + szs ds
def autF (n : Nat) (Nm : List Str) (g : Nat → Sx → RS) : List D → Pu := fun ds => if ds.length = n then (g (fuelOf ds) ⟨init0 Nm ds, []⟩).pu else .no
theorem autF_len {n : Nat} {Nm : List Str} {g : Nat → Sx → RS} (ds : List D) (h : autF n Nm g ds ≠ .no) : ds.length = n := by
  unfold autF at h
  by_cases hl : ds.length = n
  · exact hl
  · rw [if_neg hl] at h; exact (h rfl).elim
theorem fn_autF {T : TPr} {P : Program} {w : World} {K : PySem.W.Frag} {mg : Str → Option Value} {base : Heap} {x qual : Str} {st : Stmt} {f : Addr} {fd : FuncData} {Nm ps : List Str} {dvs : List V} {kws : List (Str × V)} {k : Nat} {g : Nat → Sx → RS}
    (F : FunD K x qual (defArgs st) (defBody st) (defScope st) dvs kws f fd) (S : FnScope Nm ps (defScope st))
    (hb : ∀ (n : Nat) (cdv : Value) (A : Around) (outer : List Env) (s : Shared) (H : Hp) (E : XK), Room k (A.deeper (envOfC qual (defScope st) s.heap.objs.size f cdv)) →
      PSs (cxOf (L2.CX P w) P w K mg base Nm qual (defScope st) f cdv A outer s H E) (defBody st) (tS T mg (fun cls d _ H => E cls d H) (g n))) :
    FnOk P w K mg base (L2.CX P w) (k + 1) f fd ps (spP T mg ps.length (autF ps.length Nm g)) :=
  fn_okP F S fun ds hn hl => ⟨g (fuelOf ds), hb _, pu_lift (by unfold autF; rw [if_pos hl]) hn⟩
/-- a def under another name of the module -/
theorem cal_as {T : TPr} {P : Program} {w : World} {K : PySem.W.Frag} {mg : Str → Option Value} {base : Heap} {x y : Str} {st : Stmt} {fd : FuncData} {ps : List Str} {k : Nat} {fM : List D → Cells → R D} (g : mg x = some (.ref (He.ga K x)))
    (F : FunD K y y (defArgs st) (defBody st) (defScope st) [] [] (He.fAd K (x, none)) fd) (b : Binds K fd ps []) (h : FnOk P w K mg base (L2.CX P w) k (He.fAd K (x, none)) fd ps (spD T mg ps.length fM)) : Cal T P w K mg base k x ps.length fM :=
  ⟨_, fd, ps, g, F.kp, b, h⟩
end DL

namespace DL
open PySem PySem.Spec L2
open PyProof.Rows hiding St

/-! ### the functions on data, run: what simp needs -/
mutual
def D.noscr : D → Bool
  | .tup l => noscrs l
  | .lst l => noscrs l
  | .scr _ => false
  | _ => true
def noscrs : List D → Bool
  | [] => true
  | d :: l => d.noscr && noscrs l
end
@[simp] theorem ce0 {α : Type} {a : α} {l : List α} : (a :: l)[0]? = some a := rfl
section
variable {γ δ : Type} {ρ : List (Option D)} {M : Cells} {s : Sx}
@[simp] theorem bind_ok {a : γ} {k : γ → Cells → R δ} : (R.ok a M).bind k = k a M := rfl
@[simp] theorem bind_ex {e : Ex} {k : γ → Cells → R δ} : (R.ex e M : R γ).bind k = .ex e M := rfl
@[simp] theorem toS_ok {a : γ} {k : γ → Cells → RS} : (R.ok a M).toS ρ k = k a M := rfl
@[simp] theorem toS_ex {e : Ex} {k : γ → Cells → RS} : (R.ex e M : R γ).toS ρ k = .ex e ⟨ρ, M⟩ := rfl
@[simp] theorem opt_some {a : γ} : opt (some a) M = .ok a M := rfl
@[simp] theorem toB_ok {b : Bool} : toB (.ok (.bl b) M) = .ok b M := rfl
@[simp] theorem fC_s {d : D} : fC d s = .ok d s.M := rfl
@[simp] theorem fNil_s : fNil s = .ok [] s.M := rfl
@[simp] theorem fVar_s {i : Nat} : fVar i s = (match s.ρ[i]? with
  | some (some d) => .ok d s.M
  | _ => .no) := rfl
@[simp] theorem fCons_s {fa : Sx → R D} {fr : Sx → R (List D)} : fCons fa fr s = (fa s).bind fun d M1 => (fr ⟨s.ρ, M1⟩).bind fun l M2 => .ok (d :: l) M2 := rfl
@[simp] theorem fOp_s {g : Cells → D → D → Option D} {fa fb : Sx → R D} : fOp g fa fb s = (fa s).bind fun d M1 => (fb ⟨s.ρ, M1⟩).bind fun e M2 => opt (g M2 d e) M2 := rfl
@[simp] theorem fUn_s {g : Cells → D → Option D} {fa : Sx → R D} : fUn g fa s = (fa s).bind fun d M1 => opt (g M1 d) M1 := rfl
@[simp] theorem fCB_s {g : Cells → List D → Option D} {fa : Sx → R (List D)} : fCB g fa s = (fa s).bind fun l M1 => opt (g M1 l) M1 := rfl
@[simp] theorem fTup_s {f : Sx → R (List D)} : fTup f s = (f s).bind fun l M => if l.length ≤ 100000 then .ok (.tup l) M else .no := rfl
@[simp] theorem fLst_s {f : Sx → R (List D)} : fLst f s = (f s).bind fun l M => if l.length ≤ 100000 then .ok (.lst l) M else .no := rfl
@[simp] theorem fTst_s {f : Sx → R D} : fTst f s = toB (f s) := rfl
@[simp] theorem fAnd_s {f g : Sx → R Bool} : fAnd f g s = (f s).bind fun b M => if b = true then g ⟨s.ρ, M⟩ else .ok false M := rfl
@[simp] theorem fOr_s {f g : Sx → R Bool} : fOr f g s = (f s).bind fun b M => if b = true then .ok true M else g ⟨s.ρ, M⟩ := rfl
@[simp] theorem fNot_s {f : Sx → R Bool} : fNot f s = (f s).bind fun b M => .ok (!b) M := rfl
@[simp] theorem fIf_s {c : Sx → R Bool} {f g : Sx → R D} : fIf c f g s = (c s).bind fun b M => if b = true then f ⟨s.ρ, M⟩ else g ⟨s.ρ, M⟩ := rfl
@[simp] theorem fIfS_s {c : Sx → R Bool} {f g : Sx → RS} : fIfS c f g s = (c s).toS s.ρ fun b M => if b = true then f ⟨s.ρ, M⟩ else g ⟨s.ρ, M⟩ := rfl
@[simp] theorem fRet_s {f : Sx → R D} : fRet f s = (f s).toS s.ρ fun d M => .rt d ⟨s.ρ, M⟩ := rfl
@[simp] theorem fDrop_s {f : Sx → R D} : fDrop f s = (f s).toS s.ρ fun _ M => .nx ⟨s.ρ, M⟩ := rfl
@[simp] theorem fSkip_s : fSkip s = .nx s := rfl
@[simp] theorem fRaise_s {x : Str} : fRaise x s = .ex ⟨x, none⟩ s := rfl
@[simp] theorem fAsg_s {f : Sx → R D} {g : D → Sx → Option Sx} : fAsg f g s = (f s).toS s.ρ fun d M => match g d ⟨s.ρ, M⟩ with
  | some s => .nx s
  | none => .no := by
  unfold fAsg; congr
@[simp] theorem bName_s {i : Nat} {d : D} : bName i d s = some ⟨s.ρ.set i (some d), s.M⟩ := rfl
@[simp] theorem fFz_s {f : Sx → R (List D)} : fFz f s = (f s).bind fun l M => .ok (.lst l) M := rfl
@[simp] theorem fNew_s {f : Sx → R (List D)} : fNew f s = (f s).bind fun l M => if l.length ≤ 100000 then .ok l M else .no := rfl
@[simp] theorem fOwn_s {i : Nat} {f : Sx → R (List D)} : fOwn i f s = (f s).toS s.ρ fun l M => .nx ⟨s.ρ.set i (some (.loc M.length)), M ++ [l]⟩ := rfl
@[simp] theorem fIt_s {k : D → Option (List D)} {f : Sx → R D} : fIt k f s = (f s).bind fun d M => opt (k d) M := rfl
@[simp] theorem asTup_s {l : List D} : asTup (.tup l) = some l := rfl
@[simp] theorem asLst_s {l : List D} : asLst (.lst l) = some l := rfl
@[simp] theorem fFor_s {fi : Sx → R (List D)} {g : D → Sx → Option Sx} {b : Sx → RS} : fFor fi g b s = (fi s).toS s.ρ fun ds M => fForL g b ds ⟨s.ρ, M⟩ := rfl
@[simp] theorem forL_nil {g : D → Sx → Option Sx} {b : Sx → RS} : fForL g b [] s = .nx s := by unfold fForL; rfl
theorem seq_nx {f g : Sx → RS} {s1 : Sx} (h : f s = .nx s1) : fSeq f g s = g s1 := by unfold fSeq; rw [h]
theorem seq_rt {f g : Sx → RS} {s1 : Sx} {d : D} (h : f s = .rt d s1) : fSeq f g s = .rt d s1 := by unfold fSeq; rw [h]
theorem seq_ex {f g : Sx → RS} {s1 : Sx} {e : Ex} (h : f s = .ex e s1) : fSeq f g s = .ex e s1 := by unfold fSeq; rw [h]
@[simp] theorem seq_s {f g : Sx → RS} : fSeq f g s = (match f s with
  | .nx s1 => g s1
  | x => x) := by unfold fSeq; cases f s <;> rfl
/-! ints -/
@[simp] theorem gI_s {f : Int → Int → D} {i j : Int} : gI f M (.int i) (.int j) = some (f i j) := rfl
@[simp] theorem gIc_s {C : Int → Int → Bool} {f : Int → Int → D} {i j : Int} (h : C i j = true) : gIc C f M (.int i) (.int j) = some (f i j) := by
  unfold gIc; simp [h]
theorem mulOk_l {i j : Int} (h1 : -18446744073709551616 < i) (h2 : i < 18446744073709551616) : mulOk i j = true := by
  unfold mulOk; simp; left; omega
theorem mulOk_r {i j : Int} (h1 : -18446744073709551616 < j) (h2 : j < 18446744073709551616) : mulOk i j = true := by
  unfold mulOk; simp; right; omega
@[simp] theorem nMul_s {i j : Int} (h1 : -18446744073709551616 < i) (h2 : i < 18446744073709551616) : nMul M (.int i) (.int j) = some (.int (i * j)) := gIc_s (mulOk_l h1 h2)
@[simp] theorem gIx_tup {l : List D} {i : Int} : gIx M (.tup l) (.int i) = atI l i := rfl
@[simp] theorem gIx_lst {l : List D} {i : Int} : gIx M (.lst l) (.int i) = atI l i := rfl
@[simp] theorem atI_0 {α : Type} {d : α} {l : List α} : atI (d :: l) 0 = some d := atI_nat (j := 0) rfl
@[simp] theorem atI_1 {α : Type} {d e : α} {l : List α} : atI (d :: e :: l) 1 = some e := atI_nat (j := 1) rfl
@[simp] theorem atI_2 {α : Type} {d e f : α} {l : List α} : atI (d :: e :: f :: l) 2 = some f := atI_nat (j := 2) rfl
/-! equal, unlike -/
theorem dEq_int {i j : Int} : dEq M (.int i) (.int j) = some (decide (i = j)) := rfl
theorem dEq_bl {i j : Bool} : dEq M (.bl i) (.bl j) = some (decide (i = j)) := by cases i <;> cases j <;> rfl
theorem dEq_pt {a b c d : Int} : dEq M (.tup [.int a, .int b]) (.tup [.int c, .int d]) = some (decide (a = c) && decide (b = d)) := by
  show some _ = some _
  congr 1
  show (decide (a = c) && (decide (b = d) && true)) = _
  rw [Bool.and_true]
@[simp] theorem gEq_int {i j : Int} : gEq M (.int i) (.int j) = some (.bl (decide (i = j))) := rfl
@[simp] theorem gNe_int {i j : Int} : gNe M (.int i) (.int j) = some (.bl (!decide (i = j))) := rfl
@[simp] theorem gEq_pt {a b c d : Int} : gEq M (.tup [.int a, .int b]) (.tup [.int c, .int d]) = some (.bl (decide (a = c) && decide (b = d))) := by unfold gEq; rw [dEq_pt]; rfl
@[simp] theorem gNe_pt {a b c d : Int} : gNe M (.tup [.int a, .int b]) (.tup [.int c, .int d]) = some (.bl (!(decide (a = c) && decide (b = d)))) := by unfold gNe; rw [dEq_pt]; rfl
@[simp] theorem gEq_bl {i j : Bool} : gEq M (.bl i) (.bl j) = some (.bl (decide (i = j))) := by unfold gEq; rw [dEq_bl]; rfl
@[simp] theorem gNe_bl {i j : Bool} : gNe M (.bl i) (.bl j) = some (.bl (!decide (i = j))) := by unfold gNe; rw [dEq_bl]; rfl
/-! calls -/
theorem call_s {p : List D → Pu} {f : Sx → R (List D)} : fCall p f s = (f s).bind fun ds M => if lfs ds = true then (match p ds with
  | .ok d => .ok d M
  | .ex e => .ex e M
  | .no => .no) else .no := rfl
@[simp] theorem pu_rt {d : D} {M' : Cells} : (RS.rt d ⟨ρ, M'⟩).pu = match fz M' 0 d with
  | some e => .ok e
  | none => .no := by
  unfold RS.pu RS.out
  simp only [cut0]
  cases fz M' 0 d <;> rfl
@[simp] theorem pu_nx {M' : Cells} : (RS.nx ⟨ρ, M'⟩).pu = .ok .non := by
  unfold RS.pu RS.out
  simp only [cut0]
@[simp] theorem pu_ex {x : Str} {M' : Cells} : (RS.ex ⟨x, none⟩ ⟨ρ, M'⟩).pu = .ex ⟨x, none⟩ := by
  unfold RS.pu RS.out
  simp only [cut0]
@[simp] theorem fz_non {m : Nat} : fz M m .non = some .non := by unfold fz; rfl
@[simp] theorem fz_int {m : Nat} {i : Int} : fz M m (.int i) = some (.int i) := by unfold fz; rfl
@[simp] theorem fz_bl {m : Nat} {i : Bool} : fz M m (.bl i) = some (.bl i) := by unfold fz; rfl
@[simp] theorem fz_str {m : Nat} {i : Str} : fz M m (.str i) = some (.str i) := by unfold fz; rfl
@[simp] theorem fz_tup {m : Nat} {l : List D} : fz M m (.tup l) = (fzs M m l).map .tup := by unfold fz; rfl
@[simp] theorem fz_lst {m : Nat} {l : List D} : fz M m (.lst l) = (fzs M m l).map .lst := by unfold fz; rfl
@[simp] theorem fzs_nil {m : Nat} : fzs M m [] = some [] := by unfold fzs; rfl
@[simp] theorem fzs_cons {m : Nat} {d : D} {l : List D} : fzs M m (d :: l) = (match fz M m d, fzs M m l with
  | some p, some ps => some (p :: ps)
  | _, _ => none) := by first | (rw [fzs]; done) | (rw [fzs]; rfl)
mutual
theorem fz_lf {m : Nat} : ∀ {d : D}, d.lf = true → (∀ l, d ≠ .scr l) → (D.noscr d = true) → fz M m d = some d
  | .non, _, _, _ => by simp
  | .bl _, _, _, _ => by simp
  | .int _, _, _, _ => by simp
  | .str _, _, _, _ => by simp
  | .tup l, h, _, n => by
    unfold D.lf at h
    unfold D.noscr at n
    rw [fz_tup, fzs_lf h n]; rfl
  | .lst l, h, _, n => by
    unfold D.lf at h
    unfold D.noscr at n
    rw [fz_lst, fzs_lf h n]; rfl
  | .loc _, h, _, _ => by unfold D.lf at h; cases h
  | .adr _, _, _, _ => by unfold fz; rfl
  | .ty _, _, _, _ => by unfold fz; rfl
  | .scr l, _, h, _ => (h l rfl).elim
theorem fzs_lf {m : Nat} : ∀ {l : List D}, lfs l = true → noscrs l = true → fzs M m l = some l
  | [], _, _ => by simp
  | d :: l, h, n => by
    unfold lfs at h
    unfold noscrs at n
    obtain ⟨h1, h2⟩ := Bool.and_eq_true_iff.mp h
    obtain ⟨n1, n2⟩ := Bool.and_eq_true_iff.mp n
    rw [fzs_cons, fz_lf h1 (fun l z => by rw [z] at n1; unfold D.noscr at n1; cases n1) n1, fzs_lf h2 n2]
end
end
/-! data that can be compared: None, ints, tuples and lists of such -/
mutual
def D.cmp : Nat → D → Bool
  | _, .non => true
  | _, .int _ => true
  | k + 1, .tup l => cmps k l
  | k + 1, .lst l => cmps k l
  | _, _ => false
def cmps : Nat → List D → Bool
  | _, [] => true
  | k, d :: l => d.cmp k && cmps k l
end
mutual
theorem cmp_py : ∀ {k : Nat} {d : D}, d.cmp k = true → ∃ p, pyOf d = some p ∧ p.canLay0 = true ∧ p.depth ≤ k
  | _, .non, _ => ⟨.none, by unfold pyOf; rfl, by simp [PyData.canLay0], by simp [PyData.depth]⟩
  | _, .int i, _ => ⟨.int i, by unfold pyOf; rfl, by simp [PyData.canLay0], by simp [PyData.depth]⟩
  | k + 1, .tup l, h => by
    unfold D.cmp at h
    obtain ⟨ps, h1, h2, h3⟩ := cmps_py h
    exact ⟨.tuple ps, by unfold pyOf; rw [h1]; rfl, by simpa [PyData.canLay0] using h2, by simp [PyData.depth]; omega⟩
  | k + 1, .lst l, h => by
    unfold D.cmp at h
    obtain ⟨ps, h1, h2, h3⟩ := cmps_py h
    exact ⟨.list ps, by unfold pyOf; rw [h1]; rfl, by simpa [PyData.canLay0] using h2, by simp [PyData.depth]; omega⟩
  | 0, .tup _, h => by unfold D.cmp at h; cases h
  | 0, .lst _, h => by unfold D.cmp at h; cases h
  | _, .bl _, h => by unfold D.cmp at h; cases h
  | _, .str _, h => by unfold D.cmp at h; cases h
  | _, .loc _, h => by unfold D.cmp at h; cases h
  | _, .adr _, h => by unfold D.cmp at h; cases h
  | _, .ty _, h => by unfold D.cmp at h; cases h
  | _, .scr _, h => by unfold D.cmp at h; cases h
theorem cmps_py : ∀ {k : Nat} {l : List D}, cmps k l = true → ∃ ps, pysOf l = some ps ∧ PyData.canLayAll0 ps = true ∧ PyData.depthAll ps ≤ k
  | _, [], _ => ⟨[], by unfold pysOf; rfl, by simp [PyData.canLayAll0], by simp [PyData.depthAll]⟩
  | k, d :: l, h => by
    unfold cmps at h
    obtain ⟨h1, h2⟩ := Bool.and_eq_true_iff.mp h
    obtain ⟨p, a1, a2, a3⟩ := cmp_py h1
    obtain ⟨ps, b1, b2, b3⟩ := cmps_py h2
    exact ⟨p :: ps, by unfold pysOf; rw [a1, b1], by simp [PyData.canLayAll0, a2, b2], by simp only [PyData.depthAll]; omega⟩
end
mutual
theorem cmp_iff : ∀ {k j : Nat} {d e : D} {p q : PyData}, d.cmp k = true → e.cmp j = true → pyOf d = some p → pyOf e = some q → (PyData.eqv p q = true ↔ d = e)
  | _, _, d, e, _, _, h, g, h1, h2 => by
    cases d <;> (try (simp [D.cmp] at h; done)) <;> cases e <;> (try (simp [D.cmp] at g; done)) <;> (simp only [pyOf, Option.some.injEq, Option.map_eq_some_iff] at h1 h2)
    case non.non => subst h1 h2; simp [PyData.eqv]
    case int.int => subst h1 h2; simp [PyData.eqv]
    case tup.tup l m =>
      obtain ⟨ps, a1, rfl⟩ := h1
      obtain ⟨qs, b1, rfl⟩ := h2
      rename_i k j
      cases k <;> cases j <;> (try (simp [D.cmp] at h; done)) <;> (try (simp [D.cmp] at g; done))
      unfold D.cmp at h g
      simp only [PyData.eqv, D.tup.injEq]
      exact cmps_iff h g a1 b1
    case lst.lst l m =>
      obtain ⟨ps, a1, rfl⟩ := h1
      obtain ⟨qs, b1, rfl⟩ := h2
      rename_i k j
      cases k <;> cases j <;> (try (simp [D.cmp] at h; done)) <;> (try (simp [D.cmp] at g; done))
      unfold D.cmp at h g
      simp only [PyData.eqv, D.lst.injEq]
      exact cmps_iff h g a1 b1
    all_goals
      first
      | (obtain ⟨ps, a1, rfl⟩ := h1; obtain ⟨qs, b1, rfl⟩ := h2; simp [PyData.eqv])
      | (obtain ⟨ps, a1, rfl⟩ := h1; subst h2; simp [PyData.eqv])
      | (obtain ⟨ps, a1, rfl⟩ := h2; subst h1; simp [PyData.eqv])
      | (subst h1 h2; simp [PyData.eqv])
theorem cmps_iff : ∀ {k j : Nat} {l m : List D} {ps qs : List PyData}, cmps k l = true → cmps j m = true → pysOf l = some ps → pysOf m = some qs → (PyData.eqvAll ps qs = true ↔ l = m)
  | _, _, [], [], _, _, _, _, h1, h2 => by unfold pysOf at h1 h2; cases h1; cases h2; simp [PyData.eqvAll]
  | _, _, [], d :: m, _, _, _, g, h1, h2 => by
    unfold pysOf at h1 h2; cases h1
    split at h2
    · cases h2; simp [PyData.eqvAll]
    · cases h2
  | _, _, d :: m, [], _, _, _, g, h1, h2 => by
    unfold pysOf at h1 h2; cases h2
    split at h1
    · cases h1; simp [PyData.eqvAll]
    · cases h1
  | _, _, d :: l, e :: m, _, _, h, g, h1, h2 => by
    unfold pysOf at h1 h2
    unfold cmps at h g
    obtain ⟨ha, hb⟩ := Bool.and_eq_true_iff.mp h
    obtain ⟨ga, gb⟩ := Bool.and_eq_true_iff.mp g
    split at h1
    · rename_i p ps a1 a2
      split at h2
      · rename_i q qs b1 b2
        cases h1; cases h2
        simp only [PyData.eqvAll, Bool.and_eq_true, List.cons.injEq]
        exact and_congr (cmp_iff ha ga a1 b1) (cmps_iff hb gb a2 b2)
      · cases h2
    · cases h1
end
theorem cmp_at {M : Cells} {k : Nat} {d : D} (h : d.cmp k = true) : pyAt M d = pyOf d := by
  cases d <;> first | rfl | (unfold D.cmp at h; cases h)
theorem dEq_cmp {M : Cells} {d e : D} (h : d.cmp 60 = true) (g : e.cmp 60 = true) : ∃ b, dEq M d e = some b ∧ (b = true ↔ d = e) := by
  obtain ⟨p, a1, a2, a3⟩ := cmp_py h
  obtain ⟨q, b1, b2, b3⟩ := cmp_py g
  refine ⟨PyData.eqv p q, ?_, cmp_iff h g a1 b1⟩
  unfold dEq
  rw [cmp_at h, cmp_at g, a1, b1]
  simp only [SeqAt.shaped, a2, b2, Bool.true_and]
  rw [if_pos]
  simp; omega
theorem gNe_self {M : Cells} {d : D} (h : d.cmp 60 = true) : gNe M d d = some (.bl false) := by
  obtain ⟨b, h1, h2⟩ := dEq_cmp (M := M) h h
  unfold gNe; rw [h1, h2.mpr rfl]; rfl
theorem gEq_self {M : Cells} {d : D} (h : d.cmp 60 = true) : gEq M d d = some (.bl true) := by
  obtain ⟨b, h1, h2⟩ := dEq_cmp (M := M) h h
  unfold gEq; rw [h1, h2.mpr rfl]; rfl
theorem gNe_ne {M : Cells} {d e : D} (h : d.cmp 60 = true) (g : e.cmp 60 = true) (n : d ≠ e) : gNe M d e = some (.bl true) := by
  obtain ⟨b, h1, h2⟩ := dEq_cmp (M := M) h g
  unfold gNe; rw [h1]
  cases b with
  | true => exact (n (h2.mp rfl)).elim
  | false => rfl
theorem gEq_ne {M : Cells} {d e : D} (h : d.cmp 60 = true) (g : e.cmp 60 = true) (n : d ≠ e) : gEq M d e = some (.bl false) := by
  obtain ⟨b, h1, h2⟩ := dEq_cmp (M := M) h g
  unfold gEq; rw [h1]
  cases b with
  | true => exact (n (h2.mp rfl)).elim
  | false => rfl
theorem cmps_ints {k : Nat} : ∀ ns : List Int, cmps k (ns.map .int) = true
  | [] => by simp [cmps]
  | i :: r => by simp [cmps, D.cmp, cmps_ints r]
theorem cmps_all {k : Nat} : ∀ {l : List D}, (∀ d ∈ l, d.cmp k = true) → cmps k l = true
  | [], _ => by simp [cmps]
  | d :: l, h => by simp only [cmps, h d List.mem_cons_self, cmps_all fun e he => h e (List.mem_cons_of_mem _ he), Bool.and_self]
end DL

namespace DL
open PySem PySem.Spec L2
open PyProof.Rows hiding St

/-! ### the laws' dice -/
abbrev nDice : List Str := ["cell"]
def gDice  : Sx → RS := (fSeq (fIfS (fTst (fChain nLt nLt (fOp nSub (fC (.int 0)) (fC (.int 10))) (fVar 0) (fC (.int 10)))) (fRet (fOwnE (fNew (fCons (fCB gAbs (fCons (fVar 0) fNil)) (fCons (fC (.int 0)) (fCons (fC (.int 2)) fNil)))))) fSkip) (fRet (fOwnE (fNew (fCons (fVar 0) (fCons (fOp nAdd (fC (.int 1)) (fOp nMod (fCB gInt (fCons (fVar 0) fNil)) (fC (.int 1009)))) (fCons (fCB gInt (fCons (fOp nGe (fVar 0) (fOp nPow (fC (.int 10)) (fC (.int 18)))) fNil)) fNil)))))))
def mDice : List D → R D := autO 1 nDice (gDice )
abbrev nRoll : List Str := ["dice", "many", "found"]
def gRoll  : Sx → RS := (fSeq (fIfS (fOr (fTst (fOp gEq (fOp gIx (fVar 0) (fC (.int 2))) (fC (.int 2)))) (fAnd (fTst (fOp gEq (fOp gIx (fVar 0) (fC (.int 2))) (fC (.int 1)))) (fTst (fOp nGt (fOp gIx (fVar 0) (fC (.int 0))) (fC (.int 0)))))) (fSeq (fAsg (fOp nMod (fCB gInt (fCons (fOp gIx (fVar 0) (fC (.int 0))) fNil)) (fVar 1)) (bName 2)) (fSeq (fSetIx (fOp nDiv (fOp gIx (fVar 0) (fC (.int 0))) (fVar 1)) (fVar 0) (fC (.int 0))) (fRet (fVar 2)))) fSkip) (fSeq (fSetIx (fC (.int 0)) (fVar 0) (fC (.int 2))) (fSeq (fSetIx (fOp nMod (fCB gInt (fCons (fOp nAdd (fOp nAdd (fOp nMul (fOp gIx (fVar 0) (fC (.int 0))) (fC (.int 48271))) (fOp nMul (fOp gIx (fVar 0) (fC (.int 1))) (fC (.int 69621)))) (fC (.int 11))) fNil)) (fC (.int 2147483647))) (fVar 0) (fC (.int 0))) (fSeq (fSetIx (fOp nAdd (fOp gIx (fVar 0) (fC (.int 1))) (fC (.int 1))) (fVar 0) (fC (.int 1))) (fRet (fOp nMod (fCB gInt (fCons (fOp nAdd (fOp nDiv (fOp gIx (fVar 0) (fC (.int 0))) (fC (.int 7))) (fOp gIx (fVar 0) (fC (.int 0)))) fNil)) (fVar 1)))))))
def mRoll : List D → Cells → R D := autM 2 nRoll (gRoll )
abbrev nRounds : List Str := ["script", "most", "cells", "cell"]
def gRounds (sk : Option (Addr × List Int)) : Sx → RS := (fSeq (fAsg (fSlK sk (fVar 0) fNoPart (fPart (fVar 1))) (bName 2)) (fSeq (fIfS (fTst (fOp gEq (fVar 2) (fLst fNil))) (fAsg (fLst (fCons (fC (.int 0)) fNil)) (bName 2)) fSkip) (fRet (fFz (fLc (fIt asLst (fVar 2)) (bName 3) fTrue (fCallO mDice (fCons (fVar 3) fNil)) [3])))))
def mRounds (sk : Option (Addr × List Int)) : List D → R D := autO 2 nRounds (gRounds sk)
abbrev nPoint : List Str := ["dice", "far"]
def gPoint  : Sx → RS := (fRet (fTup (fCons (fOp nSub (fCallM mRoll (fCons (fVar 0) (fCons (fOp nAdd (fOp nMul (fC (.int 2)) (fVar 1)) (fC (.int 1))) fNil))) (fVar 1)) (fCons (fOp nSub (fCallM mRoll (fCons (fVar 0) (fCons (fOp nAdd (fOp nMul (fC (.int 2)) (fVar 1)) (fC (.int 1))) fNil))) (fVar 1)) fNil))))
def mPoint : List D → Cells → R D := autM 2 nPoint (gPoint )

@[simp] theorem gAbs_s {M : Cells} {i : Int} : gAbs M [.int i] = some (.int (if i < 0 then -i else i)) := rfl
@[simp] theorem gInt_i {M : Cells} {i : Int} : gInt M [.int i] = some (.int i) := rfl
@[simp] theorem gInt_b {M : Cells} {b : Bool} : gInt M [.bl b] = some (.int (if b = true then 1 else 0)) := rfl
@[simp] theorem nMod_s {M : Cells} {i j : Int} (h : 0 < j) : nMod M (.int i) (.int j) = some (.int (i % j)) := gIc_s (by simpa using h)
@[simp] theorem nDiv_s {M : Cells} {i j : Int} (h : 0 < j) (h2 : j < 1073741824) : nDiv M (.int i) (.int j) = some (.int (i / j)) := gIc_s (by simp; omega)
@[simp] theorem nMul_r {M : Cells} {i j : Int} (h1 : -18446744073709551616 < j) (h2 : j < 18446744073709551616) : nMul M (.int i) (.int j) = some (.int (i * j)) := gIc_s (mulOk_r h1 h2)
/-- three ints -/
abbrev Tri (a b c : Int) : List D := [.int a, .int b, .int c]
@[simp] theorem nPow_s {M : Cells} {i j : Int} (h : 0 ≤ j) (h2 : j ≤ 1000000) (h3 : i.natAbs < 18446744073709551616) : nPow M (.int i) (.int j) = some (.int (i ^ j.toNat)) := gIc_s (by simp; omega)
@[simp] theorem fChain_s {g g' : Cells → D → D → Option D} {fa fb fc : Sx → R D} {s : Sx} : fChain g g' fa fb fc s = (fa s).bind fun d M1 => (fb ⟨s.ρ, M1⟩).bind fun e M2 => (opt (g M2 d e) M2).bind fun z M3 => match z with
    | .bl b => if b = true then (fc ⟨s.ρ, M3⟩).bind fun w M4 => opt (g' M4 e w) M4 else .ok (.bl false) M3
    | _ => .no := rfl
@[simp] theorem fOwnE_s {f : Sx → R (List D)} {s : Sx} : fOwnE f s = (f s).bind fun l M => .ok (.loc M.length) (M ++ [l]) := rfl
@[simp] theorem outO_rt {d : D} {ρ : List (Option D)} {M : Cells} : (RS.rt d ⟨ρ, M⟩).outO = .ok d M := rfl
@[simp] theorem ix30 : ixN 3 0 = some 0 := rfl
@[simp] theorem ix31 : ixN 3 1 = some 1 := rfl
@[simp] theorem ix32 : ixN 3 2 = some 2 := rfl
@[simp] theorem fSetIx_s {fe fo fi : Sx → R D} {s : Sx} : fSetIx fe fo fi s = (fe s).toS s.ρ fun d M1 => (fo ⟨s.ρ, M1⟩).toS s.ρ fun o M2 => (fi ⟨s.ρ, M2⟩).toS s.ρ fun i M3 => match o, i with
  | .loc n, .int j => match M3[n]? with
    | some xs => match ixN xs.length j with
      | some k => .nx ⟨s.ρ, M3.set n (xs.set k d)⟩
      | none => .no
    | none => .no
  | _, _ => .no := by
  unfold fSetIx; congr
@[simp] theorem gIx_loc {M : Cells} {n : Nat} {i : Int} : gIx M (.loc n) (.int i) = (match M[n]? with
  | some l => atI l i
  | none => none) := by
  unfold gIx seqOf
  dsimp only
  cases M[n]? <;> rfl
theorem dice_ok (c : Int) : ∃ x y z, mDice [.int c] = .ok (.loc 0) [Tri x y z] := by
  by_cases h : -10 < c
  · by_cases h2 : c < 10
    · refine ⟨if c < 0 then -c else c, 0, 2, ?_⟩
      simp (disch := omega) [mDice, autO, gDice, init0, h, h2]
    · refine ⟨c, 1 + c % 1009, if (10 : Int) ^ 18 ≤ c then 1 else 0, ?_⟩
      simp (disch := omega) [mDice, autO, gDice, init0, h, h2]
  · refine ⟨c, 1 + c % 1009, if (10 : Int) ^ 18 ≤ c then 1 else 0, ?_⟩
    simp (disch := omega) [mDice, autO, gDice, init0, h]
@[simp] theorem out1 {ρ : List (Option D)} {x y z : Int} {r : Int} : RS.out 1 (.rt (.int r) ⟨ρ, [Tri x y z]⟩) = .ok (.int r) [Tri x y z] := by
  simp [RS.out, cutM, lfs, D.lf]
@[simp] theorem out1p {ρ : List (Option D)} {x y z : Int} {r q : Int} : RS.out 1 (.rt (.tup [.int r, .int q]) ⟨ρ, [Tri x y z]⟩) = .ok (.tup [.int r, .int q]) [Tri x y z] := by
  simp [RS.out, cutM, lfs, D.lf]
theorem roll_ok {a b c many : Int} (hm : 0 < many) (hm2 : many < 1073741824) : ∃ r x y z, mRoll [.loc 0, .int many] [Tri a b c] = .ok (.int r) [Tri x y z] ∧ 0 ≤ r ∧ r < many := by
  have fin : ∀ q : Int, 0 ≤ q % many ∧ q % many < many := fun q => ⟨Int.emod_nonneg _ (by omega), Int.emod_lt_of_pos _ hm⟩
  have old : ∀ a b c, c ≠ 2 → (c = 1 → ¬ 0 < a) → mRoll [.loc 0, .int many] [Tri a b c] = .ok (.int (((a * 48271 + b * 69621 + 11) % 2147483647 / 7 + (a * 48271 + b * 69621 + 11) % 2147483647) % many)) [Tri ((a * 48271 + b * 69621 + 11) % 2147483647) (b + 1) 0] := by
    intro a b c h h1
    by_cases hc : c = 1
    · have h2 := h1 hc
      subst hc
      simp (disch := omega) [mRoll, autM, gRoll, init0, h2]
    · simp (disch := omega) [mRoll, autM, gRoll, init0, h, hc]
  by_cases h : c = 2
  · refine ⟨a % many, a / many, b, c, ?_, fin _⟩
    simp (disch := omega) [mRoll, autM, gRoll, init0, h]
  · by_cases h1 : c = 1 ∧ 0 < a
    · refine ⟨a % many, a / many, b, c, ?_, fin _⟩
      simp (disch := omega) [mRoll, autM, gRoll, init0, h1.1, h1.2]
    · exact ⟨_, _, _, _, old a b c h (fun hc ha => h1 ⟨hc, ha⟩), fin _⟩
/-- every cell a dice -/
def AllTri (M : Cells) : Prop := ∀ l ∈ M, ∃ a b c, l = Tri a b c
theorem AllTri.at {M : Cells} (h : AllTri M) {n : Nat} (hn : n < M.length) : ∃ a b c, M[n]? = some (Tri a b c) := by
  obtain ⟨a, b, c, e⟩ := h M[n] (List.getElem_mem hn)
  exact ⟨a, b, c, by rw [List.getElem?_eq_getElem hn, e]⟩
theorem AllTri.put {M : Cells} (h : AllTri M) {n : Nat} {a b c : Int} : AllTri (M.set n (Tri a b c)) := fun l hl => by
  rcases List.mem_or_eq_of_mem_set hl with z | z
  · exact h l z
  · exact ⟨a, b, c, z⟩
theorem callM_at {fM : List D → Cells → R D} {f : Sx → R (List D)} {s : Sx} {n : Nat} {M : Cells} {r : D} {rest : List D} {l l' : List D} (hf : f s = .ok (.loc n :: rest) M) (hn : M[n]? = some l) (hl : lfs l = true) (hl' : lfs l' = true) (hr : lfs rest = true) (hd : r.lf = true)
    (h : fM (.loc 0 :: rest) [l] = .ok r [l']) : fCallM fM f s = .ok r (M.set n l') := by
  unfold fCallM
  rw [hf]
  simp [hn, hl, hl', hr, h, hd]
@[simp] theorem tri_lf {a b c : Int} : lfs (Tri a b c) = true := rfl
theorem point_ok {a b c far : Int} (h1 : 0 ≤ far) (h2 : far < 500000000) : ∃ p q x y z, mPoint [.loc 0, .int far] [Tri a b c] = .ok (.tup [.int p, .int q]) [Tri x y z] ∧ -far ≤ p ∧ p ≤ far ∧ -far ≤ q ∧ q ≤ far := by
  obtain ⟨r1, x, y, z, e1, b1, b2⟩ := roll_ok (a := a) (b := b) (c := c) (many := 2 * far + 1) (by omega) (by omega)
  obtain ⟨r2, x2, y2, z2, e2, b3, b4⟩ := roll_ok (a := x) (b := y) (c := z) (many := 2 * far + 1) (by omega) (by omega)
  refine ⟨r1 - far, r2 - far, x2, y2, z2, ?_, by omega, by omega, by omega, by omega⟩
  have c1 : fCallM mRoll (fCons (fVar 0) (fCons (fOp nAdd (fOp nMul (fC (.int 2)) (fVar 1)) (fC (.int 1))) fNil)) ⟨[some (.loc 0), some (.int far)], [Tri a b c]⟩ = .ok (.int r1) [Tri x y z] :=
    callM_at (n := 0) (M := [Tri a b c]) (rest := [.int (2 * far + 1)]) (by simp (disch := omega) [init0]) rfl rfl rfl rfl rfl e1
  have c2 : fCallM mRoll (fCons (fVar 0) (fCons (fOp nAdd (fOp nMul (fC (.int 2)) (fVar 1)) (fC (.int 1))) fNil)) ⟨[some (.loc 0), some (.int far)], [Tri x y z]⟩ = .ok (.int r2) [Tri x2 y2 z2] :=
    callM_at (n := 0) (M := [Tri x y z]) (rest := [.int (2 * far + 1)]) (by simp (disch := omega) [init0]) rfl rfl rfl rfl rfl e2
  unfold mPoint autM gPoint
  show RS.out 1 (fRet _ ⟨[some (.loc 0), some (.int far)], [Tri a b c]⟩) = _
  simp [c1, c2]
/-- a list comprehension, element by element -/
theorem lcGo_all {g : D → Sx → Option Sx} {t : Sx → R Bool} {e : Sx → R D} {ρ : List (Option D)} (Pd : D → Prop) (Iv : Cells → Prop)
    (h : ∀ d M, Iv M → ∃ s1, g d ⟨ρ, M⟩ = some s1 ∧ ∃ M1, t s1 = .ok true M1 ∧ ∃ y M2, e ⟨s1.ρ, M1⟩ = .ok y M2 ∧ Pd y ∧ Iv M2) : ∀ (l : List D) (M : Cells), Iv M → ∃ ys M', fLcGo g t e ρ l M = .ok ys M' ∧ ys.length = l.length ∧ (∀ y ∈ ys, Pd y) ∧ Iv M'
  | [], M, i => ⟨[], M, rfl, rfl, (fun _ z => by cases z), i⟩
  | d :: l, M, i => by
    obtain ⟨s1, e1, M1, e2, y, M2, e3, py, i2⟩ := h d M i
    obtain ⟨ys, M', q1, q2, q3, q4⟩ := lcGo_all Pd Iv h l M2 i2
    refine ⟨y :: ys, M', ?_, by simp [q2], fun z hz => ?_, q4⟩
    · rw [fLcGo, e1]
      simp only [e2, if_true, e3, q1]
      rfl
    · rcases List.mem_cons.mp hz with z | z
      · rw [z]; exact py
      · exact q3 _ z
/-- the rounds: a list of dice -/
theorem lcGo_dice {ρ : List (Option D)} (hρ : 3 < ρ.length) : ∀ (ns : List Int) (M : Cells), AllTri M → ∃ Mb, fLcGo (bName 3) fTrue (fCallO mDice (fCons (fVar 3) fNil)) ρ (ns.map .int) M = .ok ((List.range' M.length ns.length).map .loc) (M ++ Mb) ∧ AllTri (M ++ Mb) ∧ Mb.length = ns.length
  | [], M, i => ⟨[], by simp [fLcGo], by simpa using i, rfl⟩
  | c :: ns, M, i => by
    obtain ⟨x, y, z, e⟩ := dice_ok c
    have i2 : AllTri (M ++ [Tri x y z]) := fun l hl => by
      rcases List.mem_append.mp hl with q | q
      · exact i l q
      · simp at q; exact ⟨x, y, z, q⟩
    obtain ⟨Mb, q1, q2, q3⟩ := lcGo_dice hρ ns (M ++ [Tri x y z]) i2
    refine ⟨Tri x y z :: Mb, ?_, by simpa using q2, by simp [q3]⟩
    have c1 : fCallO mDice (fCons (fVar 3) fNil) ⟨ρ.set 3 (some (.int c)), M⟩ = .ok (.loc M.length) (M ++ [Tri x y z]) := by
      unfold fCallO
      simp [hρ, e, lfs, D.lf, D.sh, shs]
    rw [List.map_cons, fLcGo]
    simp only [bName_s, fTrue, if_true, c1, q1]
    simp [List.range'_succ]
theorem rounds_ok {sk : Option (Addr × List Int)} {d : D} {ns : List Int} (h : Scr sk d ns) (hl : ns.length ≤ 63) {most : Nat} (hm : most ≤ 63) :
    ∃ Mb, mRounds sk [d, .int most] = .ok (.lst ((List.range Mb.length).map .loc)) Mb ∧ AllTri Mb := by
  have cut : gCutK sk [] d none (some (most : Int)) = some (.lst ((ns.take most).map .int)) := by
    have e : dcut (ns.map .int) none (some (most : Int)) = (ns.take most).map .int := by
      unfold dcut
      rw [HT.sIx_none, List.length_map, show HT.sIx ns.length ns.length (some (most : Int)) = min most ns.length from HT.sIx_nat ns.length ns.length most]
      simp only [List.drop_zero, Nat.sub_zero, List.map_take]
      by_cases q : most ≤ ns.length
      · rw [Nat.min_eq_left q]
      · rw [Nat.min_eq_right (by omega), List.take_of_length_le (by simp), List.take_of_length_le (by simp; omega)]
    cases h with
    | lst => show some _ = _; rw [e]
    | frz => show some _ = _; rw [e]
    | mod => show (if _ = _ then _ else _) = _; rw [if_pos rfl, e]
  have hne : ∀ l : List Int, l ≠ [] → gEq [] (.lst (l.map .int)) (.lst []) = some (.bl false) := fun l h => gEq_ne (by unfold D.cmp; exact cmps_ints l) (by unfold D.cmp; exact cmps_ints []) (by simpa using h)
  have go : ∀ l : List Int, l.length ≤ 100000 → ∃ Mb, fRet (fFz (fLc (fIt asLst (fVar 2)) (bName 3) fTrue (fCallO mDice (fCons (fVar 3) fNil)) [3])) ⟨[some d, some (.int most), some (.lst (l.map .int)), none], []⟩ = .rt (.lst ((List.range Mb.length).map .loc)) ⟨[some d, some (.int most), some (.lst (l.map .int)), none], Mb⟩ ∧ AllTri Mb := by
    intro l hl
    obtain ⟨Mb, q1, q2, q3⟩ := lcGo_dice (ρ := [some d, some (.int most), some (.lst (l.map .int)), none]) (by simp) l [] (fun _ z => by cases z)
    refine ⟨Mb, ?_, by simpa using q2⟩
    have w : wipeD [some d, some (.int (most : Int)), some (.lst (l.map .int)), none] [3] = [some d, some (.int most), some (.lst (l.map .int)), none] := rfl
    simp only [fRet_s, fFz_s, fLc, fIt_s, fVar_s, List.getElem?_cons_succ, ce0, bind_ok, asLst_s, opt_some, List.length_map, hl, if_true, w, q1]
    simp [List.range_eq_range', q3]
  have fin : ∀ l : List Int, l ≠ [] → l.length ≤ 100000 → ∃ Mb, RS.outO (fSeq (fIfS (fTst (fOp gEq (fVar 2) (fLst fNil))) (fAsg (fLst (fCons (fC (.int 0)) fNil)) (bName 2)) fSkip) (fRet (fFz (fLc (fIt asLst (fVar 2)) (bName 3) fTrue (fCallO mDice (fCons (fVar 3) fNil)) [3]))) ⟨[some d, some (.int most), some (.lst (l.map .int)), none], []⟩) = .ok (.lst ((List.range Mb.length).map .loc)) Mb ∧ AllTri Mb := by
    intro l h hl
    obtain ⟨Mb, q1, q2⟩ := go l hl
    refine ⟨Mb, ?_, q2⟩
    rw [seq_nx (s1 := ⟨[some d, some (.int most), some (.lst (l.map .int)), none], []⟩) (by simp [hne l h]), q1]
    rfl
  have hl2 : ∀ k, (ns.take k).length ≤ 100000 := fun k => by simp; omega
  have first : fAsg (fSlK sk (fVar 0) fNoPart (fPart (fVar 1))) (bName 2) ⟨init0 nRounds [d, .int most], []⟩ = .nx ⟨[some d, some (.int most), some (.lst ((ns.take most).map .int)), none], []⟩ := by
    simp [fSlK, fNoPart, fPart, init0, cut]
  unfold mRounds autO
  show ∃ Mb, RS.outO (gRounds sk _) = _ ∧ _
  unfold gRounds
  rw [seq_nx first]
  by_cases h0 : ns.take most = []
  · obtain ⟨Mb, q1, q2⟩ := go [0] (by simp)
    refine ⟨Mb, ?_, q2⟩
    rw [h0, seq_nx (s1 := ⟨[some d, some (.int most), some (.lst ([0].map .int)), none], []⟩), q1]
    · rfl
    · have e : gEq [] (.lst ([].map D.int)) (.lst []) = some (.bl true) := gEq_self (by rfl)
      simp [e]
      rfl
  · exact fin _ h0 (hl2 _)
/-! more to run -/
@[simp] theorem fAug_s {g : Cells → D → D → Option D} {i : Nat} {f : Sx → R D} {s : Sx} {d e z : D} {M : Cells} (h1 : s.ρ[i]? = some (some d)) (h2 : f s = .ok e M) (h3 : g M d e = some z) : fAug g i f s = .nx ⟨s.ρ.set i (some z), M⟩ := by
  unfold fAug
  rw [h1]
  simp [h2, h3]
theorem sorted_perm {l m : List Pt} (h : l.Perm m) : l.mergeSort lePt = m.mergeSort lePt := by
  refine List.Perm.eq_of_pairwise (le := fun a b => lePt a b = true) (fun a b _ _ h1 h2 => ?_) (List.pairwise_mergeSort ?_ ?_ l) (List.pairwise_mergeSort ?_ ?_ m) (((List.mergeSort_perm l lePt).trans h).trans (List.mergeSort_perm m lePt).symm)
  · unfold lePt at h1 h2
    simp only [decide_eq_true_eq] at h1 h2
    refine Prod.ext ?_ ?_ <;> omega
  all_goals
    intros
    unfold lePt at *
    simp only [decide_eq_true_eq, Bool.or_eq_true] at *
    omega
@[simp] theorem fSorted_tup {M : Cells} {ps : List Pt} : gSorted M [.tup (ps.map pt)] = some (.lst ((ps.mergeSort lePt).map pt)) := by
  unfold gSorted
  simp [seqOf, unPts_map]
@[simp] theorem fSorted_lst {M : Cells} {ps : List Pt} : gSorted M [.lst (ps.map pt)] = some (.lst ((ps.mergeSort lePt).map pt)) := by
  unfold gSorted
  simp [seqOf, unPts_map]
theorem pt_cmp {k : Nat} (p : Pt) : (pt p).cmp (k + 1) = true := rfl
theorem pts_cmp {k : Nat} : ∀ ps : List Pt, cmps (k + 1) (ps.map pt) = true
  | [] => by simp [cmps]
  | p :: r => by
    show cmps (k + 1) (pt p :: r.map pt) = true
    unfold cmps
    rw [pts_cmp r, pt_cmp]; rfl
/-- a loop over a list, what stands before and behind each turn -/
theorem forL_inv {g : D → Sx → Option Sx} {b : Sx → RS} (Pd : D → Prop) (Iv : Sx → Prop) (h : ∀ d s, Pd d → Iv s → ∃ s1, g d s = some s1 ∧ ∃ s2, b s1 = .nx s2 ∧ Iv s2) : ∀ (l : List D) (s : Sx), (∀ d ∈ l, Pd d) → Iv s → ∃ s', fForL g b l s = .nx s' ∧ Iv s'
  | [], s, _, i => ⟨s, by simp, i⟩
  | d :: l, s, hd, i => by
    obtain ⟨s1, e1, s2, e2, i2⟩ := h d s (hd d List.mem_cons_self) i
    obtain ⟨s', e3, i3⟩ := forL_inv Pd Iv h l s2 (fun e he => hd e (List.mem_cons_of_mem _ he)) i2
    refine ⟨s', ?_, i3⟩
    rw [fForL, e1]
    simp only [e2, e3]
theorem atI_at {α : Type} {l : List α} {k : Nat} {x : α} (h : l[k]? = some x) : atI l (k : Int) = some x := atI_nat (j := k) h
theorem lcGo_filter {i : Nat} {t : Sx → R Bool} {ρ : List (Option D)} {M : Cells} (pd : Pt → Bool) (hρ : i < ρ.length) (ht : ∀ p, t ⟨ρ.set i (some (pt p)), M⟩ = .ok (pd p) M) : ∀ ws : List Pt, fLcGo (bName i) t (fVar i) ρ (ws.map pt) M = .ok ((ws.filter pd).map pt) M
  | [] => by simp [fLcGo]
  | w :: ws => by
    have ih := lcGo_filter pd hρ ht ws
    rw [List.map_cons, fLcGo]
    simp only [bName_s, ht]
    cases h : pd w with
    | true =>
      rw [if_pos rfl]
      simp [hρ, ih, h]
    | false =>
      rw [if_neg (by simp), ih, List.filter_cons_of_neg (by simp [h])]
theorem rg_mem {lo : Int} {n : Nat} {d : D} (h : d ∈ rgList lo n) : ∃ k : Nat, k < n ∧ d = .int (lo + k) := by
  unfold rgList at h
  obtain ⟨k, h1, h2⟩ := List.mem_map.mp h
  exact ⟨k, List.mem_range.mp h1, h2.symm⟩
theorem asRg1_s {j : Nat} (h : j ≤ 1000000) : asRg1 [.int (j : Int)] = some (rgList 0 j) := by
  unfold asRg1
  have e : rgOk (j : Int) = true := by unfold rgOk; simp; omega
  simp [e]
theorem asRg2_s {i j : Nat} (h1 : i ≤ 1000000) (h : j ≤ 1000000) : asRg2 [.int (i : Int), .int (j : Int)] = some (rgList i (j - i)) := by
  unfold asRg2
  have e : rgOk (j : Int) = true := by unfold rgOk; simp; omega
  have e2 : rgOk (i : Int) = true := by unfold rgOk; simp; omega
  simp [e, e2]
@[simp] theorem fPar_s {i j : Nat} {f : Sx → R (List D)} {s : Sx} : fPar i j f s = (f s).toS s.ρ fun l M => match l with
  | [d, e] => .nx ⟨(s.ρ.set i (some d)).set j (some e), M⟩
  | _ => .no := by
  unfold fPar; congr
@[simp] theorem fIts_s {k : List D → Option (List D)} {f : Sx → R (List D)} {s : Sx} : fIts k f s = (f s).bind fun d M => opt (k d) M := rfl
theorem dEq_str {M : Cells} {x y : Str} (h1 : PyData.strOk x = true) (h2 : PyData.strOk y = true) : dEq M (.str x) (.str y) = some (x == y) := by
  unfold dEq
  have e1 : pyAt M (.str x) = some (.str x) := by unfold pyAt pyOf; rfl
  have e2 : pyAt M (.str y) = some (.str y) := by unfold pyAt pyOf; rfl
  rw [e1, e2]
  simp [SeqAt.shaped, PyData.canLay0, PyData.depth, h1, h2, PyData.eqv]
theorem gNe_str {M : Cells} {x y : Str} (h1 : PyData.strOk x = true) (h2 : PyData.strOk y = true) : gNe M (.str x) (.str y) = some (.bl (!(x == y))) := by
  unfold gNe; rw [dEq_str h1 h2]; rfl
end DL

namespace K1
open PySem PySem.Spec L2 DL
open PyProof.Rows hiding St
def topS (i : Nat) : Stmt := PySem.Challenge.pw_hullhall_k01_sides_and_ways.main.body.getD i (.Pass ⟨0, 0, 0, 0⟩)
/-- what the top has left: the built-in names, the errors' classes -/
structure Txt (K : PySem.W.Frag) (mg : Str → Option Value) : Prop where
  z_abs : mg "abs" = none
  z_bool : mg "bool" = none
  z_int : mg "int" = none
  z_isinstance : mg "isinstance" = none
  z_len : mg "len" = none
  z_max : mg "max" = none
  z_min : mg "min" = none
  z_range : mg "range" = none
  z_sorted : mg "sorted" = none
  z_tuple : mg "tuple" = none
  x_BadPoint : ExC K mg "BadPoint"
abbrev st__law_told : Stmt := topS 28
abbrev hs__law_told : List (Str × Str) := [("BadPoint", "point"), ("BadShape", "shape"), ("NoWay", "no way"), ("TooLarge", "large")]
theorem sc__law_told : FnScope ["what"] ["what"] (defScope st__law_told) := ⟨rfl, rfl, rfl, by decide +kernel, rfl, by decide +kernel, by decide +kernel⟩
theorem gv__law_told {X : Cx} {g : Addr} {cl : Str → Addr} (ZT : ToldF X.K X.mg hs__law_told cl) : ∀ cdg q, LamX.GivesTo X ["what"] "_law_told" (defScope st__law_told) g cdg (defBody st__law_told) "what" q (TTm X.K cl hs__law_told) := fun _ _ =>
  told4_gives rfl rfl rfl rfl (ZT.gl ("BadPoint", "point") List.mem_cons_self) (ZT.gl ("BadShape", "shape") (List.mem_cons_of_mem _ List.mem_cons_self)) (ZT.gl ("NoWay", "no way") (List.mem_cons_of_mem _ (List.mem_cons_of_mem _ List.mem_cons_self))) (ZT.gl ("TooLarge", "large") (List.mem_cons_of_mem _ (List.mem_cons_of_mem _ (List.mem_cons_of_mem _ List.mem_cons_self)))) rfl rfl rfl rfl (fun _ => rfl)
/-! ### check_point -/
abbrev st_check_point : Stmt := topS 7
abbrev N_check_point : List Str := ["point", "one"]
theorem sc_check_point : FnScope N_check_point ["point"] (defScope st_check_point) := ⟨rfl, rfl, rfl, by decide +kernel, rfl, by decide +kernel, by decide +kernel⟩
def g_check_point  : Sx → RS := (fSeq (fIfS (fOr (fNot (fTst (fCB gIsi (fCons (fVar 0) (fCons (fC (.ty "tuple")) fNil))))) (fTst (fOp gNe (fCB gLen (fCons (fVar 0) fNil)) (fC (.int 2))))) (fRaise "BadPoint") fSkip) (fFor (fIt asTup (fVar 0)) (bName 1) (fIfS (fOr (fNot (fTst (fCB gIsi (fCons (fVar 1) (fCons (fC (.ty "int")) fNil))))) (fOr (fTst (fCB gIsi (fCons (fVar 1) (fCons (fC (.ty "bool")) fNil)))) (fTst (fOp nGt (fCB gAbs (fCons (fVar 1) fNil)) (fC (.int 1000000)))))) (fRaise "BadPoint") fSkip)))
theorem dv_check_point {T : TPr} {P : Program} {w : World} {K : PySem.W.Frag} {mg : Str → Option Value} {base : Heap} (Z : Txt K mg)   {f : Addr} (cdv : Value) (A : Around) (outer : List Env) (s : Shared) (H : Hp) (E : XK) (hr : Room 0 (A.deeper (envOfC "check_point" (defScope st_check_point) s.heap.objs.size f cdv))) :
    PSs (cxOf (L2.CX P w) P w K mg base N_check_point "check_point" (defScope st_check_point) f cdv A outer s H E) (defBody st_check_point) (tS T mg (fun cls d _ H => E cls d H) (g_check_point )) := by
  have nd := sc_check_point.nd
  have B : Bd (cxOf (L2.CX P w) P w K mg base N_check_point "check_point" (defScope st_check_point) f cdv A outer s H E) (fun cls d _ H => E cls d H) 0 := ⟨takes_of rfl rfl rfl rfl, hr⟩
  exact (s_cons (s_if (L2.PW.pt (w_or (t_not (t_val (e_cb call_isi cd_isi rfl Z.z_isinstance boot_isinstance (a_cons (e_var 0) (a_cons (e_ty rfl Z.z_tuple boot_tuple) a_nil))))) (w_or1 (t_cmp (op_neD B.hu) od_ne (e_cb call_len_seq cd_len rfl Z.z_len boot_len (a_cons (e_var 0) a_nil)) e_int)))) (s_one (s_raiseE B Z.x_BadPoint rfl)) s_nil) (s_one (s_for (ws := [1]) (passes_of rfl) rfl (i_tup (e_var 0)) (g_name 1 nd) (s_one (s_if (L2.PW.pt (w_or (t_not (t_val (e_cb call_isi cd_isi rfl Z.z_isinstance boot_isinstance (a_cons (e_var 1) (a_cons (e_ty rfl Z.z_int boot_int) a_nil))))) (w_or (t_val (e_cb call_isi cd_isi rfl Z.z_isinstance boot_isinstance (a_cons (e_var 1) (a_cons (e_ty rfl Z.z_bool boot_bool) a_nil)))) (w_or1 (t_cmp op_gt od_gt (e_cb call_abs cd_abs rfl Z.z_abs boot_abs (a_cons (e_var 1) a_nil)) e_int))))) (s_one (s_raiseE B Z.x_BadPoint rfl)) s_nil)))))
def m_check_point : List D → Pu := aut 1 N_check_point (g_check_point )
theorem m_check_point_len : ∀ ds, m_check_point ds ≠ .no → ds.length = 1 := aut_len
/-! ### check_row -/
abbrev st_check_row : Stmt := topS 8
abbrev N_check_row : List Str := ["row", "point"]
theorem sc_check_row : FnScope N_check_row ["row"] (defScope st_check_row) := ⟨rfl, rfl, rfl, by decide +kernel, rfl, by decide +kernel, by decide +kernel⟩
def g_check_row  : Sx → RS := (fSeq (fIfS (fOr (fNot (fTst (fCB gIsi (fCons (fVar 0) (fCons (fC (.ty "tuple")) fNil))))) (fTst (fOp nGt (fCB gLen (fCons (fVar 0) fNil)) (fC (.int 400))))) (fRaise "BadPoint") fSkip) (fFor (fIt asTup (fVar 0)) (bName 1) (fDrop (fCall m_check_point (fCons (fVar 1) fNil)))))
theorem dv_check_row {T : TPr} {P : Program} {w : World} {K : PySem.W.Frag} {mg : Str → Option Value} {base : Heap} (Z : Txt K mg)  (C_check_point : Cal T P w K mg base 1 "check_point" 1 (lift m_check_point)) {f : Addr} (cdv : Value) (A : Around) (outer : List Env) (s : Shared) (H : Hp) (E : XK) (hr : Room 1 (A.deeper (envOfC "check_row" (defScope st_check_row) s.heap.objs.size f cdv))) :
    PSs (cxOf (L2.CX P w) P w K mg base N_check_row "check_row" (defScope st_check_row) f cdv A outer s H E) (defBody st_check_row) (tS T mg (fun cls d _ H => E cls d H) (g_check_row )) := by
  have nd := sc_check_row.nd
  have B : Bd (cxOf (L2.CX P w) P w K mg base N_check_row "check_row" (defScope st_check_row) f cdv A outer s H E) (fun cls d _ H => E cls d H) 1 := ⟨takes_of rfl rfl rfl rfl, hr⟩
  exact (s_cons (s_if (L2.PW.pt (w_or (t_not (t_val (e_cb call_isi cd_isi rfl Z.z_isinstance boot_isinstance (a_cons (e_var 0) (a_cons (e_ty rfl Z.z_tuple boot_tuple) a_nil))))) (w_or1 (t_cmp op_gt od_gt (e_cb call_len_seq cd_len rfl Z.z_len boot_len (a_cons (e_var 0) a_nil)) e_int)))) (s_one (s_raiseE B Z.x_BadPoint rfl)) s_nil) (s_one (s_for (ws := [1]) (passes_of rfl) rfl (i_tup (e_var 0)) (g_name 1 nd) (s_one (s_expr (e_call B (C_check_point.mono (by decide)) m_check_point_len rfl (a_cons (e_var 1) a_nil)))))))
def m_check_row : List D → Pu := aut 1 N_check_row (g_check_row )
theorem m_check_row_len : ∀ ds, m_check_row ds ≠ .no → ds.length = 1 := aut_len
/-! ### less -/
abbrev st_less : Stmt := topS 9
abbrev N_less : List Str := ["a", "b"]
theorem sc_less : FnScope N_less ["a", "b"] (defScope st_less) := ⟨rfl, rfl, rfl, by decide +kernel, rfl, by decide +kernel, by decide +kernel⟩
def g_less  : Sx → RS := (fRet (fTup (fCons (fOp nSub (fOp gIx (fVar 0) (fC (.int 0))) (fOp gIx (fVar 1) (fC (.int 0)))) (fCons (fOp nSub (fOp gIx (fVar 0) (fC (.int 1))) (fOp gIx (fVar 1) (fC (.int 1)))) fNil))))
theorem dv_less {T : TPr} {P : Program} {w : World} {K : PySem.W.Frag} {mg : Str → Option Value} {base : Heap} (Z : Txt K mg)   {f : Addr} (cdv : Value) (A : Around) (outer : List Env) (s : Shared) (H : Hp) (E : XK) (hr : Room 0 (A.deeper (envOfC "less" (defScope st_less) s.heap.objs.size f cdv))) :
    PSs (cxOf (L2.CX P w) P w K mg base N_less "less" (defScope st_less) f cdv A outer s H E) (defBody st_less) (tS T mg (fun cls d _ H => E cls d H) (g_less )) := by
  have nd := sc_less.nd
  have B : Bd (cxOf (L2.CX P w) P w K mg base N_less "less" (defScope st_less) f cdv A outer s H E) (fun cls d _ H => E cls d H) 0 := ⟨takes_of rfl rfl rfl rfl, hr⟩
  exact (s_one (s_ret (e_tup (a_cons (e_op op_sub od_sub (e_ix (e_var 0) e_int) (e_ix (e_var 1) e_int)) (a_cons (e_op op_sub od_sub (e_ix (e_var 0) e_int) (e_ix (e_var 1) e_int)) a_nil)))))
def m_less : List D → Pu := aut 2 N_less (g_less )
theorem m_less_len : ∀ ds, m_less ds ≠ .no → ds.length = 2 := aut_len
/-! ### add -/
abbrev st_add : Stmt := topS 10
abbrev N_add : List Str := ["a", "b"]
theorem sc_add : FnScope N_add ["a", "b"] (defScope st_add) := ⟨rfl, rfl, rfl, by decide +kernel, rfl, by decide +kernel, by decide +kernel⟩
def g_add  : Sx → RS := (fRet (fTup (fCons (fOp nAdd (fOp gIx (fVar 0) (fC (.int 0))) (fOp gIx (fVar 1) (fC (.int 0)))) (fCons (fOp nAdd (fOp gIx (fVar 0) (fC (.int 1))) (fOp gIx (fVar 1) (fC (.int 1)))) fNil))))
theorem dv_add {T : TPr} {P : Program} {w : World} {K : PySem.W.Frag} {mg : Str → Option Value} {base : Heap} (Z : Txt K mg)   {f : Addr} (cdv : Value) (A : Around) (outer : List Env) (s : Shared) (H : Hp) (E : XK) (hr : Room 0 (A.deeper (envOfC "add" (defScope st_add) s.heap.objs.size f cdv))) :
    PSs (cxOf (L2.CX P w) P w K mg base N_add "add" (defScope st_add) f cdv A outer s H E) (defBody st_add) (tS T mg (fun cls d _ H => E cls d H) (g_add )) := by
  have nd := sc_add.nd
  have B : Bd (cxOf (L2.CX P w) P w K mg base N_add "add" (defScope st_add) f cdv A outer s H E) (fun cls d _ H => E cls d H) 0 := ⟨takes_of rfl rfl rfl rfl, hr⟩
  exact (s_one (s_ret (e_tup (a_cons (e_op op_add od_add (e_ix (e_var 0) e_int) (e_ix (e_var 1) e_int)) (a_cons (e_op op_add od_add (e_ix (e_var 0) e_int) (e_ix (e_var 1) e_int)) a_nil)))))
def m_add : List D → Pu := aut 2 N_add (g_add )
theorem m_add_len : ∀ ds, m_add ds ≠ .no → ds.length = 2 := aut_len
/-! ### cross -/
abbrev st_cross : Stmt := topS 11
abbrev N_cross : List Str := ["u", "v"]
theorem sc_cross : FnScope N_cross ["u", "v"] (defScope st_cross) := ⟨rfl, rfl, rfl, by decide +kernel, rfl, by decide +kernel, by decide +kernel⟩
def g_cross  : Sx → RS := (fRet (fOp nSub (fOp nMul (fOp gIx (fVar 0) (fC (.int 0))) (fOp gIx (fVar 1) (fC (.int 1)))) (fOp nMul (fOp gIx (fVar 0) (fC (.int 1))) (fOp gIx (fVar 1) (fC (.int 0))))))
theorem dv_cross {T : TPr} {P : Program} {w : World} {K : PySem.W.Frag} {mg : Str → Option Value} {base : Heap} (Z : Txt K mg)   {f : Addr} (cdv : Value) (A : Around) (outer : List Env) (s : Shared) (H : Hp) (E : XK) (hr : Room 0 (A.deeper (envOfC "cross" (defScope st_cross) s.heap.objs.size f cdv))) :
    PSs (cxOf (L2.CX P w) P w K mg base N_cross "cross" (defScope st_cross) f cdv A outer s H E) (defBody st_cross) (tS T mg (fun cls d _ H => E cls d H) (g_cross )) := by
  have nd := sc_cross.nd
  have B : Bd (cxOf (L2.CX P w) P w K mg base N_cross "cross" (defScope st_cross) f cdv A outer s H E) (fun cls d _ H => E cls d H) 0 := ⟨takes_of rfl rfl rfl rfl, hr⟩
  exact (s_one (s_ret (e_op op_sub od_sub (e_op op_mul od_mul (e_ix (e_var 0) e_int) (e_ix (e_var 1) e_int)) (e_op op_mul od_mul (e_ix (e_var 0) e_int) (e_ix (e_var 1) e_int)))))
def m_cross : List D → Pu := aut 2 N_cross (g_cross )
theorem m_cross_len : ∀ ds, m_cross ds ≠ .no → ds.length = 2 := aut_len
/-! ### along -/
abbrev st_along : Stmt := topS 12
abbrev N_along : List Str := ["u", "v"]
theorem sc_along : FnScope N_along ["u", "v"] (defScope st_along) := ⟨rfl, rfl, rfl, by decide +kernel, rfl, by decide +kernel, by decide +kernel⟩
def g_along  : Sx → RS := (fRet (fOp nAdd (fOp nMul (fOp gIx (fVar 0) (fC (.int 0))) (fOp gIx (fVar 1) (fC (.int 0)))) (fOp nMul (fOp gIx (fVar 0) (fC (.int 1))) (fOp gIx (fVar 1) (fC (.int 1))))))
theorem dv_along {T : TPr} {P : Program} {w : World} {K : PySem.W.Frag} {mg : Str → Option Value} {base : Heap} (Z : Txt K mg)   {f : Addr} (cdv : Value) (A : Around) (outer : List Env) (s : Shared) (H : Hp) (E : XK) (hr : Room 0 (A.deeper (envOfC "along" (defScope st_along) s.heap.objs.size f cdv))) :
    PSs (cxOf (L2.CX P w) P w K mg base N_along "along" (defScope st_along) f cdv A outer s H E) (defBody st_along) (tS T mg (fun cls d _ H => E cls d H) (g_along )) := by
  have nd := sc_along.nd
  have B : Bd (cxOf (L2.CX P w) P w K mg base N_along "along" (defScope st_along) f cdv A outer s H E) (fun cls d _ H => E cls d H) 0 := ⟨takes_of rfl rfl rfl rfl, hr⟩
  exact (s_one (s_ret (e_op op_add od_add (e_op op_mul od_mul (e_ix (e_var 0) e_int) (e_ix (e_var 1) e_int)) (e_op op_mul od_mul (e_ix (e_var 0) e_int) (e_ix (e_var 1) e_int)))))
def m_along : List D → Pu := aut 2 N_along (g_along )
theorem m_along_len : ∀ ds, m_along ds ≠ .no → ds.length = 2 := aut_len
/-! ### turn -/
abbrev st_turn : Stmt := topS 13
abbrev N_turn : List Str := ["a", "b", "c"]
theorem sc_turn : FnScope N_turn ["a", "b", "c"] (defScope st_turn) := ⟨rfl, rfl, rfl, by decide +kernel, rfl, by decide +kernel, by decide +kernel⟩
def g_turn  : Sx → RS := (fRet (fCall m_cross (fCons (fCall m_less (fCons (fVar 1) (fCons (fVar 0) fNil))) (fCons (fCall m_less (fCons (fVar 2) (fCons (fVar 0) fNil))) fNil))))
theorem dv_turn {T : TPr} {P : Program} {w : World} {K : PySem.W.Frag} {mg : Str → Option Value} {base : Heap} (Z : Txt K mg)  (C_less : Cal T P w K mg base 1 "less" 2 (lift m_less)) (C_cross : Cal T P w K mg base 1 "cross" 2 (lift m_cross)) {f : Addr} (cdv : Value) (A : Around) (outer : List Env) (s : Shared) (H : Hp) (E : XK) (hr : Room 1 (A.deeper (envOfC "turn" (defScope st_turn) s.heap.objs.size f cdv))) :
    PSs (cxOf (L2.CX P w) P w K mg base N_turn "turn" (defScope st_turn) f cdv A outer s H E) (defBody st_turn) (tS T mg (fun cls d _ H => E cls d H) (g_turn )) := by
  have nd := sc_turn.nd
  have B : Bd (cxOf (L2.CX P w) P w K mg base N_turn "turn" (defScope st_turn) f cdv A outer s H E) (fun cls d _ H => E cls d H) 1 := ⟨takes_of rfl rfl rfl rfl, hr⟩
  exact (s_one (s_ret (e_call B (C_cross.mono (by decide)) m_cross_len rfl (a_cons (e_call B (C_less.mono (by decide)) m_less_len rfl (a_cons (e_var 1) (a_cons (e_var 0) a_nil))) (a_cons (e_call B (C_less.mono (by decide)) m_less_len rfl (a_cons (e_var 2) (a_cons (e_var 0) a_nil))) a_nil)))))
def m_turn : List D → Pu := aut 3 N_turn (g_turn )
theorem m_turn_len : ∀ ds, m_turn ds ≠ .no → ds.length = 3 := aut_len
/-! ### side -/
abbrev st_side : Stmt := topS 14
abbrev N_side : List Str := ["a", "b", "c", "found"]
theorem sc_side : FnScope N_side ["a", "b", "c"] (defScope st_side) := ⟨rfl, rfl, rfl, by decide +kernel, rfl, by decide +kernel, by decide +kernel⟩
def g_side  : Sx → RS := (fSeq (fAsg (fCall m_turn (fCons (fVar 0) (fCons (fVar 1) (fCons (fVar 2) fNil)))) (bName 3)) (fRet (fOp nSubB (fOp nGt (fVar 3) (fC (.int 0))) (fOp nLt (fVar 3) (fC (.int 0))))))
theorem dv_side {T : TPr} {P : Program} {w : World} {K : PySem.W.Frag} {mg : Str → Option Value} {base : Heap} (Z : Txt K mg)  (C_turn : Cal T P w K mg base 2 "turn" 3 (lift m_turn)) {f : Addr} (cdv : Value) (A : Around) (outer : List Env) (s : Shared) (H : Hp) (E : XK) (hr : Room 2 (A.deeper (envOfC "side" (defScope st_side) s.heap.objs.size f cdv))) :
    PSs (cxOf (L2.CX P w) P w K mg base N_side "side" (defScope st_side) f cdv A outer s H E) (defBody st_side) (tS T mg (fun cls d _ H => E cls d H) (g_side )) := by
  have nd := sc_side.nd
  have B : Bd (cxOf (L2.CX P w) P w K mg base N_side "side" (defScope st_side) f cdv A outer s H E) (fun cls d _ H => E cls d H) 2 := ⟨takes_of rfl rfl rfl rfl, hr⟩
  exact (s_cons (s_set 3 nd (e_call B (C_turn.mono (by decide)) m_turn_len rfl (a_cons (e_var 0) (a_cons (e_var 1) (a_cons (e_var 2) a_nil))))) (s_one (s_ret (e_op op_subB od_subB (e_cmp op_gt od_gt (e_var 3) e_int) (e_cmp op_lt od_lt (e_var 3) e_int)))))
def m_side : List D → Pu := aut 3 N_side (g_side )
theorem m_side_len : ∀ ds, m_side ds ≠ .no → ds.length = 3 := aut_len
/-! ### square -/
abbrev st_square : Stmt := topS 15
abbrev N_square : List Str := ["a", "b", "u"]
theorem sc_square : FnScope N_square ["a", "b"] (defScope st_square) := ⟨rfl, rfl, rfl, by decide +kernel, rfl, by decide +kernel, by decide +kernel⟩
def g_square  : Sx → RS := (fSeq (fAsg (fCall m_less (fCons (fVar 0) (fCons (fVar 1) fNil))) (bName 2)) (fRet (fCall m_along (fCons (fVar 2) (fCons (fVar 2) fNil)))))
theorem dv_square {T : TPr} {P : Program} {w : World} {K : PySem.W.Frag} {mg : Str → Option Value} {base : Heap} (Z : Txt K mg)  (C_less : Cal T P w K mg base 1 "less" 2 (lift m_less)) (C_along : Cal T P w K mg base 1 "along" 2 (lift m_along)) {f : Addr} (cdv : Value) (A : Around) (outer : List Env) (s : Shared) (H : Hp) (E : XK) (hr : Room 1 (A.deeper (envOfC "square" (defScope st_square) s.heap.objs.size f cdv))) :
    PSs (cxOf (L2.CX P w) P w K mg base N_square "square" (defScope st_square) f cdv A outer s H E) (defBody st_square) (tS T mg (fun cls d _ H => E cls d H) (g_square )) := by
  have nd := sc_square.nd
  have B : Bd (cxOf (L2.CX P w) P w K mg base N_square "square" (defScope st_square) f cdv A outer s H E) (fun cls d _ H => E cls d H) 1 := ⟨takes_of rfl rfl rfl rfl, hr⟩
  exact (s_cons (s_set 2 nd (e_call B (C_less.mono (by decide)) m_less_len rfl (a_cons (e_var 0) (a_cons (e_var 1) a_nil)))) (s_one (s_ret (e_call B (C_along.mono (by decide)) m_along_len rfl (a_cons (e_var 2) (a_cons (e_var 2) a_nil))))))
def m_square : List D → Pu := aut 2 N_square (g_square )
theorem m_square_len : ∀ ds, m_square ds ≠ .no → ds.length = 2 := aut_len
/-! ### is_between -/
abbrev st_is_between : Stmt := topS 16
abbrev N_is_between : List Str := ["a", "b", "c"]
theorem sc_is_between : FnScope N_is_between ["a", "b", "c"] (defScope st_is_between) := ⟨rfl, rfl, rfl, by decide +kernel, rfl, by decide +kernel, by decide +kernel⟩
def g_is_between  : Sx → RS := (fRet (fAndV (fOp gEq (fCall m_turn (fCons (fVar 0) (fCons (fVar 1) (fCons (fVar 2) fNil)))) (fC (.int 0))) (fOp nLe (fCall m_along (fCons (fCall m_less (fCons (fVar 0) (fCons (fVar 2) fNil))) (fCons (fCall m_less (fCons (fVar 1) (fCons (fVar 2) fNil))) fNil))) (fC (.int 0)))))
theorem dv_is_between {T : TPr} {P : Program} {w : World} {K : PySem.W.Frag} {mg : Str → Option Value} {base : Heap} (Z : Txt K mg)  (C_less : Cal T P w K mg base 1 "less" 2 (lift m_less)) (C_along : Cal T P w K mg base 1 "along" 2 (lift m_along)) (C_turn : Cal T P w K mg base 2 "turn" 3 (lift m_turn)) {f : Addr} (cdv : Value) (A : Around) (outer : List Env) (s : Shared) (H : Hp) (E : XK) (hr : Room 2 (A.deeper (envOfC "is_between" (defScope st_is_between) s.heap.objs.size f cdv))) :
    PSs (cxOf (L2.CX P w) P w K mg base N_is_between "is_between" (defScope st_is_between) f cdv A outer s H E) (defBody st_is_between) (tS T mg (fun cls d _ H => E cls d H) (g_is_between )) := by
  have nd := sc_is_between.nd
  have B : Bd (cxOf (L2.CX P w) P w K mg base N_is_between "is_between" (defScope st_is_between) f cdv A outer s H E) (fun cls d _ H => E cls d H) 2 := ⟨takes_of rfl rfl rfl rfl, hr⟩
  exact (s_one (s_ret (e_and (e_cmp (op_eqD B.hu) od_eq (e_call B (C_turn.mono (by decide)) m_turn_len rfl (a_cons (e_var 0) (a_cons (e_var 1) (a_cons (e_var 2) a_nil)))) e_int) (e_one (e_cmp op_le od_le (e_call B (C_along.mono (by decide)) m_along_len rfl (a_cons (e_call B (C_less.mono (by decide)) m_less_len rfl (a_cons (e_var 0) (a_cons (e_var 2) a_nil))) (a_cons (e_call B (C_less.mono (by decide)) m_less_len rfl (a_cons (e_var 1) (a_cons (e_var 2) a_nil))) a_nil))) e_int)))))
def m_is_between : List D → Pu := aut 3 N_is_between (g_is_between )
theorem m_is_between_len : ∀ ds, m_is_between ds ≠ .no → ds.length = 3 := aut_len
/-! ### half -/
abbrev st_half : Stmt := topS 17
abbrev N_half : List Str := ["u"]
theorem sc_half : FnScope N_half ["u"] (defScope st_half) := ⟨rfl, rfl, rfl, by decide +kernel, rfl, by decide +kernel, by decide +kernel⟩
def g_half  : Sx → RS := (fRet (fIf (fOr (fTst (fOp nGt (fOp gIx (fVar 0) (fC (.int 1))) (fC (.int 0)))) (fAnd (fTst (fOp gEq (fOp gIx (fVar 0) (fC (.int 1))) (fC (.int 0)))) (fTst (fOp nGt (fOp gIx (fVar 0) (fC (.int 0))) (fC (.int 0)))))) (fC (.int 0)) (fC (.int 1))))
theorem dv_half {T : TPr} {P : Program} {w : World} {K : PySem.W.Frag} {mg : Str → Option Value} {base : Heap} (Z : Txt K mg)   {f : Addr} (cdv : Value) (A : Around) (outer : List Env) (s : Shared) (H : Hp) (E : XK) (hr : Room 0 (A.deeper (envOfC "half" (defScope st_half) s.heap.objs.size f cdv))) :
    PSs (cxOf (L2.CX P w) P w K mg base N_half "half" (defScope st_half) f cdv A outer s H E) (defBody st_half) (tS T mg (fun cls d _ H => E cls d H) (g_half )) := by
  have nd := sc_half.nd
  have B : Bd (cxOf (L2.CX P w) P w K mg base N_half "half" (defScope st_half) f cdv A outer s H E) (fun cls d _ H => E cls d H) 0 := ⟨takes_of rfl rfl rfl rfl, hr⟩
  exact (s_one (s_ret (e_if (L2.PW.pt (w_or (t_cmp op_gt od_gt (e_ix (e_var 0) e_int) e_int) (w_or1 (L2.PW.pt (w_and (t_cmp (op_eqD B.hu) od_eq (e_ix (e_var 0) e_int) e_int) (w_and1 (t_cmp op_gt od_gt (e_ix (e_var 0) e_int) e_int))))))) e_int e_int)))
def m_half : List D → Pu := aut 1 N_half (g_half )
theorem m_half_len : ∀ ds, m_half ds ≠ .no → ds.length = 1 := aut_len
/-! ### comes_ahead -/
abbrev st_comes_ahead : Stmt := topS 18
abbrev N_comes_ahead : List Str := ["u", "v"]
theorem sc_comes_ahead : FnScope N_comes_ahead ["u", "v"] (defScope st_comes_ahead) := ⟨rfl, rfl, rfl, by decide +kernel, rfl, by decide +kernel, by decide +kernel⟩
def g_comes_ahead  : Sx → RS := (fSeq (fIfS (fTst (fOp gNe (fCall m_half (fCons (fVar 0) fNil)) (fCall m_half (fCons (fVar 1) fNil)))) (fRet (fOp nLt (fCall m_half (fCons (fVar 0) fNil)) (fCall m_half (fCons (fVar 1) fNil)))) fSkip) (fRet (fOp nGt (fCall m_cross (fCons (fVar 0) (fCons (fVar 1) fNil))) (fC (.int 0)))))
theorem dv_comes_ahead {T : TPr} {P : Program} {w : World} {K : PySem.W.Frag} {mg : Str → Option Value} {base : Heap} (Z : Txt K mg)  (C_cross : Cal T P w K mg base 1 "cross" 2 (lift m_cross)) (C_half : Cal T P w K mg base 1 "half" 1 (lift m_half)) {f : Addr} (cdv : Value) (A : Around) (outer : List Env) (s : Shared) (H : Hp) (E : XK) (hr : Room 1 (A.deeper (envOfC "comes_ahead" (defScope st_comes_ahead) s.heap.objs.size f cdv))) :
    PSs (cxOf (L2.CX P w) P w K mg base N_comes_ahead "comes_ahead" (defScope st_comes_ahead) f cdv A outer s H E) (defBody st_comes_ahead) (tS T mg (fun cls d _ H => E cls d H) (g_comes_ahead )) := by
  have nd := sc_comes_ahead.nd
  have B : Bd (cxOf (L2.CX P w) P w K mg base N_comes_ahead "comes_ahead" (defScope st_comes_ahead) f cdv A outer s H E) (fun cls d _ H => E cls d H) 1 := ⟨takes_of rfl rfl rfl rfl, hr⟩
  exact (s_cons (s_if (t_cmp (op_neD B.hu) od_ne (e_call B (C_half.mono (by decide)) m_half_len rfl (a_cons (e_var 0) a_nil)) (e_call B (C_half.mono (by decide)) m_half_len rfl (a_cons (e_var 1) a_nil))) (s_one (s_ret (e_cmp op_lt od_lt (e_call B (C_half.mono (by decide)) m_half_len rfl (a_cons (e_var 0) a_nil)) (e_call B (C_half.mono (by decide)) m_half_len rfl (a_cons (e_var 1) a_nil))))) s_nil) (s_one (s_ret (e_cmp op_gt od_gt (e_call B (C_cross.mono (by decide)) m_cross_len rfl (a_cons (e_var 0) (a_cons (e_var 1) a_nil))) e_int))))
def m_comes_ahead : List D → Pu := aut 2 N_comes_ahead (g_comes_ahead )
theorem m_comes_ahead_len : ∀ ds, m_comes_ahead ds ≠ .no → ds.length = 2 := aut_len
/-! ### is_behind -/
abbrev st_is_behind : Stmt := topS 20
abbrev N_is_behind : List Str := ["u", "v"]
theorem sc_is_behind : FnScope N_is_behind ["u", "v"] (defScope st_is_behind) := ⟨rfl, rfl, rfl, by decide +kernel, rfl, by decide +kernel, by decide +kernel⟩
def g_is_behind  : Sx → RS := (fSeq (fIfS (fAnd (fTst (fOp gEq (fCall m_half (fCons (fVar 0) fNil)) (fCall m_half (fCons (fVar 1) fNil)))) (fTst (fOp gEq (fCall m_cross (fCons (fVar 0) (fCons (fVar 1) fNil))) (fC (.int 0))))) (fRet (fOp nGt (fCall m_along (fCons (fVar 0) (fCons (fVar 0) fNil))) (fCall m_along (fCons (fVar 1) (fCons (fVar 1) fNil))))) fSkip) (fRet (fCall m_comes_ahead (fCons (fVar 1) (fCons (fVar 0) fNil)))))
theorem dv_is_behind {T : TPr} {P : Program} {w : World} {K : PySem.W.Frag} {mg : Str → Option Value} {base : Heap} (Z : Txt K mg)  (C_cross : Cal T P w K mg base 1 "cross" 2 (lift m_cross)) (C_along : Cal T P w K mg base 1 "along" 2 (lift m_along)) (C_half : Cal T P w K mg base 1 "half" 1 (lift m_half)) (C_comes_ahead : Cal T P w K mg base 2 "comes_ahead" 2 (lift m_comes_ahead)) {f : Addr} (cdv : Value) (A : Around) (outer : List Env) (s : Shared) (H : Hp) (E : XK) (hr : Room 2 (A.deeper (envOfC "is_behind" (defScope st_is_behind) s.heap.objs.size f cdv))) :
    PSs (cxOf (L2.CX P w) P w K mg base N_is_behind "is_behind" (defScope st_is_behind) f cdv A outer s H E) (defBody st_is_behind) (tS T mg (fun cls d _ H => E cls d H) (g_is_behind )) := by
  have nd := sc_is_behind.nd
  have B : Bd (cxOf (L2.CX P w) P w K mg base N_is_behind "is_behind" (defScope st_is_behind) f cdv A outer s H E) (fun cls d _ H => E cls d H) 2 := ⟨takes_of rfl rfl rfl rfl, hr⟩
  exact (s_cons (s_if (L2.PW.pt (w_and (t_cmp (op_eqD B.hu) od_eq (e_call B (C_half.mono (by decide)) m_half_len rfl (a_cons (e_var 0) a_nil)) (e_call B (C_half.mono (by decide)) m_half_len rfl (a_cons (e_var 1) a_nil))) (w_and1 (t_cmp (op_eqD B.hu) od_eq (e_call B (C_cross.mono (by decide)) m_cross_len rfl (a_cons (e_var 0) (a_cons (e_var 1) a_nil))) e_int)))) (s_one (s_ret (e_cmp op_gt od_gt (e_call B (C_along.mono (by decide)) m_along_len rfl (a_cons (e_var 0) (a_cons (e_var 0) a_nil))) (e_call B (C_along.mono (by decide)) m_along_len rfl (a_cons (e_var 1) (a_cons (e_var 1) a_nil)))))) s_nil) (s_one (s_ret (e_call B (C_comes_ahead.mono (by decide)) m_comes_ahead_len rfl (a_cons (e_var 1) (a_cons (e_var 0) a_nil))))))
def m_is_behind : List D → Pu := aut 2 N_is_behind (g_is_behind )
theorem m_is_behind_len : ∀ ds, m_is_behind ds ≠ .no → ds.length = 2 := aut_len
/-! ### by_turns -/
abbrev st_by_turns : Stmt := topS 19
abbrev N_by_turns : List Str := ["ways", "found", "one", "k"]
theorem sc_by_turns : FnScope N_by_turns ["ways"] (defScope st_by_turns) := ⟨rfl, rfl, rfl, by decide +kernel, rfl, by decide +kernel, by decide +kernel⟩
def g_by_turns (n1 : Nat) : Sx → RS := (fSeq (fOwn 1 (fNew fNil)) (fSeq (fFor (fIt asLst (fVar 0)) (bName 2) (fIfS (fTst (fOp gNe (fVar 2) (fTup (fCons (fC (.int 0)) (fCons (fC (.int 0)) fNil))))) (fSeq (fAsg (fC (.int 0)) (bName 3)) (fSeq (fWhile (fAnd (fTst (fOp nLt (fVar 3) (fCB gLen (fCons (fVar 1) fNil)))) (fTst (fCall m_is_behind (fCons (fVar 2) (fCons (fOp gIx (fVar 1) (fVar 3)) fNil))))) (fAug nAdd 3 (fC (.int 1))) n1) (fDrop (fMt gInsert (fVar 1) (fCons (fVar 3) (fCons (fVar 2) fNil)))))) fSkip)) (fRet (fCB gTupOf (fCons (fVar 1) fNil)))))
theorem dv_by_turns {T : TPr} {P : Program} {w : World} {K : PySem.W.Frag} {mg : Str → Option Value} {base : Heap} (Z : Txt K mg) (n1 : Nat) (C_is_behind : Cal T P w K mg base 3 "is_behind" 2 (lift m_is_behind)) {f : Addr} (cdv : Value) (A : Around) (outer : List Env) (s : Shared) (H : Hp) (E : XK) (hr : Room 3 (A.deeper (envOfC "by_turns" (defScope st_by_turns) s.heap.objs.size f cdv))) :
    PSs (cxOf (L2.CX P w) P w K mg base N_by_turns "by_turns" (defScope st_by_turns) f cdv A outer s H E) (defBody st_by_turns) (tS T mg (fun cls d _ H => E cls d H) (g_by_turns n1)) := by
  have nd := sc_by_turns.nd
  have B : Bd (cxOf (L2.CX P w) P w K mg base N_by_turns "by_turns" (defScope st_by_turns) f cdv A outer s H E) (fun cls d _ H => E cls d H) 3 := ⟨takes_of rfl rfl rfl rfl, hr⟩
  exact (s_cons (s_own 1 nd (f_lst a_nil)) (s_cons (s_for (ws := [2]) (passes_of rfl) rfl (i_lst (e_var 0)) (g_name 2 nd) (s_one (s_if (t_cmp (op_neD B.hu) od_ne (e_var 2) (e_tup (a_cons e_int (a_cons e_int a_nil)))) (s_cons (s_set 3 nd e_int) (s_cons (s_while n1 (passes_of rfl) (L2.PW.pt (w_and (t_cmp op_lt od_lt (e_var 3) (e_cb call_len_seq cd_len rfl Z.z_len boot_len (a_cons (e_var 1) a_nil))) (w_and1 (t_val (e_call B (C_is_behind.mono (by decide)) m_is_behind_len rfl (a_cons (e_var 2) (a_cons (e_ix (e_var 1) (e_var 3)) a_nil))))))) (s_one (s_aug 3 nd e_int ip_add od_ipadd))) (s_one (s_expr (e_mt PySem.F.slot_list_insert PySem.F.type_list_insert mt_insert md_insert (e_var 1) (a_cons (e_var 3) (a_cons (e_var 2) a_nil))))))) s_nil))) (s_one (s_ret (e_ct call_tuple_of cd_tupOf rfl Z.z_tuple boot_tuple (a_cons (e_var 1) a_nil))))))
def m_by_turns : List D → Pu := aut 1 N_by_turns (g_by_turns 1000)
theorem m_by_turns_len : ∀ ds, m_by_turns ds ≠ .no → ds.length = 1 := aut_len
/-! ### moved -/
abbrev st_moved : Stmt := topS 21
abbrev N_moved : List Str := ["row", "way", "point"]
theorem sc_moved : FnScope N_moved ["row", "way"] (defScope st_moved) := ⟨rfl, rfl, rfl, by decide +kernel, rfl, by decide +kernel, by decide +kernel⟩
def g_moved  : Sx → RS := (fRet (fCB gTupOf (fCons (fFz (fLc (fIt asTup (fVar 0)) (bName 2) fTrue (fCall m_add (fCons (fVar 2) (fCons (fVar 1) fNil))) [2])) fNil)))
theorem dv_moved {T : TPr} {P : Program} {w : World} {K : PySem.W.Frag} {mg : Str → Option Value} {base : Heap} (Z : Txt K mg)  (C_add : Cal T P w K mg base 1 "add" 2 (lift m_add)) {f : Addr} (cdv : Value) (A : Around) (outer : List Env) (s : Shared) (H : Hp) (E : XK) (hr : Room 1 (A.deeper (envOfC "moved" (defScope st_moved) s.heap.objs.size f cdv))) :
    PSs (cxOf (L2.CX P w) P w K mg base N_moved "moved" (defScope st_moved) f cdv A outer s H E) (defBody st_moved) (tS T mg (fun cls d _ H => E cls d H) (g_moved )) := by
  have nd := sc_moved.nd
  have B : Bd (cxOf (L2.CX P w) P w K mg base N_moved "moved" (defScope st_moved) f cdv A outer s H E) (fun cls d _ H => E cls d H) 1 := ⟨takes_of rfl rfl rfl rfl, hr⟩
  exact (s_one (s_ret (e_ct call_tuple_of cd_tupOf rfl Z.z_tuple boot_tuple (a_cons (e_fz (f_lc (own := [("point", 2)]) rfl nd (i_tup (e_var 0)) (blkOk_by (N := N_moved) (sc := defScope st_moved) (by decide +kernel)) (fun _ _ _ _ _ => (g_name 2 nd)) (fun _ _ _ _ _ => ts_nil) (fun _ _ _ _ _ => (e_call B.blk (C_add.mono (by decide)) m_add_len rfl (a_cons (e_var 2) (a_cons (e_var 1) a_nil)))))) a_nil))))
def m_moved : List D → Pu := aut 2 N_moved (g_moved )
theorem m_moved_len : ∀ ds, m_moved ds ≠ .no → ds.length = 2 := aut_len
/-! ### quarter -/
abbrev st_quarter : Stmt := topS 22
abbrev N_quarter : List Str := ["row", "x", "y"]
theorem sc_quarter : FnScope N_quarter ["row"] (defScope st_quarter) := ⟨rfl, rfl, rfl, by decide +kernel, rfl, by decide +kernel, by decide +kernel⟩
def g_quarter  : Sx → RS := (fRet (fCB gTupOf (fCons (fFz (fLc (fIt asTup (fVar 0)) (bTup 2 (bCons (bName 1) (bCons (bName 2) bNil))) fTrue (fTup (fCons (fUn nNeg (fVar 2)) (fCons (fVar 1) fNil))) [1, 2])) fNil)))
theorem dv_quarter {T : TPr} {P : Program} {w : World} {K : PySem.W.Frag} {mg : Str → Option Value} {base : Heap} (Z : Txt K mg)   {f : Addr} (cdv : Value) (A : Around) (outer : List Env) (s : Shared) (H : Hp) (E : XK) (hr : Room 0 (A.deeper (envOfC "quarter" (defScope st_quarter) s.heap.objs.size f cdv))) :
    PSs (cxOf (L2.CX P w) P w K mg base N_quarter "quarter" (defScope st_quarter) f cdv A outer s H E) (defBody st_quarter) (tS T mg (fun cls d _ H => E cls d H) (g_quarter )) := by
  have nd := sc_quarter.nd
  have B : Bd (cxOf (L2.CX P w) P w K mg base N_quarter "quarter" (defScope st_quarter) f cdv A outer s H E) (fun cls d _ H => E cls d H) 0 := ⟨takes_of rfl rfl rfl rfl, hr⟩
  exact (s_one (s_ret (e_ct call_tuple_of cd_tupOf rfl Z.z_tuple boot_tuple (a_cons (e_fz (f_lc (own := [("x", 1), ("y", 2)]) rfl nd (i_tup (e_var 0)) (blkOk_by (N := N_quarter) (sc := defScope st_quarter) (by decide +kernel)) (fun _ _ _ _ _ => (g_tup rfl (gs_cons (g_name 1 nd) (gs_cons (g_name 2 nd) gs_nil)))) (fun _ _ _ _ _ => ts_nil) (fun _ _ _ _ _ => (e_tup (a_cons (e_un un_neg ud_neg (e_var 2)) (a_cons (e_var 1) a_nil)))))) a_nil))))
def m_quarter : List D → Pu := aut 1 N_quarter (g_quarter )
theorem m_quarter_len : ∀ ds, m_quarter ds ≠ .no → ds.length = 1 := aut_len
/-! ### mirrored -/
abbrev st_mirrored : Stmt := topS 23
abbrev N_mirrored : List Str := ["row", "x", "y"]
theorem sc_mirrored : FnScope N_mirrored ["row"] (defScope st_mirrored) := ⟨rfl, rfl, rfl, by decide +kernel, rfl, by decide +kernel, by decide +kernel⟩
def g_mirrored  : Sx → RS := (fRet (fCB gTupOf (fCons (fFz (fLc (fIt asTup (fVar 0)) (bTup 2 (bCons (bName 1) (bCons (bName 2) bNil))) fTrue (fTup (fCons (fUn nNeg (fVar 1)) (fCons (fVar 2) fNil))) [1, 2])) fNil)))
theorem dv_mirrored {T : TPr} {P : Program} {w : World} {K : PySem.W.Frag} {mg : Str → Option Value} {base : Heap} (Z : Txt K mg)   {f : Addr} (cdv : Value) (A : Around) (outer : List Env) (s : Shared) (H : Hp) (E : XK) (hr : Room 0 (A.deeper (envOfC "mirrored" (defScope st_mirrored) s.heap.objs.size f cdv))) :
    PSs (cxOf (L2.CX P w) P w K mg base N_mirrored "mirrored" (defScope st_mirrored) f cdv A outer s H E) (defBody st_mirrored) (tS T mg (fun cls d _ H => E cls d H) (g_mirrored )) := by
  have nd := sc_mirrored.nd
  have B : Bd (cxOf (L2.CX P w) P w K mg base N_mirrored "mirrored" (defScope st_mirrored) f cdv A outer s H E) (fun cls d _ H => E cls d H) 0 := ⟨takes_of rfl rfl rfl rfl, hr⟩
  exact (s_one (s_ret (e_ct call_tuple_of cd_tupOf rfl Z.z_tuple boot_tuple (a_cons (e_fz (f_lc (own := [("x", 1), ("y", 2)]) rfl nd (i_tup (e_var 0)) (blkOk_by (N := N_mirrored) (sc := defScope st_mirrored) (by decide +kernel)) (fun _ _ _ _ _ => (g_tup rfl (gs_cons (g_name 1 nd) (gs_cons (g_name 2 nd) gs_nil)))) (fun _ _ _ _ _ => ts_nil) (fun _ _ _ _ _ => (e_tup (a_cons (e_un un_neg ud_neg (e_var 1)) (a_cons (e_var 2) a_nil)))))) a_nil))))
def m_mirrored : List D → Pu := aut 1 N_mirrored (g_mirrored )
theorem m_mirrored_len : ∀ ds, m_mirrored ds ≠ .no → ds.length = 1 := aut_len
/-! ### _law_dice -/
abbrev st__law_dice : Stmt := topS 25
abbrev N__law_dice : List Str := ["cell"]
theorem sc__law_dice : FnScope N__law_dice ["cell"] (defScope st__law_dice) := ⟨rfl, rfl, rfl, by decide +kernel, rfl, by decide +kernel, by decide +kernel⟩
def g__law_dice  : Sx → RS := (fSeq (fIfS (fTst (fChain nLt nLt (fOp nSub (fC (.int 0)) (fC (.int 10))) (fVar 0) (fC (.int 10)))) (fRet (fOwnE (fNew (fCons (fCB gAbs (fCons (fVar 0) fNil)) (fCons (fC (.int 0)) (fCons (fC (.int 2)) fNil)))))) fSkip) (fRet (fOwnE (fNew (fCons (fVar 0) (fCons (fOp nAdd (fC (.int 1)) (fOp nMod (fCB gInt (fCons (fVar 0) fNil)) (fC (.int 1009)))) (fCons (fCB gInt (fCons (fOp nGe (fVar 0) (fOp nPow (fC (.int 10)) (fC (.int 18)))) fNil)) fNil)))))))
theorem dv__law_dice {T : TPr} {P : Program} {w : World} {K : PySem.W.Frag} {mg : Str → Option Value} {base : Heap} (Z : Txt K mg)   {f : Addr} (cdv : Value) (A : Around) (outer : List Env) (s : Shared) (H : Hp) (E : XK) (hr : Room 0 (A.deeper (envOfC "_law_dice" (defScope st__law_dice) s.heap.objs.size f cdv))) :
    PSs (cxOf (L2.CX P w) P w K mg base N__law_dice "_law_dice" (defScope st__law_dice) f cdv A outer s H E) (defBody st__law_dice) (tS T mg (fun cls d _ H => E cls d H) (g__law_dice )) := by
  have nd := sc__law_dice.nd
  have B : Bd (cxOf (L2.CX P w) P w K mg base N__law_dice "_law_dice" (defScope st__law_dice) f cdv A outer s H E) (fun cls d _ H => E cls d H) 0 := ⟨takes_of rfl rfl rfl rfl, hr⟩
  exact (s_cons (s_if (t_chain op_lt od_lt op_lt od_lt (e_op op_sub od_sub e_int e_int) (e_var 0) e_int) (s_one (s_ret (e_ownE (f_lst (a_cons (e_cb call_abs cd_abs rfl Z.z_abs boot_abs (a_cons (e_var 0) a_nil)) (a_cons e_int (a_cons e_int a_nil))))))) s_nil) (s_one (s_ret (e_ownE (f_lst (a_cons (e_var 0) (a_cons (e_op op_add od_add e_int (e_op op_mod od_mod (e_ct call_int1 cd_int rfl Z.z_int boot_int (a_cons (e_var 0) a_nil)) e_int)) (a_cons (e_ct call_int1 cd_int rfl Z.z_int boot_int (a_cons (e_cmp op_ge od_ge (e_var 0) (e_op op_pow od_pow e_int e_int)) a_nil)) a_nil))))))))
def m__law_dice : List D → R D := autO 1 N__law_dice (g__law_dice )
theorem m__law_dice_len : ∀ ds, m__law_dice ds ≠ .no → ds.length = 1 := autO_len
/-! ### _law_roll -/
abbrev st__law_roll : Stmt := topS 26
abbrev N__law_roll : List Str := ["dice", "many", "found"]
theorem sc__law_roll : FnScope N__law_roll ["dice", "many"] (defScope st__law_roll) := ⟨rfl, rfl, rfl, by decide +kernel, rfl, by decide +kernel, by decide +kernel⟩
def g__law_roll  : Sx → RS := (fSeq (fIfS (fOr (fTst (fOp gEq (fOp gIx (fVar 0) (fC (.int 2))) (fC (.int 2)))) (fAnd (fTst (fOp gEq (fOp gIx (fVar 0) (fC (.int 2))) (fC (.int 1)))) (fTst (fOp nGt (fOp gIx (fVar 0) (fC (.int 0))) (fC (.int 0)))))) (fSeq (fAsg (fOp nMod (fCB gInt (fCons (fOp gIx (fVar 0) (fC (.int 0))) fNil)) (fVar 1)) (bName 2)) (fSeq (fSetIx (fOp nDiv (fOp gIx (fVar 0) (fC (.int 0))) (fVar 1)) (fVar 0) (fC (.int 0))) (fRet (fVar 2)))) fSkip) (fSeq (fSetIx (fC (.int 0)) (fVar 0) (fC (.int 2))) (fSeq (fSetIx (fOp nMod (fCB gInt (fCons (fOp nAdd (fOp nAdd (fOp nMul (fOp gIx (fVar 0) (fC (.int 0))) (fC (.int 48271))) (fOp nMul (fOp gIx (fVar 0) (fC (.int 1))) (fC (.int 69621)))) (fC (.int 11))) fNil)) (fC (.int 2147483647))) (fVar 0) (fC (.int 0))) (fSeq (fSetIx (fOp nAdd (fOp gIx (fVar 0) (fC (.int 1))) (fC (.int 1))) (fVar 0) (fC (.int 1))) (fRet (fOp nMod (fCB gInt (fCons (fOp nAdd (fOp nDiv (fOp gIx (fVar 0) (fC (.int 0))) (fC (.int 7))) (fOp gIx (fVar 0) (fC (.int 0)))) fNil)) (fVar 1)))))))
theorem dv__law_roll {T : TPr} {P : Program} {w : World} {K : PySem.W.Frag} {mg : Str → Option Value} {base : Heap} (Z : Txt K mg)   {f : Addr} (cdv : Value) (A : Around) (outer : List Env) (s : Shared) (H : Hp) (E : XK) (hr : Room 0 (A.deeper (envOfC "_law_roll" (defScope st__law_roll) s.heap.objs.size f cdv))) :
    PSs (cxOf (L2.CX P w) P w K mg base N__law_roll "_law_roll" (defScope st__law_roll) f cdv A outer s H E) (defBody st__law_roll) (tS T mg (fun cls d _ H => E cls d H) (g__law_roll )) := by
  have nd := sc__law_roll.nd
  have B : Bd (cxOf (L2.CX P w) P w K mg base N__law_roll "_law_roll" (defScope st__law_roll) f cdv A outer s H E) (fun cls d _ H => E cls d H) 0 := ⟨takes_of rfl rfl rfl rfl, hr⟩
  exact (s_cons (s_if (L2.PW.pt (w_or (t_cmp (op_eqD B.hu) od_eq (e_ix (e_var 0) e_int) e_int) (w_or1 (L2.PW.pt (w_and (t_cmp (op_eqD B.hu) od_eq (e_ix (e_var 0) e_int) e_int) (w_and1 (t_cmp op_gt od_gt (e_ix (e_var 0) e_int) e_int))))))) (s_cons (s_set 2 nd (e_op op_mod od_mod (e_ct call_int1 cd_int rfl Z.z_int boot_int (a_cons (e_ix (e_var 0) e_int) a_nil)) (e_var 1))) (s_cons (s_setIx (e_op op_fdiv od_div (e_ix (e_var 0) e_int) (e_var 1)) (e_var 0) e_int) (s_one (s_ret (e_var 2))))) s_nil) (s_cons (s_setIx e_int (e_var 0) e_int) (s_cons (s_setIx (e_op op_mod od_mod (e_ct call_int1 cd_int rfl Z.z_int boot_int (a_cons (e_op op_add od_add (e_op op_add od_add (e_op op_mul od_mul (e_ix (e_var 0) e_int) e_int) (e_op op_mul od_mul (e_ix (e_var 0) e_int) e_int)) e_int) a_nil)) e_int) (e_var 0) e_int) (s_cons (s_setIx (e_op op_add od_add (e_ix (e_var 0) e_int) e_int) (e_var 0) e_int) (s_one (s_ret (e_op op_mod od_mod (e_ct call_int1 cd_int rfl Z.z_int boot_int (a_cons (e_op op_add od_add (e_op op_fdiv od_div (e_ix (e_var 0) e_int) e_int) (e_ix (e_var 0) e_int)) a_nil)) (e_var 1))))))))
def m__law_roll : List D → Cells → R D := autM 2 N__law_roll (g__law_roll )
theorem m__law_roll_len : ∀ ds M, m__law_roll ds M ≠ .no → ds.length = 2 := autM_len
/-! ### _law_rounds -/
abbrev st__law_rounds : Stmt := topS 27
abbrev N__law_rounds : List Str := ["script", "most", "cells", "cell"]
theorem sc__law_rounds : FnScope N__law_rounds ["script", "most"] (defScope st__law_rounds) := ⟨rfl, rfl, rfl, by decide +kernel, rfl, by decide +kernel, by decide +kernel⟩
def g__law_rounds (sk : Option (Addr × List Int)) : Sx → RS := (fSeq (fAsg (fSlK sk (fVar 0) fNoPart (fPart (fVar 1))) (bName 2)) (fSeq (fIfS (fTst (fOp gEq (fVar 2) (fLst fNil))) (fAsg (fLst (fCons (fC (.int 0)) fNil)) (bName 2)) fSkip) (fRet (fFz (fLc (fIt asLst (fVar 2)) (bName 3) fTrue (fCallO m__law_dice (fCons (fVar 3) fNil)) [3])))))
theorem dv__law_rounds {T : TPr} {P : Program} {w : World} {K : PySem.W.Frag} {mg : Str → Option Value} {base : Heap} (Z : Txt K mg) (sk : Option (Addr × List Int)) (C__law_dice : CalO T P w K mg base 1 "_law_dice" 1 m__law_dice) (hk : KSt K sk) {f : Addr} (cdv : Value) (A : Around) (outer : List Env) (s : Shared) (H : Hp) (E : XK) (hr : Room 1 (A.deeper (envOfC "_law_rounds" (defScope st__law_rounds) s.heap.objs.size f cdv))) :
    PSs (cxOf (L2.CX P w) P w K mg base N__law_rounds "_law_rounds" (defScope st__law_rounds) f cdv A outer s H E) (defBody st__law_rounds) (tS T mg (fun cls d _ H => E cls d H) (g__law_rounds sk)) := by
  have nd := sc__law_rounds.nd
  have B : Bd (cxOf (L2.CX P w) P w K mg base N__law_rounds "_law_rounds" (defScope st__law_rounds) f cdv A outer s H E) (fun cls d _ H => E cls d H) 1 := ⟨takes_of rfl rfl rfl rfl, hr⟩
  exact (s_cons (s_set 2 nd (e_slK hk (e_var 0) o_no (o_some (e_var 1)))) (s_cons (s_if (t_cmp (op_eqD B.hu) od_eq (e_var 2) (e_lst a_nil)) (s_one (s_set 2 nd (e_lst (a_cons e_int a_nil)))) s_nil) (s_one (s_ret (e_fz (f_lc (own := [("cell", 3)]) rfl nd (i_lst (e_var 2)) (blkOk_by (N := N__law_rounds) (sc := defScope st__law_rounds) (by decide +kernel)) (fun _ _ _ _ _ => (g_name 3 nd)) (fun _ _ _ _ _ => ts_nil) (fun _ _ _ _ _ => (e_callO B.blk (C__law_dice.mono (by decide)) (m__law_dice_len) rfl (a_cons (e_var 3) a_nil)))))))))
def m__law_rounds (sk : Option (Addr × List Int)) : List D → R D := autO 2 N__law_rounds (g__law_rounds sk)
theorem m__law_rounds_len (sk : Option (Addr × List Int)) : ∀ ds, (m__law_rounds sk) ds ≠ .no → ds.length = 2 := autO_len
/-! ### _law_point -/
abbrev st__law_point : Stmt := topS 29
abbrev N__law_point : List Str := ["dice", "far"]
theorem sc__law_point : FnScope N__law_point ["dice", "far"] (defScope st__law_point) := ⟨rfl, rfl, rfl, by decide +kernel, rfl, by decide +kernel, by decide +kernel⟩
def g__law_point  : Sx → RS := (fRet (fTup (fCons (fOp nSub (fCallM m__law_roll (fCons (fVar 0) (fCons (fOp nAdd (fOp nMul (fC (.int 2)) (fVar 1)) (fC (.int 1))) fNil))) (fVar 1)) (fCons (fOp nSub (fCallM m__law_roll (fCons (fVar 0) (fCons (fOp nAdd (fOp nMul (fC (.int 2)) (fVar 1)) (fC (.int 1))) fNil))) (fVar 1)) fNil))))
theorem dv__law_point {T : TPr} {P : Program} {w : World} {K : PySem.W.Frag} {mg : Str → Option Value} {base : Heap} (Z : Txt K mg)  (C__law_roll : Cal T P w K mg base 1 "_law_roll" 2 m__law_roll) {f : Addr} (cdv : Value) (A : Around) (outer : List Env) (s : Shared) (H : Hp) (E : XK) (hr : Room 1 (A.deeper (envOfC "_law_point" (defScope st__law_point) s.heap.objs.size f cdv))) :
    PSs (cxOf (L2.CX P w) P w K mg base N__law_point "_law_point" (defScope st__law_point) f cdv A outer s H E) (defBody st__law_point) (tS T mg (fun cls d _ H => E cls d H) (g__law_point )) := by
  have nd := sc__law_point.nd
  have B : Bd (cxOf (L2.CX P w) P w K mg base N__law_point "_law_point" (defScope st__law_point) f cdv A outer s H E) (fun cls d _ H => E cls d H) 1 := ⟨takes_of rfl rfl rfl rfl, hr⟩
  exact (s_one (s_ret (e_tup (a_cons (e_op op_sub od_sub (e_callM B (C__law_roll.mono (by decide)) m__law_roll_len rfl (a_cons (e_var 0) (a_cons (e_op op_add od_add (e_op op_mul od_mul e_int (e_var 1)) e_int) a_nil))) (e_var 1)) (a_cons (e_op op_sub od_sub (e_callM B (C__law_roll.mono (by decide)) m__law_roll_len rfl (a_cons (e_var 0) (a_cons (e_op op_add od_add (e_op op_mul od_mul e_int (e_var 1)) e_int) a_nil))) (e_var 1)) a_nil)))))
def m__law_point : List D → Cells → R D := autM 2 N__law_point (g__law_point )
theorem m__law_point_len : ∀ ds M, m__law_point ds M ≠ .no → ds.length = 2 := autM_len
/-! ### _law_turn -/
abbrev st__law_turn : Stmt := topS 30
abbrev N__law_turn : List Str := ["a", "b", "c"]
theorem sc__law_turn : FnScope N__law_turn ["a", "b", "c"] (defScope st__law_turn) := ⟨rfl, rfl, rfl, by decide +kernel, rfl, by decide +kernel, by decide +kernel⟩
def g__law_turn  : Sx → RS := (fRet (fOp nSub (fOp nMul (fOp nSub (fOp gIx (fVar 1) (fC (.int 0))) (fOp gIx (fVar 0) (fC (.int 0)))) (fOp nSub (fOp gIx (fVar 2) (fC (.int 1))) (fOp gIx (fVar 0) (fC (.int 1))))) (fOp nMul (fOp nSub (fOp gIx (fVar 1) (fC (.int 1))) (fOp gIx (fVar 0) (fC (.int 1)))) (fOp nSub (fOp gIx (fVar 2) (fC (.int 0))) (fOp gIx (fVar 0) (fC (.int 0)))))))
theorem dv__law_turn {T : TPr} {P : Program} {w : World} {K : PySem.W.Frag} {mg : Str → Option Value} {base : Heap} (Z : Txt K mg)   {f : Addr} (cdv : Value) (A : Around) (outer : List Env) (s : Shared) (H : Hp) (E : XK) (hr : Room 0 (A.deeper (envOfC "_law_turn" (defScope st__law_turn) s.heap.objs.size f cdv))) :
    PSs (cxOf (L2.CX P w) P w K mg base N__law_turn "_law_turn" (defScope st__law_turn) f cdv A outer s H E) (defBody st__law_turn) (tS T mg (fun cls d _ H => E cls d H) (g__law_turn )) := by
  have nd := sc__law_turn.nd
  have B : Bd (cxOf (L2.CX P w) P w K mg base N__law_turn "_law_turn" (defScope st__law_turn) f cdv A outer s H E) (fun cls d _ H => E cls d H) 0 := ⟨takes_of rfl rfl rfl rfl, hr⟩
  exact (s_one (s_ret (e_op op_sub od_sub (e_op op_mul od_mul (e_op op_sub od_sub (e_ix (e_var 1) e_int) (e_ix (e_var 0) e_int)) (e_op op_sub od_sub (e_ix (e_var 2) e_int) (e_ix (e_var 0) e_int))) (e_op op_mul od_mul (e_op op_sub od_sub (e_ix (e_var 1) e_int) (e_ix (e_var 0) e_int)) (e_op op_sub od_sub (e_ix (e_var 2) e_int) (e_ix (e_var 0) e_int))))))
def m__law_turn : List D → Pu := aut 3 N__law_turn (g__law_turn )
theorem m__law_turn_len : ∀ ds, m__law_turn ds ≠ .no → ds.length = 3 := aut_len
/-! ### law -/
abbrev st_law : Stmt := topS 31
abbrev N_law : List Str := ["script", "dice", "a", "b", "c", "d", "e", "k", "whole", "row", "other", "sign", "between", "ways", "found", "way", "u", "v", "bad"]
theorem sc_law : FnScope N_law ["script"] (defScope st_law) := ⟨rfl, rfl, rfl, by decide +kernel, rfl, by decide +kernel, by decide +kernel⟩
def g_law_1_1  : Sx → RS := (fAsg (fFz (fLc (fIts asRg1 (fCons (fC (.int 5)) fNil)) (bName 7) fTrue (fCallM m__law_point (fCons (fVar 1) (fCons (fC (.int 5)) fNil))) [7])) (bLst 5 (bCons (bName 2) (bCons (bName 3) (bCons (bName 4) (bCons (bName 5) (bCons (bName 6) bNil)))))))
def g_law_1_2  : Sx → RS := (fAsg (fCall m__law_turn (fCons (fVar 2) (fCons (fVar 3) (fCons (fVar 4) fNil)))) (bName 8))
def g_law_1_3  : Sx → RS := (fIfS (fOr (fTst (fOp gNe (fCall m_turn (fCons (fVar 2) (fCons (fVar 3) (fCons (fVar 4) fNil)))) (fVar 8))) (fOr (fTst (fOp gNe (fCall m_turn (fCons (fVar 3) (fCons (fVar 4) (fCons (fVar 2) fNil)))) (fVar 8))) (fTst (fOp gNe (fCall m_turn (fCons (fVar 2) (fCons (fVar 4) (fCons (fVar 3) fNil)))) (fOp nSub (fC (.int 0)) (fVar 8)))))) (fRet (fC (.bl false))) fSkip)
def g_law_1_4  : Sx → RS := (fIfS (fTst (fOp gNe (fCall m_side (fCons (fVar 2) (fCons (fVar 3) (fCons (fVar 4) fNil)))) (fOp nSubB (fOp nGt (fVar 8) (fC (.int 0))) (fOp nLt (fVar 8) (fC (.int 0)))))) (fRet (fC (.bl false))) fSkip)
def g_law_1_5  : Sx → RS := (fAsg (fTup (fCons (fVar 2) (fCons (fVar 3) (fCons (fVar 4) fNil)))) (bName 9))
def g_law_1_6_1  : Sx → RS := (fIfS (fOr (fTst (fOp gNe (fCall m_turn (fCons (fOp gIx (fVar 10) (fC (.int 0))) (fCons (fOp gIx (fVar 10) (fC (.int 1))) (fCons (fOp gIx (fVar 10) (fC (.int 2))) fNil)))) (fOp nMul (fVar 11) (fVar 8)))) (fTst (fOp gNe (fCall m_square (fCons (fOp gIx (fVar 10) (fC (.int 0))) (fCons (fOp gIx (fVar 10) (fC (.int 1))) fNil))) (fCall m_square (fCons (fVar 2) (fCons (fVar 3) fNil)))))) (fRet (fC (.bl false))) fSkip)
def g_law_1_6  : Sx → RS := (fFor (fIt asLst (fLst (fCons (fTup (fCons (fCall m_moved (fCons (fVar 9) (fCons (fVar 5) fNil))) (fCons (fC (.int 1)) fNil))) (fCons (fTup (fCons (fCall m_quarter (fCons (fVar 9) fNil)) (fCons (fC (.int 1)) fNil))) (fCons (fTup (fCons (fCall m_mirrored (fCons (fVar 9) fNil)) (fCons (fOp nSub (fC (.int 0)) (fC (.int 1))) fNil))) fNil))))) (bTup 2 (bCons (bName 10) (bCons (bName 11) bNil))) g_law_1_6_1)
def g_law_1_7  : Sx → RS := (fIfS (fTst (fOp gNe (fCall m_square (fCons (fVar 2) (fCons (fVar 3) fNil))) (fOp nAdd (fOp nMul (fOp nSub (fOp gIx (fVar 2) (fC (.int 0))) (fOp gIx (fVar 3) (fC (.int 0)))) (fOp nSub (fOp gIx (fVar 2) (fC (.int 0))) (fOp gIx (fVar 3) (fC (.int 0))))) (fOp nMul (fOp nSub (fOp gIx (fVar 2) (fC (.int 1))) (fOp gIx (fVar 3) (fC (.int 1)))) (fOp nSub (fOp gIx (fVar 2) (fC (.int 1))) (fOp gIx (fVar 3) (fC (.int 1)))))))) (fRet (fC (.bl false))) fSkip)
def g_law_1_8  : Sx → RS := (fIfS (fOr (fTst (fOp gNe (fCall m_add (fCons (fCall m_less (fCons (fVar 2) (fCons (fVar 3) fNil))) (fCons (fVar 3) fNil))) (fVar 2))) (fTst (fOp gNe (fCall m_along (fCons (fCall m_less (fCons (fVar 2) (fCons (fVar 3) fNil))) (fCons (fCall m_less (fCons (fVar 2) (fCons (fVar 3) fNil))) fNil))) (fCall m_square (fCons (fVar 2) (fCons (fVar 3) fNil)))))) (fRet (fC (.bl false))) fSkip)
def g_law_1_9  : Sx → RS := (fIfS (fTst (fOp gNe (fCall m_cross (fCons (fVar 2) (fCons (fVar 3) fNil))) (fOp nSub (fC (.int 0)) (fCall m_cross (fCons (fVar 3) (fCons (fVar 2) fNil)))))) (fRet (fC (.bl false))) fSkip)
def g_law_1_10  : Sx → RS := (fAsg (fAndV (fOp gEq (fVar 8) (fC (.int 0))) (fAndV (fChain nLe nLe (fCB gMin2 (fCons (fOp gIx (fVar 2) (fC (.int 0))) (fCons (fOp gIx (fVar 3) (fC (.int 0))) fNil))) (fOp gIx (fVar 4) (fC (.int 0))) (fCB gMax2 (fCons (fOp gIx (fVar 2) (fC (.int 0))) (fCons (fOp gIx (fVar 3) (fC (.int 0))) fNil)))) (fChain nLe nLe (fCB gMin2 (fCons (fOp gIx (fVar 2) (fC (.int 1))) (fCons (fOp gIx (fVar 3) (fC (.int 1))) fNil))) (fOp gIx (fVar 4) (fC (.int 1))) (fCB gMax2 (fCons (fOp gIx (fVar 2) (fC (.int 1))) (fCons (fOp gIx (fVar 3) (fC (.int 1))) fNil)))))) (bName 12))
def g_law_1_11  : Sx → RS := (fIfS (fOr (fTst (fOp gNe (fCall m_is_between (fCons (fVar 2) (fCons (fVar 3) (fCons (fVar 4) fNil)))) (fVar 12))) (fTst (fOp gNotB (fCall m_is_between (fCons (fVar 2) (fCons (fVar 3) (fCons (fVar 2) fNil)))) (fC (.bl true))))) (fRet (fC (.bl false))) fSkip)
def g_law_1_12  : Sx → RS := (fAsg (fLst (fCons (fVar 2) (fCons (fVar 3) (fCons (fVar 4) (fCons (fVar 5) (fCons (fVar 6) fNil)))))) (bName 13))
def g_law_1_13  : Sx → RS := (fAsg (fCall m_by_turns (fCons (fVar 13) fNil)) (bName 14))
def g_law_1_14  : Sx → RS := (fIfS (fTst (fOp gNe (fCB gSorted (fCons (fVar 14) fNil)) (fCB gSorted (fCons (fFz (fLc (fIt asLst (fVar 13)) (bName 15) (fTst (fOp gNe (fVar 15) (fTup (fCons (fC (.int 0)) (fCons (fC (.int 0)) fNil))))) (fVar 15) [15])) fNil)))) (fRet (fC (.bl false))) fSkip)
def g_law_1_15_1  : Sx → RS := (fPar 16 17 (fCons (fOp gIx (fVar 14) (fOp nSub (fVar 7) (fC (.int 1)))) (fCons (fOp gIx (fVar 14) (fVar 7)) fNil)))
def g_law_1_15_2  : Sx → RS := (fIfS (fTst (fOp nGt (fCall m_half (fCons (fVar 16) fNil)) (fCall m_half (fCons (fVar 17) fNil)))) (fRet (fC (.bl false))) fSkip)
def g_law_1_15_3  : Sx → RS := (fIfS (fAnd (fTst (fOp gEq (fCall m_half (fCons (fVar 16) fNil)) (fCall m_half (fCons (fVar 17) fNil)))) (fOr (fTst (fOp nLt (fCall m_cross (fCons (fVar 16) (fCons (fVar 17) fNil))) (fC (.int 0)))) (fAnd (fTst (fOp gEq (fCall m_cross (fCons (fVar 16) (fCons (fVar 17) fNil))) (fC (.int 0)))) (fTst (fOp nGt (fCall m_along (fCons (fVar 16) (fCons (fVar 16) fNil))) (fCall m_along (fCons (fVar 17) (fCons (fVar 17) fNil)))))))) (fRet (fC (.bl false))) fSkip)
def g_law_1_15_4  : Sx → RS := (fIfS (fTst (fCall m_comes_ahead (fCons (fVar 17) (fCons (fVar 16) fNil)))) (fRet (fC (.bl false))) fSkip)
def g_law_1_15  : Sx → RS := (fFor (fIts asRg2 (fCons (fC (.int 1)) (fCons (fCB gLen (fCons (fVar 14) fNil)) fNil))) (bName 7) (fSeq g_law_1_15_1 (fSeq g_law_1_15_2 (fSeq g_law_1_15_3 g_law_1_15_4))))
def g_law_1_16  : Sx → RS := (fDrop (fCall m_check_row (fCons (fVar 9) fNil)))
def g_law_1_17_1  : Sx → RS := (fIfS (fTst (fOp gNe (fTold hs__law_told (fCall m_check_point (fCons (fVar 18) fNil))) (fC (.str "point")))) (fRet (fC (.bl false))) fSkip)
def g_law_1_17  : Sx → RS := (fFor (fIt asLst (fLst (fCons (fC .non) (fCons (fTup (fCons (fC (.int 1)) fNil)) (fCons (fTup (fCons (fC (.int 1)) (fCons (fC (.int 2)) (fCons (fC (.int 3)) fNil)))) (fCons (fTup (fCons (fC (.int 1)) (fCons (fC (.str "2")) fNil))) (fCons (fTup (fCons (fC (.int 1000001)) (fCons (fC (.int 0)) fNil))) (fCons (fLst (fCons (fC (.int 1)) (fCons (fC (.int 2)) fNil))) (fCons (fTup (fCons (fC (.bl true)) (fCons (fC (.int 0)) fNil))) fNil))))))))) (bName 18) g_law_1_17_1)
def g_law_1 (sk : Option (Addr × List Int)) : Sx → RS := (fFor (fIt asLst (fCallO (m__law_rounds sk) (fCons (fVar 0) (fCons (fC (.int 6)) fNil)))) (bName 1) (fSeq g_law_1_1 (fSeq g_law_1_2 (fSeq g_law_1_3 (fSeq g_law_1_4 (fSeq g_law_1_5 (fSeq g_law_1_6 (fSeq g_law_1_7 (fSeq g_law_1_8 (fSeq g_law_1_9 (fSeq g_law_1_10 (fSeq g_law_1_11 (fSeq g_law_1_12 (fSeq g_law_1_13 (fSeq g_law_1_14 (fSeq g_law_1_15 (fSeq g_law_1_16 g_law_1_17)))))))))))))))))
def g_law (sk : Option (Addr × List Int)) : Sx → RS := (fSeq (g_law_1 sk) (fRet (fC (.bl true))))
theorem dv_law {f c Tb gt : Addr} {fdt : FuncData} {cl : Str → Addr} {P : Program} {w : World} {K : PySem.W.Frag} {mg : Str → Option Value} {base : Heap} (Z : Txt K mg) (sk : Option (Addr × List Int)) (C_check_point : Cal (tabT [(Tb, "law.<locals>.<lambda>")]) P w K mg base 1 "check_point" 1 (lift m_check_point)) (C_check_row : Cal (tabT [(Tb, "law.<locals>.<lambda>")]) P w K mg base 2 "check_row" 1 (lift m_check_row)) (C_less : Cal (tabT [(Tb, "law.<locals>.<lambda>")]) P w K mg base 1 "less" 2 (lift m_less)) (C_add : Cal (tabT [(Tb, "law.<locals>.<lambda>")]) P w K mg base 1 "add" 2 (lift m_add)) (C_cross : Cal (tabT [(Tb, "law.<locals>.<lambda>")]) P w K mg base 1 "cross" 2 (lift m_cross)) (C_along : Cal (tabT [(Tb, "law.<locals>.<lambda>")]) P w K mg base 1 "along" 2 (lift m_along)) (C_turn : Cal (tabT [(Tb, "law.<locals>.<lambda>")]) P w K mg base 2 "turn" 3 (lift m_turn)) (C_side : Cal (tabT [(Tb, "law.<locals>.<lambda>")]) P w K mg base 3 "side" 3 (lift m_side)) (C_square : Cal (tabT [(Tb, "law.<locals>.<lambda>")]) P w K mg base 2 "square" 2 (lift m_square)) (C_is_between : Cal (tabT [(Tb, "law.<locals>.<lambda>")]) P w K mg base 3 "is_between" 3 (lift m_is_between)) (C_half : Cal (tabT [(Tb, "law.<locals>.<lambda>")]) P w K mg base 1 "half" 1 (lift m_half)) (C_comes_ahead : Cal (tabT [(Tb, "law.<locals>.<lambda>")]) P w K mg base 2 "comes_ahead" 2 (lift m_comes_ahead)) (C_by_turns : Cal (tabT [(Tb, "law.<locals>.<lambda>")]) P w K mg base 4 "by_turns" 1 (lift m_by_turns)) (C_moved : Cal (tabT [(Tb, "law.<locals>.<lambda>")]) P w K mg base 2 "moved" 2 (lift m_moved)) (C_quarter : Cal (tabT [(Tb, "law.<locals>.<lambda>")]) P w K mg base 1 "quarter" 1 (lift m_quarter)) (C_mirrored : Cal (tabT [(Tb, "law.<locals>.<lambda>")]) P w K mg base 1 "mirrored" 1 (lift m_mirrored)) (C__law_rounds : CalO (tabT [(Tb, "law.<locals>.<lambda>")]) P w K mg base 2 "_law_rounds" 2 (m__law_rounds sk)) (C__law_point : Cal (tabT [(Tb, "law.<locals>.<lambda>")]) P w K mg base 2 "_law_point" 2 m__law_point) (C__law_turn : Cal (tabT [(Tb, "law.<locals>.<lambda>")]) P w K mg base 1 "_law_turn" 3 (lift m__law_turn)) (hk : KSt K sk) (TB : LamX.TabB base mg c Tb) (ZT : ToldF K mg hs__law_told cl) (FT : FunD K "_law_told" "_law_told" (defArgs st__law_told) (defBody st__law_told) (defScope st__law_told) [] [] gt fdt) (hmt : mg "_law_told" = some (.ref gt)) (bnt : Binds K fdt ["what"] []) (A0 : Around) (outer0 : List Env) (s0 : Shared) (H0 : Hp) (E0 : XK) (hr : Room 4 (A0.deeper (envOfC "law" (defScope st_law) s0.heap.objs.size f (.ref c)))) :
    PSs (cxOf (L2.CX P w) P w K mg base N_law "law" (defScope st_law) f (.ref c) A0 outer0 s0 H0 E0) (defBody st_law) (tS (tabT [(Tb, "law.<locals>.<lambda>")]) mg (fun cls d _ H => E0 cls d H) (g_law sk)) := by
  have nd := sc_law.nd
  have B : Bd (cxOf (L2.CX P w) P w K mg base N_law "law" (defScope st_law) f (.ref c) A0 outer0 s0 H0 E0) (fun cls d _ H => E0 cls d H) 4 := ⟨takes_of rfl rfl rfl rfl, hr⟩
  exact (s_cons (s_for (ws := [1]) (passes_of rfl) rfl (i_lst (e_callO B (C__law_rounds.mono (by decide)) (m__law_rounds_len sk) rfl (a_cons (e_var 0) (a_cons e_int a_nil)))) (g_name 1 nd) (s_cons (s_asg (ws := [2, 3, 4, 5, 6]) (e_fz (f_lc (own := [("k", 7)]) rfl nd (i_rg1 rfl Z.z_range (a_cons e_int a_nil)) (blkOk_by (N := N_law) (sc := defScope st_law) (by decide +kernel)) (fun _ _ _ _ _ => (g_name 7 nd)) (fun _ _ _ _ _ => ts_nil) (fun _ _ _ _ _ => (e_callM B.blk (C__law_point.mono (by decide)) m__law_point_len rfl (a_cons (e_var 1) (a_cons e_int a_nil)))))) (g_lst rfl (gs_cons (g_name 2 nd) (gs_cons (g_name 3 nd) (gs_cons (g_name 4 nd) (gs_cons (g_name 5 nd) (gs_cons (g_name 6 nd) gs_nil))))))) (s_cons (s_set 8 nd (e_call B (C__law_turn.mono (by decide)) m__law_turn_len rfl (a_cons (e_var 2) (a_cons (e_var 3) (a_cons (e_var 4) a_nil))))) (s_cons (s_if (L2.PW.pt (w_or (t_cmp (op_neD B.hu) od_ne (e_call B (C_turn.mono (by decide)) m_turn_len rfl (a_cons (e_var 2) (a_cons (e_var 3) (a_cons (e_var 4) a_nil)))) (e_var 8)) (w_or (t_cmp (op_neD B.hu) od_ne (e_call B (C_turn.mono (by decide)) m_turn_len rfl (a_cons (e_var 3) (a_cons (e_var 4) (a_cons (e_var 2) a_nil)))) (e_var 8)) (w_or1 (t_cmp (op_neD B.hu) od_ne (e_call B (C_turn.mono (by decide)) m_turn_len rfl (a_cons (e_var 2) (a_cons (e_var 4) (a_cons (e_var 3) a_nil)))) (e_op op_sub od_sub e_int (e_var 8))))))) (s_one (s_ret e_bl)) s_nil) (s_cons (s_if (t_cmp (op_neD B.hu) od_ne (e_call B (C_side.mono (by decide)) m_side_len rfl (a_cons (e_var 2) (a_cons (e_var 3) (a_cons (e_var 4) a_nil)))) (e_op op_subB od_subB (e_cmp op_gt od_gt (e_var 8) e_int) (e_cmp op_lt od_lt (e_var 8) e_int))) (s_one (s_ret e_bl)) s_nil) (s_cons (s_set 9 nd (e_tup (a_cons (e_var 2) (a_cons (e_var 3) (a_cons (e_var 4) a_nil))))) (s_cons (s_for (ws := [10, 11]) (passes_of rfl) rfl (i_lst (e_lst (a_cons (e_tup (a_cons (e_call B (C_moved.mono (by decide)) m_moved_len rfl (a_cons (e_var 9) (a_cons (e_var 5) a_nil))) (a_cons e_int a_nil))) (a_cons (e_tup (a_cons (e_call B (C_quarter.mono (by decide)) m_quarter_len rfl (a_cons (e_var 9) a_nil)) (a_cons e_int a_nil))) (a_cons (e_tup (a_cons (e_call B (C_mirrored.mono (by decide)) m_mirrored_len rfl (a_cons (e_var 9) a_nil)) (a_cons (e_op op_sub od_sub e_int e_int) a_nil))) a_nil))))) (g_tup rfl (gs_cons (g_name 10 nd) (gs_cons (g_name 11 nd) gs_nil))) (s_one (s_if (L2.PW.pt (w_or (t_cmp (op_neD B.hu) od_ne (e_call B (C_turn.mono (by decide)) m_turn_len rfl (a_cons (e_ix (e_var 10) e_int) (a_cons (e_ix (e_var 10) e_int) (a_cons (e_ix (e_var 10) e_int) a_nil)))) (e_op op_mul od_mul (e_var 11) (e_var 8))) (w_or1 (t_cmp (op_neD B.hu) od_ne (e_call B (C_square.mono (by decide)) m_square_len rfl (a_cons (e_ix (e_var 10) e_int) (a_cons (e_ix (e_var 10) e_int) a_nil))) (e_call B (C_square.mono (by decide)) m_square_len rfl (a_cons (e_var 2) (a_cons (e_var 3) a_nil))))))) (s_one (s_ret e_bl)) s_nil))) (s_cons (s_if (t_cmp (op_neD B.hu) od_ne (e_call B (C_square.mono (by decide)) m_square_len rfl (a_cons (e_var 2) (a_cons (e_var 3) a_nil))) (e_op op_add od_add (e_op op_mul od_mul (e_op op_sub od_sub (e_ix (e_var 2) e_int) (e_ix (e_var 3) e_int)) (e_op op_sub od_sub (e_ix (e_var 2) e_int) (e_ix (e_var 3) e_int))) (e_op op_mul od_mul (e_op op_sub od_sub (e_ix (e_var 2) e_int) (e_ix (e_var 3) e_int)) (e_op op_sub od_sub (e_ix (e_var 2) e_int) (e_ix (e_var 3) e_int))))) (s_one (s_ret e_bl)) s_nil) (s_cons (s_if (L2.PW.pt (w_or (t_cmp (op_neD B.hu) od_ne (e_call B (C_add.mono (by decide)) m_add_len rfl (a_cons (e_call B (C_less.mono (by decide)) m_less_len rfl (a_cons (e_var 2) (a_cons (e_var 3) a_nil))) (a_cons (e_var 3) a_nil))) (e_var 2)) (w_or1 (t_cmp (op_neD B.hu) od_ne (e_call B (C_along.mono (by decide)) m_along_len rfl (a_cons (e_call B (C_less.mono (by decide)) m_less_len rfl (a_cons (e_var 2) (a_cons (e_var 3) a_nil))) (a_cons (e_call B (C_less.mono (by decide)) m_less_len rfl (a_cons (e_var 2) (a_cons (e_var 3) a_nil))) a_nil))) (e_call B (C_square.mono (by decide)) m_square_len rfl (a_cons (e_var 2) (a_cons (e_var 3) a_nil))))))) (s_one (s_ret e_bl)) s_nil) (s_cons (s_if (t_cmp (op_neD B.hu) od_ne (e_call B (C_cross.mono (by decide)) m_cross_len rfl (a_cons (e_var 2) (a_cons (e_var 3) a_nil))) (e_op op_sub od_sub e_int (e_call B (C_cross.mono (by decide)) m_cross_len rfl (a_cons (e_var 3) (a_cons (e_var 2) a_nil))))) (s_one (s_ret e_bl)) s_nil) (s_cons (s_set 12 nd (e_and (e_cmp (op_eqD B.hu) od_eq (e_var 8) e_int) (e_and (e_chain op_le od_le op_le od_le (e_cb (call_min2 rfl) cd_min2 rfl Z.z_min boot_min (a_cons (e_ix (e_var 2) e_int) (a_cons (e_ix (e_var 3) e_int) a_nil))) (e_ix (e_var 4) e_int) (e_cb (call_max2 rfl) cd_max2 rfl Z.z_max boot_max (a_cons (e_ix (e_var 2) e_int) (a_cons (e_ix (e_var 3) e_int) a_nil)))) (e_one (e_chain op_le od_le op_le od_le (e_cb (call_min2 rfl) cd_min2 rfl Z.z_min boot_min (a_cons (e_ix (e_var 2) e_int) (a_cons (e_ix (e_var 3) e_int) a_nil))) (e_ix (e_var 4) e_int) (e_cb (call_max2 rfl) cd_max2 rfl Z.z_max boot_max (a_cons (e_ix (e_var 2) e_int) (a_cons (e_ix (e_var 3) e_int) a_nil)))))))) (s_cons (s_if (L2.PW.pt (w_or (t_cmp (op_neD B.hu) od_ne (e_call B (C_is_between.mono (by decide)) m_is_between_len rfl (a_cons (e_var 2) (a_cons (e_var 3) (a_cons (e_var 4) a_nil)))) (e_var 12)) (w_or1 (t_cmp op_notBl od_notB (e_call B (C_is_between.mono (by decide)) m_is_between_len rfl (a_cons (e_var 2) (a_cons (e_var 3) (a_cons (e_var 2) a_nil)))) e_bl)))) (s_one (s_ret e_bl)) s_nil) (s_cons (s_set 13 nd (e_lst (a_cons (e_var 2) (a_cons (e_var 3) (a_cons (e_var 4) (a_cons (e_var 5) (a_cons (e_var 6) a_nil))))))) (s_cons (s_set 14 nd (e_call B (C_by_turns.mono (by decide)) m_by_turns_len rfl (a_cons (e_var 13) a_nil))) (s_cons (s_if (t_cmp (op_neD B.hu) od_ne (e_cb (cr_sortedD B.hu) cd_sorted rfl Z.z_sorted boot_sorted (a_cons (e_var 14) a_nil)) (e_cb (cr_sortedD B.hu) cd_sorted rfl Z.z_sorted boot_sorted (a_cons (e_fz (f_lc (own := [("way", 15)]) rfl nd (i_lst (e_var 13)) (blkOk_by (N := N_law) (sc := defScope st_law) (by decide +kernel)) (fun _ _ _ _ _ => (g_name 15 nd)) (fun _ _ _ _ _ => (ts_one (t_cmp (op_neD B.blk.hu) od_ne (e_var 15) (e_tup (a_cons e_int (a_cons e_int a_nil)))))) (fun _ _ _ _ _ => (e_var 15)))) a_nil))) (s_one (s_ret e_bl)) s_nil) (s_cons (s_for (ws := [7]) (passes_of rfl) rfl (i_rg2 rfl Z.z_range (a_cons e_int (a_cons (e_cb call_len_seq cd_len rfl Z.z_len boot_len (a_cons (e_var 14) a_nil)) a_nil))) (g_name 7 nd) (s_cons (s_par 16 17 rfl nd (a_cons (e_ix (e_var 14) (e_op op_sub od_sub (e_var 7) e_int)) (a_cons (e_ix (e_var 14) (e_var 7)) a_nil))) (s_cons (s_if (t_cmp op_gt od_gt (e_call B (C_half.mono (by decide)) m_half_len rfl (a_cons (e_var 16) a_nil)) (e_call B (C_half.mono (by decide)) m_half_len rfl (a_cons (e_var 17) a_nil))) (s_one (s_ret e_bl)) s_nil) (s_cons (s_if (L2.PW.pt (w_and (t_cmp (op_eqD B.hu) od_eq (e_call B (C_half.mono (by decide)) m_half_len rfl (a_cons (e_var 16) a_nil)) (e_call B (C_half.mono (by decide)) m_half_len rfl (a_cons (e_var 17) a_nil))) (w_and1 (L2.PW.pt (w_or (t_cmp op_lt od_lt (e_call B (C_cross.mono (by decide)) m_cross_len rfl (a_cons (e_var 16) (a_cons (e_var 17) a_nil))) e_int) (w_or1 (L2.PW.pt (w_and (t_cmp (op_eqD B.hu) od_eq (e_call B (C_cross.mono (by decide)) m_cross_len rfl (a_cons (e_var 16) (a_cons (e_var 17) a_nil))) e_int) (w_and1 (t_cmp op_gt od_gt (e_call B (C_along.mono (by decide)) m_along_len rfl (a_cons (e_var 16) (a_cons (e_var 16) a_nil))) (e_call B (C_along.mono (by decide)) m_along_len rfl (a_cons (e_var 17) (a_cons (e_var 17) a_nil))))))))))))) (s_one (s_ret e_bl)) s_nil) (s_one (s_if (t_val (e_call B (C_comes_ahead.mono (by decide)) m_comes_ahead_len rfl (a_cons (e_var 17) (a_cons (e_var 16) a_nil)))) (s_one (s_ret e_bl)) s_nil)))))) (s_cons (s_expr (e_call B (C_check_row.mono (by decide)) m_check_row_len rfl (a_cons (e_var 9) a_nil))) (s_one (s_for (ws := [18]) (passes_of rfl) rfl (i_lst (e_lst (a_cons e_non (a_cons (e_tup (a_cons e_int a_nil)) (a_cons (e_tup (a_cons e_int (a_cons e_int (a_cons e_int a_nil)))) (a_cons (e_tup (a_cons e_int (a_cons e_str a_nil))) (a_cons (e_tup (a_cons e_int (a_cons e_int a_nil))) (a_cons (e_lst (a_cons e_int (a_cons e_int a_nil))) (a_cons (e_tup (a_cons e_bl (a_cons e_int a_nil))) a_nil))))))))) (g_name 18 nd) (s_one (s_if (t_cmp (op_neD B.hu) od_ne (e_told B ZT FT hmt bnt sc__law_told (.inl rfl) (gv__law_told ZT) TB rfl (List.mem_singleton.mpr rfl) (fun p hp _ => by rw [List.mem_singleton.mp hp]; rfl) rfl (fun A outer s H E f2 c2 hr => 
    have B : Bd (LamX.lamCx (cxOf (L2.CX P w) P w K mg base N_law "law" (defScope st_law) f (.ref c) A0 outer0 s0 H0 E0) A outer s H E _ f2 c2) (fun cls d _ H => E cls d H) 2 := ⟨takes_of rfl rfl rfl rfl, hr⟩
    (e_call B (C_check_point.mono (by decide)) m_check_point_len rfl (a_cons (e_var 18) a_nil))) (LamX.lamS_by (sc := defScope st_law) (by decide +kernel))) e_str) (s_one (s_ret e_bl)) s_nil))))))))))))))))))))) (s_one (s_ret e_bl)))
end K1

namespace K1
open PySem PySem.Spec L2 DL
open PyProof.Rows hiding St

abbrev P (x y : Int) : D := .tup [.int x, .int y]
/-- not too far -/
def Nr (x : Int) : Prop := -1000 ≤ x ∧ x ≤ 1000
def crs (a b c d : Int) : Int := a * d - b * c
def aln (a b c d : Int) : Int := a * c + b * d
def hf (a b : Int) : Int := if 0 < b ∨ (b = 0 ∧ 0 < a) then 0 else 1
/-- (a, b) comes ahead of (c, d) -/
def cah (a b c d : Int) : Bool := if hf a b = hf c d then decide (0 < crs a b c d) else decide (hf a b < hf c d)
def ibh (a b c d : Int) : Bool := if hf a b = hf c d ∧ crs a b c d = 0 then decide (aln c d c d < aln a b a b) else cah c d a b
theorem x_less (a b c d : Int) : m_less [P a b, P c d] = .ok (P (a - c) (b - d)) := rfl
theorem x_add (a b c d : Int) : m_add [P a b, P c d] = .ok (P (a + c) (b + d)) := rfl
theorem x_cross {a b c d : Int} (h1 : Nr a) (h2 : Nr b) : m_cross [P a b, P c d] = .ok (.int (crs a b c d)) := by
  unfold Nr at h1 h2
  simp (disch := omega) [m_cross, aut, g_cross, init0, crs]
theorem x_along {a b c d : Int} (h1 : Nr a) (h2 : Nr b) : m_along [P a b, P c d] = .ok (.int (aln a b c d)) := by
  unfold Nr at h1 h2
  simp (disch := omega) [m_along, aut, g_along, init0, aln]
theorem x_turn {a b c d e f : Int} (h1 : Nr (c - a)) (h2 : Nr (d - b)) : m_turn [P a b, P c d, P e f] = .ok (.int (crs (c - a) (d - b) (e - a) (f - b))) := by
  simp (disch := omega) [m_turn, aut, g_turn, init0, call_s, lfs, D.lf, x_less, x_cross h1 h2]
theorem x_side {a b c d e f : Int} (h1 : Nr (c - a)) (h2 : Nr (d - b)) : m_side [P a b, P c d, P e f] = .ok (.int (b2i (decide (0 < crs (c - a) (d - b) (e - a) (f - b))) - b2i (decide (crs (c - a) (d - b) (e - a) (f - b) < 0)))) := by
  simp (disch := omega) [m_side, aut, g_side, init0, call_s, lfs, D.lf, x_turn h1 h2]
theorem x_square {a b c d : Int} (h1 : Nr (a - c)) (h2 : Nr (b - d)) : m_square [P a b, P c d] = .ok (.int (aln (a - c) (b - d) (a - c) (b - d))) := by
  simp (disch := omega) [m_square, aut, g_square, init0, call_s, lfs, D.lf, x_less, x_along h1 h2]
theorem x_between {a b c d e f : Int} (h1 : Nr (c - a)) (h2 : Nr (d - b)) (h3 : Nr (a - e)) (h4 : Nr (b - f)) : m_is_between [P a b, P c d, P e f] = .ok (.bl (decide (crs (c - a) (d - b) (e - a) (f - b) = 0) && decide (aln (a - e) (b - f) (c - e) (d - f) ≤ 0))) := by
  by_cases h : crs (c - a) (d - b) (e - a) (f - b) = 0
  · simp (disch := omega) [m_is_between, aut, g_is_between, fAndV, init0, call_s, lfs, D.lf, x_less, x_turn h1 h2, x_along h3 h4, h]
  · simp (disch := omega) [m_is_between, aut, g_is_between, fAndV, init0, call_s, lfs, D.lf, x_less, x_turn h1 h2, x_along h3 h4, h]
theorem x_half (a b : Int) : m_half [P a b] = .ok (.int (hf a b)) := by
  unfold hf
  by_cases h : 0 < b
  · simp [m_half, aut, g_half, init0, h]
  · by_cases h2 : b = 0
    · by_cases h3 : 0 < a
      · simp [m_half, aut, g_half, init0, h2, h3]
      · simp [m_half, aut, g_half, init0, h2, h3]
    · simp [m_half, aut, g_half, init0, h, h2]
theorem x_ahead {a b c d : Int} (h1 : Nr a) (h2 : Nr b) : m_comes_ahead [P a b, P c d] = .ok (.bl (cah a b c d)) := by
  unfold cah
  by_cases h : hf a b = hf c d
  · simp [m_comes_ahead, aut, g_comes_ahead, init0, call_s, lfs, D.lf, x_half, h, x_cross h1 h2]
  · simp [m_comes_ahead, aut, g_comes_ahead, init0, call_s, lfs, D.lf, x_half, h]
theorem x_behind {a b c d : Int} (h1 : Nr a) (h2 : Nr b) (h3 : Nr c) (h4 : Nr d) : m_is_behind [P a b, P c d] = .ok (.bl (ibh a b c d)) := by
  unfold ibh
  by_cases h : hf a b = hf c d
  · by_cases hc : crs a b c d = 0
    · simp [m_is_behind, aut, g_is_behind, init0, call_s, lfs, D.lf, x_half, h, x_cross h1 h2, hc, x_along h1 h2, x_along h3 h4]
    · simp [m_is_behind, aut, g_is_behind, init0, call_s, lfs, D.lf, x_half, h, x_cross h1 h2, hc, x_ahead h3 h4]
  · simp [m_is_behind, aut, g_is_behind, init0, call_s, lfs, D.lf, x_half, h, x_ahead h3 h4]
theorem ibh_asym {a b c d : Int} (h : ibh a b c d = true) : ibh c d a b = false := by
  have e : crs c d a b = - crs a b c d := by unfold crs; grind
  unfold ibh cah at *
  grind
theorem x_moved (a b c d e f g h : Int) : m_moved [.tup [P a b, P c d, P e f], P g h] = .ok (.tup [P (a + g) (b + h), P (c + g) (d + h), P (e + g) (f + h)]) := by
  simp [m_moved, aut, g_moved, init0, call_s, lfs, D.lf, x_add, fLc, fLcGo, wipeD, fTrue, gTupOf, seqOf]
theorem x_quarter (a b c d e f : Int) : m_quarter [.tup [P a b, P c d, P e f]] = .ok (.tup [P (-b) a, P (-d) c, P (-f) e]) := by
  simp [m_quarter, aut, g_quarter, init0, call_s, lfs, D.lf, fLc, fLcGo, wipeD, fTrue, gTupOf, seqOf, bTup, bCons, bNil]
theorem x_mirrored (a b c d e f : Int) : m_mirrored [.tup [P a b, P c d, P e f]] = .ok (.tup [P (-a) b, P (-c) d, P (-e) f]) := by
  simp [m_mirrored, aut, g_mirrored, init0, call_s, lfs, D.lf, fLc, fLcGo, wipeD, fTrue, gTupOf, seqOf, bTup, bCons, bNil]
theorem x_point {a b : Int} (h1 : Nr a) (h2 : Nr b) : m_check_point [P a b] = .ok .non := by
  unfold Nr at h1 h2
  have e1 : ¬ (1000000 < if a < 0 then -a else a) := by split <;> omega
  have e2 : ¬ (1000000 < if b < 0 then -b else b) := by split <;> omega
  simp [m_check_point, aut, g_check_point, init0, fForL, gIsi, isiD, gLen, seqOf, e1, e2]
theorem x_row {a b c d e f : Int} (h1 : Nr a) (h2 : Nr b) (h3 : Nr c) (h4 : Nr d) (h5 : Nr e) (h6 : Nr f) : m_check_row [.tup [P a b, P c d, P e f]] = .ok .non := by
  simp [m_check_row, aut, g_check_row, init0, fForL, gIsi, isiD, gLen, seqOf, call_s, lfs, D.lf, x_point h1 h2, x_point h3 h4, x_point h5 h6]
theorem x_bad1 : m_check_point [.non] = .ex ⟨"BadPoint", none⟩ := by rfl
theorem x_bad2 : m_check_point [.tup [.int 1]] = .ex ⟨"BadPoint", none⟩ := by rfl
theorem x_bad3 : m_check_point [.tup [.int 1, .int 2, .int 3]] = .ex ⟨"BadPoint", none⟩ := by rfl
theorem x_bad4 : m_check_point [.tup [.int 1, .str "2"]] = .ex ⟨"BadPoint", none⟩ := by rfl
theorem x_bad5 : m_check_point [.tup [.int 1000001, .int 0]] = .ex ⟨"BadPoint", none⟩ := by rfl
theorem x_bad6 : m_check_point [.lst [.int 1, .int 2]] = .ex ⟨"BadPoint", none⟩ := by rfl
theorem x_bad7 : m_check_point [.tup [.bl true, .int 0]] = .ex ⟨"BadPoint", none⟩ := by rfl
/-! ### by_turns -/
def NrP (p : DL.Pt) : Prop := Nr p.1 ∧ Nr p.2
def bhd (p q : DL.Pt) : Bool := ibh p.1 p.2 q.1 q.2
def plc (o : DL.Pt) : List DL.Pt → Nat
  | [] => 0
  | x :: r => if bhd o x = true then plc o r + 1 else 0
def ins (o : DL.Pt) : List DL.Pt → List DL.Pt
  | [] => [o]
  | x :: r => if bhd o x = true then x :: ins o r else o :: x :: r
theorem plc_le (o : DL.Pt) : ∀ l, plc o l ≤ l.length
  | [] => Nat.le_refl _
  | x :: r => by
    unfold plc
    have := plc_le o r
    split <;> simp <;> omega
theorem plc_lt (o : DL.Pt) : ∀ l (k : Nat), k < plc o l → ∃ x, l[k]? = some x ∧ bhd o x = true
  | [], k, h => by simp [plc] at h
  | x :: r, k, h => by
    unfold plc at h
    split at h
    · rename_i hb
      cases k with
      | zero => exact ⟨x, rfl, hb⟩
      | succ k => exact plc_lt o r k (by omega)
    · omega
theorem plc_at (o : DL.Pt) : ∀ l x, l[plc o l]? = some x → bhd o x = false
  | [], x, h => by simp at h
  | y :: r, x, h => by
    unfold plc at h
    split at h
    · exact plc_at o r x (by simpa using h)
    · rename_i hb
      simp at h
      subst h
      simpa using hb
theorem ins_eq (o : DL.Pt) : ∀ l, l.take (plc o l) ++ [o] ++ l.drop (plc o l) = ins o l
  | [] => rfl
  | x :: r => by
    unfold plc ins
    split
    · have := ins_eq o r
      simp at this ⊢
      exact this
    · simp
theorem ins_perm (o : DL.Pt) : ∀ l, (ins o l).Perm (o :: l)
  | [] => .refl _
  | x :: r => by
    unfold ins
    split
    · exact ((ins_perm o r).cons x).trans (List.Perm.swap o x r)
    · exact .refl _
def Adj : List DL.Pt → Prop
  | x :: y :: r => bhd x y = false ∧ Adj (y :: r)
  | _ => True
theorem adj_ins (o : DL.Pt) : ∀ l, Adj l → Adj (ins o l)
  | [], _ => trivial
  | [x], _ => by
    unfold ins
    split
    · rename_i h; exact ⟨ibh_asym h, trivial⟩
    · rename_i h; exact ⟨by simpa using h, trivial⟩
  | x :: y :: r, h => by
    have ih := adj_ins o (y :: r) h.2
    unfold ins
    split
    · rename_i hb
      unfold ins at ih ⊢
      split
      · rename_i hy; rw [if_pos hy] at ih; exact ⟨h.1, ih⟩
      · rename_i hy; rw [if_neg hy] at ih; exact ⟨ibh_asym hb, ih⟩
    · rename_i hb; exact ⟨by simpa using hb, h⟩
theorem adj_get : ∀ (l : List DL.Pt) (i : Nat) (u v : DL.Pt), Adj l → l[i]? = some u → l[i + 1]? = some v → bhd u v = false
  | [], _, _, _, _, h, _ => by simp at h
  | [x], i, _, _, _, _, h => by simp at h
  | x :: y :: r, 0, u, v, h, h1, h2 => by
    simp at h1 h2
    subst h1 h2
    exact h.1
  | x :: y :: r, i + 1, u, v, h, h1, h2 => adj_get (y :: r) i u v h.2 (by simpa using h1) (by simpa using h2)
def bt : List DL.Pt → List DL.Pt → List DL.Pt
  | [], f => f
  | w :: ws, f => if w = (0, 0) then bt ws f else bt ws (ins w f)
theorem bt_perm : ∀ ws f, (bt ws f).Perm (ws.filter (fun p => decide (p ≠ (0, 0))) ++ f)
  | [], f => .refl _
  | w :: ws, f => by
    unfold bt
    by_cases h : w = (0, 0)
    · rw [if_pos h, List.filter_cons_of_neg (by simpa using h)]
      exact bt_perm ws f
    · rw [if_neg h, List.filter_cons_of_pos (by simpa using h)]
      refine (bt_perm ws (ins w f)).trans ?_
      refine (List.Perm.append_left _ (ins_perm w f)).trans ?_
      exact List.perm_middle
theorem bt_adj : ∀ ws f, Adj f → Adj (bt ws f)
  | [], f, h => h
  | w :: ws, f, h => by
    unfold bt
    split
    · exact bt_adj ws f h
    · exact bt_adj ws _ (adj_ins w f h)
theorem while_ok {W : D} {o : DL.Pt} {l : List DL.Pt} (ho : NrP o) (hl : ∀ p ∈ l, NrP p) : ∀ (n k : Nat), k ≤ plc o l → plc o l - k < n →
    fWhile (fAnd (fTst (fOp nLt (fVar 3) (fCB gLen (fCons (fVar 1) fNil)))) (fTst (fCall m_is_behind (fCons (fVar 2) (fCons (fOp gIx (fVar 1) (fVar 3)) fNil))))) (fAug nAdd 3 (fC (.int 1))) n ⟨[some W, some (.loc 0), some (pt o), some (.int k)], [l.map pt]⟩ =
      .nx ⟨[some W, some (.loc 0), some (pt o), some (.int (plc o l))], [l.map pt]⟩
  | 0, k, _, h => by omega
  | n + 1, k, h1, h2 => by
    have hp := plc_le o l
    have cnd : ∀ x, l[k]? = some x → (fAnd (fTst (fOp nLt (fVar 3) (fCB gLen (fCons (fVar 1) fNil)))) (fTst (fCall m_is_behind (fCons (fVar 2) (fCons (fOp gIx (fVar 1) (fVar 3)) fNil))))) ⟨[some W, some (.loc 0), some (pt o), some (.int k)], [l.map pt]⟩ = .ok (bhd o x) [l.map pt] := by
      intro x hx
      have hk : k < l.length := (List.getElem?_eq_some_iff.mp hx).1
      have e : atI (l.map pt) (k : Int) = some (pt x) := atI_at (by rw [List.getElem?_map, hx]; rfl)
      have nx := hl x (List.mem_of_getElem? hx)
      have c : m_is_behind [pt o, pt x] = .ok (.bl (bhd o x)) := x_behind ho.1 ho.2 nx.1 nx.2
      have lp : ∀ p : DL.Pt, (pt p).lf = true := fun _ => rfl
      simp [gLen, seqOf, hk, e, call_s, lfs, lp, c]
    unfold fWhile
    by_cases hk : k < plc o l
    · obtain ⟨x, hx, hb⟩ := plc_lt o l k hk
      rw [cnd x hx, hb]
      have ih := while_ok (W := W) ho hl n (k + 1) (by omega) (by omega)
      have st : (fAug nAdd 3 (fC (.int 1))) ⟨[some W, some (.loc 0), some (pt o), some (.int (k : Int))], [l.map pt]⟩ = .nx ⟨[some W, some (.loc 0), some (pt o), some (.int ((k + 1 : Nat) : Int))], [l.map pt]⟩ :=
        fAug_s (d := .int k) (e := .int 1) (z := .int ((k + 1 : Nat) : Int)) (M := [l.map pt]) rfl rfl (by simp)
      simp only [toS_ok, if_true, st]
      exact ih
    · have ek : k = plc o l := by omega
      subst ek
      cases hx : l[plc o l]? with
      | some x => rw [cnd x hx, plc_at o l x hx]; rfl
      | none =>
        have hlen : ¬ plc o l < l.length := fun z => by rw [List.getElem?_eq_getElem z] at hx; cases hx
        simp [gLen, seqOf, hlen]
theorem loop_ok {W : D} : ∀ (ws f : List DL.Pt) (x y : Option D), (∀ p ∈ ws, NrP p) → (∀ p ∈ f, NrP p) → ws.length + f.length ≤ 500 →
    ∃ x' y', fForL (bName 2) (fIfS (fTst (fOp gNe (fVar 2) (fTup (fCons (fC (.int 0)) (fCons (fC (.int 0)) fNil))))) (fSeq (fAsg (fC (.int 0)) (bName 3)) (fSeq (fWhile (fAnd (fTst (fOp nLt (fVar 3) (fCB gLen (fCons (fVar 1) fNil)))) (fTst (fCall m_is_behind (fCons (fVar 2) (fCons (fOp gIx (fVar 1) (fVar 3)) fNil))))) (fAug nAdd 3 (fC (.int 1))) 1000) (fDrop (fMt gInsert (fVar 1) (fCons (fVar 3) (fCons (fVar 2) fNil)))))) fSkip) (ws.map pt) ⟨[some W, some (.loc 0), x, y], [f.map pt]⟩
      = .nx ⟨[some W, some (.loc 0), x', y'], [(bt ws f).map pt]⟩
  | [], f, x, y, _, _, _ => ⟨x, y, by simp [bt]⟩
  | w :: ws, f, x, y, hw, hf, hl => by
    have hw' : ∀ p ∈ ws, NrP p := fun p hp => hw p (List.mem_cons_of_mem _ hp)
    have t : fTst (fOp gNe (fVar 2) (fTup (fCons (fC (.int 0)) (fCons (fC (.int 0)) fNil)))) ⟨[some W, some (.loc 0), some (pt w), y], [f.map pt]⟩ = .ok (decide (w ≠ (0, 0))) [f.map pt] := by
      obtain ⟨a, b⟩ := w
      simp [pt]
    rw [List.map_cons, fForL, bName_s]
    simp only [List.set, fIfS_s, t, toS_ok]
    unfold bt
    by_cases h : w = (0, 0)
    · rw [if_neg (by simpa using h), if_pos h]
      simp only [fSkip_s]
      exact loop_ok ws f _ _ hw' hf (by simp at hl; omega)
    · rw [if_pos (by simpa using h), if_neg h]
      have hp := plc_le w f
      have wk := while_ok (W := W) (hw w List.mem_cons_self) hf 1000 0 (Nat.zero_le _) (by simp at hl; omega)
      have a1 : fAsg (fC (.int 0)) (bName 3) ⟨[some W, some (.loc 0), some (pt w), y], [f.map pt]⟩ = .nx ⟨[some W, some (.loc 0), some (pt w), some (.int ((0 : Nat) : Int))], [f.map pt]⟩ := by simp
      have a2 : fDrop (fMt gInsert (fVar 1) (fCons (fVar 3) (fCons (fVar 2) fNil))) ⟨[some W, some (.loc 0), some (pt w), some (.int (plc w f))], [f.map pt]⟩ = .nx ⟨[some W, some (.loc 0), some (pt w), some (.int (plc w f))], [(ins w f).map pt]⟩ := by
        have b1 : f.length < 100000 := by simp at hl; omega
        have b2 : plc w f ≤ 100000 := by omega
        have e : (f.map pt).take (plc w f) ++ pt w :: (f.map pt).drop (plc w f) = (ins w f).map pt := by
          rw [← ins_eq w f]
          simp
        have b3 : (plc w f : Int) ≤ 100000 := by omega
        simp [fMt, isLst, gInsert, b1, b3]
        simpa using e
      rw [seq_nx a1, seq_nx wk, a2]
      dsimp only
      refine loop_ok ws (ins w f) _ _ hw' (fun p hp => ?_) ?_
      · rcases List.mem_cons.mp ((ins_perm w f).mem_iff.mp hp) with z | z
        · rw [z]; exact hw w List.mem_cons_self
        · exact hf p z
      · have := (ins_perm w f).length_eq
        simp at this hl
        omega
theorem x_turns {ws : List DL.Pt} (h : ∀ p ∈ ws, NrP p) (hl : ws.length ≤ 500) : m_by_turns [.lst (ws.map pt)] = .ok (.tup ((bt ws []).map pt)) := by
  obtain ⟨x', y', e⟩ := loop_ok (W := .lst (ws.map pt)) ws [] none none h (fun _ z => by cases z) (by simpa using hl)
  have hfz : ∀ ps : List DL.Pt, fzs [ps.map pt] 0 (ps.map pt) = some (ps.map pt) := fun ps => by
    refine fzs_lf ?_ ?_
    · induction ps with
      | nil => rfl
      | cons p r ih =>
        show lfs (pt p :: r.map pt) = true
        unfold lfs; rw [ih]; rfl
    · induction ps with
      | nil => rfl
      | cons p r ih =>
        show noscrs (pt p :: r.map pt) = true
        unfold noscrs; rw [ih]; rfl
  have a1 : fOwn 1 (fNew fNil) ⟨init0 N_by_turns [.lst (ws.map pt)], []⟩ = .nx ⟨[some (.lst (ws.map pt)), some (.loc 0), none, none], [List.map pt []]⟩ := by
    simp [init0]
  have a2 : (fFor (fIt asLst (fVar 0)) (bName 2) (fIfS (fTst (fOp gNe (fVar 2) (fTup (fCons (fC (.int 0)) (fCons (fC (.int 0)) fNil))))) (fSeq (fAsg (fC (.int 0)) (bName 3)) (fSeq (fWhile (fAnd (fTst (fOp nLt (fVar 3) (fCB gLen (fCons (fVar 1) fNil)))) (fTst (fCall m_is_behind (fCons (fVar 2) (fCons (fOp gIx (fVar 1) (fVar 3)) fNil))))) (fAug nAdd 3 (fC (.int 1))) 1000) (fDrop (fMt gInsert (fVar 1) (fCons (fVar 3) (fCons (fVar 2) fNil)))))) fSkip)) ⟨[some (.lst (ws.map pt)), some (.loc 0), none, none], [List.map pt []]⟩ = .nx ⟨[some (.lst (ws.map pt)), some (.loc 0), x', y'], [(bt ws []).map pt]⟩ := by
    simp only [fFor_s, fIt_s, fVar_s, ce0, bind_ok, asLst_s, opt_some, toS_ok]
    exact e
  show (g_by_turns 1000 ⟨init0 N_by_turns [.lst (ws.map pt)], []⟩).pu = _
  unfold g_by_turns
  rw [seq_nx a1, seq_nx a2]
  simp [gTupOf, seqOf, hfz]
end K1

namespace K1
open PySem PySem.Spec L2 DL
open PyProof.Rows hiding St
/-- small ints -/
def S5 (x : Int) : Prop := -5 ≤ x ∧ x ≤ 5
theorem S5.n {x : Int} (h : S5 x) : Nr x := by unfold S5 at h; unfold Nr; omega
theorem S5.d {x y : Int} (h : S5 x) (g : S5 y) : Nr (x - y) := by unfold S5 at h g; unfold Nr; omega
theorem btw (p q r : Int) : (p - r) * (q - r) ≤ 0 ↔ (if q < p then q else p) ≤ r ∧ r ≤ (if p < q then q else p) := by
  constructor
  · intro h
    by_cases h1 : p < r
    · by_cases h2 : q < r
      · have := Int.mul_pos_of_neg_of_neg (show p - r < 0 by omega) (show q - r < 0 by omega)
        omega
      · split <;> split <;> omega
    · by_cases h2 : r < p
      · by_cases h3 : r < q
        · have := Int.mul_pos (show 0 < p - r by omega) (show 0 < q - r by omega)
          omega
        · split <;> split <;> omega
      · split <;> split <;> omega
  · rintro ⟨ha, hb⟩
    by_cases h0 : p = r
    · subst h0; simp
    · by_cases h1 : p < r
      · have h2 : r ≤ q := by split at hb <;> omega
        exact Int.mul_nonpos_of_nonpos_of_nonneg (by omega) (by omega)
      · have h2 : q ≤ r := by split at ha <;> omega
        exact Int.mul_nonpos_of_nonneg_of_nonpos (by omega) (by omega)
theorem btw2 {a b c d e f : Int} (h : crs (c - a) (d - b) (e - a) (f - b) = 0) : aln (a - e) (b - f) (c - e) (d - f) ≤ 0 ↔ ((a - e) * (c - e) ≤ 0 ∧ (b - f) * (d - f) ≤ 0) := by
  unfold crs at h
  unfold aln
  have k : ((a - e) * (c - e)) * ((b - f) * (d - f)) = ((a - e) * (d - f)) * ((a - e) * (d - f)) := by
    have : (a - e) * (d - f) = (b - f) * (c - e) := by grind
    grind
  have sq : 0 ≤ ((a - e) * (d - f)) * ((a - e) * (d - f)) := by
    rcases Int.le_total 0 ((a - e) * (d - f)) with z | z
    · exact Int.mul_nonneg z z
    · exact Int.mul_nonneg_of_nonpos_of_nonpos z z
  rw [← k] at sq
  generalize (a - e) * (c - e) = x at *
  generalize (b - f) * (d - f) = y at *
  constructor
  · intro z
    refine ⟨Int.not_lt.mp fun hx => ?_, Int.not_lt.mp fun hy => ?_⟩
    · have := Int.mul_neg_of_pos_of_neg hx (show y < 0 by omega)
      omega
    · have := Int.mul_neg_of_neg_of_pos (show x < 0 by omega) hy
      omega
  · intro z
    omega

abbrev L (x0 x1 : Option D) (a b c d e f g h i j : Int) (r : List (Option D)) : List (Option D) := x0 :: x1 :: some (P a b) :: some (P c d) :: some (P e f) :: some (P g h) :: some (P i j) :: r
section
variable {x0 x1 x7 x8 x9 x10 x11 x12 x13 x14 x15 x16 x17 x18 : Option D} {M : Cells} {a b c d e f g h i j w : Int}
theorem st2 (ha : S5 a) (hb : S5 b) (hc : S5 c) (hd : S5 d) : g_law_1_2 ⟨L x0 x1 a b c d e f g h i j [x7, x8, x9, x10, x11, x12, x13, x14, x15, x16, x17, x18], M⟩ =
    .nx ⟨L x0 x1 a b c d e f g h i j [x7, some (.int (crs (c - a) (d - b) (e - a) (f - b))), x9, x10, x11, x12, x13, x14, x15, x16, x17, x18], M⟩ := by
  have t : m__law_turn [P a b, P c d, P e f] = .ok (.int (crs (c - a) (d - b) (e - a) (f - b))) := by
    unfold S5 at *
    simp (disch := omega) [m__law_turn, aut, g__law_turn, init0, crs]
  simp [g_law_1_2, call_s, lfs, D.lf, t]
theorem st3 (ha : S5 a) (hb : S5 b) (hc : S5 c) (hd : S5 d) (he : S5 e) (hf : S5 f) : g_law_1_3 ⟨L x0 x1 a b c d e f g h i j [x7, some (.int (crs (c - a) (d - b) (e - a) (f - b))), x9, x10, x11, x12, x13, x14, x15, x16, x17, x18], M⟩ =
    .nx ⟨L x0 x1 a b c d e f g h i j [x7, some (.int (crs (c - a) (d - b) (e - a) (f - b))), x9, x10, x11, x12, x13, x14, x15, x16, x17, x18], M⟩ := by
  have e1 : crs (e - c) (f - d) (a - c) (b - d) = crs (c - a) (d - b) (e - a) (f - b) := by unfold crs; grind
  have e2 : crs (e - a) (f - b) (c - a) (d - b) = 0 - crs (c - a) (d - b) (e - a) (f - b) := by unfold crs; grind
  simp [g_law_1_3, call_s, lfs, D.lf, x_turn (hc.d ha) (hd.d hb), x_turn (he.d hc) (hf.d hd), x_turn (he.d ha) (hf.d hb), e1, e2]
theorem st4 (ha : S5 a) (hb : S5 b) (hc : S5 c) (hd : S5 d) : g_law_1_4 ⟨L x0 x1 a b c d e f g h i j [x7, some (.int (crs (c - a) (d - b) (e - a) (f - b))), x9, x10, x11, x12, x13, x14, x15, x16, x17, x18], M⟩ =
    .nx ⟨L x0 x1 a b c d e f g h i j [x7, some (.int (crs (c - a) (d - b) (e - a) (f - b))), x9, x10, x11, x12, x13, x14, x15, x16, x17, x18], M⟩ := by
  simp [g_law_1_4, call_s, lfs, D.lf, x_side (hc.d ha) (hd.d hb)]
theorem st5 : g_law_1_5 ⟨L x0 x1 a b c d e f g h i j [x7, x8, x9, x10, x11, x12, x13, x14, x15, x16, x17, x18], M⟩ =
    .nx ⟨L x0 x1 a b c d e f g h i j [x7, x8, some (.tup [P a b, P c d, P e f]), x10, x11, x12, x13, x14, x15, x16, x17, x18], M⟩ := by
  simp [g_law_1_5]
theorem st6 (ha : S5 a) (hb : S5 b) (hc : S5 c) (hd : S5 d) (he : S5 e) (hf : S5 f) (hg : S5 g) (hh : S5 h) : ∃ y10 y11, g_law_1_6 ⟨L x0 x1 a b c d e f g h i j [x7, some (.int (crs (c - a) (d - b) (e - a) (f - b))), some (.tup [P a b, P c d, P e f]), x10, x11, x12, x13, x14, x15, x16, x17, x18], M⟩ =
    .nx ⟨L x0 x1 a b c d e f g h i j [x7, some (.int (crs (c - a) (d - b) (e - a) (f - b))), some (.tup [P a b, P c d, P e f]), y10, y11, x12, x13, x14, x15, x16, x17, x18], M⟩ := by
  have one : ∀ (p q r s t u k : Int) (z10 z11 : Option D), Nr (r - p) → Nr (s - q) → Nr (p - r) → Nr (q - s) → (k = 1 ∨ k = -1) → crs (r - p) (s - q) (t - p) (u - q) = k * crs (c - a) (d - b) (e - a) (f - b) → aln (p - r) (q - s) (p - r) (q - s) = aln (a - c) (b - d) (a - c) (b - d) →
      g_law_1_6_1 ⟨L x0 x1 a b c d e f g h i j [x7, some (.int (crs (c - a) (d - b) (e - a) (f - b))), some (.tup [P a b, P c d, P e f]), some (.tup [P p q, P r s, P t u]), some (.int k), x12, x13, x14, x15, x16, x17, x18], M⟩ =
      .nx ⟨L x0 x1 a b c d e f g h i j [x7, some (.int (crs (c - a) (d - b) (e - a) (f - b))), some (.tup [P a b, P c d, P e f]), some (.tup [P p q, P r s, P t u]), some (.int k), x12, x13, x14, x15, x16, x17, x18], M⟩ := by
    intro p q r s t u k z10 z11 h1 h2 h3 h4 hk e1 e2
    have k1 : -18446744073709551616 < k := by omega
    have k2 : k < 18446744073709551616 := by omega
    simp [g_law_1_6_1, call_s, lfs, D.lf, x_turn h1 h2, x_square h3 h4, x_square (ha.d hc) (hb.d hd), e1, e2, nMul_s k1 k2]
  have o1 := one (a + g) (b + h) (c + g) (d + h) (e + g) (f + h) 1 none none (by unfold S5 Nr at *; omega) (by unfold S5 Nr at *; omega) (by unfold S5 Nr at *; omega) (by unfold S5 Nr at *; omega) (.inl rfl) (by unfold crs; grind) (by unfold aln; grind)
  have o2 := one (-b) a (-d) c (-f) e 1 none none (by unfold S5 Nr at *; omega) (by unfold S5 Nr at *; omega) (by unfold S5 Nr at *; omega) (by unfold S5 Nr at *; omega) (.inl rfl) (by unfold crs; grind) (by unfold aln; grind)
  have o3 := one (-a) b (-c) d (-e) f (-1) none none (by unfold S5 Nr at *; omega) (by unfold S5 Nr at *; omega) (by unfold S5 Nr at *; omega) (by unfold S5 Nr at *; omega) (.inr rfl) (by unfold crs; grind) (by unfold aln; grind)
  refine ⟨some (.tup [P (-a) b, P (-c) d, P (-e) f]), some (.int (-1)), ?_⟩
  simp [g_law_1_6, call_s, lfs, D.lf, x_moved, x_quarter, x_mirrored, fForL, bTup, bCons, bNil, o1, o2, o3]
theorem st7 (ha : S5 a) (hb : S5 b) (hc : S5 c) (hd : S5 d) : g_law_1_7 ⟨L x0 x1 a b c d e f g h i j [x7, x8, x9, x10, x11, x12, x13, x14, x15, x16, x17, x18], M⟩ =
    .nx ⟨L x0 x1 a b c d e f g h i j [x7, x8, x9, x10, x11, x12, x13, x14, x15, x16, x17, x18], M⟩ := by
  have m1 : -18446744073709551616 < a - c ∧ a - c < 18446744073709551616 := by unfold S5 at *; omega
  have m2 : -18446744073709551616 < b - d ∧ b - d < 18446744073709551616 := by unfold S5 at *; omega
  simp [g_law_1_7, call_s, lfs, D.lf, x_square (ha.d hc) (hb.d hd), nMul_s m1.1 m1.2, nMul_s m2.1 m2.2, aln]
theorem st8 (ha : S5 a) (hb : S5 b) (hc : S5 c) (hd : S5 d) : g_law_1_8 ⟨L x0 x1 a b c d e f g h i j [x7, x8, x9, x10, x11, x12, x13, x14, x15, x16, x17, x18], M⟩ =
    .nx ⟨L x0 x1 a b c d e f g h i j [x7, x8, x9, x10, x11, x12, x13, x14, x15, x16, x17, x18], M⟩ := by
  have q1 : a - c + c = a := by omega
  have q2 : b - d + d = b := by omega
  simp [g_law_1_8, call_s, lfs, D.lf, x_square (ha.d hc) (hb.d hd), x_less, x_add, x_along (ha.d hc) (hb.d hd)]
theorem st9 (ha : S5 a) (hb : S5 b) (hc : S5 c) (hd : S5 d) : g_law_1_9 ⟨L x0 x1 a b c d e f g h i j [x7, x8, x9, x10, x11, x12, x13, x14, x15, x16, x17, x18], M⟩ =
    .nx ⟨L x0 x1 a b c d e f g h i j [x7, x8, x9, x10, x11, x12, x13, x14, x15, x16, x17, x18], M⟩ := by
  have q1 : crs a b c d = 0 - crs c d a b := by unfold crs; grind
  simp [g_law_1_9, call_s, lfs, D.lf, x_cross ha.n hb.n, x_cross hc.n hd.n, q1]
theorem st10 : g_law_1_10 ⟨L x0 x1 a b c d e f g h i j [x7, some (.int w), x9, x10, x11, x12, x13, x14, x15, x16, x17, x18], M⟩ =
    .nx ⟨L x0 x1 a b c d e f g h i j [x7, some (.int w), x9, x10, x11, some (.bl (decide (w = 0) && (decide ((if c < a then c else a) ≤ e) && decide (e ≤ if a < c then c else a)) && (decide ((if d < b then d else b) ≤ f) && decide (f ≤ if b < d then d else b)))), x13, x14, x15, x16, x17, x18], M⟩ := by
  by_cases h1 : w = 0
  · by_cases h2 : (if c < a then c else a) ≤ e
    · by_cases h3 : e ≤ if a < c then c else a
      · by_cases h4 : (if d < b then d else b) ≤ f
        · simp [g_law_1_10, fAndV, gMin2, gMax2, h1, h2, h3, h4]
        · simp [g_law_1_10, fAndV, gMin2, gMax2, h1, h2, h3, h4]
      · simp [g_law_1_10, fAndV, gMin2, gMax2, h1, h2, h3]
    · simp [g_law_1_10, fAndV, gMin2, gMax2, h1, h2]
  · simp [g_law_1_10, fAndV, gMin2, gMax2, h1]
theorem st11 (ha : S5 a) (hb : S5 b) (hc : S5 c) (hd : S5 d) (he : S5 e) (hf : S5 f) : g_law_1_11 ⟨L x0 x1 a b c d e f g h i j [x7, x8, x9, x10, x11, some (.bl (decide (crs (c - a) (d - b) (e - a) (f - b) = 0) && (decide ((if c < a then c else a) ≤ e) && decide (e ≤ if a < c then c else a)) && (decide ((if d < b then d else b) ≤ f) && decide (f ≤ if b < d then d else b)))), x13, x14, x15, x16, x17, x18], M⟩ =
    .nx ⟨L x0 x1 a b c d e f g h i j [x7, x8, x9, x10, x11, some (.bl (decide (crs (c - a) (d - b) (e - a) (f - b) = 0) && (decide ((if c < a then c else a) ≤ e) && decide (e ≤ if a < c then c else a)) && (decide ((if d < b then d else b) ≤ f) && decide (f ≤ if b < d then d else b)))), x13, x14, x15, x16, x17, x18], M⟩ := by
  have q1 : (decide (crs (c - a) (d - b) (e - a) (f - b) = 0) && decide (aln (a - e) (b - f) (c - e) (d - f) ≤ 0)) = (decide (crs (c - a) (d - b) (e - a) (f - b) = 0) && (decide ((if c < a then c else a) ≤ e) && decide (e ≤ if a < c then c else a)) && (decide ((if d < b then d else b) ≤ f) && decide (f ≤ if b < d then d else b))) := by
    by_cases h0 : crs (c - a) (d - b) (e - a) (f - b) = 0
    · have b2 := btw2 h0
      rw [btw, btw] at b2
      rw [decide_eq_true h0, Bool.true_and, Bool.true_and]
      rw [Bool.eq_iff_iff]
      simp only [Bool.and_eq_true, decide_eq_true_eq]
      exact b2
    · simp [h0]
  have q2 : crs (c - a) (d - b) (a - a) (b - b) = 0 := by unfold crs; grind
  have q3 : aln (a - a) (b - b) (c - a) (d - b) ≤ 0 := by unfold aln; simp
  generalize hB : (decide (crs (c - a) (d - b) (e - a) (f - b) = 0) && (decide ((if c < a then c else a) ≤ e) && decide (e ≤ if a < c then c else a)) && (decide ((if d < b then d else b) ≤ f) && decide (f ≤ if b < d then d else b))) = B at *
  have t1 := x_between (e := e) (f := f) (hc.d ha) (hd.d hb) (ha.d he) (hb.d hf)
  have t2 := x_between (e := a) (f := b) (hc.d ha) (hd.d hb) (ha.d ha) (hb.d hb)
  rw [q1] at t1
  rw [q2, decide_eq_true q3] at t2
  simp only [decide_true, Bool.and_self] at t2
  simp [g_law_1_11, call_s, lfs, D.lf, t1, t2, gNotB]
theorem st12 : g_law_1_12 ⟨L x0 x1 a b c d e f g h i j [x7, x8, x9, x10, x11, x12, x13, x14, x15, x16, x17, x18], M⟩ =
    .nx ⟨L x0 x1 a b c d e f g h i j [x7, x8, x9, x10, x11, x12, some (.lst ([(a, b), (c, d), (e, f), (g, h), (i, j)].map pt)), x14, x15, x16, x17, x18], M⟩ := by
  simp [g_law_1_12, pt]
theorem lf_pts : ∀ ps : List DL.Pt, lfs (ps.map pt) = true
  | [] => rfl
  | p :: r => by
    show lfs (pt p :: r.map pt) = true
    unfold lfs; rw [lf_pts r]; rfl
theorem st13 {ws : List DL.Pt} (hw : ∀ p ∈ ws, NrP p) (hl : ws.length ≤ 500) : g_law_1_13 ⟨L x0 x1 a b c d e f g h i j [x7, x8, x9, x10, x11, x12, some (.lst (ws.map pt)), x14, x15, x16, x17, x18], M⟩ =
    .nx ⟨L x0 x1 a b c d e f g h i j [x7, x8, x9, x10, x11, x12, some (.lst (ws.map pt)), some (.tup ((bt ws []).map pt)), x15, x16, x17, x18], M⟩ := by
  simp [g_law_1_13, call_s, lfs, D.lf, lf_pts, x_turns hw hl]
theorem st14 {ws : List DL.Pt} (hl : ws.length ≤ 500) : g_law_1_14 ⟨L x0 x1 a b c d e f g h i j [x7, x8, x9, x10, x11, x12, some (.lst (ws.map pt)), some (.tup ((bt ws []).map pt)), x15, x16, x17, x18], M⟩ =
    .nx ⟨L x0 x1 a b c d e f g h i j [x7, x8, x9, x10, x11, x12, some (.lst (ws.map pt)), some (.tup ((bt ws []).map pt)), x15, x16, x17, x18], M⟩ := by
  have e1 : (bt ws []).mergeSort lePt = (ws.filter fun p => decide (p ≠ (0, 0))).mergeSort lePt := sorted_perm (by simpa using bt_perm ws [])
  have e2 : ∀ ρ : List (Option D), 15 < ρ.length → fLcGo (bName 15) (fTst (fOp gNe (fVar 15) (fTup (fCons (fC (.int 0)) (fCons (fC (.int 0)) fNil))))) (fVar 15) ρ (ws.map pt) M = .ok ((ws.filter fun p => decide (p ≠ (0, 0))).map pt) M := fun ρ hρ => by
    refine lcGo_filter _ hρ (fun p => ?_) ws
    obtain ⟨p1, p2⟩ := p
    simp [hρ, pt]
  have e3 : ∀ ps : List DL.Pt, gNe M (.lst (ps.map pt)) (.lst (ps.map pt)) = some (.bl false) := fun ps => gNe_self (by unfold D.cmp; exact pts_cmp ps)
  have w : ∀ ρ : List (Option D), (wipeD ρ [15]).length = ρ.length := fun ρ => wipeD_length ρ _
  have hl2 : ws.length ≤ 100000 := by omega
  simp [g_law_1_14, fLc, e2, w, hl2]
  have e4 : ws.filter (fun p => !decide (p = (0, 0))) = ws.filter fun p => decide (p ≠ (0, 0)) := by simp
  simp [e4, e1, e3]
theorem st15 {fd : List DL.Pt} (hw : ∀ p ∈ fd, NrP p) (hl : fd.length ≤ 500) (hA : Adj fd) : ∃ y7 y16 y17, g_law_1_15 ⟨L x0 x1 a b c d e f g h i j [x7, x8, x9, x10, x11, x12, x13, some (.tup (fd.map pt)), x15, x16, x17, x18], M⟩ =
    .nx ⟨L x0 x1 a b c d e f g h i j [y7, x8, x9, x10, x11, x12, x13, some (.tup (fd.map pt)), x15, y16, y17, x18], M⟩ := by
  have go := forL_inv (g := bName 7) (b := fSeq g_law_1_15_1 (fSeq g_law_1_15_2 (fSeq g_law_1_15_3 g_law_1_15_4))) (fun d => ∃ k : Nat, k + 1 < fd.length ∧ d = .int ((k + 1 : Nat) : Int))
    (fun s => ∃ y7 y16 y17, s = ⟨L x0 x1 a b c d e f g h i j [y7, x8, x9, x10, x11, x12, x13, some (.tup (fd.map pt)), x15, y16, y17, x18], M⟩) (fun dd s hd hs => by
      obtain ⟨k, hk, rfl⟩ := hd
      obtain ⟨y7, y16, y17, rfl⟩ := hs
      obtain ⟨u, hu⟩ : ∃ u, fd[k]? = some u := ⟨_, List.getElem?_eq_getElem (by omega)⟩
      obtain ⟨v, hv⟩ : ∃ v, fd[k + 1]? = some v := ⟨_, List.getElem?_eq_getElem hk⟩
      have nu := hw u (List.mem_of_getElem? hu)
      have nv := hw v (List.mem_of_getElem? hv)
      have hb := adj_get fd k u v hA hu hv
      obtain ⟨u1, u2⟩ := u
      obtain ⟨v1, v2⟩ := v
      have hb : ibh u1 u2 v1 v2 = false := hb
      have i1 : atI (fd.map pt) (((k + 1 : Nat) : Int) - 1) = some (P u1 u2) := by
        rw [show ((k + 1 : Nat) : Int) - 1 = (k : Int) by omega]
        exact atI_at (by rw [List.getElem?_map, hu]; rfl)
      have i2 : atI (fd.map pt) ((k + 1 : Nat) : Int) = some (P v1 v2) := atI_at (by rw [List.getElem?_map, hv]; rfl)
      refine ⟨_, rfl, ⟨L x0 x1 a b c d e f g h i j [some (.int ((k + 1 : Nat) : Int)), x8, x9, x10, x11, x12, x13, some (.tup (fd.map pt)), x15, some (P u1 u2), some (P v1 v2), x18], M⟩, ?_, _, _, _, rfl⟩
      have ec : crs v1 v2 u1 u2 = - crs u1 u2 v1 v2 := by unfold crs; grind
      have q1 : g_law_1_15_1 ⟨(L x0 x1 a b c d e f g h i j [y7, x8, x9, x10, x11, x12, x13, some (.tup (fd.map pt)), x15, y16, y17, x18]).set 7 (some (.int ((k + 1 : Nat) : Int))), M⟩ = .nx ⟨L x0 x1 a b c d e f g h i j [some (.int ((k + 1 : Nat) : Int)), x8, x9, x10, x11, x12, x13, some (.tup (fd.map pt)), x15, some (P u1 u2), some (P v1 v2), x18], M⟩ := by
        generalize ((k + 1 : Nat) : Int) = kk at *
        simp [g_law_1_15_1, i1, i2]
      have q2 : g_law_1_15_2 ⟨L x0 x1 a b c d e f g h i j [some (.int ((k + 1 : Nat) : Int)), x8, x9, x10, x11, x12, x13, some (.tup (fd.map pt)), x15, some (P u1 u2), some (P v1 v2), x18], M⟩ = .nx ⟨L x0 x1 a b c d e f g h i j [some (.int ((k + 1 : Nat) : Int)), x8, x9, x10, x11, x12, x13, some (.tup (fd.map pt)), x15, some (P u1 u2), some (P v1 v2), x18], M⟩ := by
        have z : ¬ hf v1 v2 < hf u1 u2 := by unfold ibh cah at hb; grind
        simp [g_law_1_15_2, call_s, lfs, D.lf, x_half, z]
      have q3 : g_law_1_15_3 ⟨L x0 x1 a b c d e f g h i j [some (.int ((k + 1 : Nat) : Int)), x8, x9, x10, x11, x12, x13, some (.tup (fd.map pt)), x15, some (P u1 u2), some (P v1 v2), x18], M⟩ = .nx ⟨L x0 x1 a b c d e f g h i j [some (.int ((k + 1 : Nat) : Int)), x8, x9, x10, x11, x12, x13, some (.tup (fd.map pt)), x15, some (P u1 u2), some (P v1 v2), x18], M⟩ := by
        by_cases h1 : hf u1 u2 = hf v1 v2
        · have z : ¬ crs u1 u2 v1 v2 < 0 := by unfold ibh cah at hb; grind
          by_cases h2 : crs u1 u2 v1 v2 = 0
          · have z2 : ¬ aln v1 v2 v1 v2 < aln u1 u2 u1 u2 := by unfold ibh cah at hb; grind
            simp [g_law_1_15_3, call_s, lfs, D.lf, x_half, x_cross nu.1 nu.2, x_along nu.1 nu.2, x_along nv.1 nv.2, h1, h2, z2]
          · simp [g_law_1_15_3, call_s, lfs, D.lf, x_half, x_cross nu.1 nu.2, x_along nu.1 nu.2, x_along nv.1 nv.2, h1, z, h2]
        · simp [g_law_1_15_3, call_s, lfs, D.lf, x_half, h1]
      have q4 : g_law_1_15_4 ⟨L x0 x1 a b c d e f g h i j [some (.int ((k + 1 : Nat) : Int)), x8, x9, x10, x11, x12, x13, some (.tup (fd.map pt)), x15, some (P u1 u2), some (P v1 v2), x18], M⟩ = .nx ⟨L x0 x1 a b c d e f g h i j [some (.int ((k + 1 : Nat) : Int)), x8, x9, x10, x11, x12, x13, some (.tup (fd.map pt)), x15, some (P u1 u2), some (P v1 v2), x18], M⟩ := by
        have z : cah v1 v2 u1 u2 = false := by unfold ibh at hb; unfold cah at *; grind
        simp [g_law_1_15_4, call_s, lfs, D.lf, x_ahead nv.1 nv.2, z]
      rw [seq_nx q1, seq_nx q2, seq_nx q3, q4])
  obtain ⟨s', e1, y7, y16, y17, rfl⟩ := go (rgList 1 (fd.length - 1)) ⟨L x0 x1 a b c d e f g h i j [x7, x8, x9, x10, x11, x12, x13, some (.tup (fd.map pt)), x15, x16, x17, x18], M⟩ (fun dd hd => by
    obtain ⟨k, hk, rfl⟩ := rg_mem hd
    exact ⟨k, by omega, by congr 1; omega⟩) ⟨_, _, _, rfl⟩
  refine ⟨y7, y16, y17, ?_⟩
  have r : asRg2 [.int 1, .int (fd.length : Int)] = some (rgList 1 (fd.length - 1)) := asRg2_s (i := 1) (j := fd.length) (by omega) (by omega)
  unfold g_law_1_15
  rw [← e1]
  simp [gLen, seqOf, r]
theorem st16 (ha : S5 a) (hb : S5 b) (hc : S5 c) (hd : S5 d) (he : S5 e) (hf : S5 f) : g_law_1_16 ⟨L x0 x1 a b c d e f g h i j [x7, x8, some (.tup [P a b, P c d, P e f]), x10, x11, x12, x13, x14, x15, x16, x17, x18], M⟩ =
    .nx ⟨L x0 x1 a b c d e f g h i j [x7, x8, some (.tup [P a b, P c d, P e f]), x10, x11, x12, x13, x14, x15, x16, x17, x18], M⟩ := by
  simp [g_law_1_16, call_s, lfs, D.lf, x_row ha.n hb.n hc.n hd.n he.n hf.n]
theorem st17 : ∃ y18, g_law_1_17 ⟨L x0 x1 a b c d e f g h i j [x7, x8, x9, x10, x11, x12, x13, x14, x15, x16, x17, x18], M⟩ =
    .nx ⟨L x0 x1 a b c d e f g h i j [x7, x8, x9, x10, x11, x12, x13, x14, x15, x16, x17, y18], M⟩ := by
  have one : ∀ (dd : D) , dd.lf = true → m_check_point [dd] = .ex ⟨"BadPoint", none⟩ → g_law_1_17_1 ⟨L x0 x1 a b c d e f g h i j [x7, x8, x9, x10, x11, x12, x13, x14, x15, x16, x17, some dd], M⟩ = .nx ⟨L x0 x1 a b c d e f g h i j [x7, x8, x9, x10, x11, x12, x13, x14, x15, x16, x17, some dd], M⟩ := fun dd hl hd => by
    have n0 : gNe M (.str "point") (.str "point") = some (.bl false) := by rw [gNe_str (by decide +kernel) (by decide +kernel)]; rfl
    have t : toldBy hs__law_told "BadPoint" = some "point" := by rfl
    simp [g_law_1_17_1, fTold, call_s, lfs, hl, hd, t, n0]
  refine ⟨some (.tup [.bl true, .int 0]), ?_⟩
  simp [g_law_1_17, fForL, one _ rfl x_bad1, one _ rfl x_bad2, one _ rfl x_bad3, one _ rfl x_bad4, one _ rfl x_bad5, one _ rfl x_bad6, one _ rfl x_bad7]
end
theorem body_ok {x0 x2 x3 x4 x5 x6 x7 x8 x9 x10 x11 x12 x13 x14 x15 x16 x17 x18 : Option D} {M : Cells} {n : Nat} (hM : AllTri M) (hn : n < M.length) : ∃ ρ' M', (fSeq g_law_1_1 (fSeq g_law_1_2 (fSeq g_law_1_3 (fSeq g_law_1_4 (fSeq g_law_1_5 (fSeq g_law_1_6 (fSeq g_law_1_7 (fSeq g_law_1_8 (fSeq g_law_1_9 (fSeq g_law_1_10 (fSeq g_law_1_11 (fSeq g_law_1_12 (fSeq g_law_1_13 (fSeq g_law_1_14 (fSeq g_law_1_15 (fSeq g_law_1_16 g_law_1_17))))))))))))))))
    ⟨[x0, some (.loc n), x2, x3, x4, x5, x6, x7, x8, x9, x10, x11, x12, x13, x14, x15, x16, x17, x18], M⟩ = .nx ⟨ρ', M'⟩ ∧ ρ'.length = 19 ∧ AllTri M' ∧ M'.length = M.length := by
  have draw := lcGo_all (g := bName 7) (t := fTrue) (e := fCallM m__law_point (fCons (fVar 1) (fCons (fC (.int 5)) fNil))) (ρ := wipeD [x0, some (.loc n), x2, x3, x4, x5, x6, x7, x8, x9, x10, x11, x12, x13, x14, x15, x16, x17, x18] [7])
    (fun y => ∃ p q, y = P p q ∧ S5 p ∧ S5 q) (fun M' => AllTri M' ∧ M'.length = M.length) (fun dd M1 hI => by
      obtain ⟨a, b, c, ht⟩ := hI.1.at (n := n) (by rw [hI.2]; exact hn)
      obtain ⟨p, q, x, y, z, e1, h1, h2, h3, h4⟩ := point_ok (a := a) (b := b) (c := c) (far := 5) (by decide) (by decide)
      refine ⟨_, rfl, _, rfl, P p q, M1.set n (Tri x y z), ?_, ⟨p, q, rfl, ⟨h1, h2⟩, ⟨h3, h4⟩⟩, hI.1.put, by simp [hI.2]⟩
      exact callM_at (rest := [.int 5]) (by simp [wipeD]) ht rfl rfl rfl rfl e1)
  obtain ⟨ys, M', e1, hl, hy, hM', hL⟩ := draw [.int 0, .int 1, .int 2, .int 3, .int 4] M ⟨hM, rfl⟩
  match ys, hl, hy, e1 with
  | [y1, y2, y3, y4, y5], _, hy, e1 =>
    obtain ⟨a, b, rfl, ha, hb⟩ := hy y1 (by simp)
    obtain ⟨c, d, rfl, hc, hd⟩ := hy y2 (by simp)
    obtain ⟨e, f, rfl, he, hf⟩ := hy y3 (by simp)
    obtain ⟨g, h, rfl, hg, hh⟩ := hy y4 (by simp)
    obtain ⟨i, j, rfl, hi, hj⟩ := hy y5 (by simp)
    have r : asRg1 [.int 5] = some [.int 0, .int 1, .int 2, .int 3, .int 4] := by rfl
    have s1 : g_law_1_1 ⟨[x0, some (.loc n), x2, x3, x4, x5, x6, x7, x8, x9, x10, x11, x12, x13, x14, x15, x16, x17, x18], M⟩ = .nx ⟨L x0 (some (.loc n)) a b c d e f g h i j [x7, x8, x9, x10, x11, x12, x13, x14, x15, x16, x17, x18], M'⟩ := by
      simp [g_law_1_1, fLc, r, e1, bLst, bCons, bNil]
    have nr : ∀ p ∈ [(a, b), (c, d), (e, f), (g, h), (i, j)], NrP p := fun p hp => by
      simp only [List.mem_cons, List.not_mem_nil, or_false] at hp
      rcases hp with rfl | rfl | rfl | rfl | rfl
      · exact ⟨ha.n, hb.n⟩
      · exact ⟨hc.n, hd.n⟩
      · exact ⟨he.n, hf.n⟩
      · exact ⟨hg.n, hh.n⟩
      · exact ⟨hi.n, hj.n⟩
    have nr2 : ∀ p ∈ bt [(a, b), (c, d), (e, f), (g, h), (i, j)] [], NrP p := fun p hp => by
      have := (bt_perm [(a, b), (c, d), (e, f), (g, h), (i, j)] []).mem_iff.mp hp
      rw [List.append_nil] at this
      exact nr p (List.mem_filter.mp this).1
    have len2 : (bt [(a, b), (c, d), (e, f), (g, h), (i, j)] []).length ≤ 500 := by
      rw [(bt_perm _ _).length_eq, List.append_nil]
      exact Nat.le_trans (List.length_filter_le _ _) (by simp)
    obtain ⟨y10, y11, s6⟩ := st6 (x0 := x0) (x1 := some (.loc n)) (x7 := x7) (x10 := x10) (x11 := x11) (x12 := x12) (x13 := x13) (x14 := x14) (x15 := x15) (x16 := x16) (x17 := x17) (x18 := x18) (M := M') (i := i) (j := j) ha hb hc hd he hf hg hh
    rw [seq_nx s1, seq_nx (st2 ha hb hc hd), seq_nx (st3 ha hb hc hd he hf), seq_nx (st4 ha hb hc hd), seq_nx st5, seq_nx s6, seq_nx (st7 ha hb hc hd), seq_nx (st8 ha hb hc hd), seq_nx (st9 ha hb hc hd), seq_nx st10, seq_nx (st11 ha hb hc hd he hf), seq_nx st12, seq_nx (st13 nr (by simp)), seq_nx (st14 (by simp))]
    obtain ⟨y7, y16, y17, s15⟩ := st15 (x0 := x0) (x1 := some (.loc n)) (a := a) (b := b) (c := c) (d := d) (e := e) (f := f) (g := g) (h := h) (i := i) (j := j) (M := M') (x7 := x7) (x8 := some (.int (crs (c - a) (d - b) (e - a) (f - b)))) (x9 := some (.tup [P a b, P c d, P e f])) (x10 := y10) (x11 := y11) (x12 := some (.bl (decide (crs (c - a) (d - b) (e - a) (f - b) = 0) && (decide ((if c < a then c else a) ≤ e) && decide (e ≤ if a < c then c else a)) && (decide ((if d < b then d else b) ≤ f) && decide (f ≤ if b < d then d else b)))))
      (x13 := some (.lst ([(a, b), (c, d), (e, f), (g, h), (i, j)].map pt))) (x15 := x15) (x16 := x16) (x17 := x17) (x18 := x18) nr2 len2 (bt_adj _ _ trivial)
    rw [seq_nx s15, seq_nx (st16 ha hb hc hd he hf)]
    obtain ⟨y18, s17⟩ := st17 (x0 := x0) (x1 := some (.loc n)) (a := a) (b := b) (c := c) (d := d) (e := e) (f := f) (g := g) (h := h) (i := i) (j := j) (M := M') (x7 := y7) (x8 := some (.int (crs (c - a) (d - b) (e - a) (f - b)))) (x9 := some (.tup [P a b, P c d, P e f])) (x10 := y10) (x11 := y11) (x12 := some (.bl (decide (crs (c - a) (d - b) (e - a) (f - b) = 0) && (decide ((if c < a then c else a) ≤ e) && decide (e ≤ if a < c then c else a)) && (decide ((if d < b then d else b) ≤ f) && decide (f ≤ if b < d then d else b)))))
      (x13 := some (.lst ([(a, b), (c, d), (e, f), (g, h), (i, j)].map pt))) (x14 := some (.tup ((bt [(a, b), (c, d), (e, f), (g, h), (i, j)] []).map pt))) (x15 := x15) (x16 := y16) (x17 := y17) (x18 := x18)
    exact ⟨_, _, s17, rfl, hM', hL⟩
theorem len19 {α : Type} : ∀ {l : List α}, l.length = 19 → ∃ x0 x1 x2 x3 x4 x5 x6 x7 x8 x9 x10 x11 x12 x13 x14 x15 x16 x17 x18, l = [x0, x1, x2, x3, x4, x5, x6, x7, x8, x9, x10, x11, x12, x13, x14, x15, x16, x17, x18]
  | [x0, x1, x2, x3, x4, x5, x6, x7, x8, x9, x10, x11, x12, x13, x14, x15, x16, x17, x18], _ => ⟨x0, x1, x2, x3, x4, x5, x6, x7, x8, x9, x10, x11, x12, x13, x14, x15, x16, x17, x18, rfl⟩
theorem law_ok : ∀ sk d ns, Scr sk d ns → ns.length ≤ 63 → ∃ s1, g_law sk ⟨init0 N_law [d], []⟩ = .rt (.bl true) s1 := by
  intro sk d ns h hl
  obtain ⟨Mb, e1, hM⟩ := rounds_ok h hl (most := 6) (by decide)
  have e1 : m__law_rounds sk [d, .int 6] = .ok (.lst ((List.range Mb.length).map .loc)) Mb := e1
  have lfd : d.lf = true := by
    have li : ∀ ns : List Int, lfs (ns.map .int) = true := fun ns => by
      induction ns with
      | nil => rfl
      | cons i r ih => show lfs (D.int i :: r.map .int) = true; unfold lfs; rw [ih]; rfl
    cases h with
    | lst => unfold D.lf; exact li ns
    | frz => unfold D.lf; exact li ns
    | mod => rfl
  obtain ⟨s', e2, _⟩ := forL_inv (g := bName 1) (b := fSeq g_law_1_1 (fSeq g_law_1_2 (fSeq g_law_1_3 (fSeq g_law_1_4 (fSeq g_law_1_5 (fSeq g_law_1_6 (fSeq g_law_1_7 (fSeq g_law_1_8 (fSeq g_law_1_9 (fSeq g_law_1_10 (fSeq g_law_1_11 (fSeq g_law_1_12 (fSeq g_law_1_13 (fSeq g_law_1_14 (fSeq g_law_1_15 (fSeq g_law_1_16 g_law_1_17))))))))))))))))
    (fun d => ∃ n, n < Mb.length ∧ d = .loc n) (fun s => s.ρ.length = 19 ∧ AllTri s.M ∧ s.M.length = Mb.length) (fun dd s hd hs => by
      obtain ⟨n, hn, rfl⟩ := hd
      obtain ⟨ρ, M⟩ := s
      obtain ⟨h1, h2, h3⟩ := hs
      obtain ⟨x0, x1, x2, x3, x4, x5, x6, x7, x8, x9, x10, x11, x12, x13, x14, x15, x16, x17, x18, rfl⟩ := len19 h1
      obtain ⟨ρ', M', q1, q2, q3, q4⟩ := body_ok (x0 := x0) (x2 := x2) (x3 := x3) (x4 := x4) (x5 := x5) (x6 := x6) (x7 := x7) (x8 := x8) (x9 := x9) (x10 := x10) (x11 := x11) (x12 := x12) (x13 := x13) (x14 := x14) (x15 := x15) (x16 := x16) (x17 := x17) (x18 := x18) (n := n) h2 (by rw [h3]; exact hn)
      exact ⟨_, rfl, _, q1, q2, q3, q4.trans h3⟩) ((List.range Mb.length).map .loc) ⟨init0 N_law [d], Mb⟩ (fun dd hd => by
        obtain ⟨n, hn, rfl⟩ := List.mem_map.mp hd
        exact ⟨n, List.mem_range.mp hn, rfl⟩) ⟨rfl, hM, rfl⟩
  have e3 : g_law_1 sk ⟨init0 N_law [d], []⟩ = .nx s' := by
    unfold g_law_1
    rw [fFor_s]
    have q : fCallO (m__law_rounds sk) (fCons (fVar 0) (fCons (fC (.int 6)) fNil)) ⟨init0 N_law [d], []⟩ = .ok (.lst ((List.range Mb.length).map .loc)) Mb := by
      have sh1 : ∀ l : List Nat, shs 0 (l.map .loc) = l.map .loc := fun l => by
        induction l with
        | nil => rfl
        | cons n r ih =>
          show shs 0 (D.loc n :: r.map .loc) = _
          unfold shs D.sh
          rw [ih, Nat.zero_add]; rfl
      have sh2 : Mb.map (shs 0) = Mb := by
        have := fun l (hl : l ∈ Mb) => hM l hl
        conv => rhs; rw [← List.map_id Mb]
        refine List.map_congr_left fun l hl => ?_
        obtain ⟨a, b, c, rfl⟩ := hM l hl
        rfl
      unfold fCallO
      simp [init0, lfs, lfd, e1, D.sh, sh1, sh2]
      rfl
    rw [fIt_s, q]
    simp only [bind_ok, asLst_s, opt_some, toS_ok]
    exact e2
  unfold g_law
  rw [seq_nx e3]
  exact ⟨_, rfl⟩
end K1

namespace K1
open PySem PySem.Spec L2 DL PySem.W
open PyProof.Rows hiding St
def fn : List He.DefD := [⟨("check_point", none), "check_point", "check_point", defArgs st_check_point, defBody st_check_point, defScope st_check_point, [], []⟩,
  ⟨("check_row", none), "check_row", "check_row", defArgs st_check_row, defBody st_check_row, defScope st_check_row, [], []⟩,
  ⟨("less", none), "less", "less", defArgs st_less, defBody st_less, defScope st_less, [], []⟩,
  ⟨("add", none), "add", "add", defArgs st_add, defBody st_add, defScope st_add, [], []⟩,
  ⟨("cross", none), "cross", "cross", defArgs st_cross, defBody st_cross, defScope st_cross, [], []⟩,
  ⟨("along", none), "along", "along", defArgs st_along, defBody st_along, defScope st_along, [], []⟩,
  ⟨("turn", none), "turn", "turn", defArgs st_turn, defBody st_turn, defScope st_turn, [], []⟩,
  ⟨("side", none), "side", "side", defArgs st_side, defBody st_side, defScope st_side, [], []⟩,
  ⟨("square", none), "square", "square", defArgs st_square, defBody st_square, defScope st_square, [], []⟩,
  ⟨("is_between", none), "is_between", "is_between", defArgs st_is_between, defBody st_is_between, defScope st_is_between, [], []⟩,
  ⟨("half", none), "half", "half", defArgs st_half, defBody st_half, defScope st_half, [], []⟩,
  ⟨("comes_ahead", none), "comes_ahead", "comes_ahead", defArgs st_comes_ahead, defBody st_comes_ahead, defScope st_comes_ahead, [], []⟩,
  ⟨("is_behind", none), "is_behind", "is_behind", defArgs st_is_behind, defBody st_is_behind, defScope st_is_behind, [], []⟩,
  ⟨("by_turns", none), "by_turns", "by_turns", defArgs st_by_turns, defBody st_by_turns, defScope st_by_turns, [], []⟩,
  ⟨("moved", none), "moved", "moved", defArgs st_moved, defBody st_moved, defScope st_moved, [], []⟩,
  ⟨("quarter", none), "quarter", "quarter", defArgs st_quarter, defBody st_quarter, defScope st_quarter, [], []⟩,
  ⟨("mirrored", none), "mirrored", "mirrored", defArgs st_mirrored, defBody st_mirrored, defScope st_mirrored, [], []⟩,
  ⟨("_law_dice", none), "_law_dice", "_law_dice", defArgs st__law_dice, defBody st__law_dice, defScope st__law_dice, [], []⟩,
  ⟨("_law_roll", none), "_law_roll", "_law_roll", defArgs st__law_roll, defBody st__law_roll, defScope st__law_roll, [], []⟩,
  ⟨("_law_rounds", none), "_law_rounds", "_law_rounds", defArgs st__law_rounds, defBody st__law_rounds, defScope st__law_rounds, [], []⟩,
  ⟨("_law_point", none), "_law_point", "_law_point", defArgs st__law_point, defBody st__law_point, defScope st__law_point, [], []⟩,
  ⟨("_law_turn", none), "_law_turn", "_law_turn", defArgs st__law_turn, defBody st__law_turn, defScope st__law_turn, [], []⟩,
  ⟨("law", none), "law", "law", defArgs st_law, defBody st_law, defScope st_law, [], []⟩,
  ⟨("_law_told", none), "_law_told", "_law_told", defArgs st__law_told, defBody st__law_told, defScope st__law_told, [], []⟩]
def fa : List He.Fa := [.glo "check_point", .glo "check_row", .glo "less", .glo "add", .glo "cross", .glo "along", .glo "turn", .glo "side", .glo "square", .glo "is_between", .glo "half", .glo "comes_ahead", .glo "is_behind", .glo "by_turns", .glo "moved", .glo "quarter", .glo "mirrored", .glo "_law_dice", .glo "_law_roll", .glo "_law_rounds", .glo "_law_point", .glo "_law_turn", .glo "law", .glo "_law_told", .free "abs", .free "bool", .free "int", .free "isinstance", .free "len", .free "max", .free "min", .free "range", .free "sorted", .free "tuple", .glo "BadPoint", .exc "BadPoint", .exm "BadPoint" "BadPoint" true, .exm "BadPoint" "BadShape" false, .exm "BadPoint" "NoWay" false, .exm "BadPoint" "TooLarge" false, .glo "BadShape", .exm "BadShape" "BadPoint" false, .exm "BadShape" "BadShape" true, .exm "BadShape" "NoWay" false, .exm "BadShape" "TooLarge" false, .glo "NoWay", .exm "NoWay" "BadPoint" false, .exm "NoWay" "BadShape" false, .exm "NoWay" "NoWay" true, .exm "NoWay" "TooLarge" false, .glo "TooLarge", .exm "TooLarge" "BadPoint" false, .exm "TooLarge" "BadShape" false, .exm "TooLarge" "NoWay" false, .exm "TooLarge" "TooLarge" true]
def loose0 : List PySem.Str := ["ShapeFault", "BadPoint", "BadShape", "NoWay", "TooLarge", "check_point", "check_row", "less", "add", "cross", "along", "turn", "side", "square", "is_between", "half", "comes_ahead", "by_turns", "is_behind", "moved", "quarter", "mirrored", "_law_dice", "_law_roll", "_law_rounds", "_law_told", "_law_point", "_law_turn"]
def loose : List PySem.Str := loose0
abbrev Rr : PySem.W.OpenRow := PySem.W.OpenLaw.row PySem.Challenge.rw_hullhall_k01_sides_and_ways
abbrev hkX : PySem.W.Hook := He.hookX 4 fa fn [] [("law", none)] (fun _ => true)
def ob (s : PySem.W.SharedT) : He.AlX := He.obsX 4 fa fn [] [("law", none)] (fun _ => true) (HandSHeadRun.getT s)
theorem ob_eq (s : PySem.W.SharedT) : ob s = hkX.obs s.abs := He.obsX_eq (HandSHeadRun.getT_eq s)
theorem run (w : World) : HandSHeadRun.RunEq Rr (PySem.W.view Rr.prog [31]) hkX ob 4000 loose w := by
  intro os
  kernel_rfl
end K1

namespace K1
open PySem PySem.Spec L2 DL
open PyProof.Rows hiding St
theorem facts {w : World} {K : PySem.W.Frag} {h : Heap} {mg : Str → Option Value} {f : Addr} (X : K.In h) (G : h.Ns mainGlobals mg) (hfa : mg ("law" : Str) = some (.ref f)) (c : He.SaysX fa fn [] [("law", none)] (fun _ => true) w h K) :
    LamX.LawAtS PySem.Challenge.rw_hullhall_k01_sides_and_ways w K (L2.CX (PySem.Challenge.rw_hullhall_k01_sides_and_ways).prog w) 5 63 "script" mg f h := by
  have G_check_point : mg "check_point" = some (.ref (He.ga K "check_point")) := He.glo_ok X G (c.t.d.fact 0 rfl)
  have G_check_row : mg "check_row" = some (.ref (He.ga K "check_row")) := He.glo_ok X G (c.t.d.fact 1 rfl)
  have G_less : mg "less" = some (.ref (He.ga K "less")) := He.glo_ok X G (c.t.d.fact 2 rfl)
  have G_add : mg "add" = some (.ref (He.ga K "add")) := He.glo_ok X G (c.t.d.fact 3 rfl)
  have G_cross : mg "cross" = some (.ref (He.ga K "cross")) := He.glo_ok X G (c.t.d.fact 4 rfl)
  have G_along : mg "along" = some (.ref (He.ga K "along")) := He.glo_ok X G (c.t.d.fact 5 rfl)
  have G_turn : mg "turn" = some (.ref (He.ga K "turn")) := He.glo_ok X G (c.t.d.fact 6 rfl)
  have G_side : mg "side" = some (.ref (He.ga K "side")) := He.glo_ok X G (c.t.d.fact 7 rfl)
  have G_square : mg "square" = some (.ref (He.ga K "square")) := He.glo_ok X G (c.t.d.fact 8 rfl)
  have G_is_between : mg "is_between" = some (.ref (He.ga K "is_between")) := He.glo_ok X G (c.t.d.fact 9 rfl)
  have G_half : mg "half" = some (.ref (He.ga K "half")) := He.glo_ok X G (c.t.d.fact 10 rfl)
  have G_comes_ahead : mg "comes_ahead" = some (.ref (He.ga K "comes_ahead")) := He.glo_ok X G (c.t.d.fact 11 rfl)
  have G_is_behind : mg "is_behind" = some (.ref (He.ga K "is_behind")) := He.glo_ok X G (c.t.d.fact 12 rfl)
  have G_by_turns : mg "by_turns" = some (.ref (He.ga K "by_turns")) := He.glo_ok X G (c.t.d.fact 13 rfl)
  have G_moved : mg "moved" = some (.ref (He.ga K "moved")) := He.glo_ok X G (c.t.d.fact 14 rfl)
  have G_quarter : mg "quarter" = some (.ref (He.ga K "quarter")) := He.glo_ok X G (c.t.d.fact 15 rfl)
  have G_mirrored : mg "mirrored" = some (.ref (He.ga K "mirrored")) := He.glo_ok X G (c.t.d.fact 16 rfl)
  have G__law_dice : mg "_law_dice" = some (.ref (He.ga K "_law_dice")) := He.glo_ok X G (c.t.d.fact 17 rfl)
  have G__law_roll : mg "_law_roll" = some (.ref (He.ga K "_law_roll")) := He.glo_ok X G (c.t.d.fact 18 rfl)
  have G__law_rounds : mg "_law_rounds" = some (.ref (He.ga K "_law_rounds")) := He.glo_ok X G (c.t.d.fact 19 rfl)
  have G__law_point : mg "_law_point" = some (.ref (He.ga K "_law_point")) := He.glo_ok X G (c.t.d.fact 20 rfl)
  have G__law_turn : mg "_law_turn" = some (.ref (He.ga K "_law_turn")) := He.glo_ok X G (c.t.d.fact 21 rfl)
  have G_law : mg "law" = some (.ref (He.ga K "law")) := He.glo_ok X G (c.t.d.fact 22 rfl)
  have G__law_told : mg "_law_told" = some (.ref (He.ga K "_law_told")) := He.glo_ok X G (c.t.d.fact 23 rfl)
  have Z : Txt K mg := ⟨He.free_ok X G (c.t.d.fact 24 rfl), He.free_ok X G (c.t.d.fact 25 rfl), He.free_ok X G (c.t.d.fact 26 rfl), He.free_ok X G (c.t.d.fact 27 rfl), He.free_ok X G (c.t.d.fact 28 rfl), He.free_ok X G (c.t.d.fact 29 rfl), He.free_ok X G (c.t.d.fact 30 rfl), He.free_ok X G (c.t.d.fact 31 rfl), He.free_ok X G (c.t.d.fact 32 rfl), He.free_ok X G (c.t.d.fact 33 rfl), exC_of (He.glo_ok X G (c.t.d.fact 34 rfl)) (c.t.d.fact 35 rfl)⟩
  obtain ⟨fd_check_point, F0_check_point⟩ := c.t.d.def_ 0 rfl
  have F_check_point : FunD K "check_point" "check_point" (defArgs st_check_point) (defBody st_check_point) (defScope st_check_point) [] [] (He.fAd K ("check_point", none)) fd_check_point := F0_check_point
  have b_check_point : Binds K fd_check_point ["point"] [] := FunD.bindsN (ps := ["point"]) F_check_point fun _ _ _ _ _ _ us hl => match us, hl with | [_], _ => rfl
  obtain ⟨fd_check_row, F0_check_row⟩ := c.t.d.def_ 1 rfl
  have F_check_row : FunD K "check_row" "check_row" (defArgs st_check_row) (defBody st_check_row) (defScope st_check_row) [] [] (He.fAd K ("check_row", none)) fd_check_row := F0_check_row
  have b_check_row : Binds K fd_check_row ["row"] [] := FunD.bindsN (ps := ["row"]) F_check_row fun _ _ _ _ _ _ us hl => match us, hl with | [_], _ => rfl
  obtain ⟨fd_less, F0_less⟩ := c.t.d.def_ 2 rfl
  have F_less : FunD K "less" "less" (defArgs st_less) (defBody st_less) (defScope st_less) [] [] (He.fAd K ("less", none)) fd_less := F0_less
  have b_less : Binds K fd_less ["a", "b"] [] := FunD.bindsN (ps := ["a", "b"]) F_less fun _ _ _ _ _ _ us hl => match us, hl with | [_, _], _ => rfl
  obtain ⟨fd_add, F0_add⟩ := c.t.d.def_ 3 rfl
  have F_add : FunD K "add" "add" (defArgs st_add) (defBody st_add) (defScope st_add) [] [] (He.fAd K ("add", none)) fd_add := F0_add
  have b_add : Binds K fd_add ["a", "b"] [] := FunD.bindsN (ps := ["a", "b"]) F_add fun _ _ _ _ _ _ us hl => match us, hl with | [_, _], _ => rfl
  obtain ⟨fd_cross, F0_cross⟩ := c.t.d.def_ 4 rfl
  have F_cross : FunD K "cross" "cross" (defArgs st_cross) (defBody st_cross) (defScope st_cross) [] [] (He.fAd K ("cross", none)) fd_cross := F0_cross
  have b_cross : Binds K fd_cross ["u", "v"] [] := FunD.bindsN (ps := ["u", "v"]) F_cross fun _ _ _ _ _ _ us hl => match us, hl with | [_, _], _ => rfl
  obtain ⟨fd_along, F0_along⟩ := c.t.d.def_ 5 rfl
  have F_along : FunD K "along" "along" (defArgs st_along) (defBody st_along) (defScope st_along) [] [] (He.fAd K ("along", none)) fd_along := F0_along
  have b_along : Binds K fd_along ["u", "v"] [] := FunD.bindsN (ps := ["u", "v"]) F_along fun _ _ _ _ _ _ us hl => match us, hl with | [_, _], _ => rfl
  obtain ⟨fd_turn, F0_turn⟩ := c.t.d.def_ 6 rfl
  have F_turn : FunD K "turn" "turn" (defArgs st_turn) (defBody st_turn) (defScope st_turn) [] [] (He.fAd K ("turn", none)) fd_turn := F0_turn
  have b_turn : Binds K fd_turn ["a", "b", "c"] [] := FunD.bindsN (ps := ["a", "b", "c"]) F_turn fun _ _ _ _ _ _ us hl => match us, hl with | [_, _, _], _ => rfl
  obtain ⟨fd_side, F0_side⟩ := c.t.d.def_ 7 rfl
  have F_side : FunD K "side" "side" (defArgs st_side) (defBody st_side) (defScope st_side) [] [] (He.fAd K ("side", none)) fd_side := F0_side
  have b_side : Binds K fd_side ["a", "b", "c"] [] := FunD.bindsN (ps := ["a", "b", "c"]) F_side fun _ _ _ _ _ _ us hl => match us, hl with | [_, _, _], _ => rfl
  obtain ⟨fd_square, F0_square⟩ := c.t.d.def_ 8 rfl
  have F_square : FunD K "square" "square" (defArgs st_square) (defBody st_square) (defScope st_square) [] [] (He.fAd K ("square", none)) fd_square := F0_square
  have b_square : Binds K fd_square ["a", "b"] [] := FunD.bindsN (ps := ["a", "b"]) F_square fun _ _ _ _ _ _ us hl => match us, hl with | [_, _], _ => rfl
  obtain ⟨fd_is_between, F0_is_between⟩ := c.t.d.def_ 9 rfl
  have F_is_between : FunD K "is_between" "is_between" (defArgs st_is_between) (defBody st_is_between) (defScope st_is_between) [] [] (He.fAd K ("is_between", none)) fd_is_between := F0_is_between
  have b_is_between : Binds K fd_is_between ["a", "b", "c"] [] := FunD.bindsN (ps := ["a", "b", "c"]) F_is_between fun _ _ _ _ _ _ us hl => match us, hl with | [_, _, _], _ => rfl
  obtain ⟨fd_half, F0_half⟩ := c.t.d.def_ 10 rfl
  have F_half : FunD K "half" "half" (defArgs st_half) (defBody st_half) (defScope st_half) [] [] (He.fAd K ("half", none)) fd_half := F0_half
  have b_half : Binds K fd_half ["u"] [] := FunD.bindsN (ps := ["u"]) F_half fun _ _ _ _ _ _ us hl => match us, hl with | [_], _ => rfl
  obtain ⟨fd_comes_ahead, F0_comes_ahead⟩ := c.t.d.def_ 11 rfl
  have F_comes_ahead : FunD K "comes_ahead" "comes_ahead" (defArgs st_comes_ahead) (defBody st_comes_ahead) (defScope st_comes_ahead) [] [] (He.fAd K ("comes_ahead", none)) fd_comes_ahead := F0_comes_ahead
  have b_comes_ahead : Binds K fd_comes_ahead ["u", "v"] [] := FunD.bindsN (ps := ["u", "v"]) F_comes_ahead fun _ _ _ _ _ _ us hl => match us, hl with | [_, _], _ => rfl
  obtain ⟨fd_is_behind, F0_is_behind⟩ := c.t.d.def_ 12 rfl
  have F_is_behind : FunD K "is_behind" "is_behind" (defArgs st_is_behind) (defBody st_is_behind) (defScope st_is_behind) [] [] (He.fAd K ("is_behind", none)) fd_is_behind := F0_is_behind
  have b_is_behind : Binds K fd_is_behind ["u", "v"] [] := FunD.bindsN (ps := ["u", "v"]) F_is_behind fun _ _ _ _ _ _ us hl => match us, hl with | [_, _], _ => rfl
  obtain ⟨fd_by_turns, F0_by_turns⟩ := c.t.d.def_ 13 rfl
  have F_by_turns : FunD K "by_turns" "by_turns" (defArgs st_by_turns) (defBody st_by_turns) (defScope st_by_turns) [] [] (He.fAd K ("by_turns", none)) fd_by_turns := F0_by_turns
  have b_by_turns : Binds K fd_by_turns ["ways"] [] := FunD.bindsN (ps := ["ways"]) F_by_turns fun _ _ _ _ _ _ us hl => match us, hl with | [_], _ => rfl
  obtain ⟨fd_moved, F0_moved⟩ := c.t.d.def_ 14 rfl
  have F_moved : FunD K "moved" "moved" (defArgs st_moved) (defBody st_moved) (defScope st_moved) [] [] (He.fAd K ("moved", none)) fd_moved := F0_moved
  have b_moved : Binds K fd_moved ["row", "way"] [] := FunD.bindsN (ps := ["row", "way"]) F_moved fun _ _ _ _ _ _ us hl => match us, hl with | [_, _], _ => rfl
  obtain ⟨fd_quarter, F0_quarter⟩ := c.t.d.def_ 15 rfl
  have F_quarter : FunD K "quarter" "quarter" (defArgs st_quarter) (defBody st_quarter) (defScope st_quarter) [] [] (He.fAd K ("quarter", none)) fd_quarter := F0_quarter
  have b_quarter : Binds K fd_quarter ["row"] [] := FunD.bindsN (ps := ["row"]) F_quarter fun _ _ _ _ _ _ us hl => match us, hl with | [_], _ => rfl
  obtain ⟨fd_mirrored, F0_mirrored⟩ := c.t.d.def_ 16 rfl
  have F_mirrored : FunD K "mirrored" "mirrored" (defArgs st_mirrored) (defBody st_mirrored) (defScope st_mirrored) [] [] (He.fAd K ("mirrored", none)) fd_mirrored := F0_mirrored
  have b_mirrored : Binds K fd_mirrored ["row"] [] := FunD.bindsN (ps := ["row"]) F_mirrored fun _ _ _ _ _ _ us hl => match us, hl with | [_], _ => rfl
  obtain ⟨fd__law_dice, F0__law_dice⟩ := c.t.d.def_ 17 rfl
  have F__law_dice : FunD K "_law_dice" "_law_dice" (defArgs st__law_dice) (defBody st__law_dice) (defScope st__law_dice) [] [] (He.fAd K ("_law_dice", none)) fd__law_dice := F0__law_dice
  have b__law_dice : Binds K fd__law_dice ["cell"] [] := FunD.bindsN (ps := ["cell"]) F__law_dice fun _ _ _ _ _ _ us hl => match us, hl with | [_], _ => rfl
  obtain ⟨fd__law_roll, F0__law_roll⟩ := c.t.d.def_ 18 rfl
  have F__law_roll : FunD K "_law_roll" "_law_roll" (defArgs st__law_roll) (defBody st__law_roll) (defScope st__law_roll) [] [] (He.fAd K ("_law_roll", none)) fd__law_roll := F0__law_roll
  have b__law_roll : Binds K fd__law_roll ["dice", "many"] [] := FunD.bindsN (ps := ["dice", "many"]) F__law_roll fun _ _ _ _ _ _ us hl => match us, hl with | [_, _], _ => rfl
  obtain ⟨fd__law_rounds, F0__law_rounds⟩ := c.t.d.def_ 19 rfl
  have F__law_rounds : FunD K "_law_rounds" "_law_rounds" (defArgs st__law_rounds) (defBody st__law_rounds) (defScope st__law_rounds) [] [] (He.fAd K ("_law_rounds", none)) fd__law_rounds := F0__law_rounds
  have b__law_rounds : Binds K fd__law_rounds ["script", "most"] [] := FunD.bindsN (ps := ["script", "most"]) F__law_rounds fun _ _ _ _ _ _ us hl => match us, hl with | [_, _], _ => rfl
  obtain ⟨fd__law_point, F0__law_point⟩ := c.t.d.def_ 20 rfl
  have F__law_point : FunD K "_law_point" "_law_point" (defArgs st__law_point) (defBody st__law_point) (defScope st__law_point) [] [] (He.fAd K ("_law_point", none)) fd__law_point := F0__law_point
  have b__law_point : Binds K fd__law_point ["dice", "far"] [] := FunD.bindsN (ps := ["dice", "far"]) F__law_point fun _ _ _ _ _ _ us hl => match us, hl with | [_, _], _ => rfl
  obtain ⟨fd__law_turn, F0__law_turn⟩ := c.t.d.def_ 21 rfl
  have F__law_turn : FunD K "_law_turn" "_law_turn" (defArgs st__law_turn) (defBody st__law_turn) (defScope st__law_turn) [] [] (He.fAd K ("_law_turn", none)) fd__law_turn := F0__law_turn
  have b__law_turn : Binds K fd__law_turn ["a", "b", "c"] [] := FunD.bindsN (ps := ["a", "b", "c"]) F__law_turn fun _ _ _ _ _ _ us hl => match us, hl with | [_, _, _], _ => rfl
  obtain ⟨fd_law, F0_law⟩ := c.t.d.def_ 22 rfl
  have F_law : FunD K "law" "law" (defArgs st_law) (defBody st_law) (defScope st_law) [] [] (He.fAd K ("law", none)) fd_law := F0_law
  obtain ⟨fd__law_told, F0__law_told⟩ := c.t.d.def_ 23 rfl
  have F__law_told : FunD K "_law_told" "_law_told" (defArgs st__law_told) (defBody st__law_told) (defScope st__law_told) [] [] (He.fAd K ("_law_told", none)) fd__law_told := F0__law_told
  have b__law_told : Binds K fd__law_told ["what"] [] := FunD.bindsN (ps := ["what"]) F__law_told fun _ _ _ _ _ _ us hl => match us, hl with | [_], _ => rfl
  have b_law := FunD.bindsA (ps := ["script"]) F_law fun _ _ _ _ _ _ us hl => match us, hl with | [_], _ => rfl
  have ZT : ToldF K mg hs__law_told (He.ga K) := ⟨fun p hp => by
    simp only [hs__law_told, List.mem_cons, List.not_mem_nil, or_false] at hp
    rcases hp with rfl | rfl | rfl | rfl
    · exact He.glo_ok X G (c.t.d.fact 34 rfl)
    · exact He.glo_ok X G (c.t.d.fact 40 rfl)
    · exact He.glo_ok X G (c.t.d.fact 45 rfl)
    · exact He.glo_ok X G (c.t.d.fact 50 rfl), fun p hp q hq => by
    simp only [hs__law_told, List.mem_cons, List.not_mem_nil, or_false] at hp hq
    rcases hp with rfl | rfl | rfl | rfl
    · rcases hq with rfl | rfl | rfl | rfl
      · exact (He.exm_ok (c.t.d.fact 36 rfl)).trans (congrArg some (by decide))
      · exact (He.exm_ok (c.t.d.fact 37 rfl)).trans (congrArg some (by decide))
      · exact (He.exm_ok (c.t.d.fact 38 rfl)).trans (congrArg some (by decide))
      · exact (He.exm_ok (c.t.d.fact 39 rfl)).trans (congrArg some (by decide))
    · rcases hq with rfl | rfl | rfl | rfl
      · exact (He.exm_ok (c.t.d.fact 41 rfl)).trans (congrArg some (by decide))
      · exact (He.exm_ok (c.t.d.fact 42 rfl)).trans (congrArg some (by decide))
      · exact (He.exm_ok (c.t.d.fact 43 rfl)).trans (congrArg some (by decide))
      · exact (He.exm_ok (c.t.d.fact 44 rfl)).trans (congrArg some (by decide))
    · rcases hq with rfl | rfl | rfl | rfl
      · exact (He.exm_ok (c.t.d.fact 46 rfl)).trans (congrArg some (by decide))
      · exact (He.exm_ok (c.t.d.fact 47 rfl)).trans (congrArg some (by decide))
      · exact (He.exm_ok (c.t.d.fact 48 rfl)).trans (congrArg some (by decide))
      · exact (He.exm_ok (c.t.d.fact 49 rfl)).trans (congrArg some (by decide))
    · rcases hq with rfl | rfl | rfl | rfl
      · exact (He.exm_ok (c.t.d.fact 51 rfl)).trans (congrArg some (by decide))
      · exact (He.exm_ok (c.t.d.fact 52 rfl)).trans (congrArg some (by decide))
      · exact (He.exm_ok (c.t.d.fact 53 rfl)).trans (congrArg some (by decide))
      · exact (He.exm_ok (c.t.d.fact 54 rfl)).trans (congrArg some (by decide))⟩
  refine law_at (q := "law.<locals>.<lambda>") X G hfa c G_law (fun s v => b_law s [v] rfl) fun base kb nb TB => fn_law (st := st_law) (Nm := N_law) (g := fun sk => g_law sk) F_law sc_law (fun sk hk A outer s H E hr => ?_) law_ok
  have C_check_point := cal_of (st := st_check_point) (T := tabT [(He.tabOf K (He.codeOf K ("law", none)), "law.<locals>.<lambda>")]) (P := (PySem.Challenge.rw_hullhall_k01_sides_and_ways).prog) (w := w) (base := base) G_check_point F_check_point b_check_point (fn_aut (st := st_check_point) F_check_point sc_check_point (fun cdv A outer s H E hr => dv_check_point Z cdv A outer s H E hr))
  have C_check_row := cal_of (st := st_check_row) (T := tabT [(He.tabOf K (He.codeOf K ("law", none)), "law.<locals>.<lambda>")]) (P := (PySem.Challenge.rw_hullhall_k01_sides_and_ways).prog) (w := w) (base := base) G_check_row F_check_row b_check_row (fn_aut (st := st_check_row) F_check_row sc_check_row (fun cdv A outer s H E hr => dv_check_row Z C_check_point cdv A outer s H E hr))
  have C_less := cal_of (st := st_less) (T := tabT [(He.tabOf K (He.codeOf K ("law", none)), "law.<locals>.<lambda>")]) (P := (PySem.Challenge.rw_hullhall_k01_sides_and_ways).prog) (w := w) (base := base) G_less F_less b_less (fn_aut (st := st_less) F_less sc_less (fun cdv A outer s H E hr => dv_less Z cdv A outer s H E hr))
  have C_add := cal_of (st := st_add) (T := tabT [(He.tabOf K (He.codeOf K ("law", none)), "law.<locals>.<lambda>")]) (P := (PySem.Challenge.rw_hullhall_k01_sides_and_ways).prog) (w := w) (base := base) G_add F_add b_add (fn_aut (st := st_add) F_add sc_add (fun cdv A outer s H E hr => dv_add Z cdv A outer s H E hr))
  have C_cross := cal_of (st := st_cross) (T := tabT [(He.tabOf K (He.codeOf K ("law", none)), "law.<locals>.<lambda>")]) (P := (PySem.Challenge.rw_hullhall_k01_sides_and_ways).prog) (w := w) (base := base) G_cross F_cross b_cross (fn_aut (st := st_cross) F_cross sc_cross (fun cdv A outer s H E hr => dv_cross Z cdv A outer s H E hr))
  have C_along := cal_of (st := st_along) (T := tabT [(He.tabOf K (He.codeOf K ("law", none)), "law.<locals>.<lambda>")]) (P := (PySem.Challenge.rw_hullhall_k01_sides_and_ways).prog) (w := w) (base := base) G_along F_along b_along (fn_aut (st := st_along) F_along sc_along (fun cdv A outer s H E hr => dv_along Z cdv A outer s H E hr))
  have C_turn := cal_of (st := st_turn) (T := tabT [(He.tabOf K (He.codeOf K ("law", none)), "law.<locals>.<lambda>")]) (P := (PySem.Challenge.rw_hullhall_k01_sides_and_ways).prog) (w := w) (base := base) G_turn F_turn b_turn (fn_aut (st := st_turn) F_turn sc_turn (fun cdv A outer s H E hr => dv_turn Z C_less C_cross cdv A outer s H E hr))
  have C_side := cal_of (st := st_side) (T := tabT [(He.tabOf K (He.codeOf K ("law", none)), "law.<locals>.<lambda>")]) (P := (PySem.Challenge.rw_hullhall_k01_sides_and_ways).prog) (w := w) (base := base) G_side F_side b_side (fn_aut (st := st_side) F_side sc_side (fun cdv A outer s H E hr => dv_side Z C_turn cdv A outer s H E hr))
  have C_square := cal_of (st := st_square) (T := tabT [(He.tabOf K (He.codeOf K ("law", none)), "law.<locals>.<lambda>")]) (P := (PySem.Challenge.rw_hullhall_k01_sides_and_ways).prog) (w := w) (base := base) G_square F_square b_square (fn_aut (st := st_square) F_square sc_square (fun cdv A outer s H E hr => dv_square Z C_less C_along cdv A outer s H E hr))
  have C_is_between := cal_of (st := st_is_between) (T := tabT [(He.tabOf K (He.codeOf K ("law", none)), "law.<locals>.<lambda>")]) (P := (PySem.Challenge.rw_hullhall_k01_sides_and_ways).prog) (w := w) (base := base) G_is_between F_is_between b_is_between (fn_aut (st := st_is_between) F_is_between sc_is_between (fun cdv A outer s H E hr => dv_is_between Z C_less C_along C_turn cdv A outer s H E hr))
  have C_half := cal_of (st := st_half) (T := tabT [(He.tabOf K (He.codeOf K ("law", none)), "law.<locals>.<lambda>")]) (P := (PySem.Challenge.rw_hullhall_k01_sides_and_ways).prog) (w := w) (base := base) G_half F_half b_half (fn_aut (st := st_half) F_half sc_half (fun cdv A outer s H E hr => dv_half Z cdv A outer s H E hr))
  have C_comes_ahead := cal_of (st := st_comes_ahead) (T := tabT [(He.tabOf K (He.codeOf K ("law", none)), "law.<locals>.<lambda>")]) (P := (PySem.Challenge.rw_hullhall_k01_sides_and_ways).prog) (w := w) (base := base) G_comes_ahead F_comes_ahead b_comes_ahead (fn_aut (st := st_comes_ahead) F_comes_ahead sc_comes_ahead (fun cdv A outer s H E hr => dv_comes_ahead Z C_cross C_half cdv A outer s H E hr))
  have C_is_behind := cal_of (st := st_is_behind) (T := tabT [(He.tabOf K (He.codeOf K ("law", none)), "law.<locals>.<lambda>")]) (P := (PySem.Challenge.rw_hullhall_k01_sides_and_ways).prog) (w := w) (base := base) G_is_behind F_is_behind b_is_behind (fn_aut (st := st_is_behind) F_is_behind sc_is_behind (fun cdv A outer s H E hr => dv_is_behind Z C_cross C_along C_half C_comes_ahead cdv A outer s H E hr))
  have C_by_turns := cal_of (st := st_by_turns) (T := tabT [(He.tabOf K (He.codeOf K ("law", none)), "law.<locals>.<lambda>")]) (P := (PySem.Challenge.rw_hullhall_k01_sides_and_ways).prog) (w := w) (base := base) G_by_turns F_by_turns b_by_turns (fn_aut (st := st_by_turns) F_by_turns sc_by_turns (fun cdv A outer s H E hr => dv_by_turns Z 1000 C_is_behind cdv A outer s H E hr))
  have C_moved := cal_of (st := st_moved) (T := tabT [(He.tabOf K (He.codeOf K ("law", none)), "law.<locals>.<lambda>")]) (P := (PySem.Challenge.rw_hullhall_k01_sides_and_ways).prog) (w := w) (base := base) G_moved F_moved b_moved (fn_aut (st := st_moved) F_moved sc_moved (fun cdv A outer s H E hr => dv_moved Z C_add cdv A outer s H E hr))
  have C_quarter := cal_of (st := st_quarter) (T := tabT [(He.tabOf K (He.codeOf K ("law", none)), "law.<locals>.<lambda>")]) (P := (PySem.Challenge.rw_hullhall_k01_sides_and_ways).prog) (w := w) (base := base) G_quarter F_quarter b_quarter (fn_aut (st := st_quarter) F_quarter sc_quarter (fun cdv A outer s H E hr => dv_quarter Z cdv A outer s H E hr))
  have C_mirrored := cal_of (st := st_mirrored) (T := tabT [(He.tabOf K (He.codeOf K ("law", none)), "law.<locals>.<lambda>")]) (P := (PySem.Challenge.rw_hullhall_k01_sides_and_ways).prog) (w := w) (base := base) G_mirrored F_mirrored b_mirrored (fn_aut (st := st_mirrored) F_mirrored sc_mirrored (fun cdv A outer s H E hr => dv_mirrored Z cdv A outer s H E hr))
  have C__law_dice := calO_of (st := st__law_dice) (T := tabT [(He.tabOf K (He.codeOf K ("law", none)), "law.<locals>.<lambda>")]) (P := (PySem.Challenge.rw_hullhall_k01_sides_and_ways).prog) (w := w) (base := base) G__law_dice F__law_dice b__law_dice (fn_autO (st := st__law_dice) F__law_dice sc__law_dice (fun cdv A outer s H E hr => dv__law_dice Z cdv A outer s H E hr))
  have C__law_roll := cal_of (st := st__law_roll) (T := tabT [(He.tabOf K (He.codeOf K ("law", none)), "law.<locals>.<lambda>")]) (P := (PySem.Challenge.rw_hullhall_k01_sides_and_ways).prog) (w := w) (base := base) G__law_roll F__law_roll b__law_roll (fn_autM (st := st__law_roll) F__law_roll sc__law_roll (fun cdv A outer s H E hr => dv__law_roll Z cdv A outer s H E hr))
  have C__law_rounds := calO_of (st := st__law_rounds) (T := tabT [(He.tabOf K (He.codeOf K ("law", none)), "law.<locals>.<lambda>")]) (P := (PySem.Challenge.rw_hullhall_k01_sides_and_ways).prog) (w := w) (base := base) G__law_rounds F__law_rounds b__law_rounds (fn_autO (st := st__law_rounds) F__law_rounds sc__law_rounds (fun cdv A outer s H E hr => dv__law_rounds Z sk C__law_dice hk cdv A outer s H E hr))
  have C__law_point := cal_of (st := st__law_point) (T := tabT [(He.tabOf K (He.codeOf K ("law", none)), "law.<locals>.<lambda>")]) (P := (PySem.Challenge.rw_hullhall_k01_sides_and_ways).prog) (w := w) (base := base) G__law_point F__law_point b__law_point (fn_autM (st := st__law_point) F__law_point sc__law_point (fun cdv A outer s H E hr => dv__law_point Z C__law_roll cdv A outer s H E hr))
  have C__law_turn := cal_of (st := st__law_turn) (T := tabT [(He.tabOf K (He.codeOf K ("law", none)), "law.<locals>.<lambda>")]) (P := (PySem.Challenge.rw_hullhall_k01_sides_and_ways).prog) (w := w) (base := base) G__law_turn F__law_turn b__law_turn (fn_aut (st := st__law_turn) F__law_turn sc__law_turn (fun cdv A outer s H E hr => dv__law_turn Z cdv A outer s H E hr))
  exact dv_law Z sk C_check_point C_check_row C_less C_add C_cross C_along C_turn C_side C_square C_is_between C_half C_comes_ahead C_by_turns C_moved C_quarter C_mirrored C__law_rounds C__law_point C__law_turn hk TB ZT F__law_told G__law_told b__law_told A outer s H E hr
end K1

open PySem PySem.W PySem.Calls PyProof.Rows
theorem PySem.Challenge.cw_hullhall_k01_sides_and_ways_holds : PySem.Challenge.rw_hullhall_k01_sides_and_ways.Holds := by
  w_on; o_law
  refine HandSHeadRun.head_any (r := PySem.W.OpenLaw.row PySem.Challenge.rw_hullhall_k01_sides_and_ways) (q := PySem.W.view (PySem.W.OpenLaw.row PySem.Challenge.rw_hullhall_k01_sides_and_ways).prog [31]) (H := K1.hkX) (ob := K1.ob) (M := 4000) (loose := K1.loose) (d := HandSHeadRun.topDef (PySem.W.OpenLaw.row PySem.Challenge.rw_hullhall_k01_sides_and_ways).prog 31) (kwd := []) K1.ob_eq
    (by kernel_rfl) (fun s => by kernel_rfl) K1.run (by kernel_rfl) (by kernel_rfl) (by kernel_rfl) (by rfl) (by first | assumption | decide +kernel) (by decide +kernel) ⟨rfl, rfl, rfl, rfl, rfl, by decide +kernel⟩ ?hw ?hc
  case hw => w_witness2
  case hc =>
    refine LamX.walk_ofTsE (l := PySem.Challenge.rw_hullhall_k01_sides_and_ways) (n := 63) (k := 5) (x := "script") (CX := fun w => L2.CX (PySem.Challenge.rw_hullhall_k01_sides_and_ways).prog w) rfl (by decide) (by kernel_rfl) ⟨rfl, by decide, by decide⟩ ?F (fun _ _ _ _ _ z => DL.cx_no z)
    intro w mg fa h Y G hmg0
    obtain ⟨K, KX, c⟩ := Y
    have hmg : mg ("law" : PySem.Str) = some (.ref fa) := by
      have e : (HandSHeadRun.topDef (PySem.W.OpenLaw.row PySem.Challenge.rw_hullhall_k01_sides_and_ways).prog 31).name = ("law" : PySem.Str) := by kernel_rfl
      rw [← e]
      exact hmg0
    exact ⟨K, KX, K1.facts KX G hmg c⟩

