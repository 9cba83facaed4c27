import PyProof.Rows.All
import Wide.All
import OpenK.AllK
import Wide.FinOn
import PyProof.EqAt
import PyProof.EqKinds
import PyProof.TupleCall
import HandS.Base
import HandS.Call
import HandS.List
import HandS.Comp
import HandS.Ends
import HandS.Words
import HandS.WordsList
import HandS.Exc
import HandS.ExcOwn
import HandS.TryOnly
import HandS.Iter
import HandS.WordsExc
import HandS.More
import HandS.IsInst
import HandS.Style
import HandS.TryMany
import HandS.Defaults
import HandS.TupAny
import KE.SortData
import HandS.Deep
import KE.KLam
import HandS.Lambda
import HandS.EndTab
import HandS.HeadWalk
import HandS.HeadHook4
import HandS.ForExc
import KE.KStateDown
import HandS.Head0
import HandS.Head1
import HandS.Head2
import HandS.HeadEnd
import HandS.HeadHook1
import HandS.HeadHook2
import HandS.HeadHook3
import PySem.Challenge.RW_hullhall_k02_crossings_and_near_ways
set_option Elab.async false
set_option linter.all false
set_option maxRecDepth 100000
set_option maxHeartbeats 0
namespace DL
open PySem PySem.Spec L2
open PyProof.Rows hiding St

/-! ### data: what a value says, without addresses; loc n: the n-th list of our own, which may change -/
inductive D where
  | non
  | bl (b : Bool)
  | int (i : Int)
  | str (x : Str)
  | tup (l : List D)
  | lst (l : List D)
  | loc (n : Nat)
  | adr (a : Addr)
  | ty (n : String)
  /-- a locked list (the script) -/
  | scr (l : List D)
abbrev Cells := List (List D)
/-- a raised exception: the class's name, what it carries -/
structure Ex where
  name : Str
  part : Option D
inductive R (γ : Type) where
  | ok (a : γ) (M : Cells)
  | ex (e : Ex) (M : Cells)
  | no
def R.bind {γ δ : Type} (r : R γ) (k : γ → Cells → R δ) : R δ := match r with
  | .ok a M => k a M
  | .ex e M => .ex e M
  | .no => .no
structure Sx where
  ρ : List (Option D)
  M : Cells

mutual
def Rel (H : Hp) (N : Addr → Prop) (α : List Addr) : D → V → Prop
  | .non, v => v = .non
  | .bl b, v => v = .bl b
  | .int i, v => v = .int i
  | .str x, v => v = .str x
  | .tup l, v => ∃ a vs, v = .ref a ∧ H a = some (.tup vs) ∧ Rels H N α l vs
  | .lst l, v => ∃ a vs, v = .ref a ∧ ¬ N a ∧ H a = some (.lst vs) ∧ Rels H N α l vs
  | .loc n, v => ∃ a, v = .ref a ∧ α[n]? = some a
  | .adr a, v => v = .ref a
  | .ty n, v => v = .ty n
  | .scr l, v => ∃ a o vs, v = .ref a ∧ H a = some (.frz o (.lst vs)) ∧ Rels H N α l vs
def Rels (H : Hp) (N : Addr → Prop) (α : List Addr) : List D → List V → Prop
  | [], vs => vs = []
  | d :: l, vs => ∃ v r, vs = v :: r ∧ Rel H N α d v ∧ Rels H N α l r
end

/-- nothing stands there but a code table, maybe -/
def Fz (H : Hp) (b : Addr) : Prop := ∀ o, H b = some o → ∃ ps, o = .tbl ps
theorem fz_of {H : Hp} {b : Addr} (h : H b = none) : Fz H b := fun o e => by rw [h] at e; cases e
structure Ext (α : List Addr) (N : Addr → Prop) (H : Hp) (α' : List Addr) (N' : Addr → Prop) (H' : Hp) : Prop where
  pre : ∃ β, α' = α ++ β ∧ ∀ b ∈ β, Fz H b
  nn : ∀ a, N a → N' a
  nb : ∀ a, N' a → N a ∨ Fz H a
  keep : ∀ b o, H b = some o → ((∃ xs, o = .lst xs) → b ∉ α) → (∀ ps, o ≠ .tbl ps) → H' b = some o
  there : ∀ b, ¬ Fz H b → ¬ Fz H' b

theorem Ext.refl {α : List Addr} {N : Addr → Prop} {H : Hp} : Ext α N H α N H :=
  ⟨⟨[], by simp, by simp⟩, fun _ h => h, fun _ h => .inl h, fun _ _ h _ _ => h, fun _ h => h⟩
theorem Ext.trans {α α1 α2 : List Addr} {N N1 N2 : Addr → Prop} {H H1 H2 : Hp} (a : Ext α N H α1 N1 H1) (b : Ext α1 N1 H1 α2 N2 H2) : Ext α N H α2 N2 H2 := by
  obtain ⟨β, e1, f1⟩ := a.pre
  obtain ⟨γ, e2, f2⟩ := b.pre
  have back : ∀ x, Fz H1 x → Fz H x := fun x h => Classical.byContradiction fun q => a.there x q h
  refine ⟨⟨β ++ γ, by rw [e2, e1, List.append_assoc], fun x hx => ?_⟩, fun x h => b.nn x (a.nn x h), fun x h => ?_, fun x o h1 h2 h3 => ?_, fun x h => b.there x (a.there x h)⟩
  · rcases List.mem_append.mp hx with h | h
    · exact f1 x h
    · exact back x (f2 x h)
  · rcases b.nb x h with h | h
    · exact a.nb x h
    · exact .inr (back x h)
  · refine b.keep x o (a.keep x o h1 h2 h3) (fun hl hm => ?_) h3
    rw [e1] at hm
    rcases List.mem_append.mp hm with z | z
    · exact h2 hl z
    · obtain ⟨ps, e⟩ := f1 x z o h1; exact h3 ps e

theorem keepT {α : List Addr} {N N' : Addr → Prop} {H H' : Hp} {α' : List Addr} {a : Addr} {vs : List V} (e : Ext α N H α' N' H') (h : H a = some (.tup vs)) : H' a = some (.tup vs) :=
  e.keep a _ h (fun ⟨_, z⟩ => by cases z) (fun _ z => by cases z)
theorem keepF {α : List Addr} {N N' : Addr → Prop} {H H' : Hp} {α' : List Addr} {a : Addr} {o : Obj} {vs : HO} (e : Ext α N H α' N' H') (h : H a = some (.frz o vs)) : H' a = some (.frz o vs) :=
  e.keep a _ h (fun ⟨_, z⟩ => by cases z) (fun _ z => by cases z)
theorem keepL {α : List Addr} {N N' : Addr → Prop} {H H' : Hp} {α' : List Addr} {a : Addr} {vs : List V} (e : Ext α N H α' N' H') (ha : a ∉ α) (h : H a = some (.lst vs)) : H' a = some (.lst vs) :=
  e.keep a _ h (fun _ => ha) (fun _ z => by cases z)
theorem nf_of {H : Hp} {a : Addr} {u : HO} (hu : ∀ ps, u ≠ .tbl ps) (h : H a = some u) : ¬ Fz H a := fun z => by
  obtain ⟨ps, e⟩ := z _ h; exact hu ps e
theorem pre_get {α α' : List Addr} {n : Nat} {a : Addr} (h : α[n]? = some a) (p : ∃ β : List Addr, α' = α ++ β ∧ True) : α'[n]? = some a := by
  obtain ⟨β, e, _⟩ := p
  rw [e, List.getElem?_append_left (List.getElem?_eq_some_iff.mp h).1]
  exact h

section
variable {α α' : List Addr} {N N' : Addr → Prop} {H H' : Hp}
mutual
theorem Rel.mono (sub : ∀ a ∈ α, N a) (e : Ext α N H α' N' H') : ∀ {d : D} {v : V}, Rel H N α d v → Rel H' N' α' d v
  | .non, _, h => by unfold Rel at h ⊢; exact h
  | .bl _, _, h => by unfold Rel at h ⊢; exact h
  | .int _, _, h => by unfold Rel at h ⊢; exact h
  | .str _, _, h => by unfold Rel at h ⊢; exact h
  | .tup l, _, h => by
    unfold Rel at h ⊢
    obtain ⟨a, vs, h1, h2, h3⟩ := h
    exact ⟨a, vs, h1, keepT e h2, Rels.mono sub e h3⟩
  | .lst l, _, h => by
    unfold Rel at h ⊢
    obtain ⟨a, vs, h1, h0, h2, h3⟩ := h
    refine ⟨a, vs, h1, fun z => ?_, keepL e (fun z => h0 (sub a z)) h2, Rels.mono sub e h3⟩
    rcases e.nb a z with z | z
    · exact h0 z
    · exact nf_of (fun _ e => by cases e) h2 z
  | .loc n, _, h => by
    unfold Rel at h ⊢
    obtain ⟨a, h1, h2⟩ := h
    obtain ⟨β, e1, _⟩ := e.pre
    exact ⟨a, h1, pre_get h2 ⟨β, e1, trivial⟩⟩
  | .adr _, _, h => by unfold Rel at h ⊢; exact h
  | .ty _, _, h => by unfold Rel at h ⊢; exact h
  | .scr l, _, h => by
    unfold Rel at h ⊢
    obtain ⟨a, o, vs, h1, h2, h3⟩ := h
    exact ⟨a, o, vs, h1, keepF e h2, Rels.mono sub e h3⟩
theorem Rels.mono (sub : ∀ a ∈ α, N a) (e : Ext α N H α' N' H') : ∀ {l : List D} {vs : List V}, Rels H N α l vs → Rels H' N' α' l vs
  | [], _, h => by unfold Rels at h ⊢; exact h
  | d :: l, _, h => by
    unfold Rels at h ⊢
    obtain ⟨v, r, h1, h2, h3⟩ := h
    exact ⟨v, r, h1, Rel.mono sub e h2, Rels.mono sub e h3⟩
end
end
mutual
/-- fewer forbidden places -/
theorem Rel.less {H : Hp} {N N' : Addr → Prop} {α : List Addr} (hn : ∀ a, N' a → N a) : ∀ {d : D} {v : V}, Rel H N α d v → Rel H N' α d v
  | .non, _, h => by unfold Rel at h ⊢; exact h
  | .bl _, _, h => by unfold Rel at h ⊢; exact h
  | .int _, _, h => by unfold Rel at h ⊢; exact h
  | .str _, _, h => by unfold Rel at h ⊢; exact h
  | .tup l, _, h => by
    unfold Rel at h ⊢
    obtain ⟨a, vs, h1, h2, h3⟩ := h
    exact ⟨a, vs, h1, h2, Rels.less hn h3⟩
  | .lst l, _, h => by
    unfold Rel at h ⊢
    obtain ⟨a, vs, h1, h0, h2, h3⟩ := h
    exact ⟨a, vs, h1, fun z => h0 (hn a z), h2, Rels.less hn h3⟩
  | .loc n, _, h => by unfold Rel at h ⊢; exact h
  | .adr _, _, h => by unfold Rel at h ⊢; exact h
  | .ty _, _, h => by unfold Rel at h ⊢; exact h
  | .scr l, _, h => by
    unfold Rel at h ⊢
    obtain ⟨a, o, vs, h1, h2, h3⟩ := h
    exact ⟨a, o, vs, h1, h2, Rels.less hn h3⟩
theorem Rels.less {H : Hp} {N N' : Addr → Prop} {α : List Addr} (hn : ∀ a, N' a → N a) : ∀ {l : List D} {vs : List V}, Rels H N α l vs → Rels H N' α l vs
  | [], _, h => by unfold Rels at h ⊢; exact h
  | d :: l, _, h => by
    unfold Rels at h ⊢
    obtain ⟨v, r, h1, h2, h3⟩ := h
    exact ⟨v, r, h1, Rel.less hn h2, Rels.less hn h3⟩
end
mutual
def D.lf : D → Bool
  | .tup l => lfs l
  | .lst l => lfs l
  | .scr l => lfs l
  | .loc _ => false
  | _ => true
def lfs : List D → Bool
  | [] => true
  | d :: l => d.lf && lfs l
end
mutual
/-- no list within -/
def D.nol : D → Bool
  | .tup l => nols l
  | .lst _ => false
  | .scr _ => false
  | .loc _ => false
  | _ => true
def nols : List D → Bool
  | [] => true
  | d :: l => d.nol && nols l
end
mutual
theorem Rel.lf {H : Hp} {N : Addr → Prop} {α α' : List Addr} : ∀ {d : D} {v : V}, d.lf = true → Rel H N α d v → Rel H N α' d v
  | .non, _, _, h => by unfold Rel at h ⊢; exact h
  | .bl _, _, _, h => by unfold Rel at h ⊢; exact h
  | .int _, _, _, h => by unfold Rel at h ⊢; exact h
  | .str _, _, _, h => by unfold Rel at h ⊢; exact h
  | .tup l, _, f, h => by
    unfold Rel at h ⊢
    obtain ⟨a, vs, h1, h2, h3⟩ := h
    exact ⟨a, vs, h1, h2, Rels.lf (by unfold D.lf at f; exact f) h3⟩
  | .lst l, _, f, h => by
    unfold Rel at h ⊢
    obtain ⟨a, vs, h1, h0, h2, h3⟩ := h
    exact ⟨a, vs, h1, h0, h2, Rels.lf (by unfold D.lf at f; exact f) h3⟩
  | .loc n, _, f, h => by unfold D.lf at f; cases f
  | .adr _, _, _, h => by unfold Rel at h ⊢; exact h
  | .ty _, _, _, h => by unfold Rel at h ⊢; exact h
  | .scr l, _, f, h => by
    unfold Rel at h ⊢
    obtain ⟨a, o, vs, h1, h2, h3⟩ := h
    exact ⟨a, o, vs, h1, h2, Rels.lf (by unfold D.lf at f; exact f) h3⟩
theorem Rels.lf {H : Hp} {N : Addr → Prop} {α α' : List Addr} : ∀ {l : List D} {vs : List V}, lfs l = true → Rels H N α l vs → Rels H N α' l vs
  | [], _, _, h => by unfold Rels at h ⊢; exact h
  | d :: l, _, f, h => by
    unfold Rels at h ⊢
    unfold lfs at f
    obtain ⟨f1, f2⟩ := Bool.and_eq_true_iff.mp f
    obtain ⟨v, r, h1, h2, h3⟩ := h
    exact ⟨v, r, h1, Rel.lf f1 h2, Rels.lf f2 h3⟩
end
mutual
theorem Rel.nil {H : Hp} {N : Addr → Prop} {α : List Addr} : ∀ {d : D} {v : V}, Rel H N [] d v → Rel H N α d v
  | .non, _, h => by unfold Rel at h ⊢; exact h
  | .bl _, _, h => by unfold Rel at h ⊢; exact h
  | .int _, _, h => by unfold Rel at h ⊢; exact h
  | .str _, _, h => by unfold Rel at h ⊢; exact h
  | .tup l, _, h => by
    unfold Rel at h ⊢
    obtain ⟨a, vs, h1, h2, h3⟩ := h
    exact ⟨a, vs, h1, h2, Rels.nil h3⟩
  | .lst l, _, h => by
    unfold Rel at h ⊢
    obtain ⟨a, vs, h1, h0, h2, h3⟩ := h
    exact ⟨a, vs, h1, h0, h2, Rels.nil h3⟩
  | .loc n, _, h => by
    unfold Rel at h
    obtain ⟨a, _, h2⟩ := h
    simp at h2
  | .adr _, _, h => by unfold Rel at h ⊢; exact h
  | .ty _, _, h => by unfold Rel at h ⊢; exact h
  | .scr l, _, h => by
    unfold Rel at h ⊢
    obtain ⟨a, o, vs, h1, h2, h3⟩ := h
    exact ⟨a, o, vs, h1, h2, Rels.nil h3⟩
theorem Rels.nil {H : Hp} {N : Addr → Prop} {α : List Addr} : ∀ {l : List D} {vs : List V}, Rels H N [] l vs → Rels H N α l vs
  | [], _, h => by unfold Rels at h ⊢; exact h
  | d :: l, _, h => by
    unfold Rels at h ⊢
    obtain ⟨v, r, h1, h2, h3⟩ := h
    exact ⟨v, r, h1, Rel.nil h2, Rels.nil h3⟩
end
mutual
theorem Rel.nol {H : Hp} {N N' : Addr → Prop} {α α' : List Addr} : ∀ {d : D} {v : V}, d.nol = true → Rel H N α d v → Rel H N' α' d v
  | .non, _, _, h => by unfold Rel at h ⊢; exact h
  | .bl _, _, _, h => by unfold Rel at h ⊢; exact h
  | .int _, _, _, h => by unfold Rel at h ⊢; exact h
  | .str _, _, _, h => by unfold Rel at h ⊢; exact h
  | .tup l, _, f, h => by
    unfold Rel at h ⊢
    obtain ⟨a, vs, h1, h2, h3⟩ := h
    exact ⟨a, vs, h1, h2, Rels.nol (by unfold D.nol at f; exact f) h3⟩
  | .lst l, _, f, h => by unfold D.nol at f; cases f
  | .loc n, _, f, h => by unfold D.nol at f; cases f
  | .adr _, _, _, h => by unfold Rel at h ⊢; exact h
  | .ty _, _, _, h => by unfold Rel at h ⊢; exact h
  | .scr l, _, f, h => by unfold D.nol at f; cases f
theorem Rels.nol {H : Hp} {N N' : Addr → Prop} {α α' : List Addr} : ∀ {l : List D} {vs : List V}, nols l = true → Rels H N α l vs → Rels H N' α' l vs
  | [], _, _, h => by unfold Rels at h ⊢; exact h
  | d :: l, _, f, h => by
    unfold Rels at h ⊢
    unfold nols at f
    obtain ⟨f1, f2⟩ := Bool.and_eq_true_iff.mp f
    obtain ⟨v, r, h1, h2, h3⟩ := h
    exact ⟨v, r, h1, Rel.nol f1 h2, Rels.nol f2 h3⟩
end
theorem Rels.length {H : Hp} {N : Addr → Prop} {α : List Addr} : ∀ {l : List D} {vs : List V}, Rels H N α l vs → l.length = vs.length
  | [], _, h => by unfold Rels at h; rw [h]; rfl
  | d :: l, _, h => by
    unfold Rels at h
    obtain ⟨v, r, h1, _, h3⟩ := h
    rw [h1]; simp [Rels.length h3]
theorem Rels.get {H : Hp} {N : Addr → Prop} {α : List Addr} : ∀ {l : List D} {vs : List V} {i : Nat} {d : D}, Rels H N α l vs → l[i]? = some d → ∃ v, vs[i]? = some v ∧ Rel H N α d v
  | [], _, _, _, _, e => by simp at e
  | d :: l, _, 0, _, h, e => by
    unfold Rels at h
    obtain ⟨v, r, h1, h2, _⟩ := h
    simp at e; subst e; subst h1
    exact ⟨v, rfl, h2⟩
  | d :: l, _, i + 1, _, h, e => by
    unfold Rels at h
    obtain ⟨v, r, h1, _, h3⟩ := h
    subst h1
    obtain ⟨u, q1, q2⟩ := Rels.get (i := i) h3 (by simpa using e)
    exact ⟨u, by simpa using q1, q2⟩
theorem Rels.append {H : Hp} {N : Addr → Prop} {α : List Addr} {l2 : List D} {ws : List V} (h2 : Rels H N α l2 ws) : ∀ {l : List D} {vs : List V}, Rels H N α l vs → Rels H N α (l ++ l2) (vs ++ ws)
  | [], _, h => by unfold Rels at h; subst h; exact h2
  | d :: l, _, h => by
    unfold Rels at h
    obtain ⟨v, r, h1, q1, q2⟩ := h
    subst h1
    show Rels H N α (d :: (l ++ l2)) (v :: (r ++ ws))
    unfold Rels
    exact ⟨v, _, rfl, q1, Rels.append h2 q2⟩
theorem Rels.one {H : Hp} {N : Addr → Prop} {α : List Addr} {d : D} {v : V} (h : Rel H N α d v) : Rels H N α [d] [v] := by
  unfold Rels; exact ⟨v, [], rfl, h, by unfold Rels; rfl⟩
theorem Rels.cons {H : Hp} {N : Addr → Prop} {α : List Addr} {d : D} {v : V} {l : List D} {vs : List V} (h : Rel H N α d v) (t : Rels H N α l vs) : Rels H N α (d :: l) (v :: vs) := by
  unfold Rels; exact ⟨v, vs, rfl, h, t⟩
theorem Rels.take {H : Hp} {N : Addr → Prop} {α : List Addr} : ∀ {l : List D} {vs : List V} (n : Nat), Rels H N α l vs → Rels H N α (l.take n) (vs.take n)
  | _, _, 0, _ => by simp [Rels]
  | [], _, n + 1, h => by unfold Rels at h; subst h; simp [Rels]
  | d :: l, _, n + 1, h => by
    unfold Rels at h
    obtain ⟨v, r, h1, q1, q2⟩ := h
    subst h1
    show Rels H N α (d :: l.take n) (v :: r.take n)
    exact Rels.cons q1 (Rels.take n q2)
theorem Rels.drop {H : Hp} {N : Addr → Prop} {α : List Addr} : ∀ {l : List D} {vs : List V} (n : Nat), Rels H N α l vs → Rels H N α (l.drop n) (vs.drop n)
  | _, _, 0, h => h
  | [], _, n + 1, h => by unfold Rels at h; subst h; simp [Rels]
  | d :: l, _, n + 1, h => by
    unfold Rels at h
    obtain ⟨v, r, h1, q1, q2⟩ := h
    subst h1
    show Rels H N α (l.drop n) (r.drop n)
    exact Rels.drop n q2
theorem Rels.set {H : Hp} {N : Addr → Prop} {α : List Addr} {d : D} {v : V} (hd : Rel H N α d v) : ∀ {l : List D} {vs : List V} (n : Nat), Rels H N α l vs → Rels H N α (l.set n d) (vs.set n v)
  | [], _, n, h => by unfold Rels at h; subst h; simp [Rels]
  | e :: l, _, 0, h => by
    unfold Rels at h
    obtain ⟨w, r, h1, q1, q2⟩ := h
    subst h1
    exact Rels.cons hd q2
  | e :: l, _, n + 1, h => by
    unfold Rels at h
    obtain ⟨w, r, h1, q1, q2⟩ := h
    subst h1
    exact Rels.cons q1 (Rels.set hd n q2)
theorem Rels.reverse {H : Hp} {N : Addr → Prop} {α : List Addr} : ∀ {l : List D} {vs : List V}, Rels H N α l vs → Rels H N α l.reverse vs.reverse
  | [], _, h => by unfold Rels at h; subst h; simp [Rels]
  | d :: l, _, h => by
    unfold Rels at h
    obtain ⟨v, r, h1, q1, q2⟩ := h
    subst h1
    rw [List.reverse_cons, List.reverse_cons]
    exact Rels.append (Rels.one q1) (Rels.reverse q2)
theorem Rels.eraseIdx {H : Hp} {N : Addr → Prop} {α : List Addr} : ∀ {l : List D} {vs : List V} (n : Nat), Rels H N α l vs → Rels H N α (l.eraseIdx n) (vs.eraseIdx n)
  | [], _, n, h => by unfold Rels at h; subst h; simp [Rels]
  | e :: l, _, 0, h => by
    unfold Rels at h
    obtain ⟨w, r, h1, q1, q2⟩ := h
    subst h1
    exact q2
  | e :: l, _, n + 1, h => by
    unfold Rels at h
    obtain ⟨w, r, h1, q1, q2⟩ := h
    subst h1
    exact Rels.cons q1 (Rels.eraseIdx n q2)

/-! ### what stands by of code tables -/
structure TPr where
  p : Hp → Prop
  mono : ∀ H H', p H → (∀ b o, H b = some o → (∀ xs, o ≠ .lst xs) → H' b = some o) → p H'

/-- the cells -/
structure StC (T : TPr) (N : Addr → Prop) (H : Hp) (M : Cells) (α : List Addr) : Prop where
  nd : α.Nodup
  sub : ∀ a ∈ α, N a
  som : ∀ a, N a → ¬ Fz H a
  len : α.length = M.length
  cel : ∀ (n : Nat) (l : List D), M[n]? = some l → ∃ a vs, α[n]? = some a ∧ H a = some (.lst vs) ∧ Rels H N α l vs
  tab : T.p H
/-- the cells and the slots -/
structure StR (T : TPr) (N : Addr → Prop) (H : Hp) (σ : St) (s : Sx) (α : List Addr) : Prop where
  c : StC T N H s.M α
  slt : ∀ (i : Nat) (d : D), s.ρ[i]? = some (some d) → ∃ v, σ[i]? = some (some v) ∧ Rel H N α d v
  lnr : s.ρ.length = σ.length

/-- a raised exception as it lies -/
def XR (mg : Str → Option Value) (e : Ex) (cls : Value) (dd : Option Addr) (H : Hp) (N : Addr → Prop) (α : List Addr) : Prop :=
  mg e.name = some cls ∧ match e.part with
    | none => True
    | some d => ∃ a v, dd = some a ∧ H a = some (.xd [(("part" : Str), v)]) ∧ Rel H N α d v

abbrev RG (γ δ : Type) := Hp → (Addr → Prop) → List Addr → γ → δ → Prop
section
variable {γ γ' δ δ' : Type}
def Post (T : TPr) (mg : Str → Option Value) (G : RG γ δ) (N : Addr → Prop) (α : List Addr) (H : Hp) (σ : St) (ρ : List (Option D)) (W : WX) (Q : δ → Hp → Prop) : R γ → Prop
  | .ok d M => ∀ v H' α' N', StR T N' H' σ ⟨ρ, M⟩ α' → Ext α N H α' N' H' → G H' N' α' d v → Q v H'
  | .ex e M => ∀ cls dd H' α' N', StR T N' H' σ ⟨ρ, M⟩ α' → Ext α N H α' N' H' → XR mg e cls dd H' N' α' → W cls dd σ H'
  | .no => False
def tG (T : TPr) (mg : Str → Option Value) (G : RG γ δ) (W : WX) (f : Sx → R γ) : St → Hp → (δ → Hp → Prop) → Prop :=
  fun σ H Q => ∃ s α N, StR T N H σ s α ∧ Post T mg G N α H σ s.ρ W Q (f s)
variable {T : TPr} {mg : Str → Option Value} {G : RG γ δ} {G' : RG γ' δ'} {N : Addr → Prop} {α : List Addr} {H : Hp} {σ : St} {ρ : List (Option D)} {W : WX}
theorem Post.later {Q : δ → Hp → Prop} {r : R γ} {N1 : Addr → Prop} {α1 : List Addr} {H1 : Hp} (e1 : Ext α N H α1 N1 H1) (h : Post T mg G N α H σ ρ W Q r) : Post T mg G N1 α1 H1 σ ρ W Q r := by
  cases r with
  | no => exact h
  | ex e M => exact fun cls dd H' α' N' s2 e2 x => h cls dd H' α' N' s2 (e1.trans e2) x
  | ok c2 M2 => exact fun v2 H' α' N' s2 e2 g2 => h v2 H' α' N' s2 (e1.trans e2) g2
theorem Post.bind {Q : δ' → Hp → Prop} {r : R γ} {k : γ → Cells → R γ'} (h : Post T mg G' N α H σ ρ W Q (r.bind k)) :
    Post T mg G N α H σ ρ W (fun v H1 => ∃ M α1 N1 c, StR T N1 H1 σ ⟨ρ, M⟩ α1 ∧ Ext α N H α1 N1 H1 ∧ G H1 N1 α1 c v ∧ Post T mg G' N1 α1 H1 σ ρ W Q (k c M)) r := by
  cases r with
  | no => exact h
  | ex e M => exact h
  | ok c M =>
    intro v H1 α1 N1 s1 e1 g1
    exact ⟨M, α1, N1, c, s1, e1, g1, Post.later e1 h⟩
theorem Post.mono {Q Q' : δ → Hp → Prop} {r : R γ} (hq : ∀ v H', Q v H' → Q' v H') (h : Post T mg G N α H σ ρ W Q r) : Post T mg G N α H σ ρ W Q' r := by
  cases r with
  | no => exact h
  | ex e M => exact h
  | ok c M => exact fun v H' α' N' s e g => hq v H' (h v H' α' N' s e g)
theorem Post.now {Q : δ → Hp → Prop} {c : γ} {M : Cells} {v : δ} (h : Post T mg G N α H σ ρ W Q (.ok c M)) (s : StR T N H σ ⟨ρ, M⟩ α) (g : G H N α c v) : Q v H :=
  h v H α N s Ext.refl g
theorem tG.mk {Q : δ → Hp → Prop} {f : Sx → R γ} {M : Cells} (s : StR T N H σ ⟨ρ, M⟩ α) (h : Post T mg G N α H σ ρ W Q (f ⟨ρ, M⟩)) : tG T mg G W f σ H Q := ⟨⟨ρ, M⟩, α, N, s, h⟩
end
theorem _root_.L2.PE.imp {X : Cx} {e : Expr} {t t' : TE} (h : PE X e t) (hi : ∀ σ H Q, t' σ H Q → t σ H Q) : PE X e t' := ⟨fun pins s σ H Q I q => h.run pins s σ H Q I (hi σ H Q q)⟩
theorem _root_.L2.PT.imp {X : Cx} {e : Expr} {t t' : TT} (h : PT X e t) (hi : ∀ σ H Q, t' σ H Q → t σ H Q) : PT X e t' := ⟨fun pins s σ H Q I q => h.run pins s σ H Q I (hi σ H Q q)⟩
theorem _root_.L2.PW.imp {X : Cx} {e : Expr} {t t' : TT} (h : PW X e t) (hi : ∀ σ H Q, t' σ H Q → t σ H Q) : PW X e t' := ⟨fun w pins s σ H Q I q => h.run w pins s σ H Q I (hi σ H Q q)⟩
theorem _root_.L2.PA.imp {X : Cx} {e : List Expr} {t t' : TA} (h : PA X e t) (hi : ∀ σ H Q, t' σ H Q → t σ H Q) : PA X e t' := ⟨fun p pins s σ H Q I q => h.run p pins s σ H Q I (hi σ H Q q)⟩
theorem _root_.L2.PS.imp {X : Cx} {e : Stmt} {t t' : TS} (h : PS X e t) (hi : ∀ D σ H, t' D σ H → t D σ H) : PS X e t' := ⟨fun pins s σ H D I q => h.run pins s σ H D I (hi D σ H q)⟩
theorem _root_.L2.PSs.imp {X : Cx} {e : List Stmt} {t t' : TS} (h : PSs X e t) (hi : ∀ D σ H, t' D σ H → t D σ H) : PSs X e t' := ⟨fun pins s σ H D I q => h.run pins s σ H D I (hi D σ H q)⟩
end DL

namespace DL
open PySem PySem.Spec L2
open PyProof.Rows hiding St

abbrev RelD : RG D V := fun H N α d v => Rel H N α d v
abbrev RelL : RG (List D) (List V) := fun H N α d v => Rels H N α d v
abbrev RelB : RG Bool Bool := fun _ _ _ c b => c = b
abbrev RelO : RG (Option Int) (Option Int) := fun _ _ _ c b => c = b
abbrev tD (T : TPr) (mg : Str → Option Value) (W : WX) (f : Sx → R D) : TE := tG T mg RelD W f
abbrev tL (T : TPr) (mg : Str → Option Value) (W : WX) (f : Sx → R (List D)) : TA := tG T mg RelL W f
abbrev tB' (T : TPr) (mg : Str → Option Value) (W : WX) (f : Sx → R Bool) : TT := tG T mg RelB W f

section
variable {T : TPr} {mg : Str → Option Value} {W : WX} {σ : L2.St} {H : Hp} {N : Addr → Prop} {α : List Addr}

theorem StC.keep {M M' : Cells} {N' : Addr → Prop} {α' : List Addr} {H' : Hp} {ρ : List (Option D)} (s : StR T N H σ ⟨ρ, M⟩ α) (c : StC T N' H' M' α') (e : Ext α N H α' N' H') : StR T N' H' σ ⟨ρ, M'⟩ α' :=
  ⟨c, fun i d h => by obtain ⟨v, h1, h2⟩ := s.slt i d h; exact ⟨v, h1, Rel.mono s.c.sub e h2⟩, s.lnr⟩
/-- what holds of grown heaps where no cell changed -/
theorem StC.grow {M : Cells} {H' : Hp} (c : StC T N H M α) (k : ∀ b o, H b = some o → H' b = some o) : StC T N H' M α := by
  have e : Ext α N H α N H' := ⟨⟨[], by simp, by simp⟩, fun _ h => h, fun _ h => .inl h, fun b o h _ _ => k b o h, fun b h z => h fun o e => z o (k b o e)⟩
  exact ⟨c.nd, c.sub, fun a h => e.there a (c.som a h), c.len, fun n l h => by
    obtain ⟨a, vs, h1, h2, h3⟩ := c.cel n l h
    exact ⟨a, vs, h1, k _ _ h2, Rels.mono c.sub e h3⟩, T.mono _ _ c.tab fun b o h _ => k b o h⟩
theorem Ext.grow {H' : Hp} (k : ∀ b o, H b = some o → H' b = some o) : Ext α N H α N H' :=
  ⟨⟨[], by simp, by simp⟩, fun _ h => h, fun _ h => .inl h, fun b o h _ _ => k b o h, fun b h z => h fun o e => z o (k b o e)⟩
theorem new_keep {p : Addr} {o : HO} (h : H p = none) : ∀ b u, H b = some u → upd H p o b = some u := fun b u e => by
  rw [upd_ne (ne_of_none e h)]; exact e

/-! ### names, constants -/
def fVar (i : Nat) : Sx → R D := fun s => match s.ρ[i]? with
  | some (some d) => .ok d s.M
  | _ => .no
def fC (d : D) : Sx → R D := fun s => .ok d s.M
theorem var_imp {i : Nat} {Q : VK} (h : tD T mg W (fVar i) σ H Q) : tVar i σ H Q := by
  obtain ⟨s, α, N, hs, p⟩ := h
  unfold fVar at p
  cases q : s.ρ[i]? with
  | none => rw [q] at p; exact p.elim
  | some o =>
    cases o with
    | none => rw [q] at p; exact p.elim
    | some d =>
      rw [q] at p
      obtain ⟨v, h1, h2⟩ := hs.slt i d q
      exact ⟨v, h1, Post.now p hs h2⟩
theorem c_imp {d : D} {v : V} {Q : VK} (hv : ∀ H N α, Rel H N α d v) (h : tD T mg W (fC d) σ H Q) : tC v σ H Q := by
  obtain ⟨s, α, N, hs, p⟩ := h
  exact Post.now p hs (hv _ _ _)

/-! ### values -/
def opt {γ : Type} (o : Option γ) (M : Cells) : R γ := match o with
  | some z => .ok z M
  | none => .no
def fOp (g : Cells → D → D → Option D) (fa fb : Sx → R D) : Sx → R D := fun s =>
  (fa s).bind fun d M1 => (fb ⟨s.ρ, M1⟩).bind fun e M2 => opt (g M2 d e) M2
def fUn (g : Cells → D → Option D) (fa : Sx → R D) : Sx → R D := fun s => (fa s).bind fun d M1 => opt (g M1 d) M1
def fCB (g : Cells → List D → Option D) (fa : Sx → R (List D)) : Sx → R D := fun s => (fa s).bind fun l M1 => opt (g M1 l) M1
/-- an operation on values, told by data -/
def OpD (T : TPr) (r : R2) (g : Cells → D → D → Option D) : Prop := ∀ {N : Addr → Prop} {H : Hp} {M : Cells} {α : List Addr} {d e : D} {x y : V} {z : D} {Q : VK}, StC T N H M α → Rel H N α d x → Rel H N α e y → g M d e = some z →
  (∀ v H', StC T N H' M α → Ext α N H α N H' → Rel H' N α z v → Q v H') → r x y H Q
def UnD (T : TPr) (r : V → Hp → VK → Prop) (g : Cells → D → Option D) : Prop := ∀ {N : Addr → Prop} {H : Hp} {M : Cells} {α : List Addr} {d : D} {x : V} {z : D} {Q : VK}, StC T N H M α → Rel H N α d x → g M d = some z →
  (∀ v H', StC T N H' M α → Ext α N H α N H' → Rel H' N α z v → Q v H') → r x H Q
def CbD (T : TPr) (r : List V → Hp → VK → Prop) (g : Cells → List D → Option D) : Prop := ∀ {N : Addr → Prop} {H : Hp} {M : Cells} {α : List Addr} {l : List D} {xs : List V} {z : D} {Q : VK}, StC T N H M α → Rels H N α l xs → g M l = some z →
  (∀ v H', StC T N H' M α → Ext α N H α N H' → Rel H' N α z v → Q v H') → r xs H Q
theorem Post.opt {γ δ : Type} {G : RG γ δ} {ρ : List (Option D)} {Q : δ → Hp → Prop} {o : Option γ} {M : Cells} (h : Post T mg G N α H σ ρ W Q (opt o M)) : ∃ z, o = some z ∧ Post T mg G N α H σ ρ W Q (.ok z M) := by
  cases o with
  | none => exact h.elim
  | some z => exact ⟨z, rfl, h⟩
theorem op_imp {r : R2} {g : Cells → D → D → Option D} {fa fb : Sx → R D} (ho : OpD T r g) {Q : VK} (h : tD T mg W (fOp g fa fb) σ H Q) : tOp r (tD T mg W fa) (tD T mg W fb) σ H Q := by
  obtain ⟨s, α, N, hs, p⟩ := h
  refine ⟨s, α, N, hs, Post.mono (fun x H1 h1 => ?_) p.bind⟩
  obtain ⟨M1, α1, N1, d, s1, e1, g1, p1⟩ := h1
  refine ⟨_, α1, N1, s1, Post.mono (fun y H2 h2 => ?_) p1.bind⟩
  obtain ⟨M2, α2, N2, e, s2, e2, g2, p2⟩ := h2
  obtain ⟨z, hz, p3⟩ := p2.opt
  exact ho s2.c (Rel.mono s1.c.sub e2 g1) g2 hz fun v H' c e rz => p3 v H' α2 N2 (StC.keep s2 c e) e rz
theorem un_imp {r : V → Hp → VK → Prop} {g : Cells → D → Option D} {fa : Sx → R D} (ho : UnD T r g) {Q : VK} (h : tD T mg W (fUn g fa) σ H Q) : tUn r (tD T mg W fa) σ H Q := by
  obtain ⟨s, α, N, hs, p⟩ := h
  refine ⟨s, α, N, hs, Post.mono (fun x H1 h1 => ?_) p.bind⟩
  obtain ⟨M1, α1, N1, d, s1, e1, g1, p1⟩ := h1
  obtain ⟨z, hz, p3⟩ := p1.opt
  exact ho s1.c g1 hz fun v H' c e rz => p3 v H' α1 N1 (StC.keep s1 c e) e rz
theorem cb_imp {r : List V → Hp → VK → Prop} {g : Cells → List D → Option D} {fa : Sx → R (List D)} (ho : CbD T r g) {Q : VK} (h : tD T mg W (fCB g fa) σ H Q) : tCB r (tL T mg W fa) σ H Q := by
  obtain ⟨s, α, N, hs, p⟩ := h
  refine ⟨s, α, N, hs, Post.mono (fun x H1 h1 => ?_) p.bind⟩
  obtain ⟨M1, α1, N1, d, s1, e1, g1, p1⟩ := h1
  obtain ⟨z, hz, p3⟩ := p1.opt
  exact ho s1.c g1 hz fun v H' c e rz => p3 v H' α1 N1 (StC.keep s1 c e) e rz

/-! ### argument lists -/
def fNil : Sx → R (List D) := fun s => .ok [] s.M
def fCons (fa : Sx → R D) (fr : Sx → R (List D)) : Sx → R (List D) := fun s => (fa s).bind fun d M1 => (fr ⟨s.ρ, M1⟩).bind fun l M2 => .ok (d :: l) M2
theorem nil_imp {Q : List V → Hp → Prop} (h : tL T mg W fNil σ H Q) : tNil σ H Q := by
  obtain ⟨s, α, N, hs, p⟩ := h
  exact Post.now p hs (by unfold RelL Rels; rfl)
theorem cons_imp {fa : Sx → R D} {fr : Sx → R (List D)} {Q : List V → Hp → Prop} (h : tL T mg W (fCons fa fr) σ H Q) : tCons (tD T mg W fa) (tL T mg W fr) σ H Q := by
  obtain ⟨s, α, N, hs, p⟩ := h
  refine ⟨s, α, N, hs, Post.mono (fun x H1 h1 => ?_) p.bind⟩
  obtain ⟨M1, α1, N1, d, s1, e1, g1, p1⟩ := h1
  refine ⟨_, α1, N1, s1, Post.mono (fun y H2 h2 => ?_) p1.bind⟩
  obtain ⟨M2, α2, N2, e, s2, e2, g2, p2⟩ := h2
  exact Post.now p2 s2 (Rels.cons (Rel.mono s1.c.sub e2 g1) g2)

/-! ### displays -/
def fTup (f : Sx → R (List D)) : Sx → R D := fun s => (f s).bind fun l M => if l.length ≤ 100000 then .ok (.tup l) M else .no
def fLst (f : Sx → R (List D)) : Sx → R D := fun s => (f s).bind fun l M => if l.length ≤ 100000 then .ok (.lst l) M else .no
theorem sz_of {n : Nat} (h : n ≤ 100000) : n ≤ sizeLine := Nat.le_trans h (by decide)
theorem Post.ite {γ δ : Type} {G : RG γ δ} {ρ : List (Option D)} {Q : δ → Hp → Prop} {c : Prop} [Decidable c] {r : R γ} (h : Post T mg G N α H σ ρ W Q (if c then r else .no)) : c ∧ Post T mg G N α H σ ρ W Q r := by
  by_cases hc : c
  · rw [if_pos hc] at h; exact ⟨hc, h⟩
  · rw [if_neg hc] at h; exact h.elim
/-- a new tuple -/
theorem tup_new {l : List D} {vs : List V} {p : Addr} (r : Rels H N α l vs) (sub : ∀ a ∈ α, N a) (hp : H p = none) : Rel (upd H p (.tup vs)) N α (.tup l) (.ref p) := by
  unfold Rel
  exact ⟨p, vs, rfl, upd_same, Rels.mono sub (Ext.grow (new_keep hp)) r⟩
theorem lst_new {l : List D} {vs : List V} {p : Addr} (r : Rels H N α l vs) (sub : ∀ a ∈ α, N a) (som : ∀ a, N a → ¬ Fz H a) (hp : H p = none) : Rel (upd H p (.lst vs)) N α (.lst l) (.ref p) := by
  unfold Rel
  exact ⟨p, vs, rfl, fun z => som p z (fz_of hp), upd_same, Rels.mono sub (Ext.grow (new_keep hp)) r⟩
theorem tup_imp {f : Sx → R (List D)} {Q : VK} (h : tD T mg W (fTup f) σ H Q) : tTup (tL T mg W f) σ H Q := by
  obtain ⟨s, α, N, hs, p⟩ := h
  refine ⟨s, α, N, hs, Post.mono (fun x H1 h1 => ?_) p.bind⟩
  obtain ⟨M1, α1, N1, l, s1, e1, g1, p1⟩ := h1
  obtain ⟨hl, p2⟩ := p1.ite
  have hl' := Rels.length g1
  exact ⟨sz_of (by omega), fun p hp => p2 _ _ α1 N1 (StC.keep s1 (s1.c.grow (new_keep hp)) (Ext.grow (new_keep hp))) (Ext.grow (new_keep hp)) (tup_new g1 s1.c.sub hp)⟩
theorem lst_imp {f : Sx → R (List D)} {Q : VK} (h : tD T mg W (fLst f) σ H Q) : tLst (tL T mg W f) σ H Q := by
  obtain ⟨s, α, N, hs, p⟩ := h
  refine ⟨s, α, N, hs, Post.mono (fun x H1 h1 => ?_) p.bind⟩
  obtain ⟨M1, α1, N1, l, s1, e1, g1, p1⟩ := h1
  obtain ⟨hl, p2⟩ := p1.ite
  have hl' := Rels.length g1
  exact ⟨sz_of (by omega), fun p hp => p2 _ _ α1 N1 (StC.keep s1 (s1.c.grow (new_keep hp)) (Ext.grow (new_keep hp))) (Ext.grow (new_keep hp)) (lst_new g1 s1.c.sub s1.c.som hp)⟩

/-! ### tests -/
def toB (r : R D) : R Bool := r.bind fun d M => match d with
  | .bl b => .ok b M
  | _ => .no
def fTst (f : Sx → R D) : Sx → R Bool := fun s => toB (f s)
def fAnd (f g : Sx → R Bool) : Sx → R Bool := fun s => (f s).bind fun b M => if b = true then g ⟨s.ρ, M⟩ else .ok false M
def fOr (f g : Sx → R Bool) : Sx → R Bool := fun s => (f s).bind fun b M => if b = true then .ok true M else g ⟨s.ρ, M⟩
def fNot (f : Sx → R Bool) : Sx → R Bool := fun s => (f s).bind fun b M => .ok (!b) M
def fIf (c : Sx → R Bool) (f g : Sx → R D) : Sx → R D := fun s => (c s).bind fun b M => if b = true then f ⟨s.ρ, M⟩ else g ⟨s.ρ, M⟩
def ofB (f : Sx → R Bool) : Sx → R D := fun s => (f s).bind fun b M => .ok (.bl b) M
theorem tst_imp {f : Sx → R D} {Q : Bool → Hp → Prop} (h : tB' T mg W (fTst f) σ H Q) : tTest (tD T mg W f) σ H Q := by
  obtain ⟨s, α, N, hs, p⟩ := h
  refine ⟨s, α, N, hs, Post.mono (fun x H1 h1 => ?_) (Post.bind (G := RelD) p)⟩
  obtain ⟨M1, α1, N1, d, s1, e1, g1, p1⟩ := h1
  cases d with
  | bl b =>
    unfold RelD Rel at g1
    exact ⟨b, g1, Post.now p1 s1 rfl⟩
  | _ => exact p1.elim
theorem and_imp {f g : Sx → R Bool} {Q : Bool → Hp → Prop} (h : tB' T mg W (fAnd f g) σ H Q) : tAnd (tB' T mg W f) (tB' T mg W g) σ H Q := by
  obtain ⟨s, α, N, hs, p⟩ := h
  refine ⟨s, α, N, hs, Post.mono (fun x H1 h1 => ?_) (Post.bind (G := RelB) p)⟩
  obtain ⟨M1, α1, N1, b, s1, e1, g1, p1⟩ := h1
  cases g1
  cases x with
  | true => exact ⟨_, α1, N1, s1, p1⟩
  | false => exact Post.now p1 s1 rfl
theorem or_imp {f g : Sx → R Bool} {Q : Bool → Hp → Prop} (h : tB' T mg W (fOr f g) σ H Q) : tOr (tB' T mg W f) (tB' T mg W g) σ H Q := by
  obtain ⟨s, α, N, hs, p⟩ := h
  refine ⟨s, α, N, hs, Post.mono (fun x H1 h1 => ?_) (Post.bind (G := RelB) p)⟩
  obtain ⟨M1, α1, N1, b, s1, e1, g1, p1⟩ := h1
  cases g1
  cases x with
  | true => exact Post.now p1 s1 rfl
  | false => exact ⟨_, α1, N1, s1, p1⟩
theorem not_imp {f : Sx → R Bool} {Q : Bool → Hp → Prop} (h : tB' T mg W (fNot f) σ H Q) : tNot (tB' T mg W f) σ H Q := by
  obtain ⟨s, α, N, hs, p⟩ := h
  refine ⟨s, α, N, hs, Post.mono (fun x H1 h1 => ?_) (Post.bind (G := RelB) p)⟩
  obtain ⟨M1, α1, N1, b, s1, e1, g1, p1⟩ := h1
  cases g1
  exact Post.now p1 s1 rfl
theorem if_imp {c : Sx → R Bool} {f g : Sx → R D} {Q : VK} (h : tD T mg W (fIf c f g) σ H Q) : tIf (tB' T mg W c) (tD T mg W f) (tD T mg W g) σ H Q := by
  obtain ⟨s, α, N, hs, p⟩ := h
  refine ⟨s, α, N, hs, Post.mono (fun x H1 h1 => ?_) (Post.bind (G := RelB) p)⟩
  obtain ⟨M1, α1, N1, b, s1, e1, g1, p1⟩ := h1
  cases g1
  cases x with
  | true => exact ⟨_, α1, N1, s1, p1⟩
  | false => exact ⟨_, α1, N1, s1, p1⟩
def fAndV (fa fb : Sx → R D) : Sx → R D := fun s => (fa s).bind fun d M => match d with
  | .bl b => if b = true then fb ⟨s.ρ, M⟩ else .ok (.bl false) M
  | _ => .no
def fOrV (fa fb : Sx → R D) : Sx → R D := fun s => (fa s).bind fun d M => match d with
  | .bl b => if b = true then .ok (.bl true) M else fb ⟨s.ρ, M⟩
  | _ => .no
def fNotV (fa : Sx → R D) : Sx → R D := fun s => (fa s).bind fun d M => match d with
  | .bl b => .ok (.bl (!b)) M
  | _ => .no
theorem andV_imp {fa fb : Sx → R D} {Q : VK} (h : tD T mg W (fAndV fa fb) σ H Q) : tAndV (tD T mg W fa) (tD T mg W fb) σ H Q := by
  obtain ⟨s, α, N, hs, p⟩ := h
  refine ⟨s, α, N, hs, Post.mono (fun x H1 h1 => ?_) (Post.bind (G := RelD) p)⟩
  obtain ⟨M1, α1, N1, d, s1, e1, g1, p1⟩ := h1
  cases d with
  | bl b =>
    unfold RelD Rel at g1
    refine ⟨b, g1, ?_⟩
    cases b with
    | true => exact ⟨_, α1, N1, s1, p1⟩
    | false => exact Post.now p1 s1 (by unfold RelD Rel; rfl)
  | _ => exact p1.elim
theorem orV_imp {fa fb : Sx → R D} {Q : VK} (h : tD T mg W (fOrV fa fb) σ H Q) : tOrV (tD T mg W fa) (tD T mg W fb) σ H Q := by
  obtain ⟨s, α, N, hs, p⟩ := h
  refine ⟨s, α, N, hs, Post.mono (fun x H1 h1 => ?_) (Post.bind (G := RelD) p)⟩
  obtain ⟨M1, α1, N1, d, s1, e1, g1, p1⟩ := h1
  cases d with
  | bl b =>
    unfold RelD Rel at g1
    refine ⟨b, g1, ?_⟩
    cases b with
    | true => exact Post.now p1 s1 (by unfold RelD Rel; rfl)
    | false => exact ⟨_, α1, N1, s1, p1⟩
  | _ => exact p1.elim
theorem notV_imp {fa : Sx → R D} {Q : VK} (h : tD T mg W (fNotV fa) σ H Q) : tNotV (tD T mg W fa) σ H Q := by
  obtain ⟨s, α, N, hs, p⟩ := h
  refine ⟨s, α, N, hs, Post.mono (fun x H1 h1 => ?_) (Post.bind (G := RelD) p)⟩
  obtain ⟨M1, α1, N1, d, s1, e1, g1, p1⟩ := h1
  cases d with
  | bl b =>
    unfold RelD Rel at g1
    exact ⟨b, g1, Post.now p1 s1 (by unfold RelD Rel; rfl)⟩
  | _ => exact p1.elim
/-- a op b op' c -/
def fChain (g g' : Cells → D → D → Option D) (fa fb fc : Sx → R D) : Sx → R D := fun s =>
  (fa s).bind fun d M1 => (fb ⟨s.ρ, M1⟩).bind fun e M2 => (opt (g M2 d e) M2).bind fun z M3 => match z with
    | .bl b => if b = true then (fc ⟨s.ρ, M3⟩).bind fun w M4 => opt (g' M4 e w) M4 else .ok (.bl false) M3
    | _ => .no
theorem chain_imp {r r' : R2} {g g' : Cells → D → D → Option D} {fa fb fc : Sx → R D} (ho : OpD T r g) (ho' : OpD T r' g') {Q : VK} (h : tD T mg W (fChain g g' fa fb fc) σ H Q) : tChain r r' (tD T mg W fa) (tD T mg W fb) (tD T mg W fc) σ H Q := by
  obtain ⟨s, α, N, hs, p⟩ := h
  refine ⟨s, α, N, hs, Post.mono (fun x H1 h1 => ?_) (Post.bind (G := RelD) p)⟩
  obtain ⟨M1, α1, N1, d, s1, e1, g1, p1⟩ := h1
  refine ⟨_, α1, N1, s1, Post.mono (fun y H2 h2 => ?_) (Post.bind (G := RelD) p1)⟩
  obtain ⟨M2, α2, N2, e, s2, e2, g2, p2⟩ := h2
  cases q : g M2 d e with
  | none => rw [q] at p2; exact p2.elim
  | some z =>
    refine ho s2.c (Rel.mono s1.c.sub e2 g1) g2 q fun v H' c ex rz => ?_
    rw [q] at p2
    have s3 := StC.keep s2 c ex
    cases z with
    | bl b =>
      unfold Rel at rz
      refine ⟨b, rz, ?_⟩
      have p3 : Post T mg RelD N2 α2 H2 σ s.ρ W Q (if b = true then (fc ⟨s.ρ, M2⟩).bind fun w M4 => DL.opt (g' M4 e w) M4 else .ok (.bl false) M2) := p2
      cases b with
      | false =>
        rw [if_neg (by decide)] at p3 ⊢
        exact p3 _ _ _ _ s3 ex (by unfold RelD Rel; rfl)
      | true =>
        rw [if_pos rfl] at p3 ⊢
        have p4 : Post T mg RelD N2 α2 H' σ s.ρ W Q ((fc ⟨s.ρ, M2⟩).bind fun w M4 => DL.opt (g' M4 e w) M4) := by
          exact Post.later ex p3
        refine ⟨_, α2, N2, s3, Post.mono (fun w H4 h4 => ?_) (Post.bind (G := RelD) p4)⟩
        obtain ⟨M4, α4, N4, ww, s4, e4, g4, p5⟩ := h4
        obtain ⟨z4, hz4, p6⟩ := p5.opt
        exact ho' s4.c (Rel.mono s3.c.sub e4 (Rel.mono s2.c.sub ex g2)) g4 hz4 fun v H5 c e rz => p6 v H5 α4 N4 (StC.keep s4 c e) e rz
    | _ => exact p2.elim
end
end DL

namespace DL
open PySem PySem.Spec L2
open PyProof.Rows hiding St

/-! ### statements -/
inductive RS where
  | nx (s : Sx)
  | rt (d : D) (s : Sx)
  | bk (s : Sx)
  | ct (s : Sx)
  | ex (e : Ex) (s : Sx)
  | no
def PostS (T : TPr) (mg : Str → Option Value) (N : Addr → Prop) (α : List Addr) (H : Hp) (W : WX) (Dn : Ends) : RS → Prop
  | .nx s => ∀ σ' H' α' N', StR T N' H' σ' s α' → Ext α N H α' N' H' → Dn.nx σ' H'
  | .bk s => ∀ σ' H' α' N', StR T N' H' σ' s α' → Ext α N H α' N' H' → Dn.bk σ' H'
  | .ct s => ∀ σ' H' α' N', StR T N' H' σ' s α' → Ext α N H α' N' H' → Dn.ct σ' H'
  | .rt d s => ∀ v σ' H' α' N', StR T N' H' σ' s α' → Ext α N H α' N' H' → Rel H' N' α' d v → Dn.rt v H'
  | .ex e s => ∀ cls dd σ' H' α' N', StR T N' H' σ' s α' → Ext α N H α' N' H' → XR mg e cls dd H' N' α' → W cls dd σ' H'
  | .no => False
def tS (T : TPr) (mg : Str → Option Value) (W : WX) (f : Sx → RS) : TS := fun Dn σ H => ∃ s α N, StR T N H σ s α ∧ PostS T mg N α H W Dn (f s)
def R.toS {γ : Type} (r : R γ) (ρ : List (Option D)) (k : γ → Cells → RS) : RS := match r with
  | .ok a M => k a M
  | .ex e M => .ex e ⟨ρ, M⟩
  | .no => .no
section
variable {T : TPr} {mg : Str → Option Value} {W : WX} {σ : L2.St} {H : Hp} {N : Addr → Prop} {α : List Addr} {Dn : Ends}
theorem PostS.later {r : RS} {N1 : Addr → Prop} {α1 : List Addr} {H1 : Hp} (e1 : Ext α N H α1 N1 H1) (h : PostS T mg N α H W Dn r) : PostS T mg N1 α1 H1 W Dn r := by
  cases r with
  | no => exact h
  | nx s => exact fun σ' H' α' N' s2 e2 => h σ' H' α' N' s2 (e1.trans e2)
  | bk s => exact fun σ' H' α' N' s2 e2 => h σ' H' α' N' s2 (e1.trans e2)
  | ct s => exact fun σ' H' α' N' s2 e2 => h σ' H' α' N' s2 (e1.trans e2)
  | rt d s => exact fun v σ' H' α' N' s2 e2 => h v σ' H' α' N' s2 (e1.trans e2)
  | ex e s => exact fun c d σ' H' α' N' s2 e2 => h c d σ' H' α' N' s2 (e1.trans e2)
theorem PostS.bind {γ δ : Type} {G : RG γ δ} {ρ : List (Option D)} {r : R γ} {k : γ → Cells → RS} (h : PostS T mg N α H W Dn (r.toS ρ k)) :
    Post T mg G N α H σ ρ W (fun v H1 => ∃ M α1 N1 c, StR T N1 H1 σ ⟨ρ, M⟩ α1 ∧ Ext α N H α1 N1 H1 ∧ G H1 N1 α1 c v ∧ PostS T mg N1 α1 H1 W Dn (k c M)) r := by
  cases r with
  | no => exact h
  | ex e M => exact fun cls dd H' α' N' s2 e2 x => h cls dd σ H' α' N' s2 e2 x
  | ok c M => exact fun v H1 α1 N1 s1 e1 g1 => ⟨M, α1, N1, c, s1, e1, g1, PostS.later e1 h⟩
theorem PostS.nxNow {s : Sx} (h : PostS T mg N α H W Dn (.nx s)) (hs : StR T N H σ s α) : Dn.nx σ H := h σ H α N hs Ext.refl

def fSkip : Sx → RS := fun s => .nx s
def fSeq (f g : Sx → RS) : Sx → RS := fun s => match f s with
  | .nx s1 => g s1
  | r => r
theorem skip_imp (h : tS T mg W fSkip Dn σ H) : tNext Dn σ H := by
  obtain ⟨s, α, N, hs, p⟩ := h
  exact p.nxNow hs
theorem seq_imp {f g : Sx → RS} (h : tS T mg W (fSeq f g) Dn σ H) : tSeq (tS T mg W f) (tS T mg W g) Dn σ H := by
  obtain ⟨s, α, N, hs, p⟩ := h
  refine ⟨s, α, N, hs, ?_⟩
  unfold fSeq at p
  cases q : f s with
  | nx s1 => rw [q] at p; exact fun σ' H' α' N' s' e => ⟨s1, α', N', s', PostS.later e p⟩
  | rt d s1 => rw [q] at p; exact p
  | bk s1 => rw [q] at p; exact p
  | ct s1 => rw [q] at p; exact p
  | ex e s1 => rw [q] at p; exact p
  | no => rw [q] at p; exact p
def fRet (f : Sx → R D) : Sx → RS := fun s => (f s).toS s.ρ fun d M => .rt d ⟨s.ρ, M⟩
def fRetN : Sx → RS := fun s => .rt .non s
theorem ret_imp {f : Sx → R D} (h : tS T mg W (fRet f) Dn σ H) : tRet (tD T mg W f) Dn σ H := by
  obtain ⟨s, α, N, hs, p⟩ := h
  refine ⟨s, α, N, hs, Post.mono (fun v H1 h1 => ?_) (PostS.bind (G := RelD) p)⟩
  obtain ⟨M1, α1, N1, d, s1, e1, g1, p1⟩ := h1
  exact p1 v σ H1 α1 N1 s1 Ext.refl g1
theorem retN_imp (h : tS T mg W fRetN Dn σ H) : tRetN Dn σ H := by
  obtain ⟨s, α, N, hs, p⟩ := h
  exact p .non σ H α N hs Ext.refl (by unfold Rel; rfl)
def fDrop (f : Sx → R D) : Sx → RS := fun s => (f s).toS s.ρ fun _ M => .nx ⟨s.ρ, M⟩
theorem drop_imp {f : Sx → R D} (h : tS T mg W (fDrop f) Dn σ H) : tDrop (tD T mg W f) Dn σ H := by
  obtain ⟨s, α, N, hs, p⟩ := h
  refine ⟨s, α, N, hs, Post.mono (fun v H1 h1 => ?_) (PostS.bind (G := RelD) p)⟩
  obtain ⟨M1, α1, N1, d, s1, e1, g1, p1⟩ := h1
  exact p1.nxNow s1
def fIfS (c : Sx → R Bool) (f g : Sx → RS) : Sx → RS := fun s => (c s).toS s.ρ fun b M => if b = true then f ⟨s.ρ, M⟩ else g ⟨s.ρ, M⟩
theorem ifS_imp {c : Sx → R Bool} {f g : Sx → RS} (h : tS T mg W (fIfS c f g) Dn σ H) : tIfS (tB' T mg W c) (tS T mg W f) (tS T mg W g) Dn σ H := by
  obtain ⟨s, α, N, hs, p⟩ := h
  refine ⟨s, α, N, hs, Post.mono (fun x H1 h1 => ?_) (PostS.bind (G := RelB) p)⟩
  obtain ⟨M1, α1, N1, b, s1, e1, g1, p1⟩ := h1
  cases g1
  cases x with
  | true => exact ⟨_, α1, N1, s1, p1⟩
  | false => exact ⟨_, α1, N1, s1, p1⟩
def fBrk : Sx → RS := fun s => .bk s
def fCnt : Sx → RS := fun s => .ct s
theorem brk_imp (h : tS T mg W fBrk Dn σ H) : tBreak Dn σ H := by
  obtain ⟨s, α, N, hs, p⟩ := h
  exact p σ H α N hs Ext.refl
theorem cnt_imp (h : tS T mg W fCnt Dn σ H) : tCont Dn σ H := by
  obtain ⟨s, α, N, hs, p⟩ := h
  exact p σ H α N hs Ext.refl

/-! ### targets -/
theorem StR.set {ρ : List (Option D)} {M : Cells} {i : Nat} {d : D} {v : V} (s : StR T N H σ ⟨ρ, M⟩ α) (r : Rel H N α d v) : StR T N H (σ.set i (some v)) ⟨ρ.set i (some d), M⟩ α := by
  refine ⟨s.c, fun j e h => ?_, by simpa using s.lnr⟩
  by_cases hj : i = j
  · subst hj
    by_cases hl : i < ρ.length
    · have h' : (ρ.set i (some d))[i]? = some (some e) := h
      rw [List.getElem?_set_self hl] at h'
      cases h'
      have hl' : i < σ.length := by have := s.lnr; simp at this; omega
      exact ⟨v, by rw [List.getElem?_set_self hl'], r⟩
    · have h' : (ρ.set i (some d))[i]? = some (some e) := h
      rw [List.getElem?_eq_none (by simpa using hl)] at h'
      cases h'
  · have h' : (ρ.set i (some d))[j]? = some (some e) := h
    rw [List.getElem?_set_ne hj] at h'
    obtain ⟨w, h1, h2⟩ := s.slt j e h'
    exact ⟨w, by rw [List.getElem?_set_ne hj]; exact h1, h2⟩
/-- only the slots ws differ -/
def Off (ws : List Nat) (σ σ' : L2.St) : Prop := σ'.length = σ.length ∧ ∀ i, i ∉ ws → σ'[i]? = σ[i]?
theorem Off.refl {ws : List Nat} {σ : L2.St} : Off ws σ σ := ⟨rfl, fun _ _ => rfl⟩
theorem Off.trans {ws : List Nat} {σ σ1 σ2 : L2.St} (a : Off ws σ σ1) (b : Off ws σ1 σ2) : Off ws σ σ2 := ⟨b.1.trans a.1, fun i h => (b.2 i h).trans (a.2 i h)⟩
theorem wipe_get {σ : L2.St} {i : Nat} : ∀ {vs : List Nat}, (wipe σ vs)[i]? = if i ∈ vs ∧ i < σ.length then some none else σ[i]?
  | [] => by simp [wipe]
  | v :: vs => by
    unfold wipe
    have ih := wipe_get (σ := σ) (i := i) (vs := vs)
    by_cases hv : v = i
    · subst hv
      by_cases hl : v < σ.length
      · rw [List.getElem?_set_self (by rw [wipe_length]; exact hl), if_pos ⟨by simp, hl⟩]
      · rw [List.getElem?_eq_none (by simp [wipe_length]; omega), if_neg (fun h => hl h.2), List.getElem?_eq_none (by omega)]
    · rw [List.getElem?_set_ne hv, ih]
      have hm : (i ∈ v :: vs) ↔ i ∈ vs := by simp [Ne.symm hv]
      simp only [hm]
theorem Off.wipe {ws : List Nat} {σ σ' : L2.St} (h : Off ws (L2.wipe σ ws) σ') : L2.wipe σ' ws = L2.wipe σ ws := by
  refine List.ext_getElem? fun i => ?_
  rw [wipe_get, wipe_get, h.1, wipe_length]
  by_cases hi : i ∈ ws
  · by_cases hl : i < σ.length
    · rw [if_pos ⟨hi, hl⟩, if_pos ⟨hi, hl⟩]
    · rw [if_neg (fun z => hl z.2), if_neg (fun z => hl z.2), List.getElem?_eq_none (by rw [h.1, wipe_length]; omega), List.getElem?_eq_none (by omega)]
  · rw [if_neg (fun z => hi z.1), if_neg (fun z => hi z.1), h.2 i hi, wipe_get, if_neg (fun z => hi z.1)]

/-- a target -/
def tT (T : TPr) (ws : List Nat) (g : D → Sx → Option Sx) : TG := fun v σ H Q => ∃ d s α N s', StR T N H σ s α ∧ Rel H N α d v ∧ g d s = some s' ∧
  ∀ σ' H' α' N', StR T N' H' σ' s' α' → Ext α N H α' N' H' → Off ws σ σ' → Q σ' H'
def tTs (T : TPr) (ws : List Nat) (g : List D → Sx → Option Sx) : TGs := fun vs σ H Q => ∃ ds s α N s', StR T N H σ s α ∧ Rels H N α ds vs ∧ g ds s = some s' ∧
  ∀ σ' H' α' N', StR T N' H' σ' s' α' → Ext α N H α' N' H' → Off ws σ σ' → Q σ' H'
def bName (i : Nat) : D → Sx → Option Sx := fun d s => some ⟨s.ρ.set i (some d), s.M⟩
def bNil : List D → Sx → Option Sx := fun l s => match l with
  | [] => some s
  | _ => none
def bCons (g : D → Sx → Option Sx) (h : List D → Sx → Option Sx) : List D → Sx → Option Sx := fun l s => match l with
  | d :: r => (g d s).bind fun s1 => h r s1
  | _ => none
def bTup (n : Nat) (h : List D → Sx → Option Sx) : D → Sx → Option Sx := fun d s => match d with
  | .tup l => if l.length = n then h l s else none
  | _ => none
def bLst (n : Nat) (h : List D → Sx → Option Sx) : D → Sx → Option Sx := fun d s => match d with
  | .lst l => if l.length = n then h l s else none
  | _ => none
theorem off_set {ws : List Nat} {σ : L2.St} {i : Nat} {v : Option V} (h : i ∈ ws) : Off ws σ (σ.set i v) := ⟨by simp, fun j hj => List.getElem?_set_ne (fun e => hj (by rw [← e]; exact h))⟩
theorem bName_imp {ws : List Nat} {i : Nat} (hi : i ∈ ws) {v : V} {Q : L2.St → Hp → Prop} (h : tT T ws (bName i) v σ H Q) : gName i v σ H Q := by
  obtain ⟨d, s, α, N, s', hs, r, e, k⟩ := h
  cases e
  exact k _ H α N (StR.set hs r) Ext.refl (off_set hi)
theorem bNil_imp {ws : List Nat} {vs : List V} {Q : L2.St → Hp → Prop} (h : tTs T ws bNil vs σ H Q) : gNil vs σ H Q := by
  obtain ⟨ds, s, α, N, s', hs, r, e, k⟩ := h
  cases ds with
  | nil => cases e; unfold Rels at r; exact ⟨r, k σ H α N hs Ext.refl Off.refl⟩
  | cons _ _ => cases e
theorem bCons_imp {ws : List Nat} {g : D → Sx → Option Sx} {gs : List D → Sx → Option Sx} {vs : List V} {Q : L2.St → Hp → Prop} (h : tTs T ws (bCons g gs) vs σ H Q) : gCons (tT T ws g) (tTs T ws gs) vs σ H Q := by
  obtain ⟨ds, s, α, N, s', hs, r, e, k⟩ := h
  cases ds with
  | nil => cases e
  | cons d l =>
    unfold Rels at r
    obtain ⟨v, vr, ev, r1, r2⟩ := r
    unfold bCons at e
    cases q : g d s with
    | none => simp [q] at e
    | some s1 =>
      simp only [q, Option.bind_some] at e
      exact ⟨v, vr, ev, d, s, α, N, s1, hs, r1, q, fun σ1 H1 α1 N1 t1 e1 o1 => ⟨l, s1, α1, N1, s', t1, Rels.mono hs.c.sub e1 r2, e, fun σ2 H2 α2 N2 t2 e2 o2 => k σ2 H2 α2 N2 t2 (e1.trans e2) (o1.trans o2)⟩⟩
theorem rd_sqT {K : PySem.W.Frag} {H : Hp} {a : Addr} {vs : List V} (h : H a = some (.tup vs)) : SqT K H a vs := .inl (.inl h)
theorem rd_sqL {K : PySem.W.Frag} {H : Hp} {a : Addr} {vs : List V} (h : H a = some (.lst vs)) : SqL K H a vs := .inl (.inl h)
theorem bTup_imp {K : PySem.W.Frag} {ws : List Nat} {n : Nat} {gs : List D → Sx → Option Sx} {v : V} {Q : L2.St → Hp → Prop} (h : tT T ws (bTup n gs) v σ H Q) : gTup K n (tTs T ws gs) v σ H Q := by
  obtain ⟨d, s, α, N, s', hs, r, e, k⟩ := h
  cases d with
  | tup l =>
    unfold Rel at r
    obtain ⟨a, vs, h1, h2, h3⟩ := r
    unfold bTup at e
    by_cases hl : l.length = n
    · simp only [hl, if_true] at e
      exact ⟨a, vs, h1, rd_sqT h2, by rw [← Rels.length h3]; exact hl, l, s, α, N, s', hs, h3, e, k⟩
    · simp [hl] at e
  | _ => cases e
theorem bLst_imp {K : PySem.W.Frag} {ws : List Nat} {n : Nat} {gs : List D → Sx → Option Sx} {v : V} {Q : L2.St → Hp → Prop} (h : tT T ws (bLst n gs) v σ H Q) : gLst K n (tTs T ws gs) v σ H Q := by
  obtain ⟨d, s, α, N, s', hs, r, e, k⟩ := h
  cases d with
  | lst l =>
    unfold Rel at r
    obtain ⟨a, vs, h1, h0, h2, h3⟩ := r
    unfold bLst at e
    by_cases hl : l.length = n
    · simp only [hl, if_true] at e
      exact ⟨a, vs, h1, rd_sqL h2, by rw [← Rels.length h3]; exact hl, l, s, α, N, s', hs, h3, e, k⟩
    · simp [hl] at e
  | _ => cases e
def fAsg (f : Sx → R D) (g : D → Sx → Option Sx) : Sx → RS := fun s => (f s).toS s.ρ fun d M => match g d ⟨s.ρ, M⟩ with
  | some s' => .nx s'
  | none => .no
theorem asg_imp {ws : List Nat} {f : Sx → R D} {g : D → Sx → Option Sx} (h : tS T mg W (fAsg f g) Dn σ H) : tAsg (tD T mg W f) (tT T ws g) Dn σ H := by
  obtain ⟨s, α, N, hs, p⟩ := h
  refine ⟨s, α, N, hs, Post.mono (fun v H1 h1 => ?_) (PostS.bind (G := RelD) p)⟩
  obtain ⟨M1, α1, N1, d, s1, e1, g1, p1⟩ := h1
  cases q : g d ⟨s.ρ, M1⟩ with
  | none => rw [q] at p1; exact p1.elim
  | some s' =>
    rw [q] at p1
    exact ⟨d, _, α1, N1, s', s1, g1, q, fun σ' H' α' N' t e _ => p1 σ' H' α' N' t e⟩
/-- name = value -/
theorem set_imp {i : Nat} {f : Sx → R D} (h : tS T mg W (fAsg f (bName i)) Dn σ H) : tAsg (tD T mg W f) (gName i) Dn σ H := by
  obtain ⟨s, α, N, hs, p⟩ := asg_imp (ws := [i]) h
  exact ⟨s, α, N, hs, Post.mono (fun v H1 h1 => bName_imp (by simp) h1) p⟩
/-- a, b = x, y -/
def fPar (i j : Nat) (f : Sx → R (List D)) : Sx → RS := fun s => (f s).toS s.ρ fun l M => match l with
  | [d, e] => .nx ⟨(s.ρ.set i (some d)).set j (some e), M⟩
  | _ => .no
theorem par_imp {i j : Nat} {f : Sx → R (List D)} (h : tS T mg W (fPar i j f) Dn σ H) : tPar i j (tL T mg W f) Dn σ H := by
  obtain ⟨s, α, N, hs, p⟩ := h
  refine ⟨s, α, N, hs, Post.mono (fun v H1 h1 => ?_) (PostS.bind (G := RelL) p)⟩
  obtain ⟨M1, α1, N1, l, s1, e1, g1, p1⟩ := h1
  match l, p1, g1 with
  | [d, e], p1, g1 =>
    unfold RelL Rels at g1
    obtain ⟨v1, r1, rfl, q1, q2⟩ := g1
    unfold Rels at q2
    obtain ⟨v2, r2, rfl, q3, q4⟩ := q2
    unfold Rels at q4
    subst q4
    exact ⟨v1, v2, rfl, p1.nxNow ((StR.set s1 q1).set q3)⟩
  | [], p1, _ => exact p1.elim
  | [_], p1, _ => exact p1.elim
  | _ :: _ :: _ :: _, p1, _ => exact p1.elim
/-- name op= e -/
def fAug (g : Cells → D → D → Option D) (i : Nat) (f : Sx → R D) : Sx → RS := fun s => match s.ρ[i]? with
  | some (some d) => (f s).toS s.ρ fun e M => match g M d e with
    | some z => .nx ⟨s.ρ.set i (some z), M⟩
    | none => .no
  | _ => .no
theorem aug_imp {r : TIp} {g : Cells → D → D → Option D} {i : Nat} {f : Sx → R D} (ho : OpD T r g) (h : tS T mg W (fAug g i f) Dn σ H) : tAug i (tD T mg W f) r Dn σ H := by
  obtain ⟨s, α, N, hs, p⟩ := h
  unfold fAug at p
  cases q : s.ρ[i]? with
  | none => rw [q] at p; exact p.elim
  | some o =>
    cases o with
    | none => rw [q] at p; exact p.elim
    | some d =>
      rw [q] at p
      obtain ⟨v, h1, h2⟩ := hs.slt i d q
      refine ⟨v, h1, s, α, N, hs, Post.mono (fun y H1 hh => ?_) (PostS.bind (G := RelD) p)⟩
      obtain ⟨M1, α1, N1, e, s1, e1, g1, p1⟩ := hh
      cases qz : g M1 d e with
      | none => rw [qz] at p1; exact p1.elim
      | some z =>
        rw [qz] at p1
        exact ho s1.c (Rel.mono hs.c.sub e1 h2) g1 qz fun w H' c ex rz => p1 _ H' α1 N1 ((StC.keep s1 c ex).set rz) ex

/-! ### while -/
def fWhile (c : Sx → R Bool) (b : Sx → RS) : Nat → Sx → RS
  | 0, _ => .no
  | n + 1, s => (c s).toS s.ρ fun t M => if t = true then (match b ⟨s.ρ, M⟩ with
    | .nx s1 => fWhile c b n s1
    | .ct s1 => fWhile c b n s1
    | .bk s1 => .nx s1
    | r => r) else .nx ⟨s.ρ, M⟩
theorem while_imp {c : Sx → R Bool} {b : Sx → RS} (n : Nat) (h : tS T mg W (fWhile c b n) Dn σ H) : tWhile (tB' T mg W c) (tS T mg W b) Dn σ H := by
  refine ⟨fun m σ H => tS T mg W (fWhile c b m) Dn σ H, ⟨n, h⟩, ?_⟩
  intro m σ H h
  obtain ⟨s, α, N, hs, p⟩ := h
  cases m with
  | zero => exact p.elim
  | succ m =>
    refine ⟨s, α, N, hs, Post.mono (fun t H1 h1 => ?_) (PostS.bind (G := RelB) p)⟩
    obtain ⟨M1, α1, N1, b', s1, e1, g1, p1⟩ := h1
    cases g1
    cases t with
    | false => exact p1.nxNow s1
    | true =>
      rw [if_pos rfl] at p1 ⊢
      refine ⟨fun σ' H' => tS T mg W (fWhile c b m) Dn σ' H', fun σ' H' h' => ⟨m, Nat.lt_succ_self _, h'⟩, ⟨s.ρ, M1⟩, α1, N1, s1, ?_⟩
      cases q : b ⟨s.ρ, M1⟩ with
      | nx s2 => rw [q] at p1; exact fun σ' H' α' N' t e => ⟨s2, α', N', t, PostS.later e p1⟩
      | ct s2 => rw [q] at p1; exact fun σ' H' α' N' t e => ⟨s2, α', N', t, PostS.later e p1⟩
      | bk s2 => rw [q] at p1; exact p1
      | rt d s2 => rw [q] at p1; exact p1
      | ex d s2 => rw [q] at p1; exact p1
      | no => rw [q] at p1; exact p1

/-! ### for -/
/-- a walk of the items ds: from here on, whatever is done with the cells -/
def ItD (T : TPr) (J : It) (ds : List D) (α : List Addr) (N : Addr → Prop) (H : Hp) : Prop :=
  ∀ (i : Nat) (α2 : List Addr) (N2 : Addr → Prop) (H2 : Hp), Ext α N H α2 N2 H2 → (∀ a ∈ α2, N2 a) →
    (i = ds.length → J.stop i H2) ∧ ∀ d, ds[i]? = some d → J.go i H2 ∧ ∀ x H3, J.yld i H2 x H3 → (∀ b o, H2 b = some o → H3 b = some o) ∧ Rel H3 N2 α2 d x
def PostI (T : TPr) (mg : Str → Option Value) (N : Addr → Prop) (α : List Addr) (H : Hp) (σ : L2.St) (ρ : List (Option D)) (W : WX) (Q : It → Hp → Prop) : R (List D) → Prop
  | .ok ds M => ∀ J H' α' N', StR T N' H' σ ⟨ρ, M⟩ α' → Ext α N H α' N' H' → ItD T J ds α' N' H' → Q J H'
  | .ex e M => ∀ cls dd H' α' N', StR T N' H' σ ⟨ρ, M⟩ α' → Ext α N H α' N' H' → XR mg e cls dd H' N' α' → W cls dd σ H'
  | .no => False
def tI (T : TPr) (mg : Str → Option Value) (W : WX) (f : Sx → R (List D)) : TI := fun σ H Q => ∃ s α N, StR T N H σ s α ∧ PostI T mg N α H σ s.ρ W Q (f s)
def fForL (g : D → Sx → Option Sx) (b : Sx → RS) : List D → Sx → RS
  | [], s => .nx s
  | d :: r, s => match g d s with
    | none => .no
    | some s1 => match b s1 with
      | .nx s2 => fForL g b r s2
      | .ct s2 => fForL g b r s2
      | .bk s2 => .nx s2
      | x => x
def fFor (fi : Sx → R (List D)) (g : D → Sx → Option Sx) (b : Sx → RS) : Sx → RS := fun s => (fi s).toS s.ρ fun ds M => fForL g b ds ⟨s.ρ, M⟩
theorem StR.grow {s : Sx} {H' : Hp} (h : StR T N H σ s α) (k : ∀ b o, H b = some o → H' b = some o) : StR T N H' σ s α :=
  ⟨h.c.grow k, fun i d e => by obtain ⟨v, h1, h2⟩ := h.slt i d e; exact ⟨v, h1, Rel.mono h.c.sub (Ext.grow k) h2⟩, h.lnr⟩
theorem ItD.later {J : It} {ds : List D} {α1 : List Addr} {N1 : Addr → Prop} {H1 : Hp} (e : Ext α N H α1 N1 H1) (h : ItD T J ds α N H) : ItD T J ds α1 N1 H1 := fun i α2 N2 H2 e2 s2 => h i α2 N2 H2 (e.trans e2) s2
theorem for_imp {ws : List Nat} {fi : Sx → R (List D)} {g : D → Sx → Option Sx} {b : Sx → RS} (h : tS T mg W (fFor fi g b) Dn σ H) : tFor (tI T mg W fi) (tT T ws g) (tS T mg W b) Dn σ H := by
  obtain ⟨s, α, N, hs, p⟩ := h
  refine ⟨s, α, N, hs, ?_⟩
  unfold fFor at p
  cases q : fi s with
  | no => rw [q] at p; exact p
  | ex e M => rw [q] at p; exact fun cls dd H' α' N' s2 e2 x => p cls dd σ H' α' N' s2 e2 x
  | ok ds M =>
    rw [q] at p
    intro J H1 α1 N1 s1 e1 it
    have p1 : PostS T mg N1 α1 H1 W Dn (fForL g b ds ⟨s.ρ, M⟩) := PostS.later e1 p
    refine ⟨fun i m σ H => m = ds.length - i ∧ i ≤ ds.length ∧ ∃ s α N, StR T N H σ s α ∧ Ext α1 N1 H1 α N H ∧ PostS T mg N α H W Dn (fForL g b (ds.drop i) s), ⟨ds.length, by simp, Nat.zero_le _, _, α1, N1, s1, Ext.refl, p1⟩, ?_⟩
    rintro i m σ2 H2 ⟨rfl, hi, s2, α2, N2, t2, e2, p2⟩
    obtain ⟨hstop, hgo⟩ := it i α2 N2 H2 e2 t2.c.sub
    by_cases hlt : i < ds.length
    · have hd : ds[i]? = some ds[i] := by simp [hlt]
      obtain ⟨go, yl⟩ := hgo _ hd
      have hdr : ds.drop i = ds[i] :: ds.drop (i + 1) := List.drop_eq_getElem_cons hlt
      rw [hdr] at p2
      refine .inr ⟨go, fun σ' H' => ∃ s α N, StR T N H' σ' s α ∧ Ext α1 N1 H1 α N H' ∧ PostS T mg N α H' W Dn (fForL g b (ds.drop (i + 1)) s), fun σ' H' ⟨s3, α3, N3, t3, e3, p3⟩ => ⟨ds.length - (i + 1), by omega, rfl, hlt, s3, α3, N3, t3, e3, p3⟩, fun x H3 hy => ?_⟩
      obtain ⟨k3, r3⟩ := yl x H3 hy
      unfold fForL at p2
      cases qg : g ds[i] s2 with
      | none => rw [qg] at p2; exact p2.elim
      | some s3 =>
        rw [qg] at p2
        dsimp only at p2
        refine ⟨ds[i], s2, α2, N2, s3, t2.grow k3, r3, qg, fun σ4 H4 α4 N4 t4 e4 _ => ⟨s3, α4, N4, t4, ?_⟩⟩
        have e4' : Ext α2 N2 H2 α4 N4 H4 := (Ext.grow k3).trans e4
        have p4 := PostS.later e4' p2
        cases qb : b s3 with
        | nx s5 => rw [qb] at p4; exact fun σ' H' α' N' t e => ⟨s5, α', N', t, (e2.trans e4').trans e, PostS.later e p4⟩
        | ct s5 => rw [qb] at p4; exact fun σ' H' α' N' t e => ⟨s5, α', N', t, (e2.trans e4').trans e, PostS.later e p4⟩
        | bk s5 => rw [qb] at p4; exact p4
        | rt d s5 => rw [qb] at p4; exact p4
        | ex d s5 => rw [qb] at p4; exact p4
        | no => rw [qb] at p4; exact p4
    · have e : i = ds.length := by omega
      refine .inl ⟨hstop e, ?_⟩
      rw [e, List.drop_length] at p2
      exact p2.nxNow t2
end
end DL

namespace DL
open PySem PySem.Spec L2
open PyProof.Rows hiding St

section
variable {T : TPr} {mg : Str → Option Value} {W : WX} {σ : L2.St} {H : Hp} {N : Addr → Prop} {α : List Addr} {Dn : Ends}
theorem Ext.growN {N' : Addr → Prop} {H' : Hp} (k : ∀ b o, H b = some o → H' b = some o) (nn : ∀ a, N a → N' a) (nb : ∀ a, N' a → N a ∨ Fz H a) : Ext α N H α N' H' :=
  ⟨⟨[], by simp, by simp⟩, nn, nb, fun b o h _ _ => k b o h, fun b h z => h fun o e => z o (k b o e)⟩
theorem StR.growN {s : Sx} {N' : Addr → Prop} {H' : Hp} (h : StR T N H σ s α) (k : ∀ b o, H b = some o → H' b = some o) (nn : ∀ a, N a → N' a) (nb : ∀ a, N' a → N a ∨ Fz H a) (som : ∀ a, N' a → ¬ Fz H' a) : StR T N' H' σ s α :=
  have e : Ext α N H α N' H' := Ext.growN k nn nb
  ⟨⟨h.c.nd, fun a ha => nn a (h.c.sub a ha), som, h.c.len, fun n l q => by
    obtain ⟨a, vs, h1, h2, h3⟩ := h.c.cel n l q
    exact ⟨a, vs, h1, k _ _ h2, Rels.mono h.c.sub e h3⟩, T.mono _ _ h.c.tab fun b o h _ => k b o h⟩,
   fun i d q => by obtain ⟨v, h1, h2⟩ := h.slt i d q; exact ⟨v, h1, Rel.mono h.c.sub e h2⟩, h.lnr⟩
mutual
/-- a forbidden list that is no cell changes -/
theorem Rel.wr {p : Addr} {vs ws : List V} (hN : N p) (hp : H p = some (.lst vs)) : ∀ {d : D} {v : V}, Rel H N α d v → Rel (upd H p (.lst ws)) N α d v
  | .non, _, h => by unfold Rel at h ⊢; exact h
  | .bl _, _, h => by unfold Rel at h ⊢; exact h
  | .int _, _, h => by unfold Rel at h ⊢; exact h
  | .str _, _, h => by unfold Rel at h ⊢; exact h
  | .tup l, _, h => by
    unfold Rel at h ⊢
    obtain ⟨a, us, h1, h2, h3⟩ := h
    refine ⟨a, us, h1, ?_, Rels.wr hN hp h3⟩
    have ne : a ≠ p := fun e => by subst e; rw [hp] at h2; cases h2
    rw [upd_ne ne]; exact h2
  | .lst l, _, h => by
    unfold Rel at h ⊢
    obtain ⟨a, us, h1, h0, h2, h3⟩ := h
    refine ⟨a, us, h1, h0, ?_, Rels.wr hN hp h3⟩
    have ne : a ≠ p := fun e => h0 (by rw [e]; exact hN)
    rw [upd_ne ne]; exact h2
  | .loc n, _, h => by unfold Rel at h ⊢; exact h
  | .adr _, _, h => by unfold Rel at h ⊢; exact h
  | .ty _, _, h => by unfold Rel at h ⊢; exact h
  | .scr l, _, h => by
    unfold Rel at h ⊢
    obtain ⟨a, o, us, h1, h2, h3⟩ := h
    refine ⟨a, o, us, h1, ?_, Rels.wr hN hp h3⟩
    have ne : a ≠ p := fun e => by subst e; rw [hp] at h2; cases h2
    rw [upd_ne ne]; exact h2
theorem Rels.wr {p : Addr} {vs ws : List V} (hN : N p) (hp : H p = some (.lst vs)) : ∀ {l : List D} {us : List V}, Rels H N α l us → Rels (upd H p (.lst ws)) N α l us
  | [], _, h => by unfold Rels at h ⊢; exact h
  | d :: l, _, h => by
    unfold Rels at h ⊢
    obtain ⟨v, r, h1, h2, h3⟩ := h
    exact ⟨v, r, h1, Rel.wr hN hp h2, Rels.wr hN hp h3⟩
end
theorem tab_wr {p : Addr} {vs ws : List V} (hp : H p = some (.lst vs)) (h : T.p H) : T.p (upd H p (.lst ws)) := T.mono _ _ h fun b o e nl => by
  rw [upd_ne (fun z => by rw [z, hp] at e; cases e; exact nl _ rfl)]; exact e
/-- a forbidden list that is no cell changes -/
theorem StR.wr {s : Sx} {p : Addr} {vs ws : List V} (h : StR T N H σ s α) (hN : N p) (hn : p ∉ α) (hp : H p = some (.lst vs)) : StR T N (upd H p (.lst ws)) σ s α :=
  ⟨⟨h.c.nd, h.c.sub, fun a ha z => by
    by_cases e : a = p
    · obtain ⟨ps, w⟩ := z (.lst ws) (by rw [e]; exact upd_same); cases w
    · exact h.c.som a ha fun u hu => z u (by rw [upd_ne e]; exact hu), h.c.len, fun n l q => by
    obtain ⟨a, us, h1, h2, h3⟩ := h.c.cel n l q
    have ne : a ≠ p := fun e => hn (by rw [← e]; exact List.mem_of_getElem? h1)
    exact ⟨a, us, h1, by rw [upd_ne ne]; exact h2, Rels.wr hN hp h3⟩, tab_wr hp h.c.tab⟩,
   fun i d q => by obtain ⟨v, h1, h2⟩ := h.slt i d q; exact ⟨v, h1, Rel.wr hN hp h2⟩, h.lnr⟩
theorem Ext.wr {α1 : List Addr} {N1 : Addr → Prop} {H1 : Hp} {p : Addr} {o : HO} (e : Ext α N H α1 N1 H1) (hp : Fz H p) (hno : ∀ ps, o ≠ .tbl ps) : Ext α N H α1 N1 (upd H1 p o) :=
  ⟨e.pre, e.nn, e.nb, fun b u h1 h2 h3 => by
    rw [upd_ne (fun z => by obtain ⟨ps, q⟩ := hp u (by rw [← z]; exact h1); exact h3 ps q)]
    exact e.keep b u h1 h2 h3, fun b h z => by
    by_cases q : b = p
    · obtain ⟨ps, w⟩ := z o (by rw [q]; exact upd_same); exact hno ps w
    · exact e.there b h fun u hu => z u (by rw [upd_ne q]; exact hu)⟩
theorem Ext.back {α1 : List Addr} {N1 : Addr → Prop} {H1 : Hp} (e : Ext α N H α1 N1 H1) {p : Addr} (h : Fz H1 p) : Fz H p := Classical.byContradiction fun q => e.there p q h
theorem Ext.notin {α1 : List Addr} {N1 : Addr → Prop} {H1 : Hp} (e : Ext α N H α1 N1 H1) {p : Addr} {xs : List V} (hp : p ∉ α) (h : H p = some (.lst xs)) : p ∉ α1 := by
  obtain ⟨β, e1, f⟩ := e.pre
  rw [e1]
  intro hm
  rcases List.mem_append.mp hm with z | z
  · exact hp z
  · obtain ⟨ps, q⟩ := f p z _ h; cases q
/-- what was laid is there -/
theorem nf_upd {p : Addr} {o : HO} (ho : ∀ ps, o ≠ .tbl ps) {a : Addr} (h : a ≠ p → ¬ Fz H a) : ¬ Fz (upd H p o) a := fun z => by
  by_cases q : a = p
  · obtain ⟨ps, w⟩ := z o (by rw [q]; exact upd_same); exact ho ps w
  · exact h q fun u hu => z u (by rw [upd_ne q]; exact hu)

/-! ### a new list -/
def PostL (T : TPr) (mg : Str → Option Value) (N : Addr → Prop) (α : List Addr) (H : Hp) (σ : L2.St) (ρ : List (Option D)) (W : WX) (Q : VK) : R (List D) → Prop
  | .ok l M => ∀ p vs H' α' N', StR T N' H' σ ⟨ρ, M⟩ α' → Ext α N H α' N' H' → N' p → p ∉ α' → Fz H p → H' p = some (.lst vs) → Rels H' N' α' l vs → Q (.ref p) H'
  | .ex e M => ∀ cls dd H' α' N', StR T N' H' σ ⟨ρ, M⟩ α' → Ext α N H α' N' H' → XR mg e cls dd H' N' α' → W cls dd σ H'
  | .no => False
def tFL (T : TPr) (mg : Str → Option Value) (W : WX) (f : Sx → R (List D)) : TE := fun σ H Q => ∃ s α N, StR T N H σ s α ∧ PostL T mg N α H σ s.ρ W Q (f s)
theorem PostL.later {ρ : List (Option D)} {Q : VK} {r : R (List D)} {N1 : Addr → Prop} {α1 : List Addr} {H1 : Hp} (e1 : Ext α N H α1 N1 H1) (h : PostL T mg N α H σ ρ W Q r) : PostL T mg N1 α1 H1 σ ρ W Q r := by
  cases r with
  | no => exact h
  | ex e M => exact fun cls dd H' α' N' s2 e2 x => h cls dd H' α' N' s2 (e1.trans e2) x
  | ok l M => exact fun p vs H' α' N' s2 e2 n1 n2 n3 n4 n5 => h p vs H' α' N' s2 (e1.trans e2) n1 n2 (e1.back n3) n4 n5
theorem StR.lessN {s : Sx} {N' : Addr → Prop} (h : StR T N H σ s α) (hn : ∀ a, N' a → N a) (hs : ∀ a ∈ α, N' a) : StR T N' H σ s α :=
  ⟨⟨h.c.nd, hs, fun a ha => h.c.som a (hn a ha), h.c.len, fun n l q => by
    obtain ⟨a, us, h1, h2, h3⟩ := h.c.cel n l q
    exact ⟨a, us, h1, h2, Rels.less hn h3⟩, h.c.tab⟩, fun i d q => by obtain ⟨v, h1, h2⟩ := h.slt i d q; exact ⟨v, h1, Rel.less hn h2⟩, h.lnr⟩
/-- the new list, which no one changes -/
def fFz (f : Sx → R (List D)) : Sx → R D := fun s => (f s).bind fun l M => .ok (.lst l) M
theorem fz_imp {f : Sx → R (List D)} {Q : VK} (h : tD T mg W (fFz f) σ H Q) : tFL T mg W f σ H Q := by
  obtain ⟨s, α, N, hs, p⟩ := h
  refine ⟨s, α, N, hs, ?_⟩
  unfold fFz at p
  cases q : f s with
  | no => rw [q] at p; exact p
  | ex e M => rw [q] at p; exact p
  | ok l M =>
    rw [q] at p
    intro a vs H' α' N' s1 e1 n1 n2 n3 n4 n5
    have hn : ∀ b, (N' b ∧ b ≠ a) → N' b := fun b h => h.1
    have s2 : StR T (fun b => N' b ∧ b ≠ a) H' σ ⟨s.ρ, M⟩ α' := s1.lessN hn fun b hb => ⟨s1.c.sub b hb, fun z => n2 (by rw [← z]; exact hb)⟩
    refine p (.ref a) H' α' (fun b => N' b ∧ b ≠ a) s2 ⟨e1.pre, fun b h => ⟨e1.nn b h, fun z => ?_⟩, fun b h => e1.nb b h.1, e1.keep, e1.there⟩ ?_
    · rw [z] at h; exact hs.c.som a h n3
    · unfold RelD Rel
      exact ⟨a, vs, rfl, fun z => z.2 rfl, n4, Rels.less hn n5⟩
/-- a written list, new -/
def fNew (f : Sx → R (List D)) : Sx → R (List D) := fun s => (f s).bind fun l M => if l.length ≤ 100000 then .ok l M else .no
theorem PostL.bind {γ δ : Type} {G : RG γ δ} {ρ : List (Option D)} {Q : VK} {r : R γ} {k : γ → Cells → R (List D)} (h : PostL T mg N α H σ ρ W Q (r.bind k)) :
    Post T mg G N α H σ ρ W (fun v H1 => ∃ M α1 N1 c, StR T N1 H1 σ ⟨ρ, M⟩ α1 ∧ Ext α N H α1 N1 H1 ∧ G H1 N1 α1 c v ∧ PostL T mg N1 α1 H1 σ ρ W Q (k c M)) r := by
  cases r with
  | no => exact h
  | ex e M => exact h
  | ok c M => exact fun v H1 α1 N1 s1 e1 g1 => ⟨M, α1, N1, c, s1, e1, g1, PostL.later e1 h⟩
/-- a list is laid -/
theorem PostL.lay {ρ : List (Option D)} {Q : VK} {l : List D} {M : Cells} {p : Addr} {vs : List V} (h : PostL T mg N α H σ ρ W Q (.ok l M)) (s : StR T N H σ ⟨ρ, M⟩ α) (r : Rels H N α l vs) (hp : H p = none) : Q (.ref p) (upd H p (.lst vs)) := by
  have k := new_keep (o := .lst vs) hp
  have nn : ∀ a, N a → (N a ∨ a = p) := fun a h => .inl h
  have nb : ∀ a, (N a ∨ a = p) → N a ∨ Fz H a := fun a h => h.elim .inl fun z => .inr (by rw [z]; exact fz_of hp)
  have e : Ext α N H α (fun a => N a ∨ a = p) (upd H p (.lst vs)) := Ext.growN k nn nb
  refine h p vs _ α _ (s.growN k nn nb fun a ha => ?_) e (.inr rfl) (fun hm => s.c.som p (s.c.sub p hm) (fz_of hp)) (fz_of hp) upd_same (Rels.mono s.c.sub e r)
  exact nf_upd (fun _ z => by cases z) fun z => s.c.som a (ha.resolve_right z)
theorem new_imp {f : Sx → R (List D)} {Q : VK} (h : tFL T mg W (fNew f) σ H Q) : tLst (tL T mg W f) σ H Q := by
  obtain ⟨s, α, N, hs, p⟩ := h
  refine ⟨s, α, N, hs, Post.mono (fun x H1 h1 => ?_) (PostL.bind (G := RelL) p)⟩
  obtain ⟨M1, α1, N1, l, s1, e1, g1, p1⟩ := h1
  by_cases hl : l.length ≤ 100000
  · rw [if_pos hl] at p1
    have hl' := Rels.length g1
    exact ⟨sz_of (by omega), fun a ha => p1.lay s1 g1 ha⟩
  · rw [if_neg hl] at p1; exact p1.elim
/-- name = a new list of our own -/
def fOwn (i : Nat) (f : Sx → R (List D)) : Sx → RS := fun s => (f s).toS s.ρ fun l M => .nx ⟨s.ρ.set i (some (.loc M.length)), M ++ [l]⟩
mutual
theorem Rel.more {β : List Addr} : ∀ {d : D} {v : V}, Rel H N α d v → Rel H N (α ++ β) d v
  | .non, _, h => by unfold Rel at h ⊢; exact h
  | .bl _, _, h => by unfold Rel at h ⊢; exact h
  | .int _, _, h => by unfold Rel at h ⊢; exact h
  | .str _, _, h => by unfold Rel at h ⊢; exact h
  | .tup l, _, h => by
    unfold Rel at h ⊢
    obtain ⟨a, us, h1, h2, h3⟩ := h
    exact ⟨a, us, h1, h2, Rels.more h3⟩
  | .lst l, _, h => by
    unfold Rel at h ⊢
    obtain ⟨a, us, h1, h0, h2, h3⟩ := h
    exact ⟨a, us, h1, h0, h2, Rels.more h3⟩
  | .loc n, _, h => by
    unfold Rel at h ⊢
    obtain ⟨a, h1, h2⟩ := h
    exact ⟨a, h1, pre_get h2 ⟨β, rfl, trivial⟩⟩
  | .adr _, _, h => by unfold Rel at h ⊢; exact h
  | .ty _, _, h => by unfold Rel at h ⊢; exact h
  | .scr l, _, h => by
    unfold Rel at h ⊢
    obtain ⟨a, o, us, h1, h2, h3⟩ := h
    exact ⟨a, o, us, h1, h2, Rels.more h3⟩
theorem Rels.more {β : List Addr} : ∀ {l : List D} {us : List V}, Rels H N α l us → Rels H N (α ++ β) l us
  | [], _, h => by unfold Rels at h ⊢; exact h
  | d :: l, _, h => by
    unfold Rels at h ⊢
    obtain ⟨v, r, h1, h2, h3⟩ := h
    exact ⟨v, r, h1, Rel.more h2, Rels.more h3⟩
end
/-- a new list becomes a cell -/
theorem StR.cell {ρ : List (Option D)} {M : Cells} {p : Addr} {vs : List V} {l : List D} (s : StR T N H σ ⟨ρ, M⟩ α) (hN : N p) (hn : p ∉ α) (hp : H p = some (.lst vs)) (r : Rels H N α l vs) : StR T N H σ ⟨ρ, M ++ [l]⟩ (α ++ [p]) := by
  have hl := s.c.len
  refine ⟨⟨?_, fun a ha => ?_, s.c.som, by simp [hl], fun n l' q => ?_, s.c.tab⟩, fun i d q => by obtain ⟨v, h1, h2⟩ := s.slt i d q; exact ⟨v, h1, Rel.more h2⟩, s.lnr⟩
  · rw [List.nodup_append]
    refine ⟨s.c.nd, by simp, fun a ha b hb e => ?_⟩
    simp at hb
    exact hn (by rw [← hb, ← e]; exact ha)
  · rcases List.mem_append.mp ha with z | z
    · exact s.c.sub a z
    · simp at z; rw [z]; exact hN
  · have q' : (M ++ [l])[n]? = some l' := q
    by_cases hlt : n < M.length
    · rw [List.getElem?_append_left hlt] at q'
      obtain ⟨a, us, h1, h2, h3⟩ := s.c.cel n l' q'
      exact ⟨a, us, pre_get h1 ⟨[p], rfl, trivial⟩, h2, Rels.more h3⟩
    · have e : n = M.length := by
        have := (List.getElem?_eq_some_iff.mp q').1
        simp at this; omega
      subst e
      rw [List.getElem?_append_right (Nat.le_refl _)] at q'
      simp at q'
      subst q'
      have hl' : α.length = M.length := hl
      exact ⟨p, vs, by rw [List.getElem?_append_right (by omega)]; simp [hl'], hp, Rels.more r⟩
theorem own_imp {i : Nat} {f : Sx → R (List D)} (h : tS T mg W (fOwn i f) Dn σ H) : tAsg (tFL T mg W f) (gName i) Dn σ H := by
  obtain ⟨s, α, N, hs, p⟩ := h
  refine ⟨s, α, N, hs, ?_⟩
  unfold fOwn at p
  cases q : f s with
  | no => rw [q] at p; exact p
  | ex e M => rw [q] at p; exact fun cls dd H' α' N' s2 e2 x => p cls dd σ H' α' N' s2 e2 x
  | ok l M =>
    rw [q] at p
    intro a vs H' α' N' s1 e1 n1 n2 n3 n4 n5
    have s2 := s1.cell n1 n2 n4 n5
    have hl : α'.length = M.length := s1.c.len
    obtain ⟨β, eβ, fβ⟩ := e1.pre
    refine p _ H' (α' ++ [a]) N' (s2.set (v := .ref a) ?_) ⟨⟨β ++ [a], by rw [eβ, List.append_assoc], fun b hb => ?_⟩, e1.nn, e1.nb, e1.keep, e1.there⟩
    · unfold Rel
      exact ⟨a, rfl, by rw [List.getElem?_append_right (by omega)]; simp [hl]⟩
    · rcases List.mem_append.mp hb with z | z
      · exact fβ b z
      · simp at z; rw [z]; exact n3

/-! ### list comprehensions -/
def wipeD (ρ : List (Option D)) : List Nat → List (Option D)
  | [] => ρ
  | v :: vs => (wipeD ρ vs).set v none
theorem wipeD_length (ρ : List (Option D)) : ∀ vs : List Nat, (wipeD ρ vs).length = ρ.length
  | [] => rfl
  | v :: vs => by unfold wipeD; rw [List.length_set, wipeD_length ρ vs]
theorem wipeD_get {ρ : List (Option D)} {i : Nat} : ∀ {vs : List Nat}, (wipeD ρ vs)[i]? = if i ∈ vs ∧ i < ρ.length then some none else ρ[i]?
  | [] => by simp [wipeD]
  | v :: vs => by
    unfold wipeD
    have ih := wipeD_get (ρ := ρ) (i := i) (vs := vs)
    by_cases hv : v = i
    · subst hv
      by_cases hl : v < ρ.length
      · rw [List.getElem?_set_self (by rw [wipeD_length]; exact hl), if_pos ⟨by simp, hl⟩]
      · rw [List.getElem?_eq_none (by simp [wipeD_length]; omega), if_neg (fun h => hl h.2), List.getElem?_eq_none (by omega)]
    · rw [List.getElem?_set_ne hv, ih]
      have hm : (i ∈ v :: vs) ↔ i ∈ vs := by simp [Ne.symm hv]
      simp only [hm]
theorem StR.wipe {ρ : List (Option D)} {M : Cells} {vs : List Nat} (s : StR T N H σ ⟨ρ, M⟩ α) : StR T N H (L2.wipe σ vs) ⟨wipeD ρ vs, M⟩ α := by
  refine ⟨s.c, fun i d h => ?_, by have := s.lnr; simpa [wipeD_length, wipe_length] using this⟩
  have h' : (wipeD ρ vs)[i]? = some (some d) := h
  rw [wipeD_get] at h'
  have hl : ρ.length = σ.length := s.lnr
  by_cases c : i ∈ vs ∧ i < ρ.length
  · rw [if_pos c] at h'; cases h'
  · rw [if_neg c] at h'
    obtain ⟨v, h1, h2⟩ := s.slt i d h'
    exact ⟨v, by rw [wipe_get, if_neg (by rw [← hl]; exact c)]; exact h1, h2⟩
def fLcGo (g : D → Sx → Option Sx) (t : Sx → R Bool) (e : Sx → R D) (ρ : List (Option D)) : List D → Cells → R (List D)
  | [], M => .ok [] M
  | d :: r, M => match g d ⟨ρ, M⟩ with
    | none => .no
    | some s1 => match t s1 with
      | .ok b M1 => if b = true then (match e ⟨s1.ρ, M1⟩ with
        | .ok y M2 => (fLcGo g t e ρ r M2).bind fun l M3 => .ok (y :: l) M3
        | _ => .no) else fLcGo g t e ρ r M1
      | _ => .no
def fLc (fi : Sx → R (List D)) (g : D → Sx → Option Sx) (t : Sx → R Bool) (e : Sx → R D) (vs : List Nat) : Sx → R (List D) := fun s =>
  (fi s).bind fun ds M => if ds.length ≤ 100000 then fLcGo g t e (wipeD s.ρ vs) ds M else .no
def fTrue : Sx → R Bool := fun s => .ok true s.M
theorem true_imp {Q : Bool → Hp → Prop} (h : tB' T mg W fTrue σ H Q) : tYes σ H Q := by
  obtain ⟨s, α, N, hs, p⟩ := h
  exact Post.now p hs rfl
abbrev W0 : WX := fun _ _ _ _ => False
def R.pre (acc : List D) (r : R (List D)) : R (List D) := r.bind fun l M => .ok (acc ++ l) M
theorem pre_cons {acc : List D} {y : D} {r : R (List D)} : R.pre acc (r.bind fun l M3 => .ok (y :: l) M3) = R.pre (acc ++ [y]) r := by
  cases r <;> simp [R.pre, R.bind]
theorem lc_imp {fi : Sx → R (List D)} {g : D → Sx → Option Sx} {t : Sx → R Bool} {e : Sx → R D} {vs : List Nat} {Q : VK} (h : tFL T mg W (fLc fi g t e vs) σ H Q) :
    tLc (tI T mg W fi) (tT T vs g) (tB' T mg W0 t) (tD T mg W0 e) vs σ H Q := by
  obtain ⟨s, α, N, hs, p⟩ := h
  refine ⟨s, α, N, hs, ?_⟩
  unfold fLc at p
  cases q : fi s with
  | no => rw [q] at p; exact p
  | ex e M => rw [q] at p; exact p
  | ok ds M =>
    rw [q] at p
    intro J H1 α1 N1 s1 e1 it L hL
    have p : PostL T mg N α H σ s.ρ W Q (if ds.length ≤ 100000 then fLcGo g t e (wipeD s.ρ vs) ds M else .no) := p
    by_cases hz : ds.length ≤ 100000
    case neg => rw [if_neg hz] at p; exact p.elim
    rw [if_pos hz] at p
    have hL0 : Fz H L := e1.back (fz_of hL)
    have k := new_keep (o := .lst []) hL
    have nn : ∀ a, N1 a → (N1 a ∨ a = L) := fun a h => .inl h
    have nb : ∀ a, (N1 a ∨ a = L) → N1 a ∨ Fz H1 a := fun a h => h.elim .inl fun z => .inr (by rw [z]; exact fz_of hL)
    have eL : Ext α1 N1 H1 α1 (fun a => N1 a ∨ a = L) (upd H1 L (.lst [])) := Ext.growN k nn nb
    have sL : StR T (fun a => N1 a ∨ a = L) (upd H1 L (.lst [])) σ ⟨s.ρ, M⟩ α1 := s1.growN k nn nb fun a ha => nf_upd (fun _ z => by cases z) fun z => s1.c.som a (ha.resolve_right z)
    have nL : L ∉ α1 := fun hm => s1.c.som L (s1.c.sub L hm) (fz_of hL)
    have pL : PostL T mg N1 α1 H1 σ s.ρ W Q (R.pre [] (fLcGo g t e (wipeD s.ρ vs) ds M)) := by
      have : R.pre [] (fLcGo g t e (wipeD s.ρ vs) ds M) = fLcGo g t e (wipeD s.ρ vs) ds M := by cases fLcGo g t e (wipeD s.ρ vs) ds M <;> simp [R.pre, R.bind]
      rw [this]; exact PostL.later e1 p
    refine ⟨fun i m H => m = ds.length - i ∧ i ≤ ds.length ∧ ∃ M α N acc us, StR T N H σ ⟨s.ρ, M⟩ α ∧ Ext α1 N1 H1 α N H ∧ H L = some (.lst us) ∧ N L ∧ L ∉ α ∧ Rels H N α acc us ∧ acc.length ≤ i ∧ PostL T mg N1 α1 H1 σ s.ρ W Q (R.pre acc (fLcGo g t e (wipeD s.ρ vs) (ds.drop i) M)),
      ⟨ds.length, by simp, Nat.zero_le _, M, α1, _, [], [], sL, eL, upd_same, .inr rfl, nL, by unfold Rels; rfl, by simp, pL⟩, ?_⟩
    rintro i m H2 ⟨rfl, hi, M2, α2, N2, acc, us, t2, e2, hu, n1, n2, ra, la, p2⟩
    obtain ⟨hstop, hgo⟩ := it i α2 N2 H2 e2 t2.c.sub
    by_cases hlt : i < ds.length
    · have hd : ds[i]? = some ds[i] := by simp [hlt]
      obtain ⟨go, yl⟩ := hgo _ hd
      have hdr : ds.drop i = ds[i] :: ds.drop (i + 1) := List.drop_eq_getElem_cons hlt
      rw [hdr] at p2
      refine .inr ⟨go, fun H' => ∃ M α N acc us, StR T N H' σ ⟨s.ρ, M⟩ α ∧ Ext α1 N1 H1 α N H' ∧ H' L = some (.lst us) ∧ N L ∧ L ∉ α ∧ Rels H' N α acc us ∧ acc.length ≤ i + 1 ∧ PostL T mg N1 α1 H1 σ s.ρ W Q (R.pre acc (fLcGo g t e (wipeD s.ρ vs) (ds.drop (i + 1)) M)),
        fun H' h' => ⟨ds.length - (i + 1), by omega, rfl, hlt, h'⟩, fun x H3 hy => ?_⟩
      obtain ⟨k3, r3⟩ := yl x H3 hy
      have t3 := t2.grow k3
      unfold fLcGo at p2
      cases qg : g ds[i] ⟨wipeD s.ρ vs, M2⟩ with
      | none => rw [qg] at p2; exact p2.elim
      | some sg =>
        rw [qg] at p2
        dsimp only at p2
        refine ⟨ds[i], ⟨wipeD s.ρ vs, M2⟩, α2, N2, sg, StR.wipe t3, r3, qg, fun σ4 H4 α4 N4 t4 e4 off => ⟨Off.wipe off, sg, α4, N4, t4, ?_⟩⟩
        have e24 : Ext α2 N2 H2 α4 N4 H4 := (Ext.grow k3).trans e4
        cases qt : t sg with
        | no => rw [qt] at p2; exact p2.elim
        | ex _ _ => rw [qt] at p2; exact p2.elim
        | ok b M5 =>
          rw [qt] at p2
          dsimp only at p2
          intro b' H5 α5 N5 t5 e5 hb
          cases hb
          have e25 := e24.trans e5
          cases b with
          | false =>
            rw [if_neg (by decide)] at p2 ⊢
            refine ⟨M5, α5, N5, acc, us, StC.keep t2 t5.c e25, e2.trans e25, e25.keep L _ hu (fun _ => n2) (fun _ z => by cases z), e25.nn L n1, e25.notin n2 hu, Rels.mono t2.c.sub e25 ra, by omega, p2⟩
          | true =>
            rw [if_pos rfl] at p2 ⊢
            refine ⟨⟨sg.ρ, M5⟩, α5, N5, t5, ?_⟩
            cases qe : e ⟨sg.ρ, M5⟩ with
            | no => rw [qe] at p2; exact p2.elim
            | ex _ _ => rw [qe] at p2; exact p2.elim
            | ok y M6 =>
              rw [qe] at p2
              dsimp only at p2
              rw [pre_cons] at p2
              intro y' H6 α6 N6 t6 e6 ry
              have e26 := e25.trans e6
              have hu6 := e26.keep L _ hu (fun _ => n2) (fun _ z => by cases z)
              have n16 := e26.nn L n1
              have n26 := e26.notin n2 hu
              have ra6 := Rels.mono t2.c.sub e26 ra
              have hl := Rels.length ra
              have s6 : StR T N6 H6 σ ⟨s.ρ, M6⟩ α6 := StC.keep t2 t6.c e26
              refine ⟨us, hu6, Nat.lt_of_lt_of_le (by omega : us.length < 100001) (by decide), M6, α6, N6, acc ++ [y], us ++ [y'], s6.wr n16 n26 hu6, (e2.trans e26).wr (fz_of hL) (fun _ z => by cases z), upd_same, n16, n26, Rels.wr n16 hu6 (Rels.append (Rels.one ry) ra6), by simp; omega, p2⟩
    · have ei : i = ds.length := by omega
      refine .inl ⟨hstop ei, ?_⟩
      rw [ei, List.drop_length] at p2
      have p3 : PostL T mg N1 α1 H1 σ s.ρ W Q (.ok (acc ++ []) M2) := p2
      rw [List.append_nil] at p3
      exact p3 L us H2 α2 N2 t2 e2 n1 n2 (fz_of hL) hu ra
end
end DL

namespace DL
open PySem PySem.Spec L2
open PyProof.Rows hiding St

section
variable {T : TPr} {mg : Str → Option Value} {W : WX} {σ : L2.St} {H : Hp} {N : Addr → Prop} {α : List Addr} {Dn : Ends}
/-! ### ints -/
def gI (f : Int → Int → D) : Cells → D → D → Option D := fun _ d e => match d, e with
  | .int i, .int j => some (f i j)
  | _, _ => none
def gIc (C : Int → Int → Bool) (f : Int → Int → D) : Cells → D → D → Option D := fun _ d e => match d, e with
  | .int i, .int j => if C i j = true then some (f i j) else none
  | _, _ => none
theorem rel_int {H : Hp} {N : Addr → Prop} {α : List Addr} {i : Int} : Rel H N α (.int i) (.int i) := by unfold Rel; rfl
theorem rel_bl {H : Hp} {N : Addr → Prop} {α : List Addr} {i : Bool} : Rel H N α (.bl i) (.bl i) := by unfold Rel; rfl
theorem rel_non {H : Hp} {N : Addr → Prop} {α : List Addr} : Rel H N α .non .non := by unfold Rel; rfl
theorem rel_str {H : Hp} {N : Addr → Prop} {α : List Addr} {i : Str} : Rel H N α (.str i) (.str i) := by unfold Rel; rfl
theorem od_I0 {f : Int → Int → V} {f' : Int → Int → D} (hf : ∀ i j H N α, Rel H N α (f' i j) (f i j)) : OpD T (rI0 f) (gI f') := by
  intro N H M α d e x y z Q c r1 r2 h k
  cases d <;> cases e <;> try (cases h; done)
  unfold Rel at r1 r2
  cases h
  exact ⟨_, _, r1, r2, k _ H c Ext.refl (hf _ _ _ _ _)⟩
theorem od_Ic {C : Int → Int → Prop} {C' : Int → Int → Bool} {f : Int → Int → V} {f' : Int → Int → D} (hC : ∀ i j, C' i j = true → C i j) (hf : ∀ i j H N α, Rel H N α (f' i j) (f i j)) : OpD T (rI C f) (gIc C' f') := by
  intro N H M α d e x y z Q c r1 r2 h k
  cases d <;> cases e <;> try (cases h; done)
  rename_i i j
  unfold Rel at r1 r2
  unfold gIc at h
  by_cases hc : C' i j = true
  · simp only [hc, if_true] at h
    cases h
    exact ⟨_, _, r1, r2, hC _ _ hc, k _ H c Ext.refl (hf _ _ _ _ _)⟩
  · simp [hc] at h
def mulOk (i j : Int) : Bool := (decide (-(2 ^ 64) < i) && decide (i < 2 ^ 64)) || (decide (-(2 ^ 64) < j) && decide (j < 2 ^ 64))
abbrev nAdd := gI fun i j => .int (i + j)
abbrev nSub := gI fun i j => .int (i - j)
abbrev nMul := gIc mulOk fun i j => .int (i * j)
abbrev nDiv := gIc (fun _ j => decide (0 < j) && decide (j < 1073741824)) fun i j => .int (i / j)
abbrev nMod := gIc (fun _ j => decide (0 < j)) fun i j => .int (i % j)
abbrev nLt := gI fun i j => .bl (decide (i < j))
abbrev nLe := gI fun i j => .bl (decide (i ≤ j))
abbrev nGt := gI fun i j => .bl (decide (j < i))
abbrev nGe := gI fun i j => .bl (decide (j ≤ i))
theorem mulOk_c (i j : Int) (h : mulOk i j = true) : CMul i j := by
  unfold mulOk at h
  simp only [Bool.or_eq_true, Bool.and_eq_true, decide_eq_true_eq] at h
  exact h
theorem od_add : OpD T (rI0 fun i j => .int (i + j)) nAdd := od_I0 fun _ _ _ _ _ => rel_int
theorem od_sub : OpD T (rI0 fun i j => .int (i - j)) nSub := od_I0 fun _ _ _ _ _ => rel_int
theorem od_mul : OpD T (rI CMul fun i j => .int (i * j)) nMul := od_Ic mulOk_c fun _ _ _ _ _ => rel_int
theorem od_div : OpD T (rI CDiv fun i j => .int (i / j)) nDiv := od_Ic (fun i j h => by simpa [CDiv] using h) fun _ _ _ _ _ => rel_int
theorem od_mod : OpD T (rI (fun _ j => 0 < j) fun i j => .int (i % j)) nMod := od_Ic (fun i j h => by simpa using h) fun _ _ _ _ _ => rel_int
theorem od_lt : OpD T (rI0 fun i j => .bl (decide (i < j))) nLt := od_I0 fun _ _ _ _ _ => rel_bl
theorem od_le : OpD T (rI0 fun i j => .bl (decide (i ≤ j))) nLe := od_I0 fun _ _ _ _ _ => rel_bl
theorem od_gt : OpD T (rI0 fun i j => .bl (decide (j < i))) nGt := od_I0 fun _ _ _ _ _ => rel_bl
theorem od_ge : OpD T (rI0 fun i j => .bl (decide (j ≤ i))) nGe := od_I0 fun _ _ _ _ _ => rel_bl
abbrev nNeg : Cells → D → Option D := fun _ d => match d with
  | .int i => some (.int (-i))
  | _ => none
theorem ud_neg : UnD T (rU fun i => .int (-i)) nNeg := by
  intro N H M α d x z Q c r1 h k
  cases d <;> try (cases h; done)
  unfold Rel at r1
  cases h
  exact ⟨_, r1, k _ H c Ext.refl rel_int⟩
/-- bools less bools -/
def rSubB : R2 := fun x y H Q => ∃ i j, x = .bl i ∧ y = .bl j ∧ Q (.int (b2i i - b2i j)) H
theorem op_subB {X : Cx} : OpR X (binaryOp .Sub) rSubB := by
  intro pins s σ H x y v u Q I rx ry h
  obtain ⟨i, k, rfl, rfl, q⟩ := h
  cases rx
  cases ry
  exact sub_bool ⟨.int _, H, I.tok _, ⟨_, rfl⟩, q⟩
abbrev nSubB : Cells → D → D → Option D := fun _ d e => match d, e with
  | .bl i, .bl j => some (.int (b2i i - b2i j))
  | _, _ => none
theorem od_subB : OpD T rSubB nSubB := by
  intro N H M α d e x y z Q c r1 r2 h k
  cases d <;> cases e <;> try (cases h; done)
  unfold Rel at r1 r2
  cases h
  exact ⟨_, _, r1, r2, k _ H c Ext.refl rel_int⟩

/-! ### sequences -/
def seqOf (M : Cells) : D → Option (Bool × List D)
  | .tup l => some (true, l)
  | .lst l => some (false, l)
  | .loc n => M[n]?.map fun l => (false, l)
  | .scr l => some (false, l)
  | _ => none
theorem seq_rel {M : Cells} {d : D} {x : V} {b : Bool} {l : List D} (c : StC T N H M α) (r : Rel H N α d x) (h : seqOf M d = some (b, l)) :
    ∃ a vs, x = .ref a ∧ (b = true → H a = some (.tup vs)) ∧ (b = false → Rd H a (.lst vs)) ∧ Rels H N α l vs := by
  cases d <;> try (cases h; done)
  · rename_i l'
    unfold Rel at r
    obtain ⟨a, vs, h1, h2, h3⟩ := r
    unfold seqOf at h
    cases h
    exact ⟨a, vs, h1, fun _ => h2, fun z => (by cases z), h3⟩
  · rename_i l'
    unfold Rel at r
    obtain ⟨a, vs, h1, h0, h2, h3⟩ := r
    unfold seqOf at h
    cases h
    exact ⟨a, vs, h1, fun z => (by cases z), fun _ => .inl h2, h3⟩
  · rename_i n
    unfold Rel at r
    obtain ⟨a, h1, h2⟩ := r
    unfold seqOf at h
    cases q : M[n]? with
    | none => simp [q] at h
    | some l' =>
      simp only [q, Option.map_some] at h
      cases h
      obtain ⟨a', vs, e1, e2, e3⟩ := c.cel n l q
      rw [h2] at e1
      cases e1
      exact ⟨a, vs, h1, fun z => (by cases z), fun _ => .inl e2, e3⟩
  · rename_i l'
    unfold Rel at r
    obtain ⟨a, o, vs, h1, h2, h3⟩ := r
    unfold seqOf at h
    cases h
    exact ⟨a, vs, h1, fun z => (by cases z), fun _ => .inr ⟨o, h2⟩, h3⟩
theorem seq_sq {K : PySem.W.Frag} {a : Addr} {vs : List V} {b : Bool} (h1 : b = true → H a = some (.tup vs)) (h2 : b = false → Rd H a (.lst vs)) : SqL K H a vs ∨ SqT K H a vs := by
  cases b with
  | true => exact .inr (rd_sqT (h1 rfl))
  | false => exact .inl (.inl (h2 rfl))
theorem atI_rel {l : List D} {vs : List V} {i : Int} {d : D} (r : Rels H N α l vs) (h : atI l i = some d) : ∃ v, atI vs i = some v ∧ Rel H N α d v := by
  unfold atI at h ⊢
  rw [← Rels.length r]
  cases q : ixN l.length i with
  | none => rw [q] at h; cases h
  | some j =>
    rw [q] at h
    obtain ⟨v, h1, h2⟩ := Rels.get r (show l[j]? = some d from h)
    exact ⟨v, h1, h2⟩
/-- xs[i], t[i] -/
def gIx : Cells → D → D → Option D := fun M d e => match seqOf M d, e with
  | some (_, l), .int i => atI l i
  | _, _ => none
theorem od_ix {K : PySem.W.Frag} : OpD T (rIx K) gIx := by
  intro N H M α d e x y z Q c r1 r2 h k
  unfold gIx at h
  cases q : seqOf M d with
  | none => rw [q] at h; cases h
  | some p =>
    obtain ⟨b, l⟩ := p
    rw [q] at h
    cases e <;> try (cases h; done)
    obtain ⟨a, vs, h1, h2, h3, h4⟩ := seq_rel c r1 q
    obtain ⟨v, g1, g2⟩ := atI_rel h4 h
    unfold Rel at r2
    have kk := k v H c Ext.refl g2
    cases b with
    | true => exact .inr (.inl ⟨a, vs, _, v, h1, r2, rd_sqT (h2 rfl), g1, kk⟩)
    | false => exact .inl ⟨a, vs, _, v, h1, r2, .inl (h3 rfl), g1, kk⟩
/-- len(x) -/
def gLen : Cells → List D → Option D := fun M l => match l with
  | [d] => (seqOf M d).map fun p => .int p.2.length
  | _ => none
abbrev rLen (K : PySem.W.Frag) : List V → Hp → VK → Prop := fun xs H Q => ∃ p ys, xs = [.ref p] ∧ (SqL K H p ys ∨ SqT K H p ys) ∧ Q (.int ys.length) H
theorem rels1 {d : D} {xs : List V} (h : Rels H N α [d] xs) : ∃ x, xs = [x] ∧ Rel H N α d x := by
  unfold Rels at h
  obtain ⟨v, r, h1, h2, h3⟩ := h
  unfold Rels at h3
  subst h3
  exact ⟨v, h1, h2⟩
theorem rels2 {d e : D} {xs : List V} (h : Rels H N α [d, e] xs) : ∃ x y, xs = [x, y] ∧ Rel H N α d x ∧ Rel H N α e y := by
  unfold Rels at h
  obtain ⟨v, r, h1, h2, h3⟩ := h
  obtain ⟨y, h4, h5⟩ := rels1 h3
  subst h4
  exact ⟨v, y, h1, h2, h5⟩
theorem cd_len {K : PySem.W.Frag} : CbD T (rLen K) gLen := by
  intro N H M α l xs z Q c r h k
  match l, h, r with
  | [d], h, r =>
    obtain ⟨x, rfl, r1⟩ := rels1 r
    unfold gLen at h
    cases q : seqOf M d with
    | none => simp [q] at h
    | some p =>
      obtain ⟨b, l⟩ := p
      simp only [q, Option.map_some] at h
      cases h
      obtain ⟨a, vs, h1, h2, h3, h4⟩ := seq_rel c r1 q
      refine ⟨a, vs, by rw [h1], seq_sq h2 h3, k _ H c Ext.refl ?_⟩
      unfold Rel
      rw [Rels.length h4]
  | [], h, _ => cases h
  | _ :: _ :: _, h, _ => cases h
/-- tuple(x): of a list a new one, of a tuple itself -/
def gTupOf : Cells → List D → Option D := fun M l => match l with
  | [d] => (seqOf M d).map fun p => .tup p.2
  | _ => none
abbrev rTupOf (K : PySem.W.Frag) : List V → Hp → VK → Prop := fun xs H Q => ∃ p ys, xs = [.ref p] ∧ ((SqL K H p ys ∧ ∀ l, H l = none → Q (.ref l) (upd H l (.tup ys))) ∨ (SqT K H p ys ∧ Q (.ref p) H))
theorem cd_tupOf {K : PySem.W.Frag} : CbD T (rTupOf K) gTupOf := by
  intro N H M α l xs z Q c r h k
  match l, h, r with
  | [d], h, r =>
    obtain ⟨x, rfl, r1⟩ := rels1 r
    unfold gTupOf at h
    cases q : seqOf M d with
    | none => simp [q] at h
    | some p =>
      obtain ⟨b, l⟩ := p
      simp only [q, Option.map_some] at h
      cases h
      obtain ⟨a, vs, h1, h2, h3, h4⟩ := seq_rel c r1 q
      refine ⟨a, vs, by rw [h1], ?_⟩
      cases b with
      | true => exact .inr ⟨rd_sqT (h2 rfl), k _ H c Ext.refl (by unfold Rel; exact ⟨a, vs, rfl, h2 rfl, h4⟩)⟩
      | false => exact .inl ⟨.inl (h3 rfl), fun p hp => k _ _ (c.grow (new_keep hp)) (Ext.grow (new_keep hp)) (tup_new h4 c.sub hp)⟩
  | [], h, _ => cases h
  | _ :: _ :: _, h, _ => cases h
/-- abs, int(x), max, min of two -/
def gAbs : Cells → List D → Option D := fun _ l => match l with
  | [.int i] => some (.int (if i < 0 then -i else i))
  | _ => none
theorem cd_abs : CbD T (fun xs H Q => ∃ i, xs = [.int i] ∧ Q (.int (if i < 0 then -i else i)) H) gAbs := by
  intro N H M α l xs z Q c r h k
  match l, h, r with
  | [.int i], h, r =>
    obtain ⟨x, rfl, r1⟩ := rels1 r
    unfold Rel at r1
    cases h
    exact ⟨i, by rw [r1], k _ H c Ext.refl rel_int⟩
def gInt : Cells → List D → Option D := fun _ l => match l with
  | [.int i] => some (.int i)
  | [.bl b] => some (.int (if b then 1 else 0))
  | _ => none
theorem cd_int : CbD T (fun xs H Q => (∃ i, xs = [.int i] ∧ Q (.int i) H) ∨ ∃ k, xs = [.bl k] ∧ Q (.int (if k then 1 else 0)) H) gInt := by
  intro N H M α l xs z Q c r h k
  match l, h, r with
  | [.int i], h, r =>
    obtain ⟨x, rfl, r1⟩ := rels1 r
    unfold Rel at r1
    cases h
    exact .inl ⟨i, by rw [r1], k _ H c Ext.refl rel_int⟩
  | [.bl i], h, r =>
    obtain ⟨x, rfl, r1⟩ := rels1 r
    unfold Rel at r1
    cases h
    exact .inr ⟨i, by rw [r1], k _ H c Ext.refl rel_int⟩
def gMax2 : Cells → List D → Option D := fun _ l => match l with
  | [.int i, .int j] => some (.int (if j > i then j else i))
  | _ => none
def gMin2 : Cells → List D → Option D := fun _ l => match l with
  | [.int i, .int j] => some (.int (if j < i then j else i))
  | _ => none
theorem cd_max2 : CbD T (fun xs H Q => ∃ i j, xs = [.int i, .int j] ∧ Q (.int (if j > i then j else i)) H) gMax2 := by
  intro N H M α l xs z Q c r h k
  match l, h, r with
  | [.int i, .int j], h, r =>
    obtain ⟨x, y, rfl, r1, r2⟩ := rels2 r
    unfold Rel at r1 r2
    cases h
    exact ⟨i, j, by rw [r1, r2], k _ H c Ext.refl rel_int⟩
theorem cd_min2 : CbD T (fun xs H Q => ∃ i j, xs = [.int i, .int j] ∧ Q (.int (if j < i then j else i)) H) gMin2 := by
  intro N H M α l xs z Q c r h k
  match l, h, r with
  | [.int i, .int j], h, r =>
    obtain ⟨x, y, rfl, r1, r2⟩ := rels2 r
    unfold Rel at r1 r2
    cases h
    exact ⟨i, j, by rw [r1, r2], k _ H c Ext.refl rel_int⟩

/-! ### == of data -/
mutual
def pyOf : D → Option PyData
  | .non => some .none
  | .bl b => some (.bool b)
  | .int i => some (.int i)
  | .str x => some (.str x)
  | .tup l => (pysOf l).map .tuple
  | .lst l => (pysOf l).map .list
  | .loc _ => none
  | .adr _ => none
  | .ty _ => none
  | .scr _ => none
def pysOf : List D → Option (List PyData)
  | [] => some []
  | d :: l => match pyOf d, pysOf l with
    | some p, some ps => some (p :: ps)
    | _, _ => none
end
mutual
theorem py_rel {K : PySem.W.Frag} : ∀ {d : D} {x : V} {p : PyData}, Rel H N α d x → pyOf d = some p → Dp K H x p
  | .non, _, _, r, h => by unfold Rel at r; unfold pyOf at h; cases h; rw [r]; exact .non
  | .bl b, _, _, r, h => by unfold Rel at r; unfold pyOf at h; cases h; rw [r]; exact .bl b
  | .int b, _, _, r, h => by unfold Rel at r; unfold pyOf at h; cases h; rw [r]; exact .int b
  | .str b, _, _, r, h => by unfold Rel at r; unfold pyOf at h; cases h; rw [r]; exact .str b
  | .tup l, _, _, r, h => by
    unfold Rel at r; unfold pyOf at h
    obtain ⟨a, vs, h1, h2, h3⟩ := r
    cases q : pysOf l with
    | none => rw [q] at h; cases h
    | some ps => rw [q] at h; cases h; rw [h1]; exact .tup (rd_sqT h2) (pys_rel h3 q)
  | .lst l, _, _, r, h => by
    unfold Rel at r; unfold pyOf at h
    obtain ⟨a, vs, h1, h0, h2, h3⟩ := r
    cases q : pysOf l with
    | none => rw [q] at h; cases h
    | some ps => rw [q] at h; cases h; rw [h1]; exact .lst (rd_sqL h2) (pys_rel h3 q)
  | .loc _, _, _, _, h => by unfold pyOf at h; cases h
  | .adr _, _, _, _, h => by unfold pyOf at h; cases h
  | .ty _, _, _, _, h => by unfold pyOf at h; cases h
  | .scr _, _, _, _, h => by unfold pyOf at h; cases h
theorem pys_rel {K : PySem.W.Frag} : ∀ {l : List D} {xs : List V} {ps : List PyData}, Rels H N α l xs → pysOf l = some ps → DpAll K H xs ps
  | [], _, _, r, h => by unfold Rels at r; unfold pysOf at h; cases h; rw [r]; exact .nil
  | d :: l, _, _, r, h => by
    unfold Rels at r; unfold pysOf at h
    obtain ⟨v, vs, h1, h2, h3⟩ := r
    cases q1 : pyOf d with
    | none => rw [q1] at h; simp at h
    | some p =>
      cases q2 : pysOf l with
      | none => rw [q1, q2] at h; simp at h
      | some ps =>
        rw [q1, q2] at h; simp at h; subst h; rw [h1]
        exact .cons (py_rel h2 q1) (pys_rel h3 q2)
end
def pyAt (M : Cells) (d : D) : Option PyData := match d with
  | .loc n => match M[n]? with
    | some l => (pysOf l).map .list
    | none => none
  | d => pyOf d
theorem pyAt_rel {K : PySem.W.Frag} {M : Cells} {d : D} {x : V} {p : PyData} (c : StC T N H M α) (r : Rel H N α d x) (h : pyAt M d = some p) : Dp K H x p := by
  cases d
  case loc n =>
    unfold pyAt at h
    unfold Rel at r
    obtain ⟨a, h1, h2⟩ := r
    dsimp only at h
    cases q : M[n]? with
    | none => rw [q] at h; cases h
    | some l =>
      rw [q] at h
      dsimp only at h
      obtain ⟨a', vs, e1, e2, e3⟩ := c.cel n l q
      rw [h2] at e1
      cases e1
      cases q2 : pysOf l with
      | none => rw [q2] at h; cases h
      | some ps => rw [q2] at h; cases h; rw [h1]; exact .lst (rd_sqL e2) (pys_rel e3 q2)
  all_goals exact py_rel r h
def dEq (M : Cells) (d e : D) : Option Bool := match pyAt M d, pyAt M e with
  | some p, some q => if SeqAt.shaped p && SeqAt.shaped q then some (PyData.eqv p q) else none
  | _, _ => none
def gEq : Cells → D → D → Option D := fun M d e => (dEq M d e).map .bl
def gNe : Cells → D → D → Option D := fun M d e => (dEq M d e).map fun b => .bl (!b)
theorem dEq_some {M : Cells} {d e : D} {b : Bool} (h : dEq M d e = some b) : ∃ p q, pyAt M d = some p ∧ pyAt M e = some q ∧ SeqAt.shaped p = true ∧ SeqAt.shaped q = true ∧ b = PyData.eqv p q := by
  unfold dEq at h
  cases q1 : pyAt M d with
  | none => rw [q1] at h; simp at h
  | some p =>
    cases q2 : pyAt M e with
    | none => rw [q1, q2] at h; simp at h
    | some q =>
      rw [q1, q2] at h
      dsimp only at h
      by_cases hs : (SeqAt.shaped p && SeqAt.shaped q) = true
      · rw [if_pos hs] at h
        obtain ⟨s1, s2⟩ := Bool.and_eq_true_iff.mp hs
        exact ⟨p, q, rfl, rfl, s1, s2, (Option.some.inj h).symm⟩
      · rw [if_neg hs] at h; cases h
theorem od_eq {K : PySem.W.Frag} : OpD T (rEqD K) gEq := by
  intro N H M α d e x y z Q c r1 r2 h k
  unfold gEq at h
  cases q : dEq M d e with
  | none => rw [q] at h; cases h
  | some b =>
    rw [q] at h; cases h
    obtain ⟨p, p', h1, h2, s1, s2, rfl⟩ := dEq_some q
    exact ⟨p, p', pyAt_rel c r1 h1, pyAt_rel c r2 h2, s1, s2, k _ H c Ext.refl rel_bl⟩
theorem od_ne {K : PySem.W.Frag} : OpD T (rNeD K) gNe := by
  intro N H M α d e x y z Q c r1 r2 h k
  unfold gNe at h
  cases q : dEq M d e with
  | none => rw [q] at h; cases h
  | some b =>
    rw [q] at h; cases h
    obtain ⟨p, p', h1, h2, s1, s2, rfl⟩ := dEq_some q
    exact ⟨p, p', pyAt_rel c r1 h1, pyAt_rel c r2 h2, s1, s2, k _ H c Ext.refl rel_bl⟩
/-- is None, is not None -/
def D.isNon : D → Bool
  | .non => true
  | _ => false
def gIsN : Cells → D → D → Option D := fun _ d e => match e with
  | .non => some (.bl d.isNon)
  | _ => none
def gNotN : Cells → D → D → Option D := fun _ d e => match e with
  | .non => some (.bl (!d.isNon))
  | _ => none
theorem non_iff {d : D} {x : V} (r : Rel H N α d x) : decide (x = .non) = d.isNon := by
  cases d <;> unfold Rel at r
  · rw [r]; rfl
  · rw [r]; rfl
  · rw [r]; rfl
  · rw [r]; rfl
  · obtain ⟨a, _, h1, _⟩ := r; rw [h1]; rfl
  · obtain ⟨a, _, h1, _⟩ := r; rw [h1]; rfl
  · obtain ⟨a, h1, _⟩ := r; rw [h1]; rfl
  · rw [r]; rfl
  · rw [r]; rfl
  · obtain ⟨a, _, _, h1, _⟩ := r; rw [h1]; rfl
theorem od_isN : OpD T (fun x y H Q => y = .non ∧ Q (.bl (decide (x = .non))) H) gIsN := by
  intro N H M α d e x y z Q c r1 r2 h k
  cases e <;> try (cases h; done)
  unfold gIsN at h
  unfold Rel at r2
  refine ⟨r2, k _ H c Ext.refl ?_⟩
  rw [non_iff r1]
  cases h
  exact rel_bl
theorem od_notN : OpD T (fun x y H Q => y = .non ∧ Q (.bl (!decide (x = .non))) H) gNotN := by
  intro N H M α d e x y z Q c r1 r2 h k
  cases e <;> try (cases h; done)
  unfold gNotN at h
  unfold Rel at r2
  refine ⟨r2, k _ H c Ext.refl ?_⟩
  rw [non_iff r1]
  cases h
  exact rel_bl

/-! ### a def's promise by a function on data -/
inductive Pu where
  | ok (d : D)
  | ex (e : Ex)
  | no
def spD (T : TPr) (mg : Str → Option Value) (n : Nat) (fM : List D → Cells → R D) : Sp := fun vs H Q E => ∃ ds M α N, ds.length = n ∧ StC T N H M α ∧ Rels H N α ds vs ∧ match fM ds M with
  | .ok d M' => ∀ v H', StC T N H' M' α → Ext α N H α N H' → Rel H' N α d v → Q v H'
  | .ex e M' => ∀ cls dd H', StC T N H' M' α → Ext α N H α N H' → XR mg e cls dd H' N α → E cls dd H'
  | .no => False
/-- a function that has no list of ours in hand -/
def lift (p : List D → Pu) : List D → Cells → R D := fun ds M => match M with
  | [] => match p ds with
    | .ok d => .ok d []
    | .ex e => .ex e []
    | .no => .no
  | _ :: _ => .no
abbrev spP (T : TPr) (mg : Str → Option Value) (n : Nat) (p : List D → Pu) : Sp := spD T mg n (lift p)
def fCall (p : List D → Pu) (f : Sx → R (List D)) : Sx → R D := fun s => (f s).bind fun ds M => if lfs ds = true then (match p ds with
  | .ok d => .ok d M
  | .ex e => .ex e M
  | .no => .no) else .no
theorem Ext.ofNil {H' : Hp} (e : Ext [] N H [] N H') : Ext α N H α N H' := ⟨⟨[], by simp, by simp⟩, e.nn, e.nb, fun b o h _ t => e.keep b o h (fun _ => by simp) t, e.there⟩
theorem StC.ofNil {M : Cells} {H' : Hp} (c : StC T N H M α) (c' : StC T N H' [] []) (e : Ext [] N H [] N H') : StC T N H' M α :=
  ⟨c.nd, c.sub, c'.som, c.len, fun n l q => by
    obtain ⟨a, vs, h1, h2, h3⟩ := c.cel n l q
    exact ⟨a, vs, h1, e.keep a _ h2 (fun _ => by simp) (fun _ z => by cases z), Rels.mono c.sub e.ofNil h3⟩, c'.tab⟩
theorem XR.nil {e : Ex} {cls : Value} {dd : Option Addr} (h : XR mg e cls dd H N []) : XR mg e cls dd H N α := by
  obtain ⟨h1, h2⟩ := h
  refine ⟨h1, ?_⟩
  cases q : e.part with
  | none => trivial
  | some d =>
    rw [q] at h2
    obtain ⟨a, v, e1, e2, e3⟩ := h2
    exact ⟨a, v, e1, e2, Rel.nil e3⟩
theorem call_imp {n : Nat} {p : List D → Pu} {f : Sx → R (List D)} (hn : ∀ ds, p ds ≠ .no → ds.length = n) {Q : VK} (h : tD T mg W (fCall p f) σ H Q) : tCallS (spP T mg n p) (WE W) (tL T mg W f) σ H Q := by
  obtain ⟨s, α, N, hs, q⟩ := h
  refine ⟨s, α, N, hs, Post.mono (fun vs H1 h1 => ?_) (Post.bind (G := RelL) q)⟩
  obtain ⟨M1, α1, N1, ds, s1, e1, g1, p1⟩ := h1
  obtain ⟨hl, p2⟩ := p1.ite
  refine ⟨ds, [], [], N1, hn ds fun z => by rw [z] at p2; exact p2, ⟨by simp, by simp, s1.c.som, rfl, fun n l q => by simp at q, s1.c.tab⟩, Rels.lf hl g1, ?_⟩
  unfold lift
  cases hp : p ds with
  | no => rw [hp] at p2; exact p2
  | ok d =>
    rw [hp] at p2
    exact fun v H' c e r => p2 v H' α1 N1 (StC.keep s1 (s1.c.ofNil c e) e.ofNil) e.ofNil (Rel.nil r)
  | ex x =>
    rw [hp] at p2
    exact fun cls dd H' c e r => p2 cls dd H' α1 N1 (StC.keep s1 (s1.c.ofNil c e) e.ofNil) e.ofNil r.nil
/-- the first argument a list of ours, that the def may change -/
def fCallM (fM : List D → Cells → R D) (f : Sx → R (List D)) : Sx → R D := fun s => (f s).bind fun ds M => match ds with
  | .loc n :: r => match M[n]? with
    | some l => if (lfs r && lfs l) = true then (match fM (.loc 0 :: r) [l] with
      | .ok d [l'] => if (d.lf && lfs l') = true then .ok d (M.set n l') else .no
      | .ex e [l'] => if (lfs l' && e.part.isNone) = true then .ex e (M.set n l') else .no
      | _ => .no) else .no
    | none => .no
  | _ => .no
theorem StC.one {M : Cells} {n : Nat} {a : Addr} {l : List D} (c : StC T N H M α) (h1 : α[n]? = some a) (h2 : M[n]? = some l) (hl : lfs l = true) : StC T N H [l] [a] := by
  obtain ⟨a', vs, e1, e2, e3⟩ := c.cel n l h2
  rw [h1] at e1
  cases e1
  refine ⟨by simp, fun b hb => ?_, c.som, rfl, fun m l' q => ?_, c.tab⟩
  · simp at hb
    rw [hb]
    exact c.sub a (List.mem_of_getElem? h1)
  · match m, q with
    | 0, q =>
      simp at q
      subst q
      exact ⟨a, vs, rfl, e2, Rels.lf hl e3⟩
    | m + 1, q => simp at q
theorem Ext.ofOne {H' : Hp} {a : Addr} (ha : a ∈ α) (e : Ext [a] N H [a] N H') : Ext α N H α N H' := ⟨⟨[], by simp, by simp⟩, e.nn, e.nb, fun b o h t u => e.keep b o h (fun z hm => by simp at hm; exact t z (by rw [hm]; exact ha)) u, e.there⟩
theorem StC.back {M : Cells} {n : Nat} {a : Addr} {l' : List D} {H' : Hp} (c : StC T N H M α) (h1 : α[n]? = some a) (hl : lfs l' = true) (c' : StC T N H' [l'] [a]) (e : Ext [a] N H [a] N H') : StC T N H' (M.set n l') α := by
  have ha : a ∈ α := List.mem_of_getElem? h1
  refine ⟨c.nd, c.sub, c'.som, by rw [List.length_set]; exact c.len, fun m l q => ?_, c'.tab⟩
  have q' : (M.set n l')[m]? = some l := q
  by_cases hm : n = m
  · subst hm
    have hlt : n < M.length := by have := (List.getElem?_eq_some_iff.mp h1).1; rw [c.len] at this; exact this
    rw [List.getElem?_set_self hlt] at q'
    cases q'
    obtain ⟨a', vs, e1, e2, e3⟩ := c'.cel 0 l' rfl
    cases e1
    exact ⟨a, vs, h1, e2, Rels.lf hl e3⟩
  · rw [List.getElem?_set_ne hm] at q'
    obtain ⟨b, vs, e1, e2, e3⟩ := c.cel m l q'
    have ne : b ≠ a := fun z => by
      subst z
      obtain ⟨u1, v1⟩ := List.getElem?_eq_some_iff.mp h1
      obtain ⟨u2, v2⟩ := List.getElem?_eq_some_iff.mp e1
      exact hm ((List.getElem_inj c.nd).mp (v1.trans v2.symm))
    exact ⟨b, vs, e1, e.keep b _ e2 (fun _ hb => by simp at hb; exact ne hb) (fun _ z => by cases z), Rels.mono c.sub (e.ofOne ha) e3⟩
theorem Rel.lf' {d : D} {v : V} {a : Addr} (hd : d.lf = true) (h : Rel H N [a] d v) : Rel H N α d v := Rel.lf hd h
theorem callM_imp {n : Nat} {fM : List D → Cells → R D} {f : Sx → R (List D)} (hn : ∀ ds M, fM ds M ≠ .no → ds.length = n) {Q : VK} (h : tD T mg W (fCallM fM f) σ H Q) : tCallS (spD T mg n fM) (WE W) (tL T mg W f) σ H Q := by
  obtain ⟨s, α, N, hs, q⟩ := h
  refine ⟨s, α, N, hs, Post.mono (fun vs H1 h1 => ?_) (Post.bind (G := RelL) q)⟩
  obtain ⟨M1, α1, N1, ds, s1, e1, g1, p1⟩ := h1
  match ds, p1, g1 with
  | .loc j :: r, p1, g1 =>
    dsimp only at p1
    cases qj : M1[j]? with
    | none => rw [qj] at p1; exact p1.elim
    | some l =>
      rw [qj] at p1
      dsimp only at p1
      obtain ⟨hl, p2⟩ := p1.ite
      obtain ⟨hr, hl⟩ := Bool.and_eq_true_iff.mp hl
      unfold RelL Rels at g1
      obtain ⟨v, vr, rfl, g2, g3⟩ := g1
      unfold Rel at g2
      obtain ⟨a, rfl, ha⟩ := g2
      have hne : fM (.loc 0 :: r) [l] ≠ .no := fun z => by rw [z] at p2; exact p2
      refine ⟨.loc 0 :: r, [l], [a], N1, hn _ _ hne, s1.c.one ha qj hl, ?_, ?_⟩
      · exact Rels.cons (by unfold Rel; exact ⟨a, rfl, rfl⟩) (Rels.lf hr g3)
      · cases hp : fM (.loc 0 :: r) [l] with
        | no => exact (hne hp).elim
        | ok d M' =>
          rw [hp] at p2
          match M', p2 with
          | [l'], p2 =>
            dsimp only at p2
            obtain ⟨hd, p3⟩ := p2.ite
            obtain ⟨hd, hl'⟩ := Bool.and_eq_true_iff.mp hd
            exact fun w H' c e r' => p3 w H' α1 N1 (StC.keep s1 (s1.c.back ha hl' c e) (e.ofOne (List.mem_of_getElem? ha))) (e.ofOne (List.mem_of_getElem? ha)) (Rel.lf hd r')
          | [], p2 => exact p2.elim
          | _ :: _ :: _, p2 => exact p2.elim
        | ex x M' =>
          rw [hp] at p2
          match M', p2 with
          | [l'], p2 =>
            dsimp only at p2
            obtain ⟨hd, p3⟩ := p2.ite
            obtain ⟨hl', hx⟩ := Bool.and_eq_true_iff.mp hd
            intro cls dd H' c e r'
            refine p3 cls dd H' α1 N1 (StC.keep s1 (s1.c.back ha hl' c e) (e.ofOne (List.mem_of_getElem? ha))) (e.ofOne (List.mem_of_getElem? ha)) ⟨r'.1, ?_⟩
            cases qx : x.part with
            | none => trivial
            | some y => rw [qx] at hx; cases hx
          | [], p2 => exact p2.elim
          | _ :: _ :: _, p2 => exact p2.elim
  | [], p1, _ => exact p1.elim
  | .non :: _, p1, _ => exact p1.elim
  | .bl _ :: _, p1, _ => exact p1.elim
  | .int _ :: _, p1, _ => exact p1.elim
  | .str _ :: _, p1, _ => exact p1.elim
  | .tup _ :: _, p1, _ => exact p1.elim
  | .lst _ :: _, p1, _ => exact p1.elim
  | .adr _ :: _, p1, _ => exact p1.elim
  | .ty _ :: _, p1, _ => exact p1.elim
  | .scr _ :: _, p1, _ => exact p1.elim
end
end DL

namespace DL
open PySem PySem.Spec L2
open PyProof.Rows hiding St

/-! ### what leaves a def -/
mutual
def fz (M : Cells) (m : Nat) : D → Option D
  | .non => some .non
  | .bl b => some (.bl b)
  | .int i => some (.int i)
  | .str x => some (.str x)
  | .tup l => (fzs M m l).map .tup
  | .lst l => (fzs M m l).map .lst
  | .loc n => if n < m then some (.loc n) else match M[n]? with
    | some l => if lfs l = true then some (.lst l) else none
    | none => none
  | .adr a => some (.adr a)
  | .ty n => some (.ty n)
  | .scr _ => none
def fzs (M : Cells) (m : Nat) : List D → Option (List D)
  | [] => some []
  | d :: l => match fz M m d, fzs M m l with
    | some p, some ps => some (p :: ps)
    | _, _ => none
end
def cutM (M : Cells) (m : Nat) : Option Cells := if (M.take m).all lfs = true then some (M.take m) else none
def RS.out (m : Nat) : RS → R D
  | .nx s => match cutM s.M m with
    | some M => .ok .non M
    | none => .no
  | .rt d s => match cutM s.M m, fz s.M m d with
    | some M, some e => .ok e M
    | _, _ => .no
  | .ex e s => match cutM s.M m with
    | some M => match e.part with
      | none => .ex e M
      | some d => if d.lf = true then .ex e M else .no
    | none => .no
  | _ => .no
section
variable {T : TPr} {mg : Str → Option Value} {W : WX} {σ : L2.St} {H : Hp} {N : Addr → Prop} {α : List Addr} {Dn : Ends}
section
variable {α' : List Addr} {N' : Addr → Prop} {H' : Hp} {M' : Cells}
theorem cut_pre (e : Ext α N H α' N' H') {n : Nat} (h : n < α.length) : α'[n]? = α[n]? := by
  obtain ⟨β, e1, _⟩ := e.pre
  rw [e1, List.getElem?_append_left h]
mutual
theorem fz_rel (c : StC T N' H' M' α') (e : Ext α N H α' N' H') (som : ∀ a, N a → ¬ Fz H a) : ∀ {d d' : D} {v : V}, Rel H' N' α' d v → fz M' α.length d = some d' → Rel H' N α d' v
  | .non, _, _, h, q => by unfold fz at q; cases q; unfold Rel at h ⊢; exact h
  | .bl _, _, _, h, q => by unfold fz at q; cases q; unfold Rel at h ⊢; exact h
  | .int _, _, _, h, q => by unfold fz at q; cases q; unfold Rel at h ⊢; exact h
  | .str _, _, _, h, q => by unfold fz at q; cases q; unfold Rel at h ⊢; exact h
  | .adr _, _, _, h, q => by unfold fz at q; cases q; unfold Rel at h ⊢; exact h
  | .ty _, _, _, h, q => by unfold fz at q; cases q; unfold Rel at h ⊢; exact h
  | .scr _, _, _, h, q => by unfold fz at q; cases q
  | .tup l, _, _, h, q => by
    unfold fz at q
    cases q2 : fzs M' α.length l with
    | none => rw [q2] at q; cases q
    | some l' =>
      rw [q2] at q; cases q
      unfold Rel at h ⊢
      obtain ⟨a, vs, h1, h2, h3⟩ := h
      exact ⟨a, vs, h1, h2, fzs_rel c e som h3 q2⟩
  | .lst l, _, _, h, q => by
    unfold fz at q
    cases q2 : fzs M' α.length l with
    | none => rw [q2] at q; cases q
    | some l' =>
      rw [q2] at q; cases q
      unfold Rel at h ⊢
      obtain ⟨a, vs, h1, h0, h2, h3⟩ := h
      exact ⟨a, vs, h1, fun z => h0 (e.nn a z), h2, fzs_rel c e som h3 q2⟩
  | .loc n, _, _, h, q => by
    unfold Rel at h
    obtain ⟨a, h1, h2⟩ := h
    unfold fz at q
    by_cases hn : n < α.length
    · rw [if_pos hn] at q; cases q
      unfold Rel
      exact ⟨a, h1, by rw [← cut_pre e hn]; exact h2⟩
    · rw [if_neg hn] at q
      cases qm : M'[n]? with
      | none => rw [qm] at q; cases q
      | some l =>
        rw [qm] at q
        dsimp only at q
        by_cases hl : lfs l = true
        · rw [if_pos hl] at q; cases q
          obtain ⟨a', vs, g1, g2, g3⟩ := c.cel n l qm
          rw [h2] at g1; cases g1
          unfold Rel
          refine ⟨a, vs, h1, fun z => ?_, g2, Rels.less e.nn (Rels.lf hl g3)⟩
          obtain ⟨β, e1, fβ⟩ := e.pre
          rw [e1, List.getElem?_append_right (by omega)] at h2
          exact som a z (fβ a (List.mem_of_getElem? h2))
        · rw [if_neg hl] at q; cases q
theorem fzs_rel (c : StC T N' H' M' α') (e : Ext α N H α' N' H') (som : ∀ a, N a → ¬ Fz H a) : ∀ {l l' : List D} {vs : List V}, Rels H' N' α' l vs → fzs M' α.length l = some l' → Rels H' N α l' vs
  | [], _, _, h, q => by unfold fzs at q; cases q; unfold Rels at h ⊢; exact h
  | d :: l, _, _, h, q => by
    unfold fzs at q
    unfold Rels at h
    obtain ⟨v, r, h1, h2, h3⟩ := h
    cases q1 : fz M' α.length d with
    | none => rw [q1] at q; simp at q
    | some p =>
      cases q2 : fzs M' α.length l with
      | none => rw [q1, q2] at q; simp at q
      | some ps =>
        rw [q1, q2] at q; simp at q; subst q; rw [h1]
        exact Rels.cons (fz_rel c e som h2 q1) (fzs_rel c e som h3 q2)
end
theorem Ext.cut (e : Ext α N H α' N' H') (sub : ∀ a ∈ α, N a) : Ext α N H α N H' := ⟨⟨[], by simp, by simp⟩, fun _ h => h, fun _ h => .inl h, e.keep, e.there⟩
theorem StC.cut {M1 : Cells} (c0 : StC T N H M α) (c : StC T N' H' M' α') (e : Ext α N H α' N' H') (q : cutM M' α.length = some M1) : StC T N H' M1 α := by
  unfold cutM at q
  by_cases hl : (M'.take α.length).all lfs = true
  · rw [if_pos hl] at q; cases q
    obtain ⟨β, e1, _⟩ := e.pre
    have hle : α.length ≤ M'.length := by rw [← c.len, e1]; simp
    refine ⟨c0.nd, c0.sub, fun a h => e.there a (c0.som a h), by rw [List.length_take]; omega, fun n l h => ?_, c.tab⟩
    have hn : n < α.length := by
      have := (List.getElem?_eq_some_iff.mp h).1
      rw [List.length_take] at this
      omega
    have hM : M'[n]? = some l := by rw [List.getElem?_take] at h; rw [if_pos hn] at h; exact h
    obtain ⟨a, vs, g1, g2, g3⟩ := c.cel n l hM
    have hll : lfs l = true := List.all_eq_true.mp hl l (List.mem_of_getElem? h)
    exact ⟨a, vs, by rw [← cut_pre e hn]; exact g1, g2, Rels.less e.nn (Rels.lf hll g3)⟩
  · rw [if_neg hl] at q; cases q
end
end
def init0 (Nm : List Str) (ds : List D) : List (Option D) := ds.map some ++ List.replicate (Nm.length - ds.length) none
theorem init_slt {H : Hp} {N : Addr → Prop} {α : List Addr} {Nm : List Str} {ds : List D} {vs : List V} (r : Rels H N α ds vs) (i : Nat) (d : D) (h : (init0 Nm ds)[i]? = some (some d)) : ∃ v, (L2.start Nm vs)[i]? = some (some v) ∧ Rel H N α d v := by
  unfold init0 at h
  by_cases hi : i < ds.length
  · rw [List.getElem?_append_left (by simpa using hi)] at h
    rw [List.getElem?_map] at h
    cases q : ds[i]? with
    | none => rw [q] at h; cases h
    | some d' =>
      rw [q] at h
      have e : d' = d := by simpa using h
      subst e
      obtain ⟨v, h1, h2⟩ := Rels.get r q
      refine ⟨v, ?_, h2⟩
      unfold L2.start
      rw [List.getElem?_append_left (by rw [List.length_map, ← Rels.length r]; exact hi), List.getElem?_map, h1]
      rfl
  · rw [List.getElem?_append_right (by simpa using Nat.le_of_not_lt hi)] at h
    rw [List.getElem?_replicate] at h
    split at h
    · cases h
    · cases h
/-- THE RULE for a def: its body as a function on data -/
theorem fn_ok {T : TPr} {P : Program} {w : World} {K : PySem.W.Frag} {mg : Str → Option Value} {base : Heap} {x qual : Str} {st : Stmt} {f : Addr} {fd : FuncData} {Nm ps : List Str} {dvs : List V} {kws : List (Str × V)} {k : Nat} {fM : List D → Cells → R D}
    (F : FunD K x qual (defArgs st) (defBody st) (defScope st) dvs kws f fd) (S : FnScope Nm ps (defScope st))
    (hb : ∀ ds M, fM ds M ≠ .no → ds.length = ps.length → ∃ g : Sx → RS, (∀ (cdv : Value) (A : Around) (outer : List Env) (s : Shared) (H : Hp) (E : XK), Room k (A.deeper (envOfC qual (defScope st) s.heap.objs.size f cdv)) →
      PSs (cxOf (L2.CX P w) P w K mg base Nm qual (defScope st) f cdv A outer s H E) (defBody st) (tS T mg (fun cls d _ H => E cls d H) g)) ∧ RS.out M.length (g ⟨init0 Nm ds, M⟩) = fM ds M) :
    FnOk P w K mg base (L2.CX P w) (k + 1) f fd ps (spD T mg ps.length fM) := by
  refine F.ok S (fun vs H Q E h => ?_) (fun cdv A outer s H vs Q E hr hsp => ?_)
  · obtain ⟨ds, M, α, N, h1, _, h2, _⟩ := h
    rw [← Rels.length h2]; exact h1
  · obtain ⟨ds, M, α, N, h1, c, r, post⟩ := hsp
    have hne : fM ds M ≠ .no := fun z => by rw [z] at post; exact post
    obtain ⟨g, hd, ho⟩ := hb ds M hne h1
    refine ⟨_, hd cdv A outer s H E hr, ⟨init0 Nm ds, M⟩, α, N, ⟨c, init_slt r, ?_⟩, ?_⟩
    · have := Rels.length r
      unfold init0 L2.start
      simp; omega
    · rw [← ho] at post
      rw [← c.len] at post
      cases q : g ⟨init0 Nm ds, M⟩ with
      | no => rw [q] at post; exact post
      | bk s1 => rw [q] at post; exact post.elim
      | ct s1 => rw [q] at post; exact post.elim
      | nx s1 =>
        rw [q] at post
        intro σ' H' α' N' s' e
        unfold RS.out at post
        dsimp only at post
        cases qc : cutM s1.M α.length with
        | none => rw [qc] at post; exact post.elim
        | some M1 =>
          rw [qc] at post
          exact post .non H' (c.cut s'.c e qc) (e.cut c.sub) rel_non
      | rt d s1 =>
        rw [q] at post
        intro v σ' H' α' N' s' e rv
        unfold RS.out at post
        dsimp only at post
        cases qc : cutM s1.M α.length with
        | none => rw [qc] at post; exact post.elim
        | some M1 =>
          cases qf : fz s1.M α.length d with
          | none => rw [qc, qf] at post; exact post.elim
          | some d' =>
            rw [qc, qf] at post
            exact post v H' (c.cut s'.c e qc) (e.cut c.sub) (fz_rel s'.c e c.som rv qf)
      | ex x s1 =>
        rw [q] at post
        intro cls dd σ' H' α' N' s' e xr
        unfold RS.out at post
        dsimp only at post
        cases qc : cutM s1.M α.length with
        | none => rw [qc] at post; exact post.elim
        | some M1 =>
          rw [qc] at post
          dsimp only at post
          obtain ⟨x1, x2⟩ := xr
          cases qp : x.part with
          | none =>
            rw [qp] at post
            exact post cls dd H' (c.cut s'.c e qc) (e.cut c.sub) ⟨x1, by rw [qp]; trivial⟩
          | some d =>
            rw [qp] at post x2
            dsimp only at post
            by_cases hl : d.lf = true
            · rw [if_pos hl] at post
              obtain ⟨a, v, y1, y2, y3⟩ := x2
              exact post cls dd H' (c.cut s'.c e qc) (e.cut c.sub) ⟨x1, by rw [qp]; exact ⟨a, v, y1, y2, Rel.less e.nn (Rel.lf hl y3)⟩⟩
            · rw [if_neg hl] at post; exact post.elim
/-- the same for a def that has no list of ours in hand -/
theorem fn_okP {T : TPr} {P : Program} {w : World} {K : PySem.W.Frag} {mg : Str → Option Value} {base : Heap} {x qual : Str} {st : Stmt} {f : Addr} {fd : FuncData} {Nm ps : List Str} {dvs : List V} {kws : List (Str × V)} {k : Nat} {p : List D → Pu}
    (F : FunD K x qual (defArgs st) (defBody st) (defScope st) dvs kws f fd) (S : FnScope Nm ps (defScope st))
    (hb : ∀ ds, p ds ≠ .no → ds.length = ps.length → ∃ g : Sx → RS, (∀ (cdv : Value) (A : Around) (outer : List Env) (s : Shared) (H : Hp) (E : XK), Room k (A.deeper (envOfC qual (defScope st) s.heap.objs.size f cdv)) →
      PSs (cxOf (L2.CX P w) P w K mg base Nm qual (defScope st) f cdv A outer s H E) (defBody st) (tS T mg (fun cls d _ H => E cls d H) g)) ∧ RS.out 0 (g ⟨init0 Nm ds, []⟩) = lift p ds []) :
    FnOk P w K mg base (L2.CX P w) (k + 1) f fd ps (spP T mg ps.length p) := by
  refine fn_ok F S fun ds M hne hl => ?_
  cases M with
  | cons _ _ => exact (hne rfl).elim
  | nil => exact hb ds (fun z => hne (by unfold lift; rw [z])) hl

section
variable {T : TPr} {mg : Str → Option Value} {W : WX} {σ : L2.St} {H : Hp} {N : Addr → Prop} {α : List Addr} {Dn : Ends}
/-! ### raise -/
def fRaise (x : Str) : Sx → RS := fun s => .ex ⟨x, none⟩ s
theorem raise_imp {x : Str} {cls : Value} (hm : mg x = some cls) (h : tS T mg W (fRaise x) Dn σ H) : W cls none σ H := by
  obtain ⟨s, α, N, hs, p⟩ := h
  exact p cls none σ H α N hs Ext.refl ⟨hm, trivial⟩

/-! ### walks -/
theorem PostI.of {G : RG D V} {ρ : List (Option D)} {Q : It → Hp → Prop} {r : R D} {k : D → Option (List D)} (h : PostI T mg N α H σ ρ W Q (r.bind fun d M => opt (k d) M)) :
    Post T mg G N α H σ ρ W (fun v H1 => ∃ M α1 N1 c ds, StR T N1 H1 σ ⟨ρ, M⟩ α1 ∧ Ext α N H α1 N1 H1 ∧ G H1 N1 α1 c v ∧ k c = some ds ∧ ∀ J, ItD T J ds α1 N1 H1 → Q J H1) r := by
  cases r with
  | no => exact h
  | ex e M => exact h
  | ok c M =>
    intro v H1 α1 N1 s1 e1 g1
    have h' : PostI T mg N α H σ ρ W Q (opt (k c) M) := h
    cases q : k c with
    | none => rw [q] at h'; exact h'.elim
    | some ds =>
      rw [q] at h'
      exact ⟨M, α1, N1, c, ds, s1, e1, g1, q, fun J it => h' J H1 α1 N1 s1 e1 it⟩
/-- over a list (not one of ours), over a tuple -/
def asLst : D → Option (List D)
  | .lst l => some l
  | _ => none
def asTup : D → Option (List D)
  | .tup l => some l
  | _ => none
def fIt (k : D → Option (List D)) (f : Sx → R D) : Sx → R (List D) := fun s => (f s).bind fun d M => opt (k d) M
theorem it_lst {K : PySem.W.Frag} {ds : List D} {vs : List V} {a : Addr} (sub : ∀ b ∈ α, N b) (hn : ¬ N a) (h : H a = some (.lst vs)) (r : Rels H N α ds vs) : ItD T (Itl K a) ds α N H := by
  intro i α2 N2 H2 e2 s2
  have h2 : SqL K H2 a vs := rd_sqL (keepL e2 (fun z => hn (sub a z)) h)
  have r2 := Rels.mono sub e2 r
  have hl := Rels.length r
  refine ⟨fun hi => ⟨vs, h2, by omega⟩, fun d hd => ?_⟩
  obtain ⟨v, g1, g2⟩ := Rels.get r2 hd
  refine ⟨⟨vs, v, h2, g1⟩, fun x H3 hy => ?_⟩
  obtain ⟨e, y⟩ := hy
  subst e
  refine ⟨fun _ _ q => q, ?_⟩
  have := y vs h2
  rw [g1] at this
  cases this
  exact g2
theorem it_tup {K : PySem.W.Frag} {ds : List D} {vs : List V} {a : Addr} (sub : ∀ b ∈ α, N b) (h : H a = some (.tup vs)) (r : Rels H N α ds vs) : ItD T (Itt K a) ds α N H := by
  intro i α2 N2 H2 e2 s2
  have h2 : SqT K H2 a vs := rd_sqT (keepT e2 h)
  have r2 := Rels.mono sub e2 r
  have hl := Rels.length r
  refine ⟨fun hi => ⟨vs, h2, by omega⟩, fun d hd => ?_⟩
  obtain ⟨v, g1, g2⟩ := Rels.get r2 hd
  refine ⟨⟨vs, v, h2, g1⟩, fun x H3 hy => ?_⟩
  obtain ⟨e, y⟩ := hy
  subst e
  refine ⟨fun _ _ q => q, ?_⟩
  have := y vs h2
  rw [g1] at this
  cases this
  exact g2
theorem itl_imp {K : PySem.W.Frag} {f : Sx → R D} {Q : It → Hp → Prop} (h : tI T mg W (fIt asLst f) σ H Q) : iList K (tD T mg W f) σ H Q := by
  obtain ⟨s, α, N, hs, p⟩ := h
  refine ⟨s, α, N, hs, Post.mono (fun v H1 h1 => ?_) (PostI.of (G := RelD) p)⟩
  obtain ⟨M1, α1, N1, d, ds, s1, e1, g1, k1, q⟩ := h1
  cases d <;> try (cases k1; done)
  rename_i l
  cases k1
  unfold RelD Rel at g1
  obtain ⟨a, vs, h1, h0, h2, h3⟩ := g1
  exact ⟨a, h1, ⟨vs, rd_sqL h2⟩, q _ (it_lst s1.c.sub h0 h2 h3)⟩
theorem itt_imp {K : PySem.W.Frag} {f : Sx → R D} {Q : It → Hp → Prop} (h : tI T mg W (fIt asTup f) σ H Q) : iTup K (tD T mg W f) σ H Q := by
  obtain ⟨s, α, N, hs, p⟩ := h
  refine ⟨s, α, N, hs, Post.mono (fun v H1 h1 => ?_) (PostI.of (G := RelD) p)⟩
  obtain ⟨M1, α1, N1, d, ds, s1, e1, g1, k1, q⟩ := h1
  cases d <;> try (cases k1; done)
  rename_i l
  cases k1
  unfold RelD Rel at g1
  obtain ⟨a, vs, h1, h2, h3⟩ := g1
  exact ⟨a, h1, ⟨vs, rd_sqT h2⟩, q _ (it_tup s1.c.sub h2 h3)⟩
/-- over range(..) -/
def rgList (lo : Int) (n : Nat) : List D := (List.range n).map fun (i : Nat) => D.int (lo + (i : Int))
theorem rg_get {lo : Int} {n i : Nat} : (rgList lo n)[i]? = if i < n then some (.int (lo + i)) else none := by
  unfold rgList
  rw [List.getElem?_map]
  by_cases h : i < n
  · rw [if_pos h, List.getElem?_range h]; rfl
  · rw [if_neg h, List.getElem?_eq_none (by simpa using Nat.le_of_not_lt h)]; rfl
end
end DL

namespace DL
open PySem PySem.Spec L2
open PyProof.Rows hiding St

section
variable {T : TPr} {mg : Str → Option Value} {W : WX} {σ : L2.St} {H : Hp} {N : Addr → Prop} {α : List Addr} {Dn : Ends}
/-! ### ranges -/
def rgOk (j : Int) : Bool := decide (-1000000000 ≤ j) && decide (j ≤ 1000000000)
def asRg1 : List D → Option (List D)
  | [.int j] => if rgOk j = true then some (rgList 0 j.toNat) else none
  | _ => none
def asRg2 : List D → Option (List D)
  | [.int i, .int j] => if (rgOk i && rgOk j) = true then some (rgList i (j - i).toNat) else none
  | _ => none
theorem PostI.of' {γ δ : Type} {G : RG γ δ} {ρ : List (Option D)} {Q : It → Hp → Prop} {r : R γ} {k : γ → Option (List D)} (h : PostI T mg N α H σ ρ W Q (r.bind fun d M => opt (k d) M)) :
    Post T mg G N α H σ ρ W (fun v H1 => ∃ M α1 N1 c ds, StR T N1 H1 σ ⟨ρ, M⟩ α1 ∧ Ext α N H α1 N1 H1 ∧ G H1 N1 α1 c v ∧ k c = some ds ∧ ∀ J, ItD T J ds α1 N1 H1 → Q J H1) r := by
  cases r with
  | no => exact h
  | ex e M => exact h
  | ok c M =>
    intro v H1 α1 N1 s1 e1 g1
    have h' : PostI T mg N α H σ ρ W Q (opt (k c) M) := h
    cases q : k c with
    | none => rw [q] at h'; exact h'.elim
    | some ds =>
      rw [q] at h'
      exact ⟨M, α1, N1, c, ds, s1, e1, g1, q, fun J it => h' J H1 α1 N1 s1 e1 it⟩
def fIts (k : List D → Option (List D)) (f : Sx → R (List D)) : Sx → R (List D) := fun s => (f s).bind fun d M => opt (k d) M
theorem it_rg {lo : Int} {n : Nat} : ItD T (Itr lo n) (rgList lo n) α N H := by
  intro i α2 N2 H2 e2 s2
  have hl : (rgList lo n).length = n := by unfold rgList; simp
  rw [hl]
  refine ⟨fun hi => Nat.le_of_eq hi.symm, fun d hd => ?_⟩
  rw [rg_get] at hd
  by_cases h : i < n
  · rw [if_pos h] at hd
    cases hd
    refine ⟨h, fun x H3 hy => ?_⟩
    obtain ⟨e, y⟩ := hy
    subst e y
    exact ⟨fun _ _ q => q, rel_int⟩
  · rw [if_neg h] at hd; cases hd
theorem rgOk_b {j : Int} (h : rgOk j = true) : -(2 ^ 62) ≤ j ∧ j < 2 ^ 62 := by
  unfold rgOk at h
  simp only [Bool.and_eq_true, decide_eq_true_eq] at h
  omega
theorem rg1_imp {f : Sx → R (List D)} {Q : It → Hp → Prop} (h : tI T mg W (fIts asRg1 f) σ H Q) : iRng1 (tL T mg W f) σ H Q := by
  obtain ⟨s, α, N, hs, p⟩ := h
  refine ⟨s, α, N, hs, Post.mono (fun v H1 h1 => ?_) (PostI.of' (G := RelL) p)⟩
  obtain ⟨M1, α1, N1, d, ds, s1, e1, g1, k1, q⟩ := h1
  match d, k1, g1 with
  | [.int j], k1, g1 =>
    obtain ⟨x, rfl, r1⟩ := rels1 g1
    unfold Rel at r1
    unfold asRg1 at k1
    dsimp only at k1
    by_cases hj : rgOk j = true
    · rw [if_pos hj] at k1; cases k1
      exact ⟨j, by rw [r1], (rgOk_b hj).1, (rgOk_b hj).2, q _ it_rg⟩
    · rw [if_neg hj] at k1; cases k1
theorem rg2_imp {f : Sx → R (List D)} {Q : It → Hp → Prop} (h : tI T mg W (fIts asRg2 f) σ H Q) : iRng2 (tL T mg W f) σ H Q := by
  obtain ⟨s, α, N, hs, p⟩ := h
  refine ⟨s, α, N, hs, Post.mono (fun v H1 h1 => ?_) (PostI.of' (G := RelL) p)⟩
  obtain ⟨M1, α1, N1, d, ds, s1, e1, g1, k1, q⟩ := h1
  match d, k1, g1 with
  | [.int i, .int j], k1, g1 =>
    obtain ⟨x, y, rfl, r1, r2⟩ := rels2 g1
    unfold Rel at r1 r2
    unfold asRg2 at k1
    dsimp only at k1
    by_cases hj : (rgOk i && rgOk j) = true
    · rw [if_pos hj] at k1; cases k1
      obtain ⟨a, b⟩ := Bool.and_eq_true_iff.mp hj
      exact ⟨i, j, by rw [r1, r2], ⟨(rgOk_b a).1, (rgOk_b a).2, (rgOk_b b).1, (rgOk_b b).2⟩, q _ it_rg⟩
    · rw [if_neg hj] at k1; cases k1

/-! ### methods of lists -/
def MtD (T : TPr) (r : V → List V → Hp → VK → Prop) (g : Cells → D → List D → Option (D × Cells)) : Prop := ∀ {N : Addr → Prop} {H : Hp} {M : Cells} {α : List Addr} {d : D} {l : List D} {x : V} {xs : List V} {z : D} {M' : Cells} {Q : VK}, StC T N H M α → Rel H N α d x → Rels H N α l xs → g M d l = some (z, M') →
  (∀ v H', StC T N H' M' α → Ext α N H α N H' → Rel H' N α z v → Q v H') → r x xs H Q
def isLst (M : Cells) : D → Bool
  | .loc n => (M[n]?).isSome
  | .lst _ => true
  | _ => false
def fMt (g : Cells → D → List D → Option (D × Cells)) (fo : Sx → R D) (fa : Sx → R (List D)) : Sx → R D := fun s => (fo s).bind fun d M1 => if isLst M1 d = true then
  (fa ⟨s.ρ, M1⟩).bind fun l M2 => match g M2 d l with
    | some (z, M') => .ok z M'
    | none => .no
  else .no
theorem isLst_ty {K : PySem.W.Frag} {M : Cells} {d : D} {x : V} (c : StC T N H M α) (r : Rel H N α d x) (h : isLst M d = true) : tyV K "list" x H := by
  cases d <;> try (cases h; done)
  · unfold Rel at r
    obtain ⟨a, vs, h1, h0, h2, h3⟩ := r
    rw [h1]
    exact .inl ⟨rfl, vs, rd_sqL h2⟩
  · rename_i n
    unfold Rel at r
    obtain ⟨a, h1, h2⟩ := r
    unfold isLst at h
    dsimp only at h
    cases q : M[n]? with
    | none => rw [q] at h; cases h
    | some l =>
      obtain ⟨a', vs, e1, e2, e3⟩ := c.cel n l q
      rw [h2] at e1; cases e1
      rw [h1]
      exact .inl ⟨rfl, vs, rd_sqL e2⟩
theorem mt_imp {K : PySem.W.Frag} {r : V → List V → Hp → VK → Prop} {g : Cells → D → List D → Option (D × Cells)} {fo : Sx → R D} {fa : Sx → R (List D)} (ho : MtD T r g) {Q : VK} (h : tD T mg W (fMt g fo fa) σ H Q) : tBM K "list" r (tD T mg W fo) (tL T mg W fa) σ H Q := by
  obtain ⟨s, α, N, hs, p⟩ := h
  refine ⟨s, α, N, hs, Post.mono (fun x H1 h1 => ?_) (Post.bind (G := RelD) p)⟩
  obtain ⟨M1, α1, N1, d, s1, e1, g1, p1⟩ := h1
  obtain ⟨hl, p2⟩ := p1.ite
  refine ⟨isLst_ty s1.c g1 hl, _, α1, N1, s1, Post.mono (fun xs H2 h2 => ?_) (Post.bind (G := RelL) p2)⟩
  obtain ⟨M2, α2, N2, l, s2, e2, g2, p3⟩ := h2
  cases q : g M2 d l with
  | none => rw [q] at p3; exact p3.elim
  | some zz =>
    obtain ⟨z, M'⟩ := zz
    rw [q] at p3
    exact ho s2.c (Rel.mono s1.c.sub e2 g1) g2 q fun v H' c e rz => p3 v H' α2 N2 (StC.keep s2 c e) e rz
theorem mt0_imp {K : PySem.W.Frag} {r : V → List V → Hp → VK → Prop} {g : Cells → D → List D → Option (D × Cells)} {fo : Sx → R D} (ho : MtD T r g) {Q : VK} (h : tD T mg W (fMt g fo fNil) σ H Q) : tBM0 K "list" r (tD T mg W fo) σ H Q := by
  obtain ⟨s, α, N, hs, p⟩ := h
  refine ⟨s, α, N, hs, Post.mono (fun x H1 h1 => ?_) (Post.bind (G := RelD) p)⟩
  obtain ⟨M1, α1, N1, d, s1, e1, g1, p1⟩ := h1
  obtain ⟨hl, p2⟩ := p1.ite
  refine ⟨isLst_ty s1.c g1 hl, ?_⟩
  have p3 : Post T mg RelD N1 α1 H1 σ s.ρ W Q (match g M1 d [] with
    | some (z, M') => .ok z M'
    | none => .no) := p2
  cases q : g M1 d [] with
  | none => rw [q] at p3; exact p3.elim
  | some zz =>
    obtain ⟨z, M'⟩ := zz
    rw [q] at p3
    exact ho s1.c g1 (by unfold Rels; rfl) q fun v H' c e rz => p3 v H' α1 N1 (StC.keep s1 c e) e rz
/-- a cell is written -/
theorem StC.put {M : Cells} {n : Nat} {a : Addr} {l l' : List D} {ws : List V} (c : StC T N H M α) (h1 : α[n]? = some a) (h2 : M[n]? = some l) (r : Rels H N α l' ws) : StC T N (upd H a (.lst ws)) (M.set n l') α ∧ Ext α N H α N (upd H a (.lst ws)) := by
  obtain ⟨a', vs, e1, e2, e3⟩ := c.cel n l h2
  rw [h1] at e1; cases e1
  have ha : a ∈ α := List.mem_of_getElem? h1
  have hN : N a := c.sub a ha
  have hnf : ∀ b, ¬ Fz H b → ¬ Fz (upd H a (.lst ws)) b := fun b h => nf_upd (fun _ z => by cases z) fun _ => h
  refine ⟨⟨c.nd, c.sub, fun b h => hnf b (c.som b h), by rw [List.length_set]; exact c.len, fun m q hq => ?_, tab_wr e2 c.tab⟩, ⟨⟨[], by simp, by simp⟩, fun _ h => h, fun _ h => .inl h, fun b o hb t u => ?_, hnf⟩⟩
  · have hq' : (M.set n l')[m]? = some q := hq
    by_cases hm : n = m
    · subst hm
      have hlt : n < M.length := (List.getElem?_eq_some_iff.mp h2).1
      rw [List.getElem?_set_self hlt] at hq'
      cases hq'
      exact ⟨a, ws, h1, upd_same, Rels.wr hN e2 r⟩
    · rw [List.getElem?_set_ne hm] at hq'
      obtain ⟨b, us, f1, f2, f3⟩ := c.cel m q hq'
      have ne : b ≠ a := fun z => by
        subst z
        obtain ⟨u1, v1⟩ := List.getElem?_eq_some_iff.mp h1
        obtain ⟨u2, v2⟩ := List.getElem?_eq_some_iff.mp f1
        exact hm ((List.getElem_inj c.nd).mp (v1.trans v2.symm))
      exact ⟨b, us, f1, by rw [upd_ne ne]; exact f2, Rels.wr hN e2 f3⟩
  · rw [upd_ne (fun z => t (by rw [z, e2] at hb; exact ⟨vs, (Option.some.inj hb).symm⟩) (by rw [z]; exact ha))]
    exact hb
theorem loc_rel {M : Cells} {n : Nat} {x : V} {l : List D} (c : StC T N H M α) (r : Rel H N α (.loc n) x) (h : M[n]? = some l) : ∃ a vs, x = .ref a ∧ α[n]? = some a ∧ H a = some (.lst vs) ∧ Rels H N α l vs := by
  unfold Rel at r
  obtain ⟨a, h1, h2⟩ := r
  obtain ⟨a', vs, e1, e2, e3⟩ := c.cel n l h
  rw [h2] at e1; cases e1
  exact ⟨a, vs, h1, h2, e2, e3⟩
def gAppend : Cells → D → List D → Option (D × Cells) := fun M d l => match d, l with
  | .loc n, [e] => match M[n]? with
    | some xs => if xs.length < 100000 then some (.non, M.set n (xs ++ [e])) else none
    | none => none
  | _, _ => none
theorem sz_lt {n : Nat} (h : n < 100000) : n < sizeLine := Nat.lt_of_lt_of_le h (by decide)
theorem md_append : MtD T rAppend gAppend := by
  intro N H M α d l x xs z M' Q c r1 r2 h k
  match d, l, h, r1, r2 with
  | .loc n, [e], h, r1, r2 =>
    unfold gAppend at h
    dsimp only at h
    cases q : M[n]? with
    | none => rw [q] at h; cases h
    | some ys =>
      rw [q] at h
      dsimp only at h
      by_cases hz : ys.length < 100000
      · rw [if_pos hz] at h; cases h
        obtain ⟨a, vs, h1, h2, h3, h4⟩ := loc_rel c r1 q
        obtain ⟨y, rfl, r3⟩ := rels1 r2
        have hl := Rels.length h4
        obtain ⟨c', e'⟩ := c.put h2 q (Rels.append (Rels.one r3) h4)
        exact ⟨a, vs, y, h1, rfl, h3, sz_lt (by omega), k _ _ c' e' rel_non⟩
      · rw [if_neg hz] at h; cases h
def gInsert : Cells → D → List D → Option (D × Cells) := fun M d l => match d, l with
  | .loc n, [.int i, e] => match M[n]? with
    | some xs => if xs.length < 100000 ∧ 0 ≤ i ∧ i ≤ 100000 then some (.non, M.set n (xs.take i.toNat ++ [e] ++ xs.drop i.toNat)) else none
    | none => none
  | _, _ => none
def rInsert : V → List V → Hp → VK → Prop := fun x vs H Q => ∃ (l : Addr) (xs : List V) (i : Int) (y : V), x = .ref l ∧ vs = [.int i, y] ∧ H l = some (.lst xs) ∧ xs.length < sizeLine ∧ 0 ≤ i ∧ i < 2 ^ 63 ∧
    Q .non (upd H l (.lst (xs.take i.toNat ++ [y] ++ xs.drop i.toNat)))
theorem md_insert : MtD T rInsert gInsert := by
  intro N H M α d l x xs z M' Q c r1 r2 h k
  match d, l, h, r1, r2 with
  | .loc n, [.int i, e], h, r1, r2 =>
    unfold gInsert at h
    dsimp only at h
    cases q : M[n]? with
    | none => rw [q] at h; cases h
    | some ys =>
      rw [q] at h
      dsimp only at h
      by_cases hz : ys.length < 100000 ∧ 0 ≤ i ∧ i ≤ 100000
      · rw [if_pos hz] at h; cases h
        obtain ⟨a, vs, h1, h2, h3, h4⟩ := loc_rel c r1 q
        obtain ⟨y0, y, rfl, r0, r3⟩ := rels2 r2
        unfold Rel at r0
        subst r0
        have hl := Rels.length h4
        obtain ⟨c', e'⟩ := c.put h2 q (Rels.append (Rels.drop i.toNat h4) (Rels.append (Rels.one r3) (Rels.take i.toNat h4)))
        exact ⟨a, vs, i, y, h1, rfl, h3, sz_lt (by omega), hz.2.1, by omega, k _ _ c' e' rel_non⟩
      · rw [if_neg hz] at h; cases h
def gPop : Cells → D → List D → Option (D × Cells) := fun M d l => match d, l with
  | .loc n, [] => match M[n]? with
    | some xs => match xs[xs.length - 1]? with
      | some y => some (y, M.set n xs.dropLast)
      | none => none
    | none => none
  | _, _ => none
theorem Rels.dropLast {H : Hp} {N : Addr → Prop} {α : List Addr} {l : List D} {vs : List V} (h : Rels H N α l vs) : Rels H N α l.dropLast vs.dropLast := by
  rw [List.dropLast_eq_take, List.dropLast_eq_take, Rels.length h]
  exact Rels.take _ h
theorem md_pop : MtD T rPop gPop := by
  intro N H M α d l x xs z M' Q c r1 r2 h k
  match d, l, h, r1, r2 with
  | .loc n, [], h, r1, r2 =>
    unfold gPop at h
    dsimp only at h
    cases q : M[n]? with
    | none => rw [q] at h; cases h
    | some ys =>
      rw [q] at h
      dsimp only at h
      cases q2 : ys[ys.length - 1]? with
      | none => rw [q2] at h; cases h
      | some y =>
        rw [q2] at h; cases h
        obtain ⟨a, vs, h1, h2, h3, h4⟩ := loc_rel c r1 q
        unfold Rels at r2
        subst r2
        obtain ⟨v, g1, g2⟩ := Rels.get h4 q2
        obtain ⟨c', e'⟩ := c.put h2 q (Rels.dropLast h4)
        exact ⟨a, vs, v, h1, rfl, h3, by rw [← Rels.length h4]; exact g1, k _ _ c' e' (Rel.mono c.sub e' g2)⟩
def gPopAt : Cells → D → List D → Option (D × Cells) := fun M d l => match d, l with
  | .loc n, [.int i] => match M[n]? with
    | some xs => if -1000000 ≤ i ∧ i ≤ 1000000 then match seqIndex? i xs.length with
      | some j => match xs[j]? with
        | some y => some (y, M.set n (xs.eraseIdx j))
        | none => none
      | none => none
      else none
    | none => none
  | _, _ => none
theorem md_popAt : MtD T rPopAt gPopAt := by
  intro N H M α d l x xs z M' Q c r1 r2 h k
  match d, l, h, r1, r2 with
  | .loc n, [.int i], h, r1, r2 =>
    unfold gPopAt at h
    dsimp only at h
    cases q : M[n]? with
    | none => rw [q] at h; cases h
    | some ys =>
      rw [q] at h
      dsimp only at h
      by_cases hi : -1000000 ≤ i ∧ i ≤ 1000000
      case neg => rw [if_neg hi] at h; cases h
      rw [if_pos hi] at h
      cases q3 : seqIndex? i ys.length with
      | none => rw [q3] at h; cases h
      | some j =>
        rw [q3] at h
        dsimp only at h
        cases q2 : ys[j]? with
        | none => rw [q2] at h; cases h
        | some y =>
          rw [q2] at h; cases h
          obtain ⟨a, vs, h1, h2, h3, h4⟩ := loc_rel c r1 q
          obtain ⟨y0, rfl, r0⟩ := rels1 r2
          unfold Rel at r0
          subst r0
          obtain ⟨v, g1, g2⟩ := Rels.get h4 q2
          obtain ⟨c', e'⟩ := c.put h2 q (Rels.eraseIdx j h4)
          exact ⟨a, vs, i, j, v, h1, rfl, h3, by omega, by omega, by rw [← Rels.length h4]; exact q3, g1, k _ _ c' e' (Rel.mono c.sub e' g2)⟩
/-- xs[i] = e -/
def fSetIx (fe fo fi : Sx → R D) : Sx → RS := fun s => (fe s).toS s.ρ fun d M1 => (fo ⟨s.ρ, M1⟩).toS s.ρ fun o M2 => (fi ⟨s.ρ, M2⟩).toS s.ρ fun i M3 => match o, i with
  | .loc n, .int j => match M3[n]? with
    | some xs => match ixN xs.length j with
      | some k => .nx ⟨s.ρ, M3.set n (xs.set k d)⟩
      | none => .no
    | none => .no
  | _, _ => .no
theorem setIx_imp {fe fo fi : Sx → R D} (h : tS T mg W (fSetIx fe fo fi) Dn σ H) : tAsg (tD T mg W fe) (L2.gSub (tD T mg W fo) (tD T mg W fi) rSetL) Dn σ H := by
  obtain ⟨s, α, N, hs, p⟩ := h
  refine ⟨s, α, N, hs, Post.mono (fun v H1 h1 => ?_) (PostS.bind (G := RelD) p)⟩
  obtain ⟨M1, α1, N1, d, s1, e1, g1, p1⟩ := h1
  refine ⟨_, α1, N1, s1, Post.mono (fun o H2 h2 => ?_) (PostS.bind (G := RelD) p1)⟩
  obtain ⟨M2, α2, N2, od, s2, e2, g2, p2⟩ := h2
  refine ⟨_, α2, N2, s2, Post.mono (fun i H3 h3 => ?_) (PostS.bind (G := RelD) p2)⟩
  obtain ⟨M3, α3, N3, id', s3, e3, g3, p3⟩ := h3
  match od, id', p3, g2, g3 with
  | .loc n, .int j, p3, g2, g3 =>
    dsimp only at p3
    cases q : M3[n]? with
    | none => rw [q] at p3; exact p3.elim
    | some xs =>
      rw [q] at p3
      dsimp only at p3
      cases qk : ixN xs.length j with
      | none => rw [qk] at p3; exact p3.elim
      | some k =>
        rw [qk] at p3
        obtain ⟨a, vs, h1, h2, h3, h4⟩ := loc_rel s3.c (Rel.mono s2.c.sub e3 g2) q
        unfold RelD Rel at g3
        have rd : Rel H3 N3 α3 d v := Rel.mono s2.c.sub e3 (Rel.mono s1.c.sub e2 g1)
        obtain ⟨c', e'⟩ := s3.c.put h2 q (Rels.set rd k h4)
        exact ⟨a, vs, j, k, h1, g3, h3, by rw [← Rels.length h4]; exact qk, p3 _ _ α3 N3 (StC.keep s3 c' e') e'⟩

/-! ### slices, + of tuples and lists -/
def dcut (l : List D) (lo hi : Option Int) : List D := (l.drop (HT.sIx l.length 0 lo)).take (HT.sIx l.length l.length hi - HT.sIx l.length 0 lo)
theorem dcut_rel {l : List D} {vs : List V} {lo hi : Option Int} (r : Rels H N α l vs) : Rels H N α (dcut l lo hi) (cutV vs lo hi) := by
  unfold dcut cutV
  rw [Rels.length r]
  exact Rels.take _ (Rels.drop _ r)
def fNoPart : Sx → R (Option Int) := fun s => .ok none s.M
def fPart (f : Sx → R D) : Sx → R (Option Int) := fun s => (f s).bind fun d M => match d with
  | .int i => .ok (some i) M
  | _ => .no
abbrev tO' (T : TPr) (mg : Str → Option Value) (W : WX) (f : Sx → R (Option Int)) : TO := tG T mg RelO W f
theorem noPart_imp {Q : Option Int → Hp → Prop} (h : tO' T mg W fNoPart σ H Q) : tNoPart σ H Q := by
  obtain ⟨s, α, N, hs, p⟩ := h
  exact Post.now p hs rfl
theorem part_imp {f : Sx → R D} {Q : Option Int → Hp → Prop} (h : tO' T mg W (fPart f) σ H Q) : tPart (tD T mg W f) σ H Q := by
  obtain ⟨s, α, N, hs, p⟩ := h
  refine ⟨s, α, N, hs, Post.mono (fun x H1 h1 => ?_) (Post.bind (G := RelD) p)⟩
  obtain ⟨M1, α1, N1, d, s1, e1, g1, p1⟩ := h1
  cases d with
  | int i =>
    unfold RelD Rel at g1
    exact ⟨i, g1, Post.now p1 s1 rfl⟩
  | _ => exact p1.elim
def gCut : Cells → D → Option Int → Option Int → Option D := fun M d lo hi => match seqOf M d with
  | some (true, l) => some (.tup (dcut l lo hi))
  | some (false, l) => some (.lst (dcut l lo hi))
  | none => none
def fSl (fo : Sx → R D) (fl fh : Sx → R (Option Int)) : Sx → R D := fun s => (fo s).bind fun d M1 => (fl ⟨s.ρ, M1⟩).bind fun lo M2 => (fh ⟨s.ρ, M2⟩).bind fun hi M3 => opt (gCut M3 d lo hi) M3
def rSl (K : PySem.W.Frag) : V → Option Int → Option Int → Hp → VK → Prop := fun x lo hi H Q => rSlA K x lo hi H Q ∨ rSlL K x lo hi H Q
theorem whole_cut {vs : List V} {lo hi : Option Int} (h : HT.sIx vs.length 0 lo = 0 ∧ HT.sIx vs.length vs.length hi = vs.length) : cutV vs lo hi = vs := by
  unfold cutV
  rw [h.1, h.2]
  simp
theorem sl_imp {K : PySem.W.Frag} {fo : Sx → R D} {fl fh : Sx → R (Option Int)} {Q : VK} (h : tD T mg W (fSl fo fl fh) σ H Q) : tSl (rSl K) (tD T mg W fo) (tO' T mg W fl) (tO' T mg W fh) σ H Q := by
  obtain ⟨s, α, N, hs, p⟩ := h
  refine ⟨s, α, N, hs, Post.mono (fun x H1 h1 => ?_) (Post.bind (G := RelD) p)⟩
  obtain ⟨M1, α1, N1, d, s1, e1, g1, p1⟩ := h1
  refine ⟨_, α1, N1, s1, Post.mono (fun lo H2 h2 => ?_) (Post.bind (G := RelO) p1)⟩
  obtain ⟨M2, α2, N2, lo', s2, e2, g2, p2⟩ := h2
  refine ⟨_, α2, N2, s2, Post.mono (fun hi H3 h3 => ?_) (Post.bind (G := RelO) p2)⟩
  obtain ⟨M3, α3, N3, hi', s3, e3, g3, p3⟩ := h3
  cases g2
  cases g3
  obtain ⟨z, hz, p4⟩ := p3.opt
  have rd := Rel.mono s2.c.sub e3 (Rel.mono s1.c.sub e2 g1)
  unfold gCut at hz
  cases q : seqOf M3 d with
  | none => rw [q] at hz; cases hz
  | some bl =>
    obtain ⟨b, l⟩ := bl
    rw [q] at hz
    obtain ⟨a, vs, h1, h2, h3, h4⟩ := seq_rel s3.c rd q
    have fin : ∀ o p, H3 p = none → (∀ ps, o ≠ .tbl ps) → Rel (upd H3 p o) N3 α3 z (.ref p) → Q (.ref p) (upd H3 p o) := fun o p hp _ r => p4 _ _ α3 N3 (StC.keep s3 (s3.c.grow (new_keep hp)) (Ext.grow (new_keep hp))) (Ext.grow (new_keep hp)) r
    cases b with
    | true =>
      cases hz
      refine .inl ⟨a, vs, h1, rd_sqT (h2 rfl), fun hw => ?_, fun hw p hp => fin _ p hp (fun _ z => by cases z) (tup_new (dcut_rel h4) s3.c.sub hp)⟩
      refine p4 _ _ α3 N3 s3 Ext.refl ?_
      unfold RelD Rel
      exact ⟨a, vs, rfl, h2 rfl, by rw [← whole_cut hw]; exact dcut_rel h4⟩
    | false =>
      cases hz
      exact .inr ⟨a, vs, h1, .inl (h3 rfl), fun p hp => fin _ p hp (fun _ z => by cases z) (lst_new (dcut_rel h4) s3.c.sub s3.c.som hp)⟩
def gCat : Cells → D → D → Option D := fun M d e => match seqOf M d, seqOf M e with
  | some (true, l), some (true, m) => if l.length + m.length ≤ 100000 then some (.tup (l ++ m)) else none
  | _, _ => none
theorem od_catT {K : PySem.W.Frag} : OpD T (rCatA K) gCat := by
  intro N H M α d e x y z Q c r1 r2 h k
  unfold gCat at h
  split at h
  · rename_i l m q1 q2
    by_cases hl : l.length + m.length ≤ 100000
    · rw [if_pos hl] at h; cases h
      obtain ⟨a, vs, h1, h2, h3, h4⟩ := seq_rel c r1 q1
      obtain ⟨b, ws, i1, i2, i3, i4⟩ := seq_rel c r2 q2
      have l1 := Rels.length h4
      have l2 := Rels.length i4
      refine ⟨a, b, vs, ws, h1, i1, rd_sqT (h2 rfl), rd_sqT (i2 rfl), sz_of (by omega), fun hx => ?_, fun hx hy => ?_, fun hx hy p hp => ?_⟩
      · subst hx
        have e : l = [] := List.eq_nil_of_length_eq_zero l1
        subst e
        exact k _ H c Ext.refl (by unfold Rel; exact ⟨b, ws, rfl, i2 rfl, i4⟩)
      · subst hy
        have e : m = [] := List.eq_nil_of_length_eq_zero l2
        subst e
        exact k _ H c Ext.refl (by unfold Rel; exact ⟨a, vs, rfl, h2 rfl, by rw [List.append_nil]; exact h4⟩)
      · exact k _ _ (c.grow (new_keep hp)) (Ext.grow (new_keep hp)) (tup_new (Rels.append i4 h4) c.sub hp)
    · rw [if_neg hl] at h; cases h
  · cases h
/-- lists that are no locked ones -/
def lstOf (M : Cells) : D → Option (List D)
  | .lst l => some l
  | .loc n => M[n]?
  | _ => none
theorem lst_rel {M : Cells} {d : D} {x : V} {l : List D} (c : StC T N H M α) (r : Rel H N α d x) (h : lstOf M d = some l) : ∃ a vs, x = .ref a ∧ H a = some (.lst vs) ∧ Rels H N α l vs := by
  cases d <;> try (cases h; done)
  · cases h
    unfold Rel at r
    obtain ⟨a, vs, h1, h0, h2, h3⟩ := r
    exact ⟨a, vs, h1, h2, h3⟩
  · obtain ⟨a, vs, h1, _, h3, h4⟩ := loc_rel c r h
    exact ⟨a, vs, h1, h3, h4⟩
def gCatL : Cells → D → D → Option D := fun M d e => match lstOf M d, lstOf M e with
  | some l, some m => if l.length + m.length ≤ 100000 then some (.lst (l ++ m)) else none
  | _, _ => none
theorem od_catL : OpD T rCat gCatL := by
  intro N H M α d e x y z Q c r1 r2 h k
  unfold gCatL at h
  split at h
  · rename_i l m q1 q2
    by_cases hl : l.length + m.length ≤ 100000
    · rw [if_pos hl] at h; cases h
      obtain ⟨a, vs, h1, h2, h3⟩ := lst_rel c r1 q1
      obtain ⟨b, ws, i1, i2, i3⟩ := lst_rel c r2 q2
      have l1 := Rels.length h3
      have l2 := Rels.length i3
      exact ⟨a, b, vs, ws, h1, i1, h2, i2, sz_of (by omega), fun p hp => k _ _ (c.grow (new_keep hp)) (Ext.grow (new_keep hp)) (lst_new (Rels.append i3 h3) c.sub c.som hp)⟩
    · rw [if_neg hl] at h; cases h
  · cases h
end
end DL

namespace DL
open PySem PySem.Spec L2
open PyProof.Rows hiding St

section
variable {X : Cx} {T : TPr} {W : WX} {pos : Pos}
/-! ### the rules, from a piece of syntax to its function on data -/
theorem e_var (i : Nat) {x : Str} (hN : X.N[i]? = some x := by rfl) (hv : Vis X.env.scope x := by first | exact Or.inl rfl | exact Or.inr (Or.inl rfl) | exact Or.inr (Or.inr rfl)) (hd : (x == ("__debug__" : Str)) = false := by decide)
    (hcd : (x == ("__classdict__" : Str)) = false := by decide) : PE X (.Name x pos) (tD T X.mg W (fVar i)) := (pv i hN hv hd hcd).imp fun _ _ _ => var_imp
theorem e_int {i j} : PE X (.Constant (.int i) j pos) (tD T X.mg W (fC (.int i))) := pe_int.imp fun _ _ _ => c_imp fun _ _ _ => rel_int
theorem e_bl {i j} : PE X (.Constant (.bool i) j pos) (tD T X.mg W (fC (.bl i))) := pe_bl.imp fun _ _ _ => c_imp fun _ _ _ => rel_bl
theorem e_str {i j} : PE X (.Constant (.str i) j pos) (tD T X.mg W (fC (.str i))) := pe_str.imp fun _ _ _ => c_imp fun _ _ _ => rel_str
theorem e_non {j} : PE X (.Constant .none j pos) (tD T X.mg W (fC .non)) := pe_non.imp fun _ _ _ => c_imp fun _ _ _ => rel_non
/-- a built-in class as a value, an own class, a def -/
theorem e_ty {x : Str} {n : String} (hg : Gl X x) (hm : X.mg x = none) (hv : bootBuiltins x = some (.type n)) (hn : x ≠ "__name__" := by decide) (hd : (x == ("__debug__" : Str)) = false := by decide) : PE X (.Name x pos) (tD T X.mg W (fC (.ty n))) :=
  (pe_bltn (v := .ty n) hg hm hv rfl hn hd).imp fun _ _ _ => c_imp fun _ _ _ => by unfold Rel; rfl
theorem e_own {x : Str} {a : Addr} (hg : Gl X x) (hm : X.mg x = some (.ref a)) (hd : (x == ("__debug__" : Str)) = false := by decide) : PE X (.Name x pos) (tD T X.mg W (fC (.adr a))) :=
  (pe_glob (v := .ref a) hg hm rfl hd).imp fun _ _ _ => c_imp fun _ _ _ => by unfold Rel; rfl
variable {a b c e : Expr} {es rest : List Expr} {fa fb fc : Sx → R D} {fl : Sx → R (List D)} {ta tb tc : Sx → R Bool}
theorem e_op {op : Operator} {r : R2} {g : Cells → D → D → Option D} (ho : OpR X (binaryOp op) r) (hd : OpD T r g) (ha : PE X a (tD T X.mg W fa)) (hb : PE X b (tD T X.mg W fb)) : PE X (.BinOp a op b pos) (tD T X.mg W (fOp g fa fb)) := (pe_op ho ha hb).imp fun _ _ _ => op_imp hd
theorem e_un {op : UnaryOp} {r : V → Hp → VK → Prop} {g : Cells → D → Option D} (ho : UnR X (unaryOp op) r) (hd : UnD T r g) (ha : PE X a (tD T X.mg W fa)) : PE X (.UnaryOp op a pos) (tD T X.mg W (fUn g fa)) := (pe_un ho ha).imp fun _ _ _ => un_imp hd
theorem e_cmp {op : CmpOp} {r : R2} {g : Cells → D → D → Option D} (ho : OpR X (compareOp op) r) (hd : OpD T r g) (ha : PE X a (tD T X.mg W fa)) (hb : PE X b (tD T X.mg W fb)) (hm : behindInMarks op b = false := by first | exact nomark _ (by decide) (by decide) | rfl) : PE X (.Compare a [op] [b] pos) (tD T X.mg W (fOp g fa fb)) := (pe_cmpR ho ha hb hm).imp fun _ _ _ => op_imp hd
theorem t_cmp {op : CmpOp} {r : R2} {g : Cells → D → D → Option D} (ho : OpR X (compareOp op) r) (hd : OpD T r g) (ha : PE X a (tD T X.mg W fa)) (hb : PE X b (tD T X.mg W fb)) (hm : behindInMarks op b = false := by first | exact nomark _ (by decide) (by decide) | rfl) : PT X (.Compare a [op] [b] pos) (tB' T X.mg W (fTst (fOp g fa fb))) :=
  (pt_cmpR ho ha hb hm).imp fun _ _ _ h => op_imp hd (Q := fun x H' => ∃ k, x = .bl k ∧ _) (tst_imp h)
theorem e_chain {op op' : CmpOp} {r r' : R2} {g g' : Cells → D → D → Option D} (ho : OpR X (compareOp op) r) (hd : OpD T r g) (ho' : OpR X (compareOp op') r') (hd' : OpD T r' g') (ha : PE X a (tD T X.mg W fa)) (hb : PE X b (tD T X.mg W fb)) (hc : PE X c (tD T X.mg W fc)) (hm : lastMarks [op, op'] [b, c] = false := by rfl) :
    PE X (.Compare a [op, op'] [b, c] pos) (tD T X.mg W (fChain g g' fa fb fc)) := (pe_chain ho ho' ha hb hc hm).imp fun _ _ _ => chain_imp hd hd'
theorem t_chain {op op' : CmpOp} {r r' : R2} {g g' : Cells → D → D → Option D} (ho : OpR X (compareOp op) r) (hd : OpD T r g) (ho' : OpR X (compareOp op') r') (hd' : OpD T r' g') (ha : PE X a (tD T X.mg W fa)) (hb : PE X b (tD T X.mg W fb)) (hc : PE X c (tD T X.mg W fc)) (hm : lastMarks [op, op'] [b, c] = false := by rfl) :
    PT X (.Compare a [op, op'] [b, c] pos) (tB' T X.mg W (fTst (fChain g g' fa fb fc))) := (pt_chain ho ho' ha hb hc hm).imp fun _ _ _ h => chain_imp hd hd' (Q := fun x H' => ∃ k, x = .bl k ∧ _) (tst_imp h)
theorem e_and (ha : PE X a (tD T X.mg W fa)) (hb : PE X (.BoolOp .And (b :: rest) pos) (tD T X.mg W fb)) : PE X (.BoolOp .And (a :: b :: rest) pos) (tD T X.mg W (fAndV fa fb)) := (pe_and ha hb).imp fun _ _ _ => andV_imp
theorem e_or (ha : PE X a (tD T X.mg W fa)) (hb : PE X (.BoolOp .Or (b :: rest) pos) (tD T X.mg W fb)) : PE X (.BoolOp .Or (a :: b :: rest) pos) (tD T X.mg W (fOrV fa fb)) := (pe_or ha hb).imp fun _ _ _ => orV_imp
theorem e_one {op} (ha : PE X a (tD T X.mg W fa)) : PE X (.BoolOp op [a] pos) (tD T X.mg W fa) := pe_one ha
theorem e_not (ha : PE X a (tD T X.mg W fa)) : PE X (.UnaryOp .Not a pos) (tD T X.mg W (fNotV fa)) := (pe_not ha).imp fun _ _ _ => notV_imp
theorem e_if (hc : PT X c (tB' T X.mg W tc)) (ha : PE X a (tD T X.mg W fa)) (hb : PE X b (tD T X.mg W fb)) : PE X (.IfExp c a b pos) (tD T X.mg W (fIf tc fa fb)) := (pe_ifExp hc ha hb).imp fun _ _ _ => if_imp
/-- tests -/
theorem t_val (ha : PE X a (tD T X.mg W fa)) (he : ∀ whole, isTrue a X.env whole = (do let v ← whole; standAt a.pos; holding [v] (truthy v)) := by intro _; rfl) : PT X a (tB' T X.mg W (fTst fa)) := (pt_val ha he).imp fun _ _ _ h => tst_imp h
theorem t_not (ha : PT X a (tB' T X.mg W ta)) : PT X (.UnaryOp .Not a pos) (tB' T X.mg W (fNot ta)) := (pt_not ha).imp fun _ _ _ => not_imp
theorem w_and (ha : PT X a (tB' T X.mg W ta)) (hb : PW X (.BoolOp .And (b :: rest) pos) (tB' T X.mg W tb)) : PW X (.BoolOp .And (a :: b :: rest) pos) (tB' T X.mg W (fAnd ta tb)) := L2.PW.imp (pw_and ha hb) fun _ _ _ => and_imp
theorem w_or (ha : PT X a (tB' T X.mg W ta)) (hb : PW X (.BoolOp .Or (b :: rest) pos) (tB' T X.mg W tb)) : PW X (.BoolOp .Or (a :: b :: rest) pos) (tB' T X.mg W (fOr ta tb)) := L2.PW.imp (pw_or ha hb) fun _ _ _ => or_imp
theorem w_and1 (ha : PT X a (tB' T X.mg W ta)) : PW X (.BoolOp .And [a] pos) (tB' T X.mg W ta) := pw_and1 ha
theorem w_or1 (ha : PT X a (tB' T X.mg W ta)) : PW X (.BoolOp .Or [a] pos) (tB' T X.mg W ta) := pw_or1 ha
/-- argument lists, displays -/
theorem a_nil : PA X [] (tL T X.mg W fNil) := pa_nil.imp fun _ _ _ => nil_imp
theorem a_cons (ha : PE X e (tD T X.mg W fa)) (hr : PA X es (tL T X.mg W fl)) (hs : starEach (e :: es) X.env = (false, eval e X.env) :: starEach es X.env := by rfl) : PA X (e :: es) (tL T X.mg W (fCons fa fl)) := (pa_cons ha hr hs).imp fun _ _ _ => cons_imp
theorem e_tup {x1} (h : PA X es (tL T X.mg W fl)) : PE X (.Tuple es x1 pos) (tD T X.mg W (fTup fl)) := (pe_tup h).imp fun _ _ _ => tup_imp
theorem e_lst (h : PA X es (tL T X.mg W fl)) : PE X (.List es pos) (tD T X.mg W (fLst fl)) := (pe_lst h).imp fun _ _ _ => lst_imp
theorem f_lst (h : PA X es (tL T X.mg W fl)) : PE X (.List es pos) (tFL T X.mg W (fNew fl)) := (pe_lst h).imp fun _ _ _ => new_imp
theorem e_fz {f : Sx → R (List D)} (h : PE X e (tFL T X.mg W f)) : PE X e (tD T X.mg W (fFz f)) := h.imp fun _ _ _ => fz_imp
/-- subscripts, slices -/
theorem e_ix (ha : PE X a (tD T X.mg W fa)) (hb : PE X b (tD T X.mg W fb)) (hs : PlainIx b := by exact fun _ _ => rfl) : PE X (.Subscript a b pos) (tD T X.mg W (fOp gIx fa fb)) := (pe_ix ix_seq ha hb hs).imp fun _ _ _ => op_imp od_ix
theorem o_no : PO X none (tO' T X.mg W fNoPart) := ⟨fun pins s σ H Q I h => po_none.run pins s σ H Q I (noPart_imp h)⟩
theorem o_some (ha : PE X a (tD T X.mg W fa)) : PO X (some a) (tO' T X.mg W (fPart fa)) := ⟨fun pins s σ H Q I h => (po_some ha).run pins s σ H Q I (part_imp h)⟩
theorem e_sl {lo hi : Option Expr} {p2 : Pos} {f1 f2 : Sx → R (Option Int)} (ha : PE X a (tD T X.mg W fa)) (hl : PO X lo (tO' T X.mg W f1)) (hh : PO X hi (tO' T X.mg W f2)) : PE X (.Subscript a (.Slice lo hi none p2) pos) (tD T X.mg W (fSl fa f1 f2)) :=
  (pe_slice (sl_tupA.or sl_list) ha hl hh).imp fun _ _ _ => sl_imp
/-- calls of built-ins, of built-in classes -/
theorem e_cb {id : String} {x : Str} {p : Pos} {r : List V → Hp → VK → Prop} {g : Cells → List D → Option D} (hc : CallR X (.builtin id) r) (hd : CbD T r g) (hg : Gl X x) (hm : X.mg x = none) (hv : bootBuiltins x = some (.builtin id)) (ha : PA X (e :: es) (tL T X.mg W fl)) (hn : x ≠ "__name__" := by decide) (hdb : (x == ("__debug__" : Str)) = false := by decide)
    (he : starEach (e :: es) X.env = (false, eval e X.env) :: starEach es X.env := by rfl) (hpl : (backTo pos (starEach es X.env)).any (·.1) = false := by rfl) : PE X (.Call (.Name x p) (e :: es) [] pos) (tD T X.mg W (fCB g fl)) :=
  (pe_callB hc hg hm hv ha hn hdb he hpl).imp fun _ _ _ => cb_imp hd
theorem e_ct {n : String} {x : Str} {p : Pos} {r : List V → Hp → VK → Prop} {g : Cells → List D → Option D} (hc : CallR X (.type n) r) (hd : CbD T r g) (hg : Gl X x) (hm : X.mg x = none) (hv : bootBuiltins x = some (.type n)) (ha : PA X (e :: es) (tL T X.mg W fl)) (hn : x ≠ "__name__" := by decide) (hdb : (x == ("__debug__" : Str)) = false := by decide)
    (he : starEach (e :: es) X.env = (false, eval e X.env) :: starEach es X.env := by rfl) (hpl : (backTo pos (starEach es X.env)).any (·.1) = false := by rfl) : PE X (.Call (.Name x p) (e :: es) [] pos) (tD T X.mg W (fCB g fl)) :=
  (pe_callTy hc hg hm hv ha hn hdb he hpl).imp fun _ _ _ => cb_imp hd
end
/-! ### a def of the text, callable: where it stands and what it promises -/
structure Cal (T : TPr) (P : Program) (w : World) (K : PySem.W.Frag) (mg : Str → Option Value) (base : Heap) (k : Nat) (x : Str) (n : Nat) (fM : List D → Cells → R D) : Prop where
  ex : ∃ (f : Addr) (fd : FuncData) (ps : List Str), mg x = some (.ref f) ∧ PySem.W.keepIn K (.ref f) = true ∧ Binds K fd ps [] ∧ FnOk P w K mg base (L2.CX P w) k f fd ps (spD T mg n fM)
theorem Cal.mono {T : TPr} {P : Program} {w : World} {K : PySem.W.Frag} {mg : Str → Option Value} {base : Heap} {j k : Nat} {x : Str} {n : Nat} {fM : List D → Cells → R D} (c : Cal T P w K mg base j x n fM) (h : j ≤ k) : Cal T P w K mg base k x n fM := by
  obtain ⟨f, fd, ps, h1, h2, h3, h4⟩ := c.ex
  exact ⟨f, fd, ps, h1, h2, h3, h4.mono h⟩
section
variable {X : Cx} {T : TPr} {W : WX} {pos p : Pos} {k n : Nat} {x : Str} {e : Expr} {es : List Expr} {fl : Sx → R (List D)}
/-- what holds around a piece of a def's body -/
structure Bd (X : Cx) (W : WX) (k : Nat) : Prop where
  tk : Takes X W
  rm : Room k X.A
theorem callS_imp {T : TPr} {mg : Str → Option Value} {W : WX} {σ : L2.St} {H : Hp} {n : Nat} {p : List D → Pu} {f : Sx → R (List D)} {Q : VK} (h : tD T mg W (fCall (fun ds => if ds.length = n then p ds else .no) f) σ H Q) : tCallS (spP T mg n p) (WE W) (tL T mg W f) σ H Q := by
  have h2 := call_imp (n := n) (fun ds hd => by by_cases hl : ds.length = n; exact hl; rw [if_neg hl] at hd; exact (hd rfl).elim) h
  obtain ⟨s, α, N, hs, q⟩ := h2
  refine ⟨s, α, N, hs, Post.mono (fun vs H1 h1 => ?_) q⟩
  obtain ⟨ds, M, α1, N1, e1, e2, e3, e4⟩ := h1
  refine ⟨ds, M, α1, N1, e1, e2, e3, ?_⟩
  have : lift (fun ds => if ds.length = n then p ds else .no) ds M = lift p ds M := by unfold lift; cases M <;> simp [e1]
  rw [this] at e4
  exact e4
/-- f(e, ..), a def that has no list of ours in hand -/
theorem e_call {pu : List D → Pu} (B : Bd X W k) (F : Cal T X.prog X.w X.K X.mg X.base k x n (lift pu)) (hn : ∀ ds, pu ds ≠ .no → ds.length = n) (hg : Gl X x) (ha : PA X (e :: es) (tL T X.mg W fl)) (hdb : (x == ("__debug__" : Str)) = false := by decide)
    (he : starEach (e :: es) X.env = (false, eval e X.env) :: starEach es X.env := by rfl) (hpl : (backTo pos (starEach es X.env)).any (·.1) = false := by rfl) : PE X (.Call (.Name x p) (e :: es) [] pos) (tD T X.mg W (fCall pu fl)) := by
  obtain ⟨f, fd, ps, h1, h2, h3, h4⟩ := F.ex
  exact (pe_callS h4 B.rm hg h1 h2 h3 (fun σ => passAt B.tk σ) ha hdb he hpl).imp fun _ _ _ => call_imp hn
/-- f(e, ..), the first argument a list of ours -/
theorem e_callM {fM : List D → Cells → R D} (B : Bd X W k) (F : Cal T X.prog X.w X.K X.mg X.base k x n fM) (hn : ∀ ds M, fM ds M ≠ .no → ds.length = n) (hg : Gl X x) (ha : PA X (e :: es) (tL T X.mg W fl)) (hdb : (x == ("__debug__" : Str)) = false := by decide)
    (he : starEach (e :: es) X.env = (false, eval e X.env) :: starEach es X.env := by rfl) (hpl : (backTo pos (starEach es X.env)).any (·.1) = false := by rfl) : PE X (.Call (.Name x p) (e :: es) [] pos) (tD T X.mg W (fCallM fM fl)) := by
  obtain ⟨f, fd, ps, h1, h2, h3, h4⟩ := F.ex
  exact (pe_callS h4 B.rm hg h1 h2 h3 (fun σ => passAt B.tk σ) ha hdb he hpl).imp fun _ _ _ => callM_imp hn
end
section
variable {X : Cx} {T : TPr} {W : WX} {pos pos' : Pos} {e : Expr} {st : Stmt} {rest sts : List Stmt} {f : Sx → R D} {g h : Sx → RS} {c : Expr} {tc : Sx → R Bool} {body : List Stmt}
/-! ### statements -/
theorem s_nil : PSs X [] (tS T X.mg W fSkip) := pss_nil.imp fun _ _ _ => skip_imp
theorem s_cons (h1 : PS X st (tS T X.mg W g)) (h2 : PSs X rest (tS T X.mg W h)) : PSs X (st :: rest) (tS T X.mg W (fSeq g h)) := (pss_cons h1 h2).imp fun _ _ _ => seq_imp
theorem s_one (h1 : PS X st (tS T X.mg W g)) : PSs X [st] (tS T X.mg W g) := pss_one h1
theorem s_ret (he : PE X e (tD T X.mg W f)) : PS X (.Return (some e) pos) (tS T X.mg W (fRet f)) := (ps_ret he).imp fun _ _ _ => ret_imp
theorem s_retN : PS X (.Return none pos) (tS T X.mg W fRetN) := ps_retN.imp fun _ _ _ => retN_imp
theorem s_expr (he : PE X e (tD T X.mg W f)) (hs : swapsWith e none pos.line X.env = pure false := by rfl) : PS X (.Expr e pos) (tS T X.mg W (fDrop f)) := (ps_expr he hs).imp fun _ _ _ => drop_imp
theorem s_if (hc : PT X c (tB' T X.mg W tc)) (ha : PSs X body (tS T X.mg W g)) (hb : PSs X sts (tS T X.mg W h)) : PS X (.If c body sts pos) (tS T X.mg W (fIfS tc g h)) := (ps_if hc ha hb).imp fun _ _ _ => ifS_imp
theorem s_break : PS X (.Break pos) (tS T X.mg W fBrk) := ps_break.imp fun _ _ _ => brk_imp
theorem s_cont : PS X (.Continue pos) (tS T X.mg W fCnt) := ps_continue.imp fun _ _ _ => cnt_imp
theorem s_pass : PS X (.Pass pos) (tS T X.mg W fSkip) := ps_pass.imp fun _ _ _ => skip_imp
/-- name = value -/
theorem s_set (i : Nat) {x : Str} (hN : X.N.Nodup) (he : PE X e (tD T X.mg W f)) (hi : X.N[i]? = some x := by rfl) (hx : Loc X.env.scope x := by first | exact Or.inl rfl | exact Or.inr rfl) (hs : swapsWith e (some (.Name x pos')) pos.line X.env = pure false := by rfl) (hf : X.fn x = true ∨ X.env.scope.names.lookup x = some .local := by first | exact .inl rfl | exact .inr rfl) :
    PS X (.Assign [.Name x pos'] e pos) (tS T X.mg W (fAsg f (bName i))) := (ps_set hN hi hx he hs hf).imp fun _ _ _ => set_imp
/-- name = a new list of our own -/
theorem s_own (i : Nat) {x : Str} {fl : Sx → R (List D)} (hN : X.N.Nodup) (he : PE X e (tFL T X.mg W fl)) (hi : X.N[i]? = some x := by rfl) (hx : Loc X.env.scope x := by first | exact Or.inl rfl | exact Or.inr rfl) (hs : swapsWith e (some (.Name x pos')) pos.line X.env = pure false := by rfl) (hf : X.fn x = true ∨ X.env.scope.names.lookup x = some .local := by first | exact .inl rfl | exact .inr rfl) :
    PS X (.Assign [.Name x pos'] e pos) (tS T X.mg W (fOwn i fl)) := (ps_set hN hi hx he hs hf).imp fun _ _ _ => own_imp
/-- targets -/
theorem g_name {ws : List Nat} (i : Nat) {x : Str} (hN : X.N.Nodup) (hi : X.N[i]? = some x := by rfl) (hx : Loc X.env.scope x := by first | exact Or.inl rfl | exact Or.inr rfl) (hw : i ∈ ws := by decide) (hf : X.fn x = true ∨ X.env.scope.names.lookup x = some .local := by first | exact .inl rfl | exact .inr rfl) :
    PG X (.Name x pos) (tT T ws (bName i)) := ⟨fun pins s σ H v u Q I r q => (pg_name hN hi hx hf).run pins s σ H v u Q I r (bName_imp hw q)⟩
theorem gs_nil {ws : List Nat} : PGs X [] (tTs T ws bNil) := ⟨fun pins s σ H v u Q I r q => pgs_nil.run pins s σ H v u Q I r (bNil_imp q)⟩
theorem gs_cons {ws : List Nat} {es : List Expr} {g1 : D → Sx → Option Sx} {g2 : List D → Sx → Option Sx} (h1 : PG X e (tT T ws g1)) (h2 : PGs X es (tTs T ws g2)) (hs : (assignEach (e :: es) X.env).map (·.2) = assign e X.env :: (assignEach es X.env).map (·.2) := by rfl) :
    PGs X (e :: es) (tTs T ws (bCons g1 g2)) := ⟨fun pins s σ H v u Q I r q => (pgs_cons h1 h2 hs).run pins s σ H v u Q I r (bCons_imp q)⟩
theorem g_tup {ws : List Nat} {es : List Expr} {k n : Nat} {g2 : List D → Sx → Option Sx} (hc : X.calm = true) (h : PGs X es (tTs T ws g2)) (hn : (assignEach es X.env).length = n := by rfl) (hst : (assignEach es X.env).findIdx? (·.1) = none := by rfl) :
    PG X (.Tuple es k pos) (tT T ws (bTup n g2)) := ⟨fun pins s σ H v u Q I r q => (pg_tup hc h hn hst).run pins s σ H v u Q I r (bTup_imp q)⟩
theorem g_lst {ws : List Nat} {es : List Expr} {k n : Nat} {g2 : List D → Sx → Option Sx} (hc : X.calm = true) (h : PGs X es (tTs T ws g2)) (hn : (assignEach es X.env).length = n := by rfl) (hst : (assignEach es X.env).findIdx? (·.1) = none := by rfl) :
    PG X (.Tuple es k pos) (tT T ws (bLst n g2)) := ⟨fun pins s σ H v u Q I r q => (pg_lst hc h hn hst).run pins s σ H v u Q I r (bLst_imp q)⟩
theorem s_asg {ws : List Nat} {tg : Expr} {g1 : D → Sx → Option Sx} (he : PE X e (tD T X.mg W f)) (hg : PG X tg (tT T ws g1)) (hs : swapsWithSole [tg] e pos.line X.env = pure false := by rfl) (hw : swappedStores [tg] e X.env = pure none := by rfl)
    (h1 : (assignEach [tg] X.env).map (·.2) = [assign tg X.env] := by rfl) : PS X (.Assign [tg] e pos) (tS T X.mg W (fAsg f g1)) := (ps_asg he hg hs hw h1).imp fun _ _ _ => asg_imp
theorem s_par (i j : Nat) {x y : Str} {a b : Expr} {fl : Sx → R (List D)} {px py pt : Pos} {kt k2 pt2} (hc : X.calm = true) (hN : X.N.Nodup) (ha : PA X [a, b] (tL T X.mg W fl)) (hi : X.N[i]? = some x := by rfl) (hj : X.N[j]? = some y := by rfl) (hij : i ≠ j := by decide)
    (hx : X.env.scope.names.lookup x = some .local := by rfl) (hy : X.env.scope.names.lookup y = some .local := by rfl)
    (hw : swappedStores [.Tuple [.Name x px, .Name y py] kt pt] (.Tuple [a, b] k2 pt2) X.env = pure (some [x, y]) := by rfl)
    (hs : swapsWithSole [.Tuple [.Name x px, .Name y py] kt pt] (.Tuple [a, b] k2 pt2) pos.line X.env = pure false := by rfl) :
    PS X (.Assign [.Tuple [.Name x px, .Name y py] kt pt] (.Tuple [a, b] k2 pt2) pos) (tS T X.mg W (fPar i j fl)) := (ps_par hc hN hi hj hij hx hy ha hw hs).imp fun _ _ _ => par_imp
theorem s_aug (i : Nat) {x : Str} {op : Operator} {r : TIp} {gg : Cells → D → D → Option D} (hN : X.N.Nodup) (he : PE X e (tD T X.mg W f)) (ho : PIp X op r) (hd : OpD T r gg) (hi : X.N[i]? = some x := by rfl) (hx : Loc X.env.scope x := by first | exact Or.inl rfl | exact Or.inr rfl) (hf : X.fn x = true ∨ X.env.scope.names.lookup x = some .local := by first | exact .inl rfl | exact .inr rfl) :
    PS X (.AugAssign (.Name x pos') op e pos) (tS T X.mg W (fAug gg i f)) := (ps_aug hN hi hx he ho hf).imp fun _ _ _ => aug_imp hd
theorem s_while (n : Nat) (hp : PassesOwn (model X.prog X.w) X.A X.env X.xe) (hc : PT X c (tB' T X.mg W tc)) (hb : PSs X body (tS T X.mg W g)) : PS X (.While c body [] pos) (tS T X.mg W (fWhile tc g n)) := (ps_while hp hc hb).imp fun _ _ _ => while_imp n
theorem s_for {ws : List Nat} {tg iter : Expr} {fi : Sx → R (List D)} {g1 : D → Sx → Option Sx} (hp : PassesOwn (model X.prog X.w) X.A X.env X.xe) (hc : X.calm = true) (hi : PI X tg iter (tI T X.mg W fi)) (hg : PG X tg (tT T ws g1)) (hb : PSs X body (tS T X.mg W g))
    (hs : ∀ x, foldedSetIterable iter X.env x = pure x := by intro _; rfl) : PS X (.For tg iter body [] pos) (tS T X.mg W (fFor fi g1 g)) := (ps_for hp hc hi hg hb hs).imp fun _ _ _ => for_imp
/-- what a loop walks -/
theorem i_lst {tg : Expr} (h : PE X e (tD T X.mg W f)) : PI X tg e (tI T X.mg W (fIt asLst f)) := ⟨fun pins s σ H R I q => (pi_list h).run pins s σ H R I (itl_imp q)⟩
theorem i_tup {tg : Expr} (h : PE X e (tD T X.mg W f)) : PI X tg e (tI T X.mg W (fIt asTup f)) := ⟨fun pins s σ H R I q => (pi_tup h).run pins s σ H R I (itt_imp q)⟩
theorem i_rg1 {tg a : Expr} {p : Pos} {fl : Sx → R (List D)} (hg : Gl X "range") (hm : X.mg "range" = none) (ha : PA X [a] (tL T X.mg W fl)) (hs : starEach [a] X.env = [(false, eval a X.env)] := by rfl) : PI X tg (.Call (.Name "range" p) [a] [] pos) (tI T X.mg W (fIts asRg1 fl)) :=
  ⟨fun pins s σ H R I q => (pi_range1 hg hm ha hs).run pins s σ H R I (rg1_imp q)⟩
theorem i_rg2 {tg a b : Expr} {p : Pos} {fl : Sx → R (List D)} (hg : Gl X "range") (hm : X.mg "range" = none) (ha : PA X [a, b] (tL T X.mg W fl)) (hs : starEach [a, b] X.env = [(false, eval a X.env), (false, eval b X.env)] := by rfl) (hs2 : starEach [b] X.env = [(false, eval b X.env)] := by rfl) : PI X tg (.Call (.Name "range" p) [a, b] [] pos) (tI T X.mg W (fIts asRg2 fl)) :=
  ⟨fun pins s σ H R I q => (pi_range2 hg hm ha hs hs2).run pins s σ H R I (rg2_imp q)⟩
/-- raise X('..') -/
theorem s_raise {x m : Str} {C : Addr} {j : Nat} {p p2 p3 : Pos} (hc : X.calm = true) (tk : Takes X W) (q : PySem.W.excIn X.K C [.type "ValueError", .type "Exception", .type "BaseException", .type "object"] "ValueError.__new__" = true) (gC : X.mg x = some (.ref C)) (kC : PySem.W.keepIn X.K (.ref C) = true) (r : Raises X (.ref C)) (hg : Gl X x)
    (hdb : (x == ("__debug__" : Str)) = false := by decide) : PS X (.Raise (some (.Call (.Name x p) [.Constant (.str m) j p2] [] p3)) none pos) (tS T X.mg W (fRaise x)) :=
  (ps_raise hc tk (pmk_own PySem.F.excBase_ValueError q gC kC r hg hdb)).imp fun _ _ _ => raise_imp gC
/-- o[i] = e -/
theorem s_setIx {o i : Expr} {fo fi : Sx → R D} {p2 : Pos} (he : PE X e (tD T X.mg W f)) (ho : PE X o (tD T X.mg W fo)) (hi : PE X i (tD T X.mg W fi))
    (ha : ∀ v, assign (.Subscript o i p2) X.env v = (do
      let ov ← holding [v] (eval o X.env)
      let iv ← holding [v, ov] (eval i X.env)
      standAt p2
      holding [v, ov, iv] (setItem ov iv v)
      release [v, ov, iv] []) := by intro _; rfl) (hs : swapsWithSole [.Subscript o i p2] e pos.line X.env = pure false := by rfl) (hw : swappedStores [.Subscript o i p2] e X.env = pure none := by rfl)
    (h1 : (assignEach [.Subscript o i p2] X.env).map (·.2) = [assign (.Subscript o i p2) X.env] := by rfl) : PS X (.Assign [.Subscript o i p2] e pos) (tS T X.mg W (fSetIx f fo fi)) :=
  (ps_asg he (pg_sub ho hi set_list ha) hs hw h1).imp fun _ _ _ => setIx_imp
/-- methods of lists -/
theorem e_mt {id : String} {name : Str} {o a : Expr} {es : List Expr} {apos : Pos} {r : V → List V → Hp → VK → Prop} {gm : Cells → D → List D → Option (D × Cells)} {fo : Sx → R D} {fl : Sx → R (List D)} (slot : Slot "list" name id) (hty : typeOf (.builtin id) = pure (.type "method_descriptor")) (hm : MtR X id r) (hd : MtD T r gm) (ho : PE X o (tD T X.mg W fo)) (ha : PA X (a :: es) (tL T X.mg W fl))
    (hbase : attributeBase o name X.env (eval o X.env) = eval o X.env := by rfl)
    (hfew : ((backTo pos (starEach (a :: es) X.env)).all (fun x => !x.1) && (backToKw pos (keywordEach [] X.env)).all (fun x => x.1.isSome)
      && decide ((a :: es).length + ([] : List Keyword).length + (if ([] : List Keyword).isEmpty then 0 else 1) < 30)) = true := by rfl)
    (hline : (apos.endLine == pos.line) = true := by rfl) (hs : starEach (a :: es) X.env = (false, eval a X.env) :: starEach es X.env := by rfl) (hplain : (backTo pos (starEach es X.env)).any (·.1) = false := by rfl) :
    PE X (.Call (.Attribute o name apos) (a :: es) [] pos) (tD T X.mg W (fMt gm fo fl)) := (pe_bm PySem.F.plainAttrs_list slot hty hm ho ha hbase hfew hline hs hplain).imp fun _ _ _ => mt_imp hd
theorem e_mt0 {id : String} {name : Str} {o : Expr} {apos : Pos} {r : V → List V → Hp → VK → Prop} {gm : Cells → D → List D → Option (D × Cells)} {fo : Sx → R D} (slot : Slot "list" name id) (hty : typeOf (.builtin id) = pure (.type "method_descriptor")) (hm : MtR X id r) (hd : MtD T r gm) (ho : PE X o (tD T X.mg W fo))
    (hbase : attributeBase o name X.env (eval o X.env) = eval o X.env := by rfl) (hline : (apos.endLine == pos.line) = true := by rfl) :
    PE X (.Call (.Attribute o name apos) [] [] pos) (tD T X.mg W (fMt gm fo fNil)) := (pe_bm0 PySem.F.plainAttrs_list slot hty hm ho hbase hline).imp fun _ _ _ => mt0_imp hd
/-- list comprehensions -/
theorem f_lc {elt tg iter : Expr} {ifs : List Expr} {scope : Scope} {own : List (Str × Nat)} {fi : Sx → R (List D)} {g1 : D → Sx → Option Sx} {ft : Sx → R Bool} {fe : Sx → R D} (hc : X.calm = true) (hN : X.N.Nodup) (hi : PI X tg iter (tI T X.mg W fi)) (ok : BlkOk X.N X.env.scope scope own)
    (hg : ∀ (s : Shared) (H : Hp) (C : Addr) (cl : List (Str × Addr)) (fp : List Addr), PG (X.blk s H scope (compEnvC scope cl C X.env) fp) tg (tT T (own.map (·.2)) g1)) (ht : ∀ (s : Shared) (H : Hp) (C : Addr) (cl : List (Str × Addr)) (fp : List Addr), PTs (X.blk s H scope (compEnvC scope cl C X.env) fp) ifs (tB' T X.mg W0 ft))
    (he : ∀ (s : Shared) (H : Hp) (C : Addr) (cl : List (Str × Addr)) (fp : List Addr), PE (X.blk s H scope (compEnvC scope cl C X.env) fp) elt (tD T X.mg W0 fe)) (hs : ∀ x, foldedSetIterable iter X.env x = pure x := by intro _; rfl) :
    PE X (.ListComp elt [⟨tg, iter, ifs, 0⟩] scope pos) (tFL T X.mg W (fLc fi g1 ft fe (own.map (·.2)))) := (pe_lc hc hN hi ok hg ht he hs).imp fun _ _ _ => lc_imp
theorem ts_nil : PTs X [] (tB' T X.mg W fTrue) := ⟨fun pins s σ H Q I h => pts_nil.run pins s σ H Q I (true_imp h)⟩
theorem ts_one {c : Expr} {ft : Sx → R Bool} (h : PT X c (tB' T X.mg W ft)) : PTs X [c] (tB' T X.mg W ft) := pts_one h
end
end DL

namespace DL
open PySem PySem.Spec L2
open PyProof.Rows hiding St

/-! ### around a body -/
theorem Bd.hu {X : Cx} {W : WX} {k : Nat} (B : Bd X W k) : X.A.units + 64 < cLine := B.rm.units
theorem Bd.hu5 {X : Cx} {W : WX} {k : Nat} (B : Bd X W k) : X.A.units + 65 < cLine := by have := B.rm.un; omega
theorem Bd.blk {X : Cx} {W : WX} {k : Nat} (B : Bd X W k) {s : Shared} {H : Hp} {scope : Scope} {cenv : Env} {fp : List Addr} : Bd (X.blk s H scope cenv fp) W0 k :=
  ⟨fun _ _ x => by obtain ⟨_, _, _, _, _, _, _, _, _, _, _, _, _, _, _, _, z⟩ := x; exact z.elim, B.rm⟩
/-- an own error's class without an own __init__ -/
structure ExC (K : PySem.W.Frag) (mg : Str → Option Value) (x : Str) : Prop where
  ex : ∃ C, mg x = some (.ref C) ∧ PySem.W.excIn K C [.type "ValueError", .type "Exception", .type "BaseException", .type "object"] "ValueError.__new__" = true ∧ PySem.W.keepIn K (.ref C) = true ∧ PySem.W.subIn K (.ref C) (.type "BaseException") = some true ∧ PySem.W.typeIn K (.ref C) = some (.type "type")
theorem s_raiseE {X : Cx} {T : TPr} {W : WX} {k : Nat} {x m : Str} {j : Nat} {pos p p2 p3 : Pos} (B : Bd X W k) (Z : ExC X.K X.mg x) (hg : Gl X x) (hc : X.calm = true := by rfl) (hdb : (x == ("__debug__" : Str)) = false := by decide) :
    PS X (.Raise (some (.Call (.Name x p) [.Constant (.str m) j p2] [] p3)) none pos) (tS T X.mg W (fRaise x)) := by
  obtain ⟨C, h1, h2, h3, h4, h5⟩ := Z.ex
  exact s_raise hc B.tk h2 h1 h3 (raises_own h4 h5) hg hdb
section
variable {T : TPr} {mg : Str → Option Value} {W : WX} {σ : L2.St} {H : Hp} {N : Addr → Prop} {α : List Addr} {Dn : Ends}
/-! ### isinstance -/
def isiD (d : D) (n : String) : Option Bool := match d with
  | .adr _ => none
  | .ty _ => none
  | .tup _ => if n = "tuple" then some true else if n = "int" then some false else if n = "bool" then some false else none
  | .int _ => if n = "tuple" then some false else if n = "int" then some true else if n = "bool" then some false else none
  | .bl _ => if n = "tuple" then some false else if n = "int" then some true else if n = "bool" then some true else none
  | _ => if n = "tuple" then some false else if n = "int" then some false else if n = "bool" then some false else none
def gIsi : Cells → List D → Option D := fun _ l => match l with
  | [d, .ty n] => (isiD d n).map .bl
  | _ => none
def tyName : D → String
  | .non => "NoneType"
  | .bl _ => "bool"
  | .int _ => "int"
  | .str _ => "str"
  | .tup _ => "tuple"
  | _ => "list"
theorem isi_kit {d : D} {n : String} {b : Bool} (h : isiD d n = some b) : kitB (tyName d) n = some b := by
  have k : ∀ a, a = "NoneType" ∨ a = "bool" ∨ a = "int" ∨ a = "str" ∨ a = "tuple" ∨ a = "list" → (kitB a "tuple" = some (decide (a = "tuple")) ∧ kitB a "int" = some (decide (a = "int" ∨ a = "bool")) ∧ kitB a "bool" = some (decide (a = "bool"))) := by
    intro a h
    rcases h with rfl | rfl | rfl | rfl | rfl | rfl <;> decide +kernel
  have go : ∀ a (x y z : Bool), (a = "NoneType" ∨ a = "bool" ∨ a = "int" ∨ a = "str" ∨ a = "tuple" ∨ a = "list") → decide (a = "tuple") = x → decide (a = "int" ∨ a = "bool") = y → decide (a = "bool") = z → (if n = "tuple" then some x else if n = "int" then some y else if n = "bool" then some z else none) = some b → kitB a n = some b := by
    intro a x y z ha h1 h2 h3 h
    obtain ⟨k1, k2, k3⟩ := k a ha
    by_cases n1 : n = "tuple"
    · rw [if_pos n1] at h; rw [n1, k1, h1]; exact h
    · rw [if_neg n1] at h
      by_cases n2 : n = "int"
      · rw [if_pos n2] at h; rw [n2, k2, h2]; exact h
      · rw [if_neg n2] at h
        by_cases n3 : n = "bool"
        · rw [if_pos n3] at h; rw [n3, k3, h3]; exact h
        · rw [if_neg n3] at h; cases h
  cases d
  case adr => cases h
  case ty => cases h
  case non => exact go "NoneType" false false false (by decide) (by decide) (by decide) (by decide) h
  case bl => exact go "bool" false true true (by decide) (by decide) (by decide) (by decide) h
  case int => exact go "int" false true false (by decide) (by decide) (by decide) (by decide) h
  case str => exact go "str" false false false (by decide) (by decide) (by decide) (by decide) h
  case tup => exact go "tuple" true false false (by decide) (by decide) (by decide) (by decide) h
  all_goals exact go "list" false false false (by decide) (by decide) (by decide) (by decide) h
theorem isi_ty {K : PySem.W.Frag} {M : Cells} {d : D} {x : V} {n : String} {b : Bool} (c : StC T N H M α) (r : Rel H N α d x) (h : isiD d n = some b) : TyX K H x (.type (tyName d)) := by
  cases d
  case adr => cases h
  case ty => cases h
  case non => unfold Rel at r; rw [r]; exact .base .non
  case bl => unfold Rel at r; rw [r]; exact .base (.bl _)
  case int => unfold Rel at r; rw [r]; exact .base (.int _)
  case str => unfold Rel at r; rw [r]; exact .base (.str _)
  case tup => unfold Rel at r; obtain ⟨a, vs, h1, h2, h3⟩ := r; rw [h1]; exact .base (.tup h2)
  case lst => unfold Rel at r; obtain ⟨a, vs, h1, h0, h2, h3⟩ := r; rw [h1]; exact .base (.lst h2)
  case scr => unfold Rel at r; obtain ⟨a, o, vs, h1, h2, h3⟩ := r; rw [h1]; exact .base (.frz h2)
  case loc m =>
    unfold Rel at r; obtain ⟨a, h1, h2⟩ := r
    have hlt : m < M.length := by rw [← c.len]; exact (List.getElem?_eq_some_iff.mp h2).1
    obtain ⟨a', vs, e1, e2, e3⟩ := c.cel m M[m] (by simp [hlt])
    rw [h2] at e1; cases e1
    rw [h1]; exact .base (.lst e2)
theorem cd_isi {K : PySem.W.Frag} : CbD T (rIsi K) gIsi := by
  intro N H M α l xs z Q c r h k
  match l, h, r with
  | [d, .ty n], h, r =>
    obtain ⟨x, y, rfl, r1, r2⟩ := rels2 r
    unfold Rel at r2
    unfold gIsi at h
    dsimp only at h
    cases q : isiD d n with
    | none => rw [q] at h; cases h
    | some b =>
      rw [q] at h; cases h
      exact ⟨x, y, .type (tyName d), .type n, b, rfl, by rw [r2]; exact .ty n, isi_ty c r1 q, kit_ty (isi_kit q), k _ H c Ext.refl rel_bl⟩
/-! ### is, is not of bools -/
def gIsB : Cells → D → D → Option D := fun _ d e => match d, e with
  | .bl a, .bl b => some (.bl (decide (a = b)))
  | _, _ => none
def gNotB : Cells → D → D → Option D := fun _ d e => match d, e with
  | .bl a, .bl b => some (.bl (!decide (a = b)))
  | _, _ => none
theorem od_isB : OpD T rIsB gIsB := by
  intro N H M α d e x y z Q c r1 r2 h k
  cases d <;> cases e <;> try (cases h; done)
  unfold Rel at r1 r2
  cases h
  exact ⟨_, _, r1, r2, k _ H c Ext.refl rel_bl⟩
theorem od_notB : OpD T rNotB gNotB := by
  intro N H M α d e x y z Q c r1 r2 h k
  cases d <;> cases e <;> try (cases h; done)
  unfold Rel at r1 r2
  cases h
  exact ⟨_, _, r1, r2, k _ H c Ext.refl rel_bl⟩
/-! ### powers, op= -/
abbrev nPow := gIc (fun i j => decide (0 ≤ j) && decide (j ≤ 1000000) && decide (i.natAbs < 2 ^ 64)) fun i j => .int (i ^ j.toNat)
theorem od_pow : OpD T (rI CPow fun i j => .int (i ^ j.toNat)) nPow := od_Ic (fun i j h => by
  simp only [Bool.and_eq_true, decide_eq_true_eq] at h
  exact ⟨h.1.1, h.1.2, h.2⟩) fun _ _ _ _ _ => rel_int
theorem od_ipadd : OpD T (ipI fun i j => i + j) nAdd := by
  intro N H M α d e x y z Q c r1 r2 h k
  cases d <;> cases e <;> try (cases h; done)
  unfold Rel at r1 r2
  cases h
  exact ⟨_, _, r1, r2, k _ H c Ext.refl rel_int⟩
theorem od_ipsub : OpD T (ipI fun i j => i - j) nSub := by
  intro N H M α d e x y z Q c r1 r2 h k
  cases d <;> cases e <;> try (cases h; done)
  unfold Rel at r1 r2
  cases h
  exact ⟨_, _, r1, r2, k _ H c Ext.refl rel_int⟩
/-! ### in, not in a list -/
def dIn (M : Cells) (d e : D) : Option Bool := match pyAt M d, pyAt M e with
  | some p, some (.list qs) => if SeqAt.shaped p && SeqAt.shaped (.list qs) then some (qs.any fun z => PyData.eqv z p) else none
  | _, _ => none
def gIn : Cells → D → D → Option D := fun M d e => (dIn M d e).map .bl
def gNotIn : Cells → D → D → Option D := fun M d e => (dIn M d e).map fun b => .bl (!b)
theorem dIn_some {M : Cells} {d e : D} {b : Bool} (h : dIn M d e = some b) : ∃ p qs, pyAt M d = some p ∧ pyAt M e = some (.list qs) ∧ SeqAt.shaped p = true ∧ SeqAt.shaped (.list qs) = true ∧ b = qs.any fun z => PyData.eqv z p := by
  unfold dIn at h
  split at h
  · rename_i p qs q1 q2
    by_cases hs : (SeqAt.shaped p && SeqAt.shaped (.list qs)) = true
    · rw [if_pos hs] at h
      obtain ⟨s1, s2⟩ := Bool.and_eq_true_iff.mp hs
      exact ⟨p, qs, q1, q2, s1, s2, (Option.some.inj h).symm⟩
    · rw [if_neg hs] at h; cases h
  · cases h
theorem od_in {K : PySem.W.Frag} : OpD T (rInD K) gIn := by
  intro N H M α d e x y z Q c r1 r2 h k
  unfold gIn at h
  cases q : dIn M d e with
  | none => rw [q] at h; cases h
  | some b =>
    rw [q] at h; cases h
    obtain ⟨p, qs, h1, h2, s1, s2, rfl⟩ := dIn_some q
    exact ⟨p, qs, pyAt_rel c r1 h1, pyAt_rel c r2 h2, s1, s2, k _ H c Ext.refl rel_bl⟩
theorem od_notIn {K : PySem.W.Frag} : OpD T (rNotInD K) gNotIn := by
  intro N H M α d e x y z Q c r1 r2 h k
  unfold gNotIn at h
  cases q : dIn M d e with
  | none => rw [q] at h; cases h
  | some b =>
    rw [q] at h; cases h
    obtain ⟨p, qs, h1, h2, s1, s2, rfl⟩ := dIn_some q
    exact ⟨p, qs, pyAt_rel c r1 h1, pyAt_rel c r2 h2, s1, s2, k _ H c Ext.refl rel_bl⟩
/-- list(x) -/
def gListOf : Cells → List D → Option D := fun M l => match l with
  | [d] => (seqOf M d).map fun p => .lst p.2
  | _ => none
theorem cd_listOf {K : PySem.W.Frag} : CbD T (fun xs H Q => ∃ p ys, xs = [.ref p] ∧ (SqL K H p ys ∨ SqT K H p ys) ∧ ∀ l, H l = none → Q (.ref l) (upd H l (.lst ys))) gListOf := by
  intro N H M α l xs z Q c r h k
  match l, h, r with
  | [d], h, r =>
    obtain ⟨x, rfl, r1⟩ := rels1 r
    unfold gListOf at h
    cases q : seqOf M d with
    | none => simp [q] at h
    | some p =>
      obtain ⟨b, l⟩ := p
      simp only [q, Option.map_some] at h
      cases h
      obtain ⟨a, vs, h1, h2, h3, h4⟩ := seq_rel c r1 q
      exact ⟨a, vs, by rw [h1], seq_sq h2 h3, fun p hp => k _ _ (c.grow (new_keep hp)) (Ext.grow (new_keep hp)) (lst_new h4 c.sub c.som hp)⟩
  | [], h, _ => cases h
  | _ :: _ :: _, h, _ => cases h
end
/-- a, b, c = x, y, z -/
def fPar3 (i j m : Nat) (f : Sx → R (List D)) : Sx → RS := fun s => (f s).toS s.ρ fun l M => match l with
  | [d, e, g] => .nx ⟨((s.ρ.set i (some d)).set j (some e)).set m (some g), M⟩
  | _ => .no
/-- name = [..] on one line -/
theorem s_setLc {X : Cx} {T : TPr} {W : WX} (i : Nat) {y : Str} {py pos spos : Pos} {elt tg iter : Expr} {ifs : List Expr} {scope : Scope} {own : List (Str × Nat)} {fi : Sx → R (List D)} {g1 : D → Sx → Option Sx} {ft : Sx → R Bool} {fe : Sx → R D} (hc : X.calm = true) (hN : X.N.Nodup) (hi : PI X tg iter (tI T X.mg W fi)) (ok : BlkOk X.N X.env.scope scope own)
    (hg : ∀ (s : Shared) (H : Hp) (C : Addr) (cl : List (Str × Addr)) (fp : List Addr), PG (X.blk s H scope (compEnvC scope cl C X.env) fp) tg (tT T (own.map (·.2)) g1)) (ht : ∀ (s : Shared) (H : Hp) (C : Addr) (cl : List (Str × Addr)) (fp : List Addr), PTs (X.blk s H scope (compEnvC scope cl C X.env) fp) ifs (tB' T X.mg W0 ft))
    (he : ∀ (s : Shared) (H : Hp) (C : Addr) (cl : List (Str × Addr)) (fp : List Addr), PE (X.blk s H scope (compEnvC scope cl C X.env) fp) elt (tD T X.mg W0 fe)) (hy : X.N[i]? = some y := by rfl) (hyl : X.env.scope.names.lookup y = some .local := by rfl)
    (hsw : swapsWith (.ListComp elt [⟨tg, iter, ifs, 0⟩] scope pos) (some (.Name y py)) spos.line X.env = pure true := by exact sw_true rfl rfl rfl (by decide +kernel)) (hs : ∀ x, foldedSetIterable iter X.env x = pure x := by intro _; rfl) :
    PS X (.Assign [.Name y py] (.ListComp elt [⟨tg, iter, ifs, 0⟩] scope pos) spos) (tS T X.mg W (fAsg (fFz (fLc fi g1 ft fe (own.map (·.2)))) (bName i))) :=
  (ps_setLc hc hN hy hyl hsw hi ok hg ht he hs).imp fun D σ H h => by
    have h2 := set_imp h
    exact lc_imp (fz_imp h2)

/-! ### sorted -/
section
variable {prog : Program} {w : World} {A : Around} {E : Value → Shared → Prop} {s : Shared}
theorem collectT {t : Addr} {us : List Value} {Q : List Value → Shared → Prop} (ht : IsTup s.heap t us.toArray) (hsz : us.length ≤ sizeLine)
    (h : Q us { s with heap := (s.heap.push (PyProof.Rows.seqObj "list" #[] 0)).update s.heap.objs.size (Obj.mapSeq (· ++ us.toArray)) }) : wpAny (model prog w) A (collect (.ref t)) Q E s := by
  obtain ⟨ob, hob, hcl, m, hdt⟩ := id ht
  have hob2 : (s.heap.push (PyProof.Rows.seqObj "list" #[] 0)).get? t = some ob := Heap.get?_push_of_some _ hob
  have hnew : (s.heap.push (PyProof.Rows.seqObj "list" #[] 0)).get? s.heap.objs.size = some (PyProof.Rows.seqObj "list" #[] 0) := Heap.get?_push_size _ rfl
  unfold collect
  refine wpAny_bind (wpAny_runValue (codeAny_builtin PyProof.Rows.entry_proto_collect' ?_))
  show wpAny (model prog w) _ (do again (.builtin "list.__iadd__" ⟨[← newList [], .ref t], []⟩)) _ _ s
  refine wpAny_bind (wpAny_newList (wpAny_pure ⟨Code.quiet_builtin _ (by decide +kernel), codeAny_builtin PyProof.Rows.entry_list_iadd' ?_⟩))
  show wpAny (model prog w) _ (Builtin.List.listExtendWith (.ref s.heap.objs.size) (.ref t) (.ref s.heap.objs.size)) _ _ { s with heap := s.heap.push (PyProof.Rows.seqObj "list" #[] 0) }
  unfold Builtin.List.listExtendWith
  refine wpAny_bind (wpAny_typeOf (T := "tuple") ⟨ob, hob2, hcl⟩ ?_)
  have h2 : (Value.type "tuple" == Value.type "tuple") = true := by rfl
  rw [if_pos (by rw [h2]; simp)]
  refine wpAny_bind (PyProof.Rows.listItems_at hob2 hdt (wpAny_bind (PyProof.Rows.listItems_at (xs := #[]) (n := 0) hnew rfl ?_)))
  rw [if_neg (by simp)]
  refine wpAny_bind (PyProof.Rows.listUpdate_at (xs := #[]) (n := 0) hnew rfl (wpAny_pure ?_) (Nat.zero_le _) (by simp only [Array.size_append, List.size_toArray, List.length_nil]; omega))
  show wpAny (model prog w) A (do
      let u ← load s.heap.objs.size
      match u.data with
      | .seq zs _ => pure zs.toList
      | _ => unsupported "internal:collect") Q E { s with heap := (s.heap.push (PyProof.Rows.seqObj "list" #[] 0)).update s.heap.objs.size (Obj.mapSeq (· ++ us.toArray)) }
  refine wpAny_bind (wpAny_load (PyProof.Rows.get?_update_seq hnew _) ?_)
  show wpAny (model prog w) _ (pure ((#[] : Array Value) ++ us.toArray).toList) Q E _
  rw [show ((#[] : Array Value) ++ us.toArray).toList = us by simp]
  exact wpAny_pure h
theorem sortedT {t : Addr} {vs : List Value} {β : Type} {bs : List β} {enc : β → PyData} {R : Value → β → Prop} {Q : Value → Shared → Prop} (ht : IsTup s.heap t vs.toArray) (e : PySem.W.EachIs R vs bs) (er : PySem.W.EachIs (fun v b => ∃ as, Reads s.heap v (enc b) as) vs bs) (hal : PySem.W.AllAlike (bs.map enc)) (hk : PySem.W.Sortable (bs.map enc))
    (hL : bs.length ≤ sizeLine) (hu : ∀ b, b ∈ bs → A.units + 2 + (enc b).depth < cLine) (h : ∀ out, out.length = bs.length → PySem.W.EachIs R out (bs.mergeSort (PySem.W.dataLe false enc)) → Q (.ref (s.heap.objs.size + 1)) { s with heap := PyProof.Rows.sortedAll s.heap vs (List.toArray out) }) :
    wpAny (model prog w) A (call (.builtin "sorted") [.ref t]) Q E s := by
  have hL2 : vs.length ≤ sizeLine := by rw [e.length]; exact hL
  have er' : PySem.W.EachIs (fun v b => ∃ as, Reads (PySem.W.sortingHeap (PySem.W.copyHeap s.heap vs) (s.heap.objs.size + 1) vs) v (enc b) as) vs bs := er.mono fun _ _ ⟨as, r⟩ => ⟨as, PyProof.Rows.Reads.keeps (fun _ _ => PySem.W.sorting_copy_old) r⟩
  have S := PySem.W.SortsAt.data (prog := prog) (w := w) (A := A.in1.in1) (s := { s with heap := PySem.W.sortingHeap (PySem.W.copyHeap s.heap vs) (s.heap.objs.size + 1) vs }) (PySem.W.each_map (R := fun v d => ∃ as, Reads (PySem.W.sortingHeap (PySem.W.copyHeap s.heap vs) (s.heap.objs.size + 1) vs) v d as) enc er') hal hk (PySem.W.bound_map hu)
  have fin := h _ (by rw [PySem.W.sortVals_length false rfl]; exact e.length) (PySem.W.sortVals_data false e er' hal)
  refine PyProof.Rows.call_function_entry_kw PyProof.Rows.kind_sorted PyProof.Rows.plain_sorted PyProof.Rows.entry_sorted (PyProof.Rows.args_sorted1 _) ?_
  unfold Builtin.«sorted»
  refine wpAny_bind (m := checkCount "sorted" 1 1 _) (wpAny_pure (wpAny_bind (collectT ht hL2 (wpAny_bind (wpAny_newList ?_ hL2)))))
  have hsz : ((s.heap.push (PyProof.Rows.seqObj "list" #[] 0)).update s.heap.objs.size (Obj.mapSeq (· ++ vs.toArray))).objs.size = s.heap.objs.size + 1 := by rw [Heap.size_update, PyProof.Rows.size_push']
  show wpAny (model prog w) _ _ _ _ { s with heap := PySem.W.copyHeap s.heap vs }
  rw [hsz]
  refine wpAny_bind (wpAny_holding (PyProof.Rows.wpAny_call_entry_kw PyProof.Rows.slot_list_sort ⟨_, PySem.W.copyHeap_at s.heap vs, rfl⟩ PyProof.Rows.entry_list_sort ?body (PyProof.Rows.args_list_sort _)))
  case body =>
    show wpAny (model prog w) A.in1.in1 (Builtin.«list.sort» ⟨[.ref (s.heap.objs.size + 1)], []⟩) _ _ _
    exact PySem.W.list_sort_vals (s := { s with heap := PySem.W.copyHeap s.heap vs }) (PySem.W.copyHeap_at s.heap vs) S hL2 ⟨_, rfl, wpAny_pure ⟨_, rfl, fin⟩⟩
end
end DL

namespace DL
open PySem PySem.Spec L2
open PyProof.Rows hiding St

theorem each_of_paired {β : Type} : ∀ {zs : List (V × β)} {us : List Value}, Vals (zs.map (·.1)) us → PySem.W.EachIs (fun u (z : V × β) => RelV z.1 u) us zs
  | [], _, h => by cases h; exact .nil
  | z :: zs, _, h => by
    cases h with
    | cons a t => exact .cons a (each_of_paired t)
theorem paired_of_each {β : Type} : ∀ {zs : List (V × β)} {us : List Value}, PySem.W.EachIs (fun u (z : V × β) => RelV z.1 u) us zs → Vals (zs.map (·.1)) us
  | [], _, h => by cases h; exact .nil
  | z :: zs, _, h => by
    cases h with
    | cons a t => exact .cons a (paired_of_each t)
/-- sorted(xs), sorted(t): the items read as data -/
def rSortedD (K : PySem.W.Frag) : List V → Hp → VK → Prop := fun vs H Q => ∃ (a : Addr) (β : Type) (zs : List (V × β)) (enc : β → PyData), vs = [V.ref a] ∧ (SqL K H a (zs.map (·.1)) ∨ SqT K H a (zs.map (·.1))) ∧
  DpAll K H (zs.map (·.1)) (zs.map fun z => enc z.2) ∧ PySem.W.AllAlike (zs.map fun z => enc z.2) ∧ PySem.W.Sortable (zs.map fun z => enc z.2) ∧ (∀ z ∈ zs, (enc z.2).depth ≤ 60) ∧
  ∀ p, H p = none → Q (.ref p) (upd H p (.lst ((zs.mergeSort (PySem.W.dataLe false fun z => enc z.2)).map (·.1))))
theorem cr_sortedD {X : Cx} (hu : X.A.units + 64 < cLine) : CallR X (.builtin "sorted") (rSortedD X.K) := by
  intro pins s σ H vs us Q I r h
  obtain ⟨a, β, zs, enc, rfl, hs, hd, hal, hk, hdep, q⟩ := h
  rw [Vals.ref1 r]
  have fin : ∀ (its : List Value), Vals (zs.map (·.1)) its → zs.length ≤ sizeLine → ∀ out : List Value, out.length = zs.length → PySem.W.EachIs (fun u (z : V × β) => RelV z.1 u) out (zs.mergeSort (PySem.W.dataLe false fun z => enc z.2)) →
      EP X pins σ Q (.ref (s.heap.objs.size + 1)) { s with heap := PyProof.Rows.sortedAll s.heap its (List.toArray out) } := by
    intro its rv hz out hl ho
    obtain ⟨ep, he'⟩ := PyProof.Rows.sortedAll_at s.heap its out.toArray
    have hlen : ((zs.mergeSort (PySem.W.dataLe false fun z => enc z.2)).map (·.1)).length ≤ sizeLine := by
      rw [List.length_map, List.length_mergeSort]; exact hz
    exact ⟨.ref _, upd H (s.heap.objs.size + 1) (.lst _), I.laid (t' := s.toks) (fun _ _ => PyProof.Rows.sortedAll_old) (Nat.le_succ _) ⟨hlen, out, ep, paired_of_each ho, he'⟩, rfl, q _ (I.hok.fresh (Nat.le_succ _))⟩
  have dep : ∀ z, z ∈ zs → X.A.units + 2 + (enc z.2).depth < cLine := fun z hz => by have := hdep z hz; omega
  rcases hs with hs | hs
  · obtain ⟨its, rv, hl, hz⟩ := I.list hs
    obtain ⟨as, hr⟩ := Dp.readsAll I _ _ its hd rv
    have hz' : zs.length ≤ sizeLine := by rw [List.length_map] at hz; exact hz
    exact PySem.W.sorted_data (R := fun u (z : V × β) => RelV z.1 u) (enc := fun z => enc z.2) hl.isList (each_of_paired rv) (PySem.W.readsAll_each (fun z : V × β => enc z.2) hr) hal hk hz' dep fun out hlo ho => fin its rv hz' out hlo ho
  · obtain ⟨its, rv, hl, hz⟩ := I.tuple hs
    obtain ⟨as, hr⟩ := Dp.readsAll I _ _ its hd rv
    have hz' : zs.length ≤ sizeLine := by rw [List.length_map] at hz; exact hz
    exact sortedT (R := fun u (z : V × β) => RelV z.1 u) (enc := fun z => enc z.2) hl (each_of_paired rv) (PySem.W.readsAll_each (fun z : V × β => enc z.2) hr) hal hk hz' dep fun out hlo ho => fin its rv hz' out hlo ho

/-! ### points, ints -/
abbrev Pt := Int × Int
def pt (p : Pt) : D := .tup [.int p.1, .int p.2]
def unPt : D → Option Pt
  | .tup [.int x, .int y] => some (x, y)
  | _ => none
def unPts : List D → Option (List Pt)
  | [] => some []
  | d :: l => match unPt d, unPts l with
    | some p, some ps => some (p :: ps)
    | _, _ => none
theorem unPt_some {d : D} {p : Pt} (h : unPt d = some p) : d = pt p := by
  unfold unPt at h
  split at h
  · cases h; rfl
  · cases h
theorem unPts_some : ∀ {l : List D} {ps : List Pt}, unPts l = some ps → l = ps.map pt
  | [], _, h => by unfold unPts at h; cases h; rfl
  | d :: l, ps, h => by
    unfold unPts at h
    cases q1 : unPt d with
    | none => rw [q1] at h; simp at h
    | some p =>
      cases q2 : unPts l with
      | none => rw [q1, q2] at h; simp at h
      | some qs =>
        rw [q1, q2] at h; simp at h; subst h
        rw [unPt_some q1, unPts_some q2]; rfl
theorem unPts_map : ∀ ps : List Pt, unPts (ps.map pt) = some ps
  | [] => rfl
  | p :: ps => by
    show unPts (pt p :: ps.map pt) = _
    unfold unPts
    rw [unPts_map ps]
    rfl
def lePt (p q : Pt) : Bool := decide (p.1 < q.1 ∨ (p.1 = q.1 ∧ p.2 ≤ q.2))
def unInts : List D → Option (List Int)
  | [] => some []
  | .int i :: l => match unInts l with
    | some is => some (i :: is)
    | none => none
  | _ :: _ => none
theorem unInts_some : ∀ {l : List D} {ps : List Int}, unInts l = some ps → l = ps.map D.int
  | [], _, h => by unfold unInts at h; cases h; rfl
  | .int i :: l, ps, h => by
    unfold unInts at h
    cases q2 : unInts l with
    | none => rw [q2] at h; simp at h
    | some qs => rw [q2] at h; simp at h; subst h; rw [unInts_some q2]; rfl
  | .non :: _, _, h => by unfold unInts at h; cases h
  | .bl _ :: _, _, h => by unfold unInts at h; cases h
  | .str _ :: _, _, h => by unfold unInts at h; cases h
  | .tup _ :: _, _, h => by unfold unInts at h; cases h
  | .lst _ :: _, _, h => by unfold unInts at h; cases h
  | .loc _ :: _, _, h => by unfold unInts at h; cases h
  | .adr _ :: _, _, h => by unfold unInts at h; cases h
  | .ty _ :: _, _, h => by unfold unInts at h; cases h
  | .scr _ :: _, _, h => by unfold unInts at h; cases h
theorem unInts_map : ∀ ps : List Int, unInts (ps.map D.int) = some ps
  | [] => rfl
  | p :: ps => by
    show unInts (D.int p :: ps.map D.int) = _
    unfold unInts
    rw [unInts_map ps]
/-- sorted of points, of ints -/
def gSorted : Cells → List D → Option D := fun M l => match l with
  | [d] => match seqOf M d with
    | some (_, l) => match unPts l with
      | some ps => some (.lst ((ps.mergeSort lePt).map pt))
      | none => match unInts l with
        | some is => some (.lst ((is.mergeSort fun a b => decide (a ≤ b)).map D.int))
        | none => none
    | none => none
  | _ => none
section
variable {T : TPr} {H : Hp} {N : Addr → Prop} {α : List Addr}
theorem Rels.zip {β : Type} {f : β → D} : ∀ {bs : List β} {vs : List V}, Rels H N α (bs.map f) vs → ∃ zs : List (V × β), zs.map (·.1) = vs ∧ zs.map (·.2) = bs ∧ ∀ z ∈ zs, Rel H N α (f z.2) z.1
  | [], _, h => by
    have h' : Rels H N α [] _ := h
    unfold Rels at h'
    exact ⟨[], by rw [h']; rfl, rfl, by simp⟩
  | b :: bs, _, h => by
    have h' : Rels H N α (f b :: bs.map f) _ := h
    unfold Rels at h'
    obtain ⟨v, r, h1, h2, h3⟩ := h'
    obtain ⟨zs, e1, e2, e3⟩ := Rels.zip h3
    refine ⟨(v, b) :: zs, by rw [h1, List.map_cons, e1], by rw [List.map_cons, e2], fun z hz => ?_⟩
    rcases List.mem_cons.mp hz with e | hz
    · rw [e]; exact h2
    · exact e3 z hz
theorem Rels.unzip {β : Type} {f : β → D} : ∀ {zs : List (V × β)}, (∀ z ∈ zs, Rel H N α (f z.2) z.1) → Rels H N α (zs.map fun z => f z.2) (zs.map (·.1))
  | [], _ => by simp [Rels]
  | z :: zs, h => Rels.cons (h z (by simp)) (Rels.unzip fun y hy => h y (by simp [hy]))
theorem sorted_go {K : PySem.W.Frag} {β : Type} {M : Cells} {f : β → D} {enc : β → PyData} {le : β → β → Bool} {a : Addr} {vs : List V} {bs : List β} {Q : VK} (c : StC T N H M α) (hs : SqL K H a vs ∨ SqT K H a vs) (r : Rels H N α (bs.map f) vs)
    (hp : ∀ b, pyOf (f b) = some (enc b)) (hal : ∀ b b', PySem.W.alike (enc b) (enc b') = true) (hk : (∀ b, ∃ x r, enc b = .tuple (x :: r)) ∨ ∀ b, enc b ≠ .none ∧ ∀ xs, enc b ≠ .tuple xs) (hd : ∀ b, (enc b).depth ≤ 60)
    (hle : ∀ b b', le b b' = PySem.W.dataLe false enc b b') (k : ∀ v H', StC T N H' M α → Ext α N H α N H' → Rel H' N α (.lst ((bs.mergeSort le).map f)) v → Q v H') : rSortedD K [V.ref a] H Q := by
  obtain ⟨zs, e1, e2, e3⟩ := Rels.zip r
  have hpy : ∀ zs : List (V × β), (∀ z ∈ zs, Rel H N α (f z.2) z.1) → DpAll K H (zs.map (·.1)) (zs.map fun z => enc z.2) := by
    intro zs
    induction zs with
    | nil => intro _; exact .nil
    | cons z zs ih => intro h; exact .cons (py_rel (h z (by simp)) (hp _)) (ih fun y hy => h y (by simp [hy]))
  refine ⟨a, β, zs, enc, rfl, by rw [e1]; exact hs, hpy zs e3, PySem.W.AllAlike.of fun z z' => hal _ _, ?_, fun z _ => hd _, fun p hp => ?_⟩
  · rcases hk with hk | hk
    · exact PySem.W.Sortable.tuples fun z => hk _
    · exact PySem.W.Sortable.others fun z => hk _
  · have hm : (zs.mergeSort (PySem.W.dataLe false fun z => enc z.2)).map (·.2) = bs.mergeSort le := by
      rw [← e2]
      exact PySem.W.sort_maps (fun z : V × β => z.2) fun z _ y _ => (hle z.2 y.2).symm
    have hr : Rels H N α ((zs.mergeSort (PySem.W.dataLe false fun z => enc z.2)).map fun z => f z.2) ((zs.mergeSort (PySem.W.dataLe false fun z => enc z.2)).map (·.1)) := Rels.unzip fun z hz => e3 z (List.mem_mergeSort.mp hz)
    have hr2 : Rels H N α ((bs.mergeSort le).map f) ((zs.mergeSort (PySem.W.dataLe false fun z => enc z.2)).map (·.1)) := by
      rw [← hm, List.map_map]; exact hr
    exact k _ _ (c.grow (new_keep hp)) (Ext.grow (new_keep hp)) (lst_new hr2 c.sub c.som hp)
theorem cd_sorted {K : PySem.W.Frag} : CbD T (rSortedD K) gSorted := by
  intro N H M α l xs z Q c r h k
  match l, h, r with
  | [d], h, r =>
    obtain ⟨x, rfl, r1⟩ := rels1 r
    unfold gSorted at h
    dsimp only at h
    cases q : seqOf M d with
    | none => rw [q] at h; cases h
    | some bl =>
      obtain ⟨b, l⟩ := bl
      rw [q] at h
      dsimp only at h
      obtain ⟨a, vs, h1, h2, h3, h4⟩ := seq_rel c r1 q
      rw [h1]
      cases qp : unPts l with
      | some ps =>
        rw [qp] at h; cases h
        rw [unPts_some qp] at h4
        refine sorted_go c (seq_sq h2 h3) h4 (enc := fun p => .tuple [.int p.1, .int p.2]) (fun p => rfl) (fun p p' => rfl) (.inl fun p => ⟨_, _, rfl⟩) (fun p => by simp [PyData.depth, PyData.depthAll]) (fun p p' => ?_) k
        exact (congrFun (congrFun (PySem.W.dataLe_ii (β := Pt) (·.1) (·.2)) p) p').symm
      | none =>
        rw [qp] at h
        dsimp only at h
        cases qi : unInts l with
        | none => rw [qi] at h; cases h
        | some is =>
          rw [qi] at h; cases h
          rw [unInts_some qi] at h4
          refine sorted_go c (seq_sq h2 h3) h4 (enc := fun p => .int p) (fun p => rfl) (fun p p' => rfl) (.inr fun p => ⟨by simp, by simp⟩) (fun p => by simp [PyData.depth]) (fun p p' => ?_) k
          exact (congrFun (congrFun (PySem.W.dataLe_int (β := Int) id) p) p').symm
  | [], h, _ => cases h
  | _ :: _ :: _, h, _ => cases h
end
end DL

namespace DL
open PySem PySem.Spec L2
open PyProof.Rows hiding St

/-! ### a def's promise, read off its own function on data -/
def RS.pu (r : RS) : Pu := match RS.out 0 r with
  | .ok d [] => .ok d
  | .ex e [] => .ex e
  | _ => .no
/-- a def without a list of ours in hand -/
def aut (n : Nat) (Nm : List Str) (g : Sx → RS) : List D → Pu := fun ds => if ds.length = n then (g ⟨init0 Nm ds, []⟩).pu else .no
theorem aut_len {n : Nat} {Nm : List Str} {g : Sx → RS} (ds : List D) (h : aut n Nm g ds ≠ .no) : ds.length = n := by
  unfold aut at h
  by_cases hl : ds.length = n
  · exact hl
  · rw [if_neg hl] at h; exact (h rfl).elim
theorem cut0 {M : Cells} : cutM M 0 = some [] := by unfold cutM; simp
theorem pu_lift {r : RS} {p : List D → Pu} {ds : List D} (h : p ds = r.pu) (hn : p ds ≠ .no) : RS.out 0 r = lift p ds [] := by
  have q : ∀ x : R D, (match x with | .ok d [] => Pu.ok d | .ex e [] => Pu.ex e | _ => Pu.no) ≠ .no → x = match (match x with | .ok d [] => Pu.ok d | .ex e [] => Pu.ex e | _ => Pu.no) with
      | .ok d => .ok d []
      | .ex e => .ex e []
      | .no => .no := by
    intro x hx
    match x, hx with
    | .ok d [], _ => rfl
    | .ex e [], _ => rfl
    | .ok d (_ :: _), hx => exact (hx rfl).elim
    | .ex d (_ :: _), hx => exact (hx rfl).elim
    | .no, hx => exact (hx rfl).elim
  unfold lift
  rw [h] at hn ⊢
  exact q _ hn
theorem fn_aut {T : TPr} {P : Program} {w : World} {K : PySem.W.Frag} {mg : Str → Option Value} {base : Heap} {x qual : Str} {st : Stmt} {f : Addr} {fd : FuncData} {Nm ps : List Str} {dvs : List V} {kws : List (Str × V)} {k : Nat} {g : Sx → RS}
    (F : FunD K x qual (defArgs st) (defBody st) (defScope st) dvs kws f fd) (S : FnScope Nm ps (defScope st))
    (hb : ∀ (cdv : Value) (A : Around) (outer : List Env) (s : Shared) (H : Hp) (E : XK), Room k (A.deeper (envOfC qual (defScope st) s.heap.objs.size f cdv)) →
      PSs (cxOf (L2.CX P w) P w K mg base Nm qual (defScope st) f cdv A outer s H E) (defBody st) (tS T mg (fun cls d _ H => E cls d H) g)) :
    FnOk P w K mg base (L2.CX P w) (k + 1) f fd ps (spP T mg ps.length (aut ps.length Nm g)) :=
  fn_okP F S fun ds hn hl => ⟨g, hb, pu_lift (by unfold aut; rw [if_pos hl]) hn⟩
/-- a def with lists of ours in hand -/
def autM (n : Nat) (Nm : List Str) (g : Sx → RS) : List D → Cells → R D := fun ds M => if ds.length = n then RS.out M.length (g ⟨init0 Nm ds, M⟩) else .no
theorem autM_len {n : Nat} {Nm : List Str} {g : Sx → RS} (ds : List D) (M : Cells) (h : autM n Nm g ds M ≠ .no) : ds.length = n := by
  unfold autM at h
  by_cases hl : ds.length = n
  · exact hl
  · rw [if_neg hl] at h; exact (h rfl).elim
theorem fn_autM {T : TPr} {P : Program} {w : World} {K : PySem.W.Frag} {mg : Str → Option Value} {base : Heap} {x qual : Str} {st : Stmt} {f : Addr} {fd : FuncData} {Nm ps : List Str} {dvs : List V} {kws : List (Str × V)} {k : Nat} {g : Sx → RS}
    (F : FunD K x qual (defArgs st) (defBody st) (defScope st) dvs kws f fd) (S : FnScope Nm ps (defScope st))
    (hb : ∀ (cdv : Value) (A : Around) (outer : List Env) (s : Shared) (H : Hp) (E : XK), Room k (A.deeper (envOfC qual (defScope st) s.heap.objs.size f cdv)) →
      PSs (cxOf (L2.CX P w) P w K mg base Nm qual (defScope st) f cdv A outer s H E) (defBody st) (tS T mg (fun cls d _ H => E cls d H) g)) :
    FnOk P w K mg base (L2.CX P w) (k + 1) f fd ps (spD T mg ps.length (autM ps.length Nm g)) :=
  fn_ok F S fun ds M hn hl => ⟨g, hb, by unfold autM; rw [if_pos hl]⟩

/-! ### a def whose answer is all its caller's own -/
mutual
def D.sh (m : Nat) : D → D
  | .tup l => .tup (shs m l)
  | .lst l => .lst (shs m l)
  | .scr l => .scr (shs m l)
  | .loc n => .loc (m + n)
  | d => d
def shs (m : Nat) : List D → List D
  | [] => []
  | d :: l => d.sh m :: shs m l
end
mutual
theorem Rel.sh {H : Hp} {N : Addr → Prop} {α β : List Addr} : ∀ {d : D} {v : V}, Rel H N β d v → Rel H N (α ++ β) (d.sh α.length) v
  | .non, _, h => by unfold D.sh; unfold Rel at h ⊢; exact h
  | .bl _, _, h => by unfold D.sh; unfold Rel at h ⊢; exact h
  | .int _, _, h => by unfold D.sh; unfold Rel at h ⊢; exact h
  | .str _, _, h => by unfold D.sh; unfold Rel at h ⊢; exact h
  | .tup l, _, h => by
    unfold D.sh
    unfold Rel at h ⊢
    obtain ⟨a, vs, h1, h2, h3⟩ := h
    exact ⟨a, vs, h1, h2, Rels.sh h3⟩
  | .lst l, _, h => by
    unfold D.sh
    unfold Rel at h ⊢
    obtain ⟨a, vs, h1, h0, h2, h3⟩ := h
    exact ⟨a, vs, h1, h0, h2, Rels.sh h3⟩
  | .loc n, _, h => by
    unfold D.sh
    unfold Rel at h ⊢
    obtain ⟨a, h1, h2⟩ := h
    exact ⟨a, h1, by rw [List.getElem?_append_right (by omega)]; rw [show α.length + n - α.length = n by omega]; exact h2⟩
  | .adr _, _, h => by unfold D.sh; unfold Rel at h ⊢; exact h
  | .ty _, _, h => by unfold D.sh; unfold Rel at h ⊢; exact h
  | .scr l, _, h => by
    unfold D.sh
    unfold Rel at h ⊢
    obtain ⟨a, o, vs, h1, h2, h3⟩ := h
    exact ⟨a, o, vs, h1, h2, Rels.sh h3⟩
theorem Rels.sh {H : Hp} {N : Addr → Prop} {α β : List Addr} : ∀ {l : List D} {vs : List V}, Rels H N β l vs → Rels H N (α ++ β) (shs α.length l) vs
  | [], _, h => by unfold shs; unfold Rels at h ⊢; exact h
  | d :: l, _, h => by
    unfold shs
    unfold Rels at h ⊢
    obtain ⟨v, r, h1, h2, h3⟩ := h
    exact ⟨v, r, h1, Rel.sh h2, Rels.sh h3⟩
end
def spO (T : TPr) (mg : Str → Option Value) (n : Nat) (p : List D → R D) : Sp := fun vs H Q E => ∃ ds N, ds.length = n ∧ StC T N H [] [] ∧ Rels H N [] ds vs ∧ match p ds with
  | .ok d M' => ∀ v H' α' N', StC T N' H' M' α' → Ext [] N H α' N' H' → Rel H' N' α' d v → Q v H'
  | .ex e _ => ∀ cls dd H', StC T N H' [] [] → Ext [] N H [] N H' → XR mg e cls dd H' N [] → E cls dd H'
  | .no => False
def RS.outO : RS → R D
  | .rt d s => .ok d s.M
  | .ex e s => match e.part with
    | none => .ex e []
    | some _ => .no
  | _ => .no
def autO (n : Nat) (Nm : List Str) (g : Sx → RS) : List D → R D := fun ds => if ds.length = n then RS.outO (g ⟨init0 Nm ds, []⟩) else .no
theorem autO_len {n : Nat} {Nm : List Str} {g : Sx → RS} (ds : List D) (h : autO n Nm g ds ≠ .no) : ds.length = n := by
  unfold autO at h
  by_cases hl : ds.length = n
  · exact hl
  · rw [if_neg hl] at h; exact (h rfl).elim
section
variable {T : TPr} {mg : Str → Option Value} {W : WX} {σ : L2.St} {H : Hp} {N : Addr → Prop} {α : List Addr} {Dn : Ends}
theorem StC.cut0 {N' : Addr → Prop} {H' : Hp} {M' : Cells} {α' : List Addr} (c : StC T N H [] []) (c' : StC T N' H' M' α') (e : Ext [] N H α' N' H') : StC T N H' [] [] :=
  ⟨by simp, by simp, fun a h => e.there a (c.som a h), rfl, fun n l q => by simp at q, c'.tab⟩
theorem fn_autO {P : Program} {w : World} {K : PySem.W.Frag} {base : Heap} {x qual : Str} {st : Stmt} {f : Addr} {fd : FuncData} {Nm ps : List Str} {dvs : List V} {kws : List (Str × V)} {k : Nat} {g : Sx → RS}
    (F : FunD K x qual (defArgs st) (defBody st) (defScope st) dvs kws f fd) (S : FnScope Nm ps (defScope st))
    (hb : ∀ (cdv : Value) (A : Around) (outer : List Env) (s : Shared) (H : Hp) (E : XK), Room k (A.deeper (envOfC qual (defScope st) s.heap.objs.size f cdv)) →
      PSs (cxOf (L2.CX P w) P w K mg base Nm qual (defScope st) f cdv A outer s H E) (defBody st) (tS T mg (fun cls d _ H => E cls d H) g)) :
    FnOk P w K mg base (L2.CX P w) (k + 1) f fd ps (spO T mg ps.length (autO ps.length Nm g)) := by
  refine F.ok S (fun vs H Q E h => ?_) (fun cdv A outer s H vs Q E hr hsp => ?_)
  · obtain ⟨ds, N, h1, _, h2, _⟩ := h
    rw [← Rels.length h2]; exact h1
  · obtain ⟨ds, N, h1, c, r, post⟩ := hsp
    refine ⟨_, hb cdv A outer s H E hr, ⟨init0 Nm ds, []⟩, [], N, ⟨c, init_slt r, ?_⟩, ?_⟩
    · have := Rels.length r
      unfold init0 L2.start
      simp; omega
    · unfold autO at post
      rw [if_pos h1] at post
      cases q : g ⟨init0 Nm ds, []⟩ with
      | no => rw [q] at post; exact post
      | bk s1 => rw [q] at post; exact post.elim
      | ct s1 => rw [q] at post; exact post.elim
      | nx s1 => rw [q] at post; exact post.elim
      | rt d s1 =>
        rw [q] at post
        intro v σ' H' α' N' s' e rv
        exact post v H' α' N' s'.c e rv
      | ex x s1 =>
        rw [q] at post
        intro cls dd σ' H' α' N' s' e xr
        unfold RS.outO at post
        dsimp only at post
        obtain ⟨x1, x2⟩ := xr
        cases qp : x.part with
        | none =>
          rw [qp] at post
          exact post cls dd H' (c.cut0 s'.c e) (e.cut (by simp)) ⟨x1, by rw [qp]; trivial⟩
        | some d => rw [qp] at post; exact post.elim
def fCallO (p : List D → R D) (f : Sx → R (List D)) : Sx → R D := fun s => (f s).bind fun ds M => if lfs ds = true then (match p ds with
  | .ok d Mb => .ok (d.sh M.length) (M ++ Mb.map (shs M.length))
  | .ex e _ => .ex e M
  | .no => .no) else .no
theorem StC.join {M Mb : Cells} {β : List Addr} {N' : Addr → Prop} {H' : Hp} (c : StC T N H M α) (c' : StC T N' H' Mb β) (e : Ext [] N H β N' H') : StC T N' H' (M ++ Mb.map (shs M.length)) (α ++ β) ∧ Ext α N H (α ++ β) N' H' := by
  have fβ : ∀ b ∈ β, Fz H b := by obtain ⟨γ, e1, f⟩ := e.pre; rw [e1]; simpa using f
  have e' : Ext α N H (α ++ β) N' H' := ⟨⟨β, rfl, fβ⟩, e.nn, e.nb, fun b o h _ t => e.keep b o h (fun _ => by simp) t, e.there⟩
  refine ⟨⟨?_, fun a ha => ?_, c'.som, by simp [c.len, c'.len], fun n l q => ?_, c'.tab⟩, e'⟩
  · rw [List.nodup_append]
    exact ⟨c.nd, c'.nd, fun a ha b hb z => c.som a (c.sub a ha) (by rw [z]; exact fβ b hb)⟩
  · rcases List.mem_append.mp ha with z | z
    · exact e.nn a (c.sub a z)
    · exact c'.sub a z
  · by_cases hn : n < M.length
    · rw [List.getElem?_append_left hn] at q
      obtain ⟨a, vs, h1, h2, h3⟩ := c.cel n l q
      exact ⟨a, vs, pre_get h1 ⟨β, rfl, trivial⟩, e.keep a _ h2 (fun _ => by simp) (fun _ z => by cases z), Rels.mono c.sub e' h3⟩
    · rw [List.getElem?_append_right (by omega), List.getElem?_map] at q
      cases q2 : Mb[n - M.length]? with
      | none => rw [q2] at q; cases q
      | some l' =>
        rw [q2] at q
        have q : shs M.length l' = l := Option.some.inj q
        obtain ⟨a, vs, h1, h2, h3⟩ := c'.cel _ l' q2
        refine ⟨a, vs, by rw [List.getElem?_append_right (by rw [c.len]; omega), c.len]; exact h1, h2, ?_⟩
        rw [← q, ← c.len]
        exact Rels.sh h3
theorem callO_imp {n : Nat} {p : List D → R D} {f : Sx → R (List D)} (hn : ∀ ds, p ds ≠ .no → ds.length = n) {Q : VK} (h : tD T mg W (fCallO p f) σ H Q) : tCallS (spO T mg n p) (WE W) (tL T mg W f) σ H Q := by
  obtain ⟨s, α, N, hs, q⟩ := h
  refine ⟨s, α, N, hs, Post.mono (fun vs H1 h1 => ?_) (Post.bind (G := RelL) q)⟩
  obtain ⟨M1, α1, N1, ds, s1, e1, g1, p1⟩ := h1
  obtain ⟨hl, p2⟩ := p1.ite
  refine ⟨ds, N1, hn ds fun z => by rw [z] at p2; exact p2, ⟨by simp, by simp, s1.c.som, rfl, fun n l q => by simp at q, s1.c.tab⟩, Rels.lf hl g1, ?_⟩
  cases hp : p ds with
  | no => rw [hp] at p2; exact p2
  | ok d Mb =>
    rw [hp] at p2
    intro v H' β N' c e r
    obtain ⟨cj, ej⟩ := s1.c.join c e
    refine p2 v H' _ N' ⟨cj, fun i d' qd => ?_, s1.lnr⟩ ej (by rw [← s1.c.len]; exact Rel.sh r)
    obtain ⟨v', y1, y2⟩ := s1.slt i d' qd
    exact ⟨v', y1, Rel.mono s1.c.sub ej y2⟩
  | ex x Mb =>
    rw [hp] at p2
    exact fun cls dd H' c e r => p2 cls dd H' α1 N1 (StC.keep s1 (s1.c.ofNil c e) e.ofNil) e.ofNil r.nil
end
structure CalO (T : TPr) (P : Program) (w : World) (K : PySem.W.Frag) (mg : Str → Option Value) (base : Heap) (k : Nat) (x : Str) (n : Nat) (p : List D → R D) : Prop where
  ex : ∃ (f : Addr) (fd : FuncData) (ps : List Str), mg x = some (.ref f) ∧ PySem.W.keepIn K (.ref f) = true ∧ Binds K fd ps [] ∧ FnOk P w K mg base (L2.CX P w) k f fd ps (spO T mg n p)
theorem CalO.mono {T : TPr} {P : Program} {w : World} {K : PySem.W.Frag} {mg : Str → Option Value} {base : Heap} {j k : Nat} {x : Str} {n : Nat} {p : List D → R D} (c : CalO T P w K mg base j x n p) (h : j ≤ k) : CalO T P w K mg base k x n p := by
  obtain ⟨f, fd, ps, h1, h2, h3, h4⟩ := c.ex
  exact ⟨f, fd, ps, h1, h2, h3, h4.mono h⟩
section
variable {X : Cx} {T : TPr} {W : WX} {pos p : Pos} {k n : Nat} {x : Str} {e : Expr} {es : List Expr} {fl : Sx → R (List D)}
theorem e_callO {pu : List D → R D} (B : Bd X W k) (F : CalO T X.prog X.w X.K X.mg X.base k x n pu) (hn : ∀ ds, pu ds ≠ .no → ds.length = n) (hg : Gl X x) (ha : PA X (e :: es) (tL T X.mg W fl)) (hdb : (x == ("__debug__" : Str)) = false := by decide)
    (he : starEach (e :: es) X.env = (false, eval e X.env) :: starEach es X.env := by rfl) (hpl : (backTo pos (starEach es X.env)).any (·.1) = false := by rfl) : PE X (.Call (.Name x p) (e :: es) [] pos) (tD T X.mg W (fCallO pu fl)) := by
  obtain ⟨f, fd, ps, h1, h2, h3, h4⟩ := F.ex
  exact (pe_callS h4 B.rm hg h1 h2 h3 (fun σ => passAt B.tk σ) ha hdb he hpl).imp fun _ _ _ => callO_imp hn
end
/-- an own list given back -/
def fOwnE (f : Sx → R (List D)) : Sx → R D := fun s => (f s).bind fun l M => .ok (.loc M.length) (M ++ [l])
section
variable {T : TPr} {mg : Str → Option Value} {W : WX} {σ : L2.St} {H : Hp}
theorem ownE_imp {f : Sx → R (List D)} {Q : VK} (h : tD T mg W (fOwnE f) σ H Q) : tFL T mg W f σ H Q := by
  obtain ⟨s, α, N, hs, p⟩ := h
  refine ⟨s, α, N, hs, ?_⟩
  unfold fOwnE at p
  cases q : f s with
  | no => rw [q] at p; exact p
  | ex e M => rw [q] at p; exact p
  | ok l M =>
    rw [q] at p
    intro a vs H' α' N' s1 e1 n1 n2 n3 n4 n5
    have s2 := s1.cell n1 n2 n4 n5
    have hl : α'.length = M.length := s1.c.len
    obtain ⟨β, eβ, fβ⟩ := e1.pre
    refine p _ H' (α' ++ [a]) N' s2 ⟨⟨β ++ [a], by rw [eβ, List.append_assoc], fun b hb => ?_⟩, e1.nn, e1.nb, e1.keep, e1.there⟩ ?_
    · rcases List.mem_append.mp hb with z | z
      · exact fβ b z
      · simp at z; rw [z]; exact n3
    · show Rel _ _ _ _ _
      unfold Rel
      exact ⟨a, rfl, by rw [List.getElem?_append_right (by omega)]; simp [hl]⟩
end
section
variable {X : Cx} {T : TPr} {W : WX} {e : Expr} {fl : Sx → R (List D)}
theorem e_ownE (h : PE X e (tFL T X.mg W fl)) : PE X e (tD T X.mg W (fOwnE fl)) := h.imp fun _ _ _ => ownE_imp
end
end DL

namespace DL
open PySem PySem.Spec L2
open PyProof.Rows hiding St

/-! ### the script, where it is an object of the module -/
def KSt (K : PySem.W.Frag) (sk : Option (Addr × List Int)) : Prop := ∀ a ns, sk = some (a, ns) → ∀ H : Hp, SqL K H a (ns.map V.int)
def gCutK (sk : Option (Addr × List Int)) : Cells → D → Option Int → Option Int → Option D := fun M d lo hi => match d with
  | .adr a => match sk with
    | some (b, ns) => if a = b then some (.lst (dcut (ns.map .int) lo hi)) else none
    | none => none
  | d => gCut M d lo hi
def fSlK (sk : Option (Addr × List Int)) (fo : Sx → R D) (fl fh : Sx → R (Option Int)) : Sx → R D := fun s => (fo s).bind fun d M1 => (fl ⟨s.ρ, M1⟩).bind fun lo M2 => (fh ⟨s.ρ, M2⟩).bind fun hi M3 => opt (gCutK sk M3 d lo hi) M3
section
variable {T : TPr} {mg : Str → Option Value} {W : WX} {σ : L2.St} {H : Hp} {N : Addr → Prop} {α : List Addr}
theorem rels_ints : ∀ ns : List Int, Rels H N α (ns.map .int) (ns.map V.int)
  | [] => by simp [Rels]
  | i :: r => Rels.cons rel_int (rels_ints r)
theorem cut_one {K : PySem.W.Frag} {Q : VK} {ρ : List (Option D)} {M3 : Cells} {d z : D} {x : V} {lo hi : Option Int} (s3 : StR T N H σ ⟨ρ, M3⟩ α) (rd : Rel H N α d x) (hz : gCut M3 d lo hi = some z)
    (p4 : ∀ v H' α' N', StR T N' H' σ ⟨ρ, M3⟩ α' → Ext α N H α' N' H' → Rel H' N' α' z v → Q v H') : rSl K x lo hi H Q := by
  unfold gCut at hz
  cases q : seqOf M3 d with
  | none => rw [q] at hz; cases hz
  | some bl =>
    obtain ⟨b, l⟩ := bl
    rw [q] at hz
    obtain ⟨a, vs, h1, h2, h3, h4⟩ := seq_rel s3.c rd q
    have fin : ∀ o p, H p = none → (∀ ps, o ≠ .tbl ps) → Rel (upd H p o) N α z (.ref p) → Q (.ref p) (upd H p o) := fun o p hp _ r => p4 _ _ α N (StC.keep s3 (s3.c.grow (new_keep hp)) (Ext.grow (new_keep hp))) (Ext.grow (new_keep hp)) r
    cases b with
    | true =>
      cases hz
      refine .inl ⟨a, vs, h1, rd_sqT (h2 rfl), fun hw => ?_, fun hw p hp => fin _ p hp (fun _ z => by cases z) (tup_new (dcut_rel h4) s3.c.sub hp)⟩
      refine p4 _ _ α N s3 Ext.refl ?_
      unfold Rel
      exact ⟨a, vs, rfl, h2 rfl, by rw [← whole_cut hw]; exact dcut_rel h4⟩
    | false =>
      cases hz
      exact .inr ⟨a, vs, h1, .inl (h3 rfl), fun p hp => fin _ p hp (fun _ z => by cases z) (lst_new (dcut_rel h4) s3.c.sub s3.c.som hp)⟩
theorem slK_imp {K : PySem.W.Frag} {sk : Option (Addr × List Int)} (hk : KSt K sk) {fo : Sx → R D} {fl fh : Sx → R (Option Int)} {Q : VK} (h : tD T mg W (fSlK sk fo fl fh) σ H Q) : tSl (rSl K) (tD T mg W fo) (tO' T mg W fl) (tO' T mg W fh) σ H Q := by
  obtain ⟨s, α, N, hs, p⟩ := h
  refine ⟨s, α, N, hs, Post.mono (fun x H1 h1 => ?_) (Post.bind (G := RelD) p)⟩
  obtain ⟨M1, α1, N1, d, s1, e1, g1, p1⟩ := h1
  refine ⟨_, α1, N1, s1, Post.mono (fun lo H2 h2 => ?_) (Post.bind (G := RelO) p1)⟩
  obtain ⟨M2, α2, N2, lo', s2, e2, g2, p2⟩ := h2
  refine ⟨_, α2, N2, s2, Post.mono (fun hi H3 h3 => ?_) (Post.bind (G := RelO) p2)⟩
  obtain ⟨M3, α3, N3, hi', s3, e3, g3, p3⟩ := h3
  cases g2
  cases g3
  obtain ⟨z, hz, p4⟩ := p3.opt
  have rd := Rel.mono s2.c.sub e3 (Rel.mono s1.c.sub e2 g1)
  unfold gCutK at hz
  split at hz
  · rename_i a
    split at hz
    · rename_i b ns
      by_cases hab : a = b
      · rw [if_pos hab] at hz
        subst hab
        cases hz
        unfold Rel at rd
        refine .inr ⟨a, ns.map V.int, rd, hk a ns rfl H3, fun p hp => ?_⟩
        exact p4 _ _ α3 N3 (StC.keep s3 (s3.c.grow (new_keep hp)) (Ext.grow (new_keep hp))) (Ext.grow (new_keep hp)) (lst_new (dcut_rel (rels_ints ns)) s3.c.sub s3.c.som hp)
      · rw [if_neg hab] at hz; cases hz
    · cases hz
  · exact cut_one s3 rd hz p4
end
section
variable {X : Cx} {T : TPr} {W : WX} {pos : Pos} {a : Expr} {fa : Sx → R D}
theorem e_slK {sk : Option (Addr × List Int)} {lo hi : Option Expr} {p2 : Pos} {f1 f2 : Sx → R (Option Int)} (hk : KSt X.K sk) (ha : PE X a (tD T X.mg W fa)) (hl : PO X lo (tO' T X.mg W f1)) (hh : PO X hi (tO' T X.mg W f2)) : PE X (.Subscript a (.Slice lo hi none p2) pos) (tD T X.mg W (fSlK sk fa f1 f2)) :=
  (pe_slice (sl_tupA.or sl_list) ha hl hh).imp fun _ _ _ => slK_imp hk
end

/-! ### a lambda handed to a def that tells which error came -/
def wTold (K : PySem.W.Frag) (cl : Str → Addr) (Q : VK) : List (Str × Str) → Value → Hp → Prop
  | [], _, _ => False
  | (e, r) :: l, cls, H => ∃ b, PySem.W.exmOne K cls (.ref (cl e)) = some b ∧ (b = true → Q (.str r) H) ∧ (b = false → wTold K cl Q l cls H)
def TTm (K : PySem.W.Frag) (cl : Str → Addr) (hs : List (Str × Str)) : (XK → Hp → VK → Prop) → Hp → VK → Prop := fun tl H Q => tl (fun cls _ H' => wTold K cl Q hs cls H') H Q
theorem told4_gives {X : Cx} {Ng : List Str} {x a e1 e2 e3 e4 q r1 r2 r3 r4 : Str} {sg : Scope} {g : Addr} {cdg : Value} {cl : Str → Addr} {j1 j2 j3 j4 : Nat} {p1 p2 p3 p8 a1 a2 a3 a4 b1 b2 b3 b4 c1 c2 c3 c4 d1 d2 d3 d4 : Pos}
    (g1 : sg.names.lookup e1 = some .globalImplicit) (g2 : sg.names.lookup e2 = some .globalImplicit) (g3 : sg.names.lookup e3 = some .globalImplicit) (g4 : sg.names.lookup e4 = some .globalImplicit)
    (m1 : X.mg e1 = some (.ref (cl e1))) (m2 : X.mg e2 = some (.ref (cl e2))) (m3 : X.mg e3 = some (.ref (cl e3))) (m4 : X.mg e4 = some (.ref (cl e4)))
    (k1 : (e1 == ("__debug__" : Str)) = false) (k2 : (e2 == ("__debug__" : Str)) = false) (k3 : (e3 == ("__debug__" : Str)) = false) (k4 : (e4 == ("__debug__" : Str)) = false)
    (h0 : ∀ f : Addr, (L2.start Ng [V.ref f])[0]? = some (some (V.ref f))) :
    LamX.GivesTo X Ng x sg g cdg [.Try [.Return (some (.Call (.Name a p1) [] [] p2)) p3] [.ExceptHandler (some (.Name e1 a1)) none [.Return (some (.Constant (.str r1) j1 b1)) c1] d1, .ExceptHandler (some (.Name e2 a2)) none [.Return (some (.Constant (.str r2) j2 b2)) c2] d2,
      .ExceptHandler (some (.Name e3 a3)) none [.Return (some (.Constant (.str r3) j3 b3)) c3] d3, .ExceptHandler (some (.Name e4 a4)) none [.Return (some (.Constant (.str r4) j4 b4)) c4] d4] [] [] p8] a q (TTm X.K cl [(e1, r1), (e2, r2), (e3, r3), (e4, r4)]) := by
  intro f c' s H Q tl act hc h
  have q1 : Gl (cxOf C8.CX0 X.prog X.w X.K X.mg X.base Ng x sg g cdg X.A X.stack s H C8.E0).nox e1 := g1
  have q2 : Gl (cxOf C8.CX0 X.prog X.w X.K X.mg X.base Ng x sg g cdg X.A X.stack s H C8.E0).nox e2 := g2
  have q3 : Gl (cxOf C8.CX0 X.prog X.w X.K X.mg X.base Ng x sg g cdg X.A X.stack s H C8.E0).nox e3 := g3
  have q4 : Gl (cxOf C8.CX0 X.prog X.w X.K X.mg X.base Ng x sg g cdg X.A X.stack s H C8.E0).nox e4 := g4
  have hh := HdsOk.cons (pos' := d1) (np := a1) (X := (cxOf C8.CX0 X.prog X.w X.K X.mg X.base Ng x sg g cdg X.A X.stack s H C8.E0).nox) (c := .ref (cl e1)) ⟨q1, k1, .inl m1⟩ (fun a oe cls d pn _ _ => pss_one (ps_ret (pos := c1) (pe_str (pos := b1) (x := r1) (j := j1))))
    (HdsOk.cons (pos' := d2) (np := a2) (c := .ref (cl e2)) ⟨q2, k2, .inl m2⟩ (fun a oe cls d pn _ _ => pss_one (ps_ret (pos := c2) (pe_str (pos := b2) (x := r2) (j := j2))))
    (HdsOk.cons (pos' := d3) (np := a3) (c := .ref (cl e3)) ⟨q3, k3, .inl m3⟩ (fun a oe cls d pn _ _ => pss_one (ps_ret (pos := c3) (pe_str (pos := b3) (x := r3) (j := j3))))
    (HdsOk.cons (pos' := d4) (np := a4) (c := .ref (cl e4)) ⟨q4, k4, .inl m4⟩ (fun a oe cls d pn _ _ => pss_one (ps_ret (pos := c4) (pe_str (pos := b4) (x := r4) (j := j4)))) .nil)))
  refine ⟨_, pss_one (ps_try_many (X := (cxOf C8.CX0 X.prog X.w X.K X.mg X.base Ng x sg g cdg X.A X.stack s H C8.E0).nox) (Wout := fun _ _ _ _ => False)
      (tb := fun W D σ H => ∃ Ech : XK, (∀ cls d σ' H', Ech cls d H' → W cls d σ' H') ∧ σ[0]? = some (some (.ref f)) ∧ H c' = some (LamX.CodeO c' q) ∧ tl Ech H D.rt)
      rfl rfl LamX.takes0 (fun W pn xe tk _ => ?_) hh), ?_⟩
  · refine ⟨fun pins s' σ H' D I h' => ?_⟩
    obtain ⟨Ech, hW, h1, h2, h3⟩ := h'
    have hp := act W pn xe Ech p1 p2 tk hW
    have hq := pss_one (ps_ret (pos := p3) hp)
    exact hq.run pins s' σ H' D I ⟨h1, h2, h3⟩
  · refine ⟨fun cls _ H' => wTold X.K cl Q [(e1, r1), (e2, r2), (e3, r3), (e4, r4)] cls H', fun cls d σ' H' w => ?_, h0 f, hc, h⟩
    obtain ⟨x1, y1, z1, w1⟩ := w
    refine ⟨x1, y1, fun hb a _ => z1 hb, fun hb => ?_⟩
    obtain ⟨x2, y2, z2, w2⟩ := w1 hb
    refine ⟨x2, y2, fun hb a _ => z2 hb, fun hb => ?_⟩
    obtain ⟨x3, y3, z3, w3⟩ := w2 hb
    refine ⟨x3, y3, fun hb a _ => z3 hb, fun hb => ?_⟩
    obtain ⟨x4, y4, z4, w4⟩ := w3 hb
    exact ⟨x4, y4, fun hb a _ => z4 hb, fun hb => w4 hb⟩
/-- the errors' classes, one unlike another -/
structure ToldF (K : PySem.W.Frag) (mg : Str → Option Value) (hs : List (Str × Str)) (cl : Str → Addr) : Prop where
  gl : ∀ p ∈ hs, mg p.1 = some (.ref (cl p.1))
  ex : ∀ p ∈ hs, ∀ q ∈ hs, PySem.W.exmOne K (.ref (cl p.1)) (.ref (cl q.1)) = some (decide (p.1 = q.1))
def toldBy : List (Str × Str) → Str → Option Str
  | [], _ => none
  | (e, r) :: l, x => if x = e then some r else toldBy l x
def fTold (hs : List (Str × Str)) (f : Sx → R D) : Sx → R D := fun s => match f s with
  | .ok d M => .ok d M
  | .ex e M => match toldBy hs e.name with
    | some r => .ok (.str r) M
    | none => .no
  | .no => .no
theorem toldBy_mem {x r : Str} : ∀ {l : List (Str × Str)}, toldBy l x = some r → ∃ r', (x, r') ∈ l
  | [], h => by cases h
  | (e, r') :: l, h => by
    unfold toldBy at h
    by_cases q : x = e
    · exact ⟨r', by rw [q]; exact List.mem_cons_self⟩
    · rw [if_neg q] at h
      obtain ⟨r2, h2⟩ := toldBy_mem h
      exact ⟨r2, List.mem_cons_of_mem _ h2⟩
theorem told_w {K : PySem.W.Frag} {mg : Str → Option Value} {hs : List (Str × Str)} {cl : Str → Addr} (Z : ToldF K mg hs cl) {Q : VK} {H : Hp} {x r r0 : Str} (hx : (x, r0) ∈ hs) (q : Q (.str r) H) : ∀ l : List (Str × Str), (∀ p ∈ l, p ∈ hs) → toldBy l x = some r → wTold K cl Q l (.ref (cl x)) H
  | [], _, h => by cases h
  | (e, r') :: l, hl, h => by
    unfold toldBy at h
    unfold wTold
    refine ⟨_, Z.ex _ hx _ (hl _ List.mem_cons_self), fun hb => ?_, fun hb => ?_⟩
    · have he : x = e := of_decide_eq_true hb
      rw [if_pos he] at h; cases h; exact q
    · have he : ¬ x = e := of_decide_eq_false hb
      rw [if_neg he] at h
      exact told_w Z hx q l (fun p hp => hl p (List.mem_cons_of_mem _ hp)) h
/-- the tables of code objects as what stands by -/
def tabT (TL : List (Addr × Str)) : TPr := ⟨fun H => LamX.Tabs TL H, fun H H' t k p hp => by
  obtain ⟨ps, h1, h2, h3⟩ := t p hp
  refine ⟨ps, k _ _ h1 (fun _ z => by cases z), h2, fun pos cv hc => ?_⟩
  obtain ⟨c, e1, e2⟩ := h3 pos cv hc
  exact ⟨c, e1, k _ _ e2 (fun xs z => by unfold LamX.CodeO at z; cases z)⟩⟩
theorem lam_imp {TL : List (Addr × Str)} {K : PySem.W.Frag} {mg : Str → Option Value} {hs : List (Str × Str)} {cl : Str → Addr} (Z : ToldF K mg hs cl) {W : WX} {fb : Sx → R D} {σ : L2.St} {H : Hp} {Q : VK} (h : tD (tabT TL) mg W (fTold hs fb) σ H Q) :
    LamX.tLam TL (TTm K cl hs) (fun E => tD (tabT TL) mg (fun cls d _ H => E cls d H) fb) σ H Q := by
  obtain ⟨s, α, N, hs', p⟩ := h
  refine ⟨hs'.c.tab, fun H1 eN T1 => ?_⟩
  have e : Ext α N H α N H1 := ⟨⟨[], by simp, by simp⟩, fun _ h => h, fun _ h => .inl h, fun b o hb _ ht => eN b o hb ht, fun b hb z => hb fun o ho => by
    refine Classical.byContradiction fun hn => ?_
    have := eN b o ho (fun ps q => hn ⟨ps, q⟩)
    obtain ⟨ps, q⟩ := z o this
    exact hn ⟨ps, q⟩⟩
  have c1 : StC (tabT TL) N H1 s.M α := ⟨hs'.c.nd, hs'.c.sub, fun a ha => e.there a (hs'.c.som a ha), hs'.c.len, fun n l q => by
    obtain ⟨a, vs, h1, h2, h3⟩ := hs'.c.cel n l q
    exact ⟨a, vs, h1, eN _ _ h2 (fun _ z => by cases z), Rels.mono hs'.c.sub e h3⟩, T1⟩
  have s1 : StR (tabT TL) N H1 σ s α := StC.keep hs' c1 e
  refine ⟨s, α, N, s1, ?_⟩
  have p1 := Post.later e p
  unfold fTold at p1
  cases q : fb s with
  | no => rw [q] at p1; exact p1
  | ok d M => rw [q] at p1; exact p1
  | ex x M =>
    rw [q] at p1
    dsimp only at p1
    intro cls dd H2 α2 N2 s2 e2 xr
    cases qt : toldBy hs x.name with
    | none => rw [qt] at p1; exact p1.elim
    | some r =>
      rw [qt] at p1
      obtain ⟨r0, hr⟩ := toldBy_mem qt
      have hc : cls = .ref (cl x.name) := by
        have := (Z.gl _ hr).symm.trans xr.1
        exact (Option.some.inj this).symm
      rw [hc]
      exact told_w Z hr (p1 _ H2 α2 N2 s2 e2 (by unfold RelD Rel; rfl)) hs (fun _ h => h) qt
section
variable {X : Cx} {W : WX}
theorem e_told {TL : List (Addr × Str)} {x a : Str} {st : Stmt} {g c P : Addr} {fd : FuncData} {k : Nat} {params : Arguments} {body : Expr} {scope : Scope} {p lpos pos : Pos} {hs : List (Str × Str)} {cl : Str → Addr} {fb : Sx → R D}
    (B : Bd X W (k + 2)) (Z : ToldF X.K X.mg hs cl) (F : FunD X.K x x (defArgs st) (defBody st) (defScope st) [] [] g fd) (hm : X.mg x = some (.ref g)) (bn : Binds X.K fd [a] []) (Sg : FnScope [a] [a] (defScope st)) (hva : Vis (defScope st) a)
    (hG : ∀ cdg q, LamX.GivesTo X [a] x (defScope st) g cdg (defBody st) a q (TTm X.K cl hs)) (TB : LamX.TabB X.base X.mg c P) (hcode : X.env.code = .ref c) (hT : (P, X.env.qual ++ "<lambda>") ∈ TL) (hu : ∀ p ∈ TL, p.1 = P → p.2 = X.env.qual ++ "<lambda>")
    (hg : Gl X x)
    (hbody : ∀ (A : Around) (outer : List Env) (s : Shared) (H : Hp) (E : XK) (f c' : Addr), Room k (A.deeper (LamX.lamEnv X scope s.heap.objs.size f c')) → PE (LamX.lamCx X A outer s H E scope f c') body (tD (tabT TL) X.mg (fun cls d _ H => E cls d H) fb))
    (L : LamX.LamS X.env.scope scope) (hdef : defaultsOf params X.env = ([], []) := by rfl)
    (hbind : ∀ (q : Str) (cl : List (Str × Addr)) (pm cv ctv : Value), bindArgs (PySem.W.kla_fn "<lambda>" q params body scope cl pm cv ctv) ⟨[], []⟩ = pure [] := by intros; rfl)
    (hdb : (x == ("__debug__" : Str)) = false := by decide) (hd : (a == ("__debug__" : Str)) = false := by decide) (hcd : (a == ("__classdict__" : Str)) = false := by decide) :
    PE X (.Call (.Name x p) [.Lambda params body scope lpos] [] pos) (tD (tabT TL) X.mg W (fTold hs fb)) := by
  obtain ⟨oc, od, dV, kV, doc, pm, an, cdv, ct, osl, rfl, lk, hcd2, hD, hK⟩ := F.ex
  exact (LamX.pe_lamcall (TT := TTm X.K cl hs) (t := fun E => tD (tabT TL) X.mg (fun cls d _ H => E cls d H) fb) hg hm F.kp lk hcd2 bn Sg rfl hva (hG _ _) TB hcode hT hu B.rm L hdef hbind hbody hdb hd hcd).imp fun _ _ _ => lam_imp Z
end
end DL

namespace DL
open PySem PySem.Spec L2
open PyProof.Rows hiding St

/-! ### the law's def, the end of a row -/
/-- the script as it lies -/
inductive Scr : Option (Addr × List Int) → D → List Int → Prop where
  | lst {ns : List Int} : Scr none (.lst (ns.map .int)) ns
  | frz {ns : List Int} : Scr none (.scr (ns.map .int)) ns
  | mod {a : Addr} {ns : List Int} : Scr (some (a, ns)) (.adr a) ns
def spLaw (K : PySem.W.Frag) (TL : List (Addr × Str)) : Sp := fun vs H Q _ => ∃ (a : Addr) (ns : List Int), vs = [.ref a] ∧ SqL K H a (ns.map V.int) ∧ ns.length ≤ 63 ∧ LamX.Tabs TL H ∧ ∀ H', Q (.bl true) H'
theorem fn_law {P : Program} {w : World} {K : PySem.W.Frag} {mg : Str → Option Value} {base : Heap} {x qual : Str} {st : Stmt} {fd : FuncData} {Nm : List Str} {k : Nat} {p : Str × Option Str} {TL : List (Addr × Str)} {g : Option (Addr × List Int) → Sx → RS}
    (F : FunD K x qual (defArgs st) (defBody st) (defScope st) [] [] (He.fAd K p) fd) (S : FnScope Nm ["script"] (defScope st))
    (hb : ∀ (sk : Option (Addr × List Int)), KSt K sk → ∀ (A : Around) (outer : List Env) (s : Shared) (H : Hp) (E : XK), Room k (A.deeper (envOfC qual (defScope st) s.heap.objs.size (He.fAd K p) (.ref (He.codeOf K p)))) →
      PSs (cxOf (L2.CX P w) P w K mg base Nm qual (defScope st) (He.fAd K p) (.ref (He.codeOf K p)) A outer s H E) (defBody st) (tS (tabT TL) mg (fun cls d _ H => E cls d H) (g sk)))
    (hok : ∀ sk d ns, Scr sk d ns → ns.length ≤ 63 → ∃ s1, g sk ⟨init0 Nm [d], []⟩ = .rt (.bl true) s1) :
    FnOk P w K mg base (L2.CX P w) (k + 1) (He.fAd K p) fd ["script"] (spLaw K TL) := by
  obtain ⟨oc, od, dV, kV, doc, pm, an, cdv, ct, osl, rfl, lk, hcd, hD, hK⟩ := F.ex
  obtain ⟨c', rfl⟩ := He.codeIn_ref hcd
  have ec : He.codeOf K p = c' := He.codeOf_eq lk rfl
  rw [ec] at hb
  refine fn_of lk hcd S (fun vs H Q E h => ?_) fun A outer s H vs Q E hr hsp => ?_
  · obtain ⟨a, ns, rfl, _⟩ := h; rfl
  · obtain ⟨a, ns, rfl, hS, hl, hT, q⟩ := hsp
    obtain ⟨sk, d, hk, hd, rd⟩ : ∃ (sk : Option (Addr × List Int)) (d : D), KSt K sk ∧ Scr sk d ns ∧ Rel H (fun _ => False) [] d (.ref a) := by
      rcases hS with (h | ⟨o, h⟩) | h
      · exact ⟨none, _, (fun _ _ z => by cases z), Scr.lst, by unfold Rel; exact ⟨a, _, rfl, fun z => z, h, rels_ints ns⟩⟩
      · exact ⟨none, _, (fun _ _ z => by cases z), Scr.frz, by unfold Rel; exact ⟨a, o, _, rfl, h, rels_ints ns⟩⟩
      · exact ⟨some (a, ns), _, (fun _ _ z H' => by cases z; exact .inr h), Scr.mod, by unfold Rel; rfl⟩
    obtain ⟨s1, hg⟩ := hok sk d ns hd hl
    refine ⟨_, hb sk hk A outer s H E hr, ⟨init0 Nm [d], []⟩, [], fun _ => False, ⟨⟨by simp, by simp, fun a z => z.elim, rfl, fun n l z => by simp at z, hT⟩, init_slt (Rels.one rd), ?_⟩, ?_⟩
    · unfold init0 L2.start
      simp
    · rw [hg]
      intro v σ' H' α' N' s' e rv
      unfold Rel at rv
      rw [rv]
      exact q H'
theorem cx_no {P : Program} {w : World} {o : List Env} {H : Hp} {s : Shared} {e : Value} {s' : Shared} (h : L2.CX P w o H s (fun _ _ _ => False) e s') : False := by
  obtain ⟨_, _, _, _, _, _, _, _, _, _, _, _, z⟩ := h
  exact z
/-- what the head tells of a row whose law makes lambdas: all that walk_ofTsE asks -/
theorem law_at {l : PySem.W.OpenLaw} {w : World} {K : PySem.W.Frag} {mg : Str → Option Value} {f : Addr} {h : Heap} {k : Nat} {fa : List He.Fa} {fn : List He.DefD} {ex : PySem.W.Frag → Bool} {q : Str} {fd : FuncData}
    (X : K.In h) (G : h.Ns mainGlobals mg) (hfa : mg ("law" : Str) = some (.ref f)) (c : He.SaysX fa fn [] [("law", none)] ex w h K) (hga : mg ("law" : Str) = some (.ref (He.ga K "law")))
    (b : ∀ (s : Shared) (u : Value), BindsTo s fd ⟨[u], []⟩ [("script", u)])
    (hF : ∀ base : Heap, K.In base → base.Ns mainGlobals mg → LamX.TabB base mg (He.codeOf K ("law", none)) (He.tabOf K (He.codeOf K ("law", none))) → FnOk l.prog w K mg base (L2.CX l.prog w) k (He.fAd K ("law", none)) fd ["script"] (spLaw K [(He.tabOf K (He.codeOf K ("law", none)), q)])) :
    LamX.LawAtS l w K (L2.CX l.prog w) k 63 "script" mg f h := by
  have e := hfa.symm.trans hga
  cases e
  have one : ∀ p ∈ [He.cT K ("law", none)], p = He.cT K ("law", none) := fun p hp => by simpa using hp
  refine ⟨fd, [He.cT K ("law", none)], _, fun p hp => ?_, fun p hp => ?_, fun p hp => ?_, b, fun H a ns hl _ hT hS => ⟨a, ns, rfl, hS, hl, fun p hp => ?_, fun _ => rfl⟩, fun base kb nb tb => hF base kb nb (tb (He.cT K ("law", none)) (by simp))⟩
  · rw [one p hp]; exact c.empty _ (by simp)
  · rw [one p hp]; exact c.out _ (by simp)
  · rw [one p hp]; exact PySem.W.codeHd_of_K X (c.hd _ (by simp))
  · have hp' : p = (He.tabOf K (He.codeOf K ("law", none)), q) := by simpa using hp
    rw [hp']
    exact LamX.TabS.nil (hT (He.cT K ("law", none)) (by simp))
/-- a def by its facts -/
theorem cal_of {T : TPr} {P : Program} {w : World} {K : PySem.W.Frag} {mg : Str → Option Value} {base : Heap} {x : Str} {st : Stmt} {fd : FuncData} {ps : List Str} {k : Nat} {fM : List D → Cells → R D} (g : mg x = some (.ref (He.ga K x)))
    (F : FunD K x x (defArgs st) (defBody st) (defScope st) [] [] (He.fAd K (x, none)) fd) (b : Binds K fd ps []) (h : FnOk P w K mg base (L2.CX P w) k (He.fAd K (x, none)) fd ps (spD T mg ps.length fM)) : Cal T P w K mg base k x ps.length fM :=
  ⟨_, fd, ps, g, F.kp, b, h⟩
theorem calO_of {T : TPr} {P : Program} {w : World} {K : PySem.W.Frag} {mg : Str → Option Value} {base : Heap} {x : Str} {st : Stmt} {fd : FuncData} {ps : List Str} {k : Nat} {p : List D → R D} (g : mg x = some (.ref (He.ga K x)))
    (F : FunD K x x (defArgs st) (defBody st) (defScope st) [] [] (He.fAd K (x, none)) fd) (b : Binds K fd ps []) (h : FnOk P w K mg base (L2.CX P w) k (He.fAd K (x, none)) fd ps (spO T mg ps.length p)) : CalO T P w K mg base k x ps.length p :=
  ⟨_, fd, ps, g, F.kp, b, h⟩
theorem exC_of {K : PySem.W.Frag} {mg : Str → Option Value} {x : Str} (g : mg x = some (.ref (He.ga K x))) (c : (He.Fa.exc x).ok K = true) : ExC K mg x := by
  obtain ⟨h1, h2, h3, h4⟩ := He.exc_ok c
  exact ⟨_, g, h1, h2, h3, h4⟩
/-! ### fuel by the arguments -/
mutual
def D.sz : D → Nat
  | .int i => i.natAbs + 1
  | .tup l => szs l + 1
  | .lst l => szs l + 1
  | _ => 1
def szs : List D → Nat
  | [] => 0
  | d :: l => d.sz + szs l + 1
end
def fuelOf (ds : List D) : Nat := 1000 + szs ds
def autF (n : Nat) (Nm : List Str) (g : Nat → Sx → RS) : List D → Pu := fun ds => if ds.length = n then (g (fuelOf ds) ⟨init0 Nm ds, []⟩).pu else .no
theorem autF_len {n : Nat} {Nm : List Str} {g : Nat → Sx → RS} (ds : List D) (h : autF n Nm g ds ≠ .no) : ds.length = n := by
  unfold autF at h
  by_cases hl : ds.length = n
  · exact hl
  · rw [if_neg hl] at h; exact (h rfl).elim
theorem fn_autF {T : TPr} {P : Program} {w : World} {K : PySem.W.Frag} {mg : Str → Option Value} {base : Heap} {x qual : Str} {st : Stmt} {f : Addr} {fd : FuncData} {Nm ps : List Str} {dvs : List V} {kws : List (Str × V)} {k : Nat} {g : Nat → Sx → RS}
    (F : FunD K x qual (defArgs st) (defBody st) (defScope st) dvs kws f fd) (S : FnScope Nm ps (defScope st))
    (hb : ∀ (n : Nat) (cdv : Value) (A : Around) (outer : List Env) (s : Shared) (H : Hp) (E : XK), Room k (A.deeper (envOfC qual (defScope st) s.heap.objs.size f cdv)) →
      PSs (cxOf (L2.CX P w) P w K mg base Nm qual (defScope st) f cdv A outer s H E) (defBody st) (tS T mg (fun cls d _ H => E cls d H) (g n))) :
    FnOk P w K mg base (L2.CX P w) (k + 1) f fd ps (spP T mg ps.length (autF ps.length Nm g)) :=
  fn_okP F S fun ds hn hl => ⟨g (fuelOf ds), hb _, pu_lift (by unfold autF; rw [if_pos hl]) hn⟩
/-- a def under another name of the module -/
theorem cal_as {T : TPr} {P : Program} {w : World} {K : PySem.W.Frag} {mg : Str → Option Value} {base : Heap} {x y : Str} {st : Stmt} {fd : FuncData} {ps : List Str} {k : Nat} {fM : List D → Cells → R D} (g : mg x = some (.ref (He.ga K x)))
    (F : FunD K y y (defArgs st) (defBody st) (defScope st) [] [] (He.fAd K (x, none)) fd) (b : Binds K fd ps []) (h : FnOk P w K mg base (L2.CX P w) k (He.fAd K (x, none)) fd ps (spD T mg ps.length fM)) : Cal T P w K mg base k x ps.length fM :=
  ⟨_, fd, ps, g, F.kp, b, h⟩
end DL

namespace DL
open PySem PySem.Spec L2
open PyProof.Rows hiding St

/-! ### the functions on data, run: what simp needs -/
mutual
def D.noscr : D → Bool
  | .tup l => noscrs l
  | .lst l => noscrs l
  | .scr _ => false
  | _ => true
def noscrs : List D → Bool
  | [] => true
  | d :: l => d.noscr && noscrs l
end
@[simp] theorem ce0 {α : Type} {a : α} {l : List α} : (a :: l)[0]? = some a := rfl
section
variable {γ δ : Type} {ρ : List (Option D)} {M : Cells} {s : Sx}
@[simp] theorem bind_ok {a : γ} {k : γ → Cells → R δ} : (R.ok a M).bind k = k a M := rfl
@[simp] theorem bind_ex {e : Ex} {k : γ → Cells → R δ} : (R.ex e M : R γ).bind k = .ex e M := rfl
@[simp] theorem toS_ok {a : γ} {k : γ → Cells → RS} : (R.ok a M).toS ρ k = k a M := rfl
@[simp] theorem toS_ex {e : Ex} {k : γ → Cells → RS} : (R.ex e M : R γ).toS ρ k = .ex e ⟨ρ, M⟩ := rfl
@[simp] theorem opt_some {a : γ} : opt (some a) M = .ok a M := rfl
@[simp] theorem toB_ok {b : Bool} : toB (.ok (.bl b) M) = .ok b M := rfl
@[simp] theorem fC_s {d : D} : fC d s = .ok d s.M := rfl
@[simp] theorem fNil_s : fNil s = .ok [] s.M := rfl
@[simp] theorem fVar_s {i : Nat} : fVar i s = (match s.ρ[i]? with
  | some (some d) => .ok d s.M
  | _ => .no) := rfl
@[simp] theorem fCons_s {fa : Sx → R D} {fr : Sx → R (List D)} : fCons fa fr s = (fa s).bind fun d M1 => (fr ⟨s.ρ, M1⟩).bind fun l M2 => .ok (d :: l) M2 := rfl
@[simp] theorem fOp_s {g : Cells → D → D → Option D} {fa fb : Sx → R D} : fOp g fa fb s = (fa s).bind fun d M1 => (fb ⟨s.ρ, M1⟩).bind fun e M2 => opt (g M2 d e) M2 := rfl
@[simp] theorem fUn_s {g : Cells → D → Option D} {fa : Sx → R D} : fUn g fa s = (fa s).bind fun d M1 => opt (g M1 d) M1 := rfl
@[simp] theorem fCB_s {g : Cells → List D → Option D} {fa : Sx → R (List D)} : fCB g fa s = (fa s).bind fun l M1 => opt (g M1 l) M1 := rfl
@[simp] theorem fTup_s {f : Sx → R (List D)} : fTup f s = (f s).bind fun l M => if l.length ≤ 100000 then .ok (.tup l) M else .no := rfl
@[simp] theorem fLst_s {f : Sx → R (List D)} : fLst f s = (f s).bind fun l M => if l.length ≤ 100000 then .ok (.lst l) M else .no := rfl
@[simp] theorem fTst_s {f : Sx → R D} : fTst f s = toB (f s) := rfl
@[simp] theorem fAnd_s {f g : Sx → R Bool} : fAnd f g s = (f s).bind fun b M => if b = true then g ⟨s.ρ, M⟩ else .ok false M := rfl
@[simp] theorem fOr_s {f g : Sx → R Bool} : fOr f g s = (f s).bind fun b M => if b = true then .ok true M else g ⟨s.ρ, M⟩ := rfl
@[simp] theorem fNot_s {f : Sx → R Bool} : fNot f s = (f s).bind fun b M => .ok (!b) M := rfl
@[simp] theorem fIf_s {c : Sx → R Bool} {f g : Sx → R D} : fIf c f g s = (c s).bind fun b M => if b = true then f ⟨s.ρ, M⟩ else g ⟨s.ρ, M⟩ := rfl
@[simp] theorem fIfS_s {c : Sx → R Bool} {f g : Sx → RS} : fIfS c f g s = (c s).toS s.ρ fun b M => if b = true then f ⟨s.ρ, M⟩ else g ⟨s.ρ, M⟩ := rfl
@[simp] theorem fRet_s {f : Sx → R D} : fRet f s = (f s).toS s.ρ fun d M => .rt d ⟨s.ρ, M⟩ := rfl
@[simp] theorem fDrop_s {f : Sx → R D} : fDrop f s = (f s).toS s.ρ fun _ M => .nx ⟨s.ρ, M⟩ := rfl
@[simp] theorem fSkip_s : fSkip s = .nx s := rfl
@[simp] theorem fRaise_s {x : Str} : fRaise x s = .ex ⟨x, none⟩ s := rfl
@[simp] theorem fAsg_s {f : Sx → R D} {g : D → Sx → Option Sx} : fAsg f g s = (f s).toS s.ρ fun d M => match g d ⟨s.ρ, M⟩ with
  | some s => .nx s
  | none => .no := by
  unfold fAsg; congr
@[simp] theorem bName_s {i : Nat} {d : D} : bName i d s = some ⟨s.ρ.set i (some d), s.M⟩ := rfl
@[simp] theorem fFz_s {f : Sx → R (List D)} : fFz f s = (f s).bind fun l M => .ok (.lst l) M := rfl
@[simp] theorem fNew_s {f : Sx → R (List D)} : fNew f s = (f s).bind fun l M => if l.length ≤ 100000 then .ok l M else .no := rfl
@[simp] theorem fOwn_s {i : Nat} {f : Sx → R (List D)} : fOwn i f s = (f s).toS s.ρ fun l M => .nx ⟨s.ρ.set i (some (.loc M.length)), M ++ [l]⟩ := rfl
@[simp] theorem fIt_s {k : D → Option (List D)} {f : Sx → R D} : fIt k f s = (f s).bind fun d M => opt (k d) M := rfl
@[simp] theorem asTup_s {l : List D} : asTup (.tup l) = some l := rfl
@[simp] theorem asLst_s {l : List D} : asLst (.lst l) = some l := rfl
@[simp] theorem fFor_s {fi : Sx → R (List D)} {g : D → Sx → Option Sx} {b : Sx → RS} : fFor fi g b s = (fi s).toS s.ρ fun ds M => fForL g b ds ⟨s.ρ, M⟩ := rfl
@[simp] theorem forL_nil {g : D → Sx → Option Sx} {b : Sx → RS} : fForL g b [] s = .nx s := by unfold fForL; rfl
theorem seq_nx {f g : Sx → RS} {s1 : Sx} (h : f s = .nx s1) : fSeq f g s = g s1 := by unfold fSeq; rw [h]
theorem seq_rt {f g : Sx → RS} {s1 : Sx} {d : D} (h : f s = .rt d s1) : fSeq f g s = .rt d s1 := by unfold fSeq; rw [h]
theorem seq_ex {f g : Sx → RS} {s1 : Sx} {e : Ex} (h : f s = .ex e s1) : fSeq f g s = .ex e s1 := by unfold fSeq; rw [h]
@[simp] theorem seq_s {f g : Sx → RS} : fSeq f g s = (match f s with
  | .nx s1 => g s1
  | x => x) := by unfold fSeq; cases f s <;> rfl
/-! ints -/
@[simp] theorem gI_s {f : Int → Int → D} {i j : Int} : gI f M (.int i) (.int j) = some (f i j) := rfl
@[simp] theorem gIc_s {C : Int → Int → Bool} {f : Int → Int → D} {i j : Int} (h : C i j = true) : gIc C f M (.int i) (.int j) = some (f i j) := by
  unfold gIc; simp [h]
theorem mulOk_l {i j : Int} (h1 : -18446744073709551616 < i) (h2 : i < 18446744073709551616) : mulOk i j = true := by
  unfold mulOk; simp; left; omega
theorem mulOk_r {i j : Int} (h1 : -18446744073709551616 < j) (h2 : j < 18446744073709551616) : mulOk i j = true := by
  unfold mulOk; simp; right; omega
@[simp] theorem nMul_s {i j : Int} (h1 : -18446744073709551616 < i) (h2 : i < 18446744073709551616) : nMul M (.int i) (.int j) = some (.int (i * j)) := gIc_s (mulOk_l h1 h2)
@[simp] theorem gIx_tup {l : List D} {i : Int} : gIx M (.tup l) (.int i) = atI l i := rfl
@[simp] theorem gIx_lst {l : List D} {i : Int} : gIx M (.lst l) (.int i) = atI l i := rfl
@[simp] theorem atI_0 {α : Type} {d : α} {l : List α} : atI (d :: l) 0 = some d := atI_nat (j := 0) rfl
@[simp] theorem atI_1 {α : Type} {d e : α} {l : List α} : atI (d :: e :: l) 1 = some e := atI_nat (j := 1) rfl
@[simp] theorem atI_2 {α : Type} {d e f : α} {l : List α} : atI (d :: e :: f :: l) 2 = some f := atI_nat (j := 2) rfl
/-! equal, unlike -/
theorem dEq_int {i j : Int} : dEq M (.int i) (.int j) = some (decide (i = j)) := rfl
theorem dEq_bl {i j : Bool} : dEq M (.bl i) (.bl j) = some (decide (i = j)) := by cases i <;> cases j <;> rfl
theorem dEq_pt {a b c d : Int} : dEq M (.tup [.int a, .int b]) (.tup [.int c, .int d]) = some (decide (a = c) && decide (b = d)) := by
  show some _ = some _
  congr 1
  show (decide (a = c) && (decide (b = d) && true)) = _
  rw [Bool.and_true]
@[simp] theorem gEq_int {i j : Int} : gEq M (.int i) (.int j) = some (.bl (decide (i = j))) := rfl
@[simp] theorem gNe_int {i j : Int} : gNe M (.int i) (.int j) = some (.bl (!decide (i = j))) := rfl
@[simp] theorem gEq_pt {a b c d : Int} : gEq M (.tup [.int a, .int b]) (.tup [.int c, .int d]) = some (.bl (decide (a = c) && decide (b = d))) := by unfold gEq; rw [dEq_pt]; rfl
@[simp] theorem gNe_pt {a b c d : Int} : gNe M (.tup [.int a, .int b]) (.tup [.int c, .int d]) = some (.bl (!(decide (a = c) && decide (b = d)))) := by unfold gNe; rw [dEq_pt]; rfl
@[simp] theorem gEq_bl {i j : Bool} : gEq M (.bl i) (.bl j) = some (.bl (decide (i = j))) := by unfold gEq; rw [dEq_bl]; rfl
@[simp] theorem gNe_bl {i j : Bool} : gNe M (.bl i) (.bl j) = some (.bl (!decide (i = j))) := by unfold gNe; rw [dEq_bl]; rfl
/-! calls -/
theorem call_s {p : List D → Pu} {f : Sx → R (List D)} : fCall p f s = (f s).bind fun ds M => if lfs ds = true then (match p ds with
  | .ok d => .ok d M
  | .ex e => .ex e M
  | .no => .no) else .no := rfl
@[simp] theorem pu_rt {d : D} {M' : Cells} : (RS.rt d ⟨ρ, M'⟩).pu = match fz M' 0 d with
  | some e => .ok e
  | none => .no := by
  unfold RS.pu RS.out
  simp only [cut0]
  cases fz M' 0 d <;> rfl
@[simp] theorem pu_nx {M' : Cells} : (RS.nx ⟨ρ, M'⟩).pu = .ok .non := by
  unfold RS.pu RS.out
  simp only [cut0]
@[simp] theorem pu_ex {x : Str} {M' : Cells} : (RS.ex ⟨x, none⟩ ⟨ρ, M'⟩).pu = .ex ⟨x, none⟩ := by
  unfold RS.pu RS.out
  simp only [cut0]
@[simp] theorem fz_non {m : Nat} : fz M m .non = some .non := by unfold fz; rfl
@[simp] theorem fz_int {m : Nat} {i : Int} : fz M m (.int i) = some (.int i) := by unfold fz; rfl
@[simp] theorem fz_bl {m : Nat} {i : Bool} : fz M m (.bl i) = some (.bl i) := by unfold fz; rfl
@[simp] theorem fz_str {m : Nat} {i : Str} : fz M m (.str i) = some (.str i) := by unfold fz; rfl
@[simp] theorem fz_tup {m : Nat} {l : List D} : fz M m (.tup l) = (fzs M m l).map .tup := by unfold fz; rfl
@[simp] theorem fz_lst {m : Nat} {l : List D} : fz M m (.lst l) = (fzs M m l).map .lst := by unfold fz; rfl
@[simp] theorem fzs_nil {m : Nat} : fzs M m [] = some [] := by unfold fzs; rfl
@[simp] theorem fzs_cons {m : Nat} {d : D} {l : List D} : fzs M m (d :: l) = (match fz M m d, fzs M m l with
  | some p, some ps => some (p :: ps)
  | _, _ => none) := by first | (rw [fzs]; done) | (rw [fzs]; rfl)
mutual
theorem fz_lf {m : Nat} : ∀ {d : D}, d.lf = true → (∀ l, d ≠ .scr l) → (D.noscr d = true) → fz M m d = some d
  | .non, _, _, _ => by simp
  | .bl _, _, _, _ => by simp
  | .int _, _, _, _ => by simp
  | .str _, _, _, _ => by simp
  | .tup l, h, _, n => by
    unfold D.lf at h
    unfold D.noscr at n
    rw [fz_tup, fzs_lf h n]; rfl
  | .lst l, h, _, n => by
    unfold D.lf at h
    unfold D.noscr at n
    rw [fz_lst, fzs_lf h n]; rfl
  | .loc _, h, _, _ => by unfold D.lf at h; cases h
  | .adr _, _, _, _ => by unfold fz; rfl
  | .ty _, _, _, _ => by unfold fz; rfl
  | .scr l, _, h, _ => (h l rfl).elim
theorem fzs_lf {m : Nat} : ∀ {l : List D}, lfs l = true → noscrs l = true → fzs M m l = some l
  | [], _, _ => by simp
  | d :: l, h, n => by
    unfold lfs at h
    unfold noscrs at n
    obtain ⟨h1, h2⟩ := Bool.and_eq_true_iff.mp h
    obtain ⟨n1, n2⟩ := Bool.and_eq_true_iff.mp n
    rw [fzs_cons, fz_lf h1 (fun l z => by rw [z] at n1; unfold D.noscr at n1; cases n1) n1, fzs_lf h2 n2]
end
end
/-! data that can be compared: None, ints, tuples and lists of such -/
mutual
def D.cmp : Nat → D → Bool
  | _, .non => true
  | _, .int _ => true
  | k + 1, .tup l => cmps k l
  | k + 1, .lst l => cmps k l
  | _, _ => false
def cmps : Nat → List D → Bool
  | _, [] => true
  | k, d :: l => d.cmp k && cmps k l
end
mutual
theorem cmp_py : ∀ {k : Nat} {d : D}, d.cmp k = true → ∃ p, pyOf d = some p ∧ p.canLay0 = true ∧ p.depth ≤ k
  | _, .non, _ => ⟨.none, by unfold pyOf; rfl, by simp [PyData.canLay0], by simp [PyData.depth]⟩
  | _, .int i, _ => ⟨.int i, by unfold pyOf; rfl, by simp [PyData.canLay0], by simp [PyData.depth]⟩
  | k + 1, .tup l, h => by
    unfold D.cmp at h
    obtain ⟨ps, h1, h2, h3⟩ := cmps_py h
    exact ⟨.tuple ps, by unfold pyOf; rw [h1]; rfl, by simpa [PyData.canLay0] using h2, by simp [PyData.depth]; omega⟩
  | k + 1, .lst l, h => by
    unfold D.cmp at h
    obtain ⟨ps, h1, h2, h3⟩ := cmps_py h
    exact ⟨.list ps, by unfold pyOf; rw [h1]; rfl, by simpa [PyData.canLay0] using h2, by simp [PyData.depth]; omega⟩
  | 0, .tup _, h => by unfold D.cmp at h; cases h
  | 0, .lst _, h => by unfold D.cmp at h; cases h
  | _, .bl _, h => by unfold D.cmp at h; cases h
  | _, .str _, h => by unfold D.cmp at h; cases h
  | _, .loc _, h => by unfold D.cmp at h; cases h
  | _, .adr _, h => by unfold D.cmp at h; cases h
  | _, .ty _, h => by unfold D.cmp at h; cases h
  | _, .scr _, h => by unfold D.cmp at h; cases h
theorem cmps_py : ∀ {k : Nat} {l : List D}, cmps k l = true → ∃ ps, pysOf l = some ps ∧ PyData.canLayAll0 ps = true ∧ PyData.depthAll ps ≤ k
  | _, [], _ => ⟨[], by unfold pysOf; rfl, by simp [PyData.canLayAll0], by simp [PyData.depthAll]⟩
  | k, d :: l, h => by
    unfold cmps at h
    obtain ⟨h1, h2⟩ := Bool.and_eq_true_iff.mp h
    obtain ⟨p, a1, a2, a3⟩ := cmp_py h1
    obtain ⟨ps, b1, b2, b3⟩ := cmps_py h2
    exact ⟨p :: ps, by unfold pysOf; rw [a1, b1], by simp [PyData.canLayAll0, a2, b2], by simp only [PyData.depthAll]; omega⟩
end
mutual
theorem cmp_iff : ∀ {k j : Nat} {d e : D} {p q : PyData}, d.cmp k = true → e.cmp j = true → pyOf d = some p → pyOf e = some q → (PyData.eqv p q = true ↔ d = e)
  | _, _, d, e, _, _, h, g, h1, h2 => by
    cases d <;> (try (simp [D.cmp] at h; done)) <;> cases e <;> (try (simp [D.cmp] at g; done)) <;> (simp only [pyOf, Option.some.injEq, Option.map_eq_some_iff] at h1 h2)
    case non.non => subst h1 h2; simp [PyData.eqv]
    case int.int => subst h1 h2; simp [PyData.eqv]
    case tup.tup l m =>
      obtain ⟨ps, a1, rfl⟩ := h1
      obtain ⟨qs, b1, rfl⟩ := h2
      rename_i k j
      cases k <;> cases j <;> (try (simp [D.cmp] at h; done)) <;> (try (simp [D.cmp] at g; done))
      unfold D.cmp at h g
      simp only [PyData.eqv, D.tup.injEq]
      exact cmps_iff h g a1 b1
    case lst.lst l m =>
      obtain ⟨ps, a1, rfl⟩ := h1
      obtain ⟨qs, b1, rfl⟩ := h2
      rename_i k j
      cases k <;> cases j <;> (try (simp [D.cmp] at h; done)) <;> (try (simp [D.cmp] at g; done))
      unfold D.cmp at h g
      simp only [PyData.eqv, D.lst.injEq]
      exact cmps_iff h g a1 b1
    all_goals
      first
      | (obtain ⟨ps, a1, rfl⟩ := h1; obtain ⟨qs, b1, rfl⟩ := h2; simp [PyData.eqv])
      | (obtain ⟨ps, a1, rfl⟩ := h1; subst h2; simp [PyData.eqv])
      | (obtain ⟨ps, a1, rfl⟩ := h2; subst h1; simp [PyData.eqv])
      | (subst h1 h2; simp [PyData.eqv])
theorem cmps_iff : ∀ {k j : Nat} {l m : List D} {ps qs : List PyData}, cmps k l = true → cmps j m = true → pysOf l = some ps → pysOf m = some qs → (PyData.eqvAll ps qs = true ↔ l = m)
  | _, _, [], [], _, _, _, _, h1, h2 => by unfold pysOf at h1 h2; cases h1; cases h2; simp [PyData.eqvAll]
  | _, _, [], d :: m, _, _, _, g, h1, h2 => by
    unfold pysOf at h1 h2; cases h1
    split at h2
    · cases h2; simp [PyData.eqvAll]
    · cases h2
  | _, _, d :: m, [], _, _, _, g, h1, h2 => by
    unfold pysOf at h1 h2; cases h2
    split at h1
    · cases h1; simp [PyData.eqvAll]
    · cases h1
  | _, _, d :: l, e :: m, _, _, h, g, h1, h2 => by
    unfold pysOf at h1 h2
    unfold cmps at h g
    obtain ⟨ha, hb⟩ := Bool.and_eq_true_iff.mp h
    obtain ⟨ga, gb⟩ := Bool.and_eq_true_iff.mp g
    split at h1
    · rename_i p ps a1 a2
      split at h2
      · rename_i q qs b1 b2
        cases h1; cases h2
        simp only [PyData.eqvAll, Bool.and_eq_true, List.cons.injEq]
        exact and_congr (cmp_iff ha ga a1 b1) (cmps_iff hb gb a2 b2)
      · cases h2
    · cases h1
end
theorem cmp_at {M : Cells} {k : Nat} {d : D} (h : d.cmp k = true) : pyAt M d = pyOf d := by
  cases d <;> first | rfl | (unfold D.cmp at h; cases h)
theorem dEq_cmp {M : Cells} {d e : D} (h : d.cmp 60 = true) (g : e.cmp 60 = true) : ∃ b, dEq M d e = some b ∧ (b = true ↔ d = e) := by
  obtain ⟨p, a1, a2, a3⟩ := cmp_py h
  obtain ⟨q, b1, b2, b3⟩ := cmp_py g
  refine ⟨PyData.eqv p q, ?_, cmp_iff h g a1 b1⟩
  unfold dEq
  rw [cmp_at h, cmp_at g, a1, b1]
  simp only [SeqAt.shaped, a2, b2, Bool.true_and]
  rw [if_pos]
  simp; omega
theorem gNe_self {M : Cells} {d : D} (h : d.cmp 60 = true) : gNe M d d = some (.bl false) := by
  obtain ⟨b, h1, h2⟩ := dEq_cmp (M := M) h h
  unfold gNe; rw [h1, h2.mpr rfl]; rfl
theorem gEq_self {M : Cells} {d : D} (h : d.cmp 60 = true) : gEq M d d = some (.bl true) := by
  obtain ⟨b, h1, h2⟩ := dEq_cmp (M := M) h h
  unfold gEq; rw [h1, h2.mpr rfl]; rfl
theorem gNe_ne {M : Cells} {d e : D} (h : d.cmp 60 = true) (g : e.cmp 60 = true) (n : d ≠ e) : gNe M d e = some (.bl true) := by
  obtain ⟨b, h1, h2⟩ := dEq_cmp (M := M) h g
  unfold gNe; rw [h1]
  cases b with
  | true => exact (n (h2.mp rfl)).elim
  | false => rfl
theorem gEq_ne {M : Cells} {d e : D} (h : d.cmp 60 = true) (g : e.cmp 60 = true) (n : d ≠ e) : gEq M d e = some (.bl false) := by
  obtain ⟨b, h1, h2⟩ := dEq_cmp (M := M) h g
  unfold gEq; rw [h1]
  cases b with
  | true => exact (n (h2.mp rfl)).elim
  | false => rfl
theorem cmps_ints {k : Nat} : ∀ ns : List Int, cmps k (ns.map .int) = true
  | [] => by simp [cmps]
  | i :: r => by simp [cmps, D.cmp, cmps_ints r]
theorem cmps_all {k : Nat} : ∀ {l : List D}, (∀ d ∈ l, d.cmp k = true) → cmps k l = true
  | [], _ => by simp [cmps]
  | d :: l, h => by simp only [cmps, h d List.mem_cons_self, cmps_all fun e he => h e (List.mem_cons_of_mem _ he), Bool.and_self]
end DL

namespace DL
open PySem PySem.Spec L2
open PyProof.Rows hiding St

/-! ### the laws' dice -/
abbrev nDice : List Str := ["cell"]
def gDice  : Sx → RS := (fSeq (fIfS (fTst (fChain nLt nLt (fOp nSub (fC (.int 0)) (fC (.int 10))) (fVar 0) (fC (.int 10)))) (fRet (fOwnE (fNew (fCons (fCB gAbs (fCons (fVar 0) fNil)) (fCons (fC (.int 0)) (fCons (fC (.int 2)) fNil)))))) fSkip) (fRet (fOwnE (fNew (fCons (fVar 0) (fCons (fOp nAdd (fC (.int 1)) (fOp nMod (fCB gInt (fCons (fVar 0) fNil)) (fC (.int 1009)))) (fCons (fCB gInt (fCons (fOp nGe (fVar 0) (fOp nPow (fC (.int 10)) (fC (.int 18)))) fNil)) fNil)))))))
def mDice : List D → R D := autO 1 nDice (gDice )
abbrev nRoll : List Str := ["dice", "many", "found"]
def gRoll  : Sx → RS := (fSeq (fIfS (fOr (fTst (fOp gEq (fOp gIx (fVar 0) (fC (.int 2))) (fC (.int 2)))) (fAnd (fTst (fOp gEq (fOp gIx (fVar 0) (fC (.int 2))) (fC (.int 1)))) (fTst (fOp nGt (fOp gIx (fVar 0) (fC (.int 0))) (fC (.int 0)))))) (fSeq (fAsg (fOp nMod (fCB gInt (fCons (fOp gIx (fVar 0) (fC (.int 0))) fNil)) (fVar 1)) (bName 2)) (fSeq (fSetIx (fOp nDiv (fOp gIx (fVar 0) (fC (.int 0))) (fVar 1)) (fVar 0) (fC (.int 0))) (fRet (fVar 2)))) fSkip) (fSeq (fSetIx (fC (.int 0)) (fVar 0) (fC (.int 2))) (fSeq (fSetIx (fOp nMod (fCB gInt (fCons (fOp nAdd (fOp nAdd (fOp nMul (fOp gIx (fVar 0) (fC (.int 0))) (fC (.int 48271))) (fOp nMul (fOp gIx (fVar 0) (fC (.int 1))) (fC (.int 69621)))) (fC (.int 11))) fNil)) (fC (.int 2147483647))) (fVar 0) (fC (.int 0))) (fSeq (fSetIx (fOp nAdd (fOp gIx (fVar 0) (fC (.int 1))) (fC (.int 1))) (fVar 0) (fC (.int 1))) (fRet (fOp nMod (fCB gInt (fCons (fOp nAdd (fOp nDiv (fOp gIx (fVar 0) (fC (.int 0))) (fC (.int 7))) (fOp gIx (fVar 0) (fC (.int 0)))) fNil)) (fVar 1)))))))
def mRoll : List D → Cells → R D := autM 2 nRoll (gRoll )
abbrev nRounds : List Str := ["script", "most", "cells", "cell"]
def gRounds (sk : Option (Addr × List Int)) : Sx → RS := (fSeq (fAsg (fSlK sk (fVar 0) fNoPart (fPart (fVar 1))) (bName 2)) (fSeq (fIfS (fTst (fOp gEq (fVar 2) (fLst fNil))) (fAsg (fLst (fCons (fC (.int 0)) fNil)) (bName 2)) fSkip) (fRet (fFz (fLc (fIt asLst (fVar 2)) (bName 3) fTrue (fCallO mDice (fCons (fVar 3) fNil)) [3])))))
def mRounds (sk : Option (Addr × List Int)) : List D → R D := autO 2 nRounds (gRounds sk)
abbrev nPoint : List Str := ["dice", "far"]
def gPoint  : Sx → RS := (fRet (fTup (fCons (fOp nSub (fCallM mRoll (fCons (fVar 0) (fCons (fOp nAdd (fOp nMul (fC (.int 2)) (fVar 1)) (fC (.int 1))) fNil))) (fVar 1)) (fCons (fOp nSub (fCallM mRoll (fCons (fVar 0) (fCons (fOp nAdd (fOp nMul (fC (.int 2)) (fVar 1)) (fC (.int 1))) fNil))) (fVar 1)) fNil))))
def mPoint : List D → Cells → R D := autM 2 nPoint (gPoint )

@[simp] theorem gAbs_s {M : Cells} {i : Int} : gAbs M [.int i] = some (.int (if i < 0 then -i else i)) := rfl
@[simp] theorem gInt_i {M : Cells} {i : Int} : gInt M [.int i] = some (.int i) := rfl
@[simp] theorem gInt_b {M : Cells} {b : Bool} : gInt M [.bl b] = some (.int (if b = true then 1 else 0)) := rfl
@[simp] theorem nMod_s {M : Cells} {i j : Int} (h : 0 < j) : nMod M (.int i) (.int j) = some (.int (i % j)) := gIc_s (by simpa using h)
@[simp] theorem nDiv_s {M : Cells} {i j : Int} (h : 0 < j) (h2 : j < 1073741824) : nDiv M (.int i) (.int j) = some (.int (i / j)) := gIc_s (by simp; omega)
@[simp] theorem nMul_r {M : Cells} {i j : Int} (h1 : -18446744073709551616 < j) (h2 : j < 18446744073709551616) : nMul M (.int i) (.int j) = some (.int (i * j)) := gIc_s (mulOk_r h1 h2)
/-- three ints -/
abbrev Tri (a b c : Int) : List D := [.int a, .int b, .int c]
@[simp] theorem nPow_s {M : Cells} {i j : Int} (h : 0 ≤ j) (h2 : j ≤ 1000000) (h3 : i.natAbs < 18446744073709551616) : nPow M (.int i) (.int j) = some (.int (i ^ j.toNat)) := gIc_s (by simp; omega)
@[simp] theorem fChain_s {g g' : Cells → D → D → Option D} {fa fb fc : Sx → R D} {s : Sx} : fChain g g' fa fb fc s = (fa s).bind fun d M1 => (fb ⟨s.ρ, M1⟩).bind fun e M2 => (opt (g M2 d e) M2).bind fun z M3 => match z with
    | .bl b => if b = true then (fc ⟨s.ρ, M3⟩).bind fun w M4 => opt (g' M4 e w) M4 else .ok (.bl false) M3
    | _ => .no := rfl
@[simp] theorem fOwnE_s {f : Sx → R (List D)} {s : Sx} : fOwnE f s = (f s).bind fun l M => .ok (.loc M.length) (M ++ [l]) := rfl
@[simp] theorem outO_rt {d : D} {ρ : List (Option D)} {M : Cells} : (RS.rt d ⟨ρ, M⟩).outO = .ok d M := rfl
@[simp] theorem ix30 : ixN 3 0 = some 0 := rfl
@[simp] theorem ix31 : ixN 3 1 = some 1 := rfl
@[simp] theorem ix32 : ixN 3 2 = some 2 := rfl
@[simp] theorem fSetIx_s {fe fo fi : Sx → R D} {s : Sx} : fSetIx fe fo fi s = (fe s).toS s.ρ fun d M1 => (fo ⟨s.ρ, M1⟩).toS s.ρ fun o M2 => (fi ⟨s.ρ, M2⟩).toS s.ρ fun i M3 => match o, i with
  | .loc n, .int j => match M3[n]? with
    | some xs => match ixN xs.length j with
      | some k => .nx ⟨s.ρ, M3.set n (xs.set k d)⟩
      | none => .no
    | none => .no
  | _, _ => .no := by
  unfold fSetIx; congr
@[simp] theorem gIx_loc {M : Cells} {n : Nat} {i : Int} : gIx M (.loc n) (.int i) = (match M[n]? with
  | some l => atI l i
  | none => none) := by
  unfold gIx seqOf
  dsimp only
  cases M[n]? <;> rfl
theorem dice_ok (c : Int) : ∃ x y z, mDice [.int c] = .ok (.loc 0) [Tri x y z] := by
  by_cases h : -10 < c
  · by_cases h2 : c < 10
    · refine ⟨if c < 0 then -c else c, 0, 2, ?_⟩
      simp (disch := omega) [mDice, autO, gDice, init0, h, h2]
    · refine ⟨c, 1 + c % 1009, if (10 : Int) ^ 18 ≤ c then 1 else 0, ?_⟩
      simp (disch := omega) [mDice, autO, gDice, init0, h, h2]
  · refine ⟨c, 1 + c % 1009, if (10 : Int) ^ 18 ≤ c then 1 else 0, ?_⟩
    simp (disch := omega) [mDice, autO, gDice, init0, h]
@[simp] theorem out1 {ρ : List (Option D)} {x y z : Int} {r : Int} : RS.out 1 (.rt (.int r) ⟨ρ, [Tri x y z]⟩) = .ok (.int r) [Tri x y z] := by
  simp [RS.out, cutM, lfs, D.lf]
@[simp] theorem out1p {ρ : List (Option D)} {x y z : Int} {r q : Int} : RS.out 1 (.rt (.tup [.int r, .int q]) ⟨ρ, [Tri x y z]⟩) = .ok (.tup [.int r, .int q]) [Tri x y z] := by
  simp [RS.out, cutM, lfs, D.lf]
theorem roll_ok {a b c many : Int} (hm : 0 < many) (hm2 : many < 1073741824) : ∃ r x y z, mRoll [.loc 0, .int many] [Tri a b c] = .ok (.int r) [Tri x y z] ∧ 0 ≤ r ∧ r < many := by
  have fin : ∀ q : Int, 0 ≤ q % many ∧ q % many < many := fun q => ⟨Int.emod_nonneg _ (by omega), Int.emod_lt_of_pos _ hm⟩
  have old : ∀ a b c, c ≠ 2 → (c = 1 → ¬ 0 < a) → mRoll [.loc 0, .int many] [Tri a b c] = .ok (.int (((a * 48271 + b * 69621 + 11) % 2147483647 / 7 + (a * 48271 + b * 69621 + 11) % 2147483647) % many)) [Tri ((a * 48271 + b * 69621 + 11) % 2147483647) (b + 1) 0] := by
    intro a b c h h1
    by_cases hc : c = 1
    · have h2 := h1 hc
      subst hc
      simp (disch := omega) [mRoll, autM, gRoll, init0, h2]
    · simp (disch := omega) [mRoll, autM, gRoll, init0, h, hc]
  by_cases h : c = 2
  · refine ⟨a % many, a / many, b, c, ?_, fin _⟩
    simp (disch := omega) [mRoll, autM, gRoll, init0, h]
  · by_cases h1 : c = 1 ∧ 0 < a
    · refine ⟨a % many, a / many, b, c, ?_, fin _⟩
      simp (disch := omega) [mRoll, autM, gRoll, init0, h1.1, h1.2]
    · exact ⟨_, _, _, _, old a b c h (fun hc ha => h1 ⟨hc, ha⟩), fin _⟩
/-- every cell a dice -/
def AllTri (M : Cells) : Prop := ∀ l ∈ M, ∃ a b c, l = Tri a b c
theorem AllTri.at {M : Cells} (h : AllTri M) {n : Nat} (hn : n < M.length) : ∃ a b c, M[n]? = some (Tri a b c) := by
  obtain ⟨a, b, c, e⟩ := h M[n] (List.getElem_mem hn)
  exact ⟨a, b, c, by rw [List.getElem?_eq_getElem hn, e]⟩
theorem AllTri.put {M : Cells} (h : AllTri M) {n : Nat} {a b c : Int} : AllTri (M.set n (Tri a b c)) := fun l hl => by
  rcases List.mem_or_eq_of_mem_set hl with z | z
  · exact h l z
  · exact ⟨a, b, c, z⟩
theorem callM_at {fM : List D → Cells → R D} {f : Sx → R (List D)} {s : Sx} {n : Nat} {M : Cells} {r : D} {rest : List D} {l l' : List D} (hf : f s = .ok (.loc n :: rest) M) (hn : M[n]? = some l) (hl : lfs l = true) (hl' : lfs l' = true) (hr : lfs rest = true) (hd : r.lf = true)
    (h : fM (.loc 0 :: rest) [l] = .ok r [l']) : fCallM fM f s = .ok r (M.set n l') := by
  unfold fCallM
  rw [hf]
  simp [hn, hl, hl', hr, h, hd]
@[simp] theorem tri_lf {a b c : Int} : lfs (Tri a b c) = true := rfl
theorem point_ok {a b c far : Int} (h1 : 0 ≤ far) (h2 : far < 500000000) : ∃ p q x y z, mPoint [.loc 0, .int far] [Tri a b c] = .ok (.tup [.int p, .int q]) [Tri x y z] ∧ -far ≤ p ∧ p ≤ far ∧ -far ≤ q ∧ q ≤ far := by
  obtain ⟨r1, x, y, z, e1, b1, b2⟩ := roll_ok (a := a) (b := b) (c := c) (many := 2 * far + 1) (by omega) (by omega)
  obtain ⟨r2, x2, y2, z2, e2, b3, b4⟩ := roll_ok (a := x) (b := y) (c := z) (many := 2 * far + 1) (by omega) (by omega)
  refine ⟨r1 - far, r2 - far, x2, y2, z2, ?_, by omega, by omega, by omega, by omega⟩
  have c1 : fCallM mRoll (fCons (fVar 0) (fCons (fOp nAdd (fOp nMul (fC (.int 2)) (fVar 1)) (fC (.int 1))) fNil)) ⟨[some (.loc 0), some (.int far)], [Tri a b c]⟩ = .ok (.int r1) [Tri x y z] :=
    callM_at (n := 0) (M := [Tri a b c]) (rest := [.int (2 * far + 1)]) (by simp (disch := omega) [init0]) rfl rfl rfl rfl rfl e1
  have c2 : fCallM mRoll (fCons (fVar 0) (fCons (fOp nAdd (fOp nMul (fC (.int 2)) (fVar 1)) (fC (.int 1))) fNil)) ⟨[some (.loc 0), some (.int far)], [Tri x y z]⟩ = .ok (.int r2) [Tri x2 y2 z2] :=
    callM_at (n := 0) (M := [Tri x y z]) (rest := [.int (2 * far + 1)]) (by simp (disch := omega) [init0]) rfl rfl rfl rfl rfl e2
  unfold mPoint autM gPoint
  show RS.out 1 (fRet _ ⟨[some (.loc 0), some (.int far)], [Tri a b c]⟩) = _
  simp [c1, c2]
/-- a list comprehension, element by element -/
theorem lcGo_all {g : D → Sx → Option Sx} {t : Sx → R Bool} {e : Sx → R D} {ρ : List (Option D)} (Pd : D → Prop) (Iv : Cells → Prop)
    (h : ∀ d M, Iv M → ∃ s1, g d ⟨ρ, M⟩ = some s1 ∧ ∃ M1, t s1 = .ok true M1 ∧ ∃ y M2, e ⟨s1.ρ, M1⟩ = .ok y M2 ∧ Pd y ∧ Iv M2) : ∀ (l : List D) (M : Cells), Iv M → ∃ ys M', fLcGo g t e ρ l M = .ok ys M' ∧ ys.length = l.length ∧ (∀ y ∈ ys, Pd y) ∧ Iv M'
  | [], M, i => ⟨[], M, rfl, rfl, (fun _ z => by cases z), i⟩
  | d :: l, M, i => by
    obtain ⟨s1, e1, M1, e2, y, M2, e3, py, i2⟩ := h d M i
    obtain ⟨ys, M', q1, q2, q3, q4⟩ := lcGo_all Pd Iv h l M2 i2
    refine ⟨y :: ys, M', ?_, by simp [q2], fun z hz => ?_, q4⟩
    · rw [fLcGo, e1]
      simp only [e2, if_true, e3, q1]
      rfl
    · rcases List.mem_cons.mp hz with z | z
      · rw [z]; exact py
      · exact q3 _ z
/-- the rounds: a list of dice -/
theorem lcGo_dice {ρ : List (Option D)} (hρ : 3 < ρ.length) : ∀ (ns : List Int) (M : Cells), AllTri M → ∃ Mb, fLcGo (bName 3) fTrue (fCallO mDice (fCons (fVar 3) fNil)) ρ (ns.map .int) M = .ok ((List.range' M.length ns.length).map .loc) (M ++ Mb) ∧ AllTri (M ++ Mb) ∧ Mb.length = ns.length
  | [], M, i => ⟨[], by simp [fLcGo], by simpa using i, rfl⟩
  | c :: ns, M, i => by
    obtain ⟨x, y, z, e⟩ := dice_ok c
    have i2 : AllTri (M ++ [Tri x y z]) := fun l hl => by
      rcases List.mem_append.mp hl with q | q
      · exact i l q
      · simp at q; exact ⟨x, y, z, q⟩
    obtain ⟨Mb, q1, q2, q3⟩ := lcGo_dice hρ ns (M ++ [Tri x y z]) i2
    refine ⟨Tri x y z :: Mb, ?_, by simpa using q2, by simp [q3]⟩
    have c1 : fCallO mDice (fCons (fVar 3) fNil) ⟨ρ.set 3 (some (.int c)), M⟩ = .ok (.loc M.length) (M ++ [Tri x y z]) := by
      unfold fCallO
      simp [hρ, e, lfs, D.lf, D.sh, shs]
    rw [List.map_cons, fLcGo]
    simp only [bName_s, fTrue, if_true, c1, q1]
    simp [List.range'_succ]
theorem rounds_ok {sk : Option (Addr × List Int)} {d : D} {ns : List Int} (h : Scr sk d ns) (hl : ns.length ≤ 63) {most : Nat} (hm : most ≤ 63) :
    ∃ Mb, mRounds sk [d, .int most] = .ok (.lst ((List.range Mb.length).map .loc)) Mb ∧ AllTri Mb := by
  have cut : gCutK sk [] d none (some (most : Int)) = some (.lst ((ns.take most).map .int)) := by
    have e : dcut (ns.map .int) none (some (most : Int)) = (ns.take most).map .int := by
      unfold dcut
      rw [HT.sIx_none, List.length_map, show HT.sIx ns.length ns.length (some (most : Int)) = min most ns.length from HT.sIx_nat ns.length ns.length most]
      simp only [List.drop_zero, Nat.sub_zero, List.map_take]
      by_cases q : most ≤ ns.length
      · rw [Nat.min_eq_left q]
      · rw [Nat.min_eq_right (by omega), List.take_of_length_le (by simp), List.take_of_length_le (by simp; omega)]
    cases h with
    | lst => show some _ = _; rw [e]
    | frz => show some _ = _; rw [e]
    | mod => show (if _ = _ then _ else _) = _; rw [if_pos rfl, e]
  have hne : ∀ l : List Int, l ≠ [] → gEq [] (.lst (l.map .int)) (.lst []) = some (.bl false) := fun l h => gEq_ne (by unfold D.cmp; exact cmps_ints l) (by unfold D.cmp; exact cmps_ints []) (by simpa using h)
  have go : ∀ l : List Int, l.length ≤ 100000 → ∃ Mb, fRet (fFz (fLc (fIt asLst (fVar 2)) (bName 3) fTrue (fCallO mDice (fCons (fVar 3) fNil)) [3])) ⟨[some d, some (.int most), some (.lst (l.map .int)), none], []⟩ = .rt (.lst ((List.range Mb.length).map .loc)) ⟨[some d, some (.int most), some (.lst (l.map .int)), none], Mb⟩ ∧ AllTri Mb := by
    intro l hl
    obtain ⟨Mb, q1, q2, q3⟩ := lcGo_dice (ρ := [some d, some (.int most), some (.lst (l.map .int)), none]) (by simp) l [] (fun _ z => by cases z)
    refine ⟨Mb, ?_, by simpa using q2⟩
    have w : wipeD [some d, some (.int (most : Int)), some (.lst (l.map .int)), none] [3] = [some d, some (.int most), some (.lst (l.map .int)), none] := rfl
    simp only [fRet_s, fFz_s, fLc, fIt_s, fVar_s, List.getElem?_cons_succ, ce0, bind_ok, asLst_s, opt_some, List.length_map, hl, if_true, w, q1]
    simp [List.range_eq_range', q3]
  have fin : ∀ l : List Int, l ≠ [] → l.length ≤ 100000 → ∃ Mb, RS.outO (fSeq (fIfS (fTst (fOp gEq (fVar 2) (fLst fNil))) (fAsg (fLst (fCons (fC (.int 0)) fNil)) (bName 2)) fSkip) (fRet (fFz (fLc (fIt asLst (fVar 2)) (bName 3) fTrue (fCallO mDice (fCons (fVar 3) fNil)) [3]))) ⟨[some d, some (.int most), some (.lst (l.map .int)), none], []⟩) = .ok (.lst ((List.range Mb.length).map .loc)) Mb ∧ AllTri Mb := by
    intro l h hl
    obtain ⟨Mb, q1, q2⟩ := go l hl
    refine ⟨Mb, ?_, q2⟩
    rw [seq_nx (s1 := ⟨[some d, some (.int most), some (.lst (l.map .int)), none], []⟩) (by simp [hne l h]), q1]
    rfl
  have hl2 : ∀ k, (ns.take k).length ≤ 100000 := fun k => by simp; omega
  have first : fAsg (fSlK sk (fVar 0) fNoPart (fPart (fVar 1))) (bName 2) ⟨init0 nRounds [d, .int most], []⟩ = .nx ⟨[some d, some (.int most), some (.lst ((ns.take most).map .int)), none], []⟩ := by
    simp [fSlK, fNoPart, fPart, init0, cut]
  unfold mRounds autO
  show ∃ Mb, RS.outO (gRounds sk _) = _ ∧ _
  unfold gRounds
  rw [seq_nx first]
  by_cases h0 : ns.take most = []
  · obtain ⟨Mb, q1, q2⟩ := go [0] (by simp)
    refine ⟨Mb, ?_, q2⟩
    rw [h0, seq_nx (s1 := ⟨[some d, some (.int most), some (.lst ([0].map .int)), none], []⟩), q1]
    · rfl
    · have e : gEq [] (.lst ([].map D.int)) (.lst []) = some (.bl true) := gEq_self (by rfl)
      simp [e]
      rfl
  · exact fin _ h0 (hl2 _)
/-! more to run -/
@[simp] theorem fAug_s {g : Cells → D → D → Option D} {i : Nat} {f : Sx → R D} {s : Sx} {d e z : D} {M : Cells} (h1 : s.ρ[i]? = some (some d)) (h2 : f s = .ok e M) (h3 : g M d e = some z) : fAug g i f s = .nx ⟨s.ρ.set i (some z), M⟩ := by
  unfold fAug
  rw [h1]
  simp [h2, h3]
theorem sorted_perm {l m : List Pt} (h : l.Perm m) : l.mergeSort lePt = m.mergeSort lePt := by
  refine List.Perm.eq_of_pairwise (le := fun a b => lePt a b = true) (fun a b _ _ h1 h2 => ?_) (List.pairwise_mergeSort ?_ ?_ l) (List.pairwise_mergeSort ?_ ?_ m) (((List.mergeSort_perm l lePt).trans h).trans (List.mergeSort_perm m lePt).symm)
  · unfold lePt at h1 h2
    simp only [decide_eq_true_eq] at h1 h2
    refine Prod.ext ?_ ?_ <;> omega
  all_goals
    intros
    unfold lePt at *
    simp only [decide_eq_true_eq, Bool.or_eq_true] at *
    omega
@[simp] theorem fSorted_tup {M : Cells} {ps : List Pt} : gSorted M [.tup (ps.map pt)] = some (.lst ((ps.mergeSort lePt).map pt)) := by
  unfold gSorted
  simp [seqOf, unPts_map]
@[simp] theorem fSorted_lst {M : Cells} {ps : List Pt} : gSorted M [.lst (ps.map pt)] = some (.lst ((ps.mergeSort lePt).map pt)) := by
  unfold gSorted
  simp [seqOf, unPts_map]
theorem pt_cmp {k : Nat} (p : Pt) : (pt p).cmp (k + 1) = true := rfl
theorem pts_cmp {k : Nat} : ∀ ps : List Pt, cmps (k + 1) (ps.map pt) = true
  | [] => by simp [cmps]
  | p :: r => by
    show cmps (k + 1) (pt p :: r.map pt) = true
    unfold cmps
    rw [pts_cmp r, pt_cmp]; rfl
/-- a loop over a list, what stands before and behind each turn -/
theorem forL_inv {g : D → Sx → Option Sx} {b : Sx → RS} (Pd : D → Prop) (Iv : Sx → Prop) (h : ∀ d s, Pd d → Iv s → ∃ s1, g d s = some s1 ∧ ∃ s2, b s1 = .nx s2 ∧ Iv s2) : ∀ (l : List D) (s : Sx), (∀ d ∈ l, Pd d) → Iv s → ∃ s', fForL g b l s = .nx s' ∧ Iv s'
  | [], s, _, i => ⟨s, by simp, i⟩
  | d :: l, s, hd, i => by
    obtain ⟨s1, e1, s2, e2, i2⟩ := h d s (hd d List.mem_cons_self) i
    obtain ⟨s', e3, i3⟩ := forL_inv Pd Iv h l s2 (fun e he => hd e (List.mem_cons_of_mem _ he)) i2
    refine ⟨s', ?_, i3⟩
    rw [fForL, e1]
    simp only [e2, e3]
theorem atI_at {α : Type} {l : List α} {k : Nat} {x : α} (h : l[k]? = some x) : atI l (k : Int) = some x := atI_nat (j := k) h
theorem lcGo_filter {i : Nat} {t : Sx → R Bool} {ρ : List (Option D)} {M : Cells} (pd : Pt → Bool) (hρ : i < ρ.length) (ht : ∀ p, t ⟨ρ.set i (some (pt p)), M⟩ = .ok (pd p) M) : ∀ ws : List Pt, fLcGo (bName i) t (fVar i) ρ (ws.map pt) M = .ok ((ws.filter pd).map pt) M
  | [] => by simp [fLcGo]
  | w :: ws => by
    have ih := lcGo_filter pd hρ ht ws
    rw [List.map_cons, fLcGo]
    simp only [bName_s, ht]
    cases h : pd w with
    | true =>
      rw [if_pos rfl]
      simp [hρ, ih, h]
    | false =>
      rw [if_neg (by simp), ih, List.filter_cons_of_neg (by simp [h])]
theorem rg_mem {lo : Int} {n : Nat} {d : D} (h : d ∈ rgList lo n) : ∃ k : Nat, k < n ∧ d = .int (lo + k) := by
  unfold rgList at h
  obtain ⟨k, h1, h2⟩ := List.mem_map.mp h
  exact ⟨k, List.mem_range.mp h1, h2.symm⟩
theorem asRg1_s {j : Nat} (h : j ≤ 1000000) : asRg1 [.int (j : Int)] = some (rgList 0 j) := by
  unfold asRg1
  have e : rgOk (j : Int) = true := by unfold rgOk; simp; omega
  simp [e]
theorem asRg2_s {i j : Nat} (h1 : i ≤ 1000000) (h : j ≤ 1000000) : asRg2 [.int (i : Int), .int (j : Int)] = some (rgList i (j - i)) := by
  unfold asRg2
  have e : rgOk (j : Int) = true := by unfold rgOk; simp; omega
  have e2 : rgOk (i : Int) = true := by unfold rgOk; simp; omega
  simp [e, e2]
@[simp] theorem fPar_s {i j : Nat} {f : Sx → R (List D)} {s : Sx} : fPar i j f s = (f s).toS s.ρ fun l M => match l with
  | [d, e] => .nx ⟨(s.ρ.set i (some d)).set j (some e), M⟩
  | _ => .no := by
  unfold fPar; congr
@[simp] theorem fIts_s {k : List D → Option (List D)} {f : Sx → R (List D)} {s : Sx} : fIts k f s = (f s).bind fun d M => opt (k d) M := rfl
theorem dEq_str {M : Cells} {x y : Str} (h1 : PyData.strOk x = true) (h2 : PyData.strOk y = true) : dEq M (.str x) (.str y) = some (x == y) := by
  unfold dEq
  have e1 : pyAt M (.str x) = some (.str x) := by unfold pyAt pyOf; rfl
  have e2 : pyAt M (.str y) = some (.str y) := by unfold pyAt pyOf; rfl
  rw [e1, e2]
  simp [SeqAt.shaped, PyData.canLay0, PyData.depth, h1, h2, PyData.eqv]
theorem gNe_str {M : Cells} {x y : Str} (h1 : PyData.strOk x = true) (h2 : PyData.strOk y = true) : gNe M (.str x) (.str y) = some (.bl (!(x == y))) := by
  unfold gNe; rw [dEq_str h1 h2]; rfl
/-- the call of the rounds at the law's head -/
theorem rounds_call {sk : Option (Addr × List Int)} {d : D} {ns : List Int} {p : List D → R D} {f : Sx → R (List D)} {s : Sx} {Mb : Cells} {k : Int} (h : Scr sk d ns) (hs : s.M = []) (hf : f s = .ok [d, .int k] []) (e1 : p [d, .int k] = .ok (.lst ((List.range Mb.length).map .loc)) Mb) (hM : AllTri Mb) :
    fCallO p f s = .ok (.lst ((List.range Mb.length).map .loc)) Mb := by
  have lfd : d.lf = true := by
    have li : ∀ ns : List Int, lfs (ns.map .int) = true := fun ns => by
      induction ns with
      | nil => rfl
      | cons i r ih => show lfs (D.int i :: r.map .int) = true; unfold lfs; rw [ih]; rfl
    cases h with
    | lst => unfold D.lf; exact li ns
    | frz => unfold D.lf; exact li ns
    | mod => rfl
  have sh1 : ∀ l : List Nat, shs 0 (l.map .loc) = l.map .loc := fun l => by
    induction l with
    | nil => rfl
    | cons n r ih =>
      show shs 0 (D.loc n :: r.map .loc) = _
      unfold shs D.sh
      rw [ih, Nat.zero_add]; rfl
  have sh2 : Mb.map (shs 0) = Mb := by
    conv => rhs; rw [← List.map_id Mb]
    refine List.map_congr_left fun l hl => ?_
    obtain ⟨a, b, c, rfl⟩ := hM l hl
    rfl
  unfold fCallO
  rw [hf]
  simp [lfs, D.lf, lfd, e1, D.sh, sh1, sh2]
end DL

namespace K2
open PySem PySem.Spec L2 DL
open PyProof.Rows hiding St
def topS (i : Nat) : Stmt := PySem.Challenge.pw_hullhall_k02_crossings_and_near_ways.main.body.getD i (.Pass ⟨0, 0, 0, 0⟩)
/-- what the top has left: the built-in names, the errors' classes -/
structure Txt (K : PySem.W.Frag) (mg : Str → Option Value) : Prop where
  z_abs : mg "abs" = none
  z_int : mg "int" = none
  z_len : mg "len" = none
  z_max : mg "max" = none
  z_min : mg "min" = none
  z_range : mg "range" = none
  z_tuple : mg "tuple" = none
  x_BadPoint : ExC K mg "BadPoint"
  x_NoWay : ExC K mg "NoWay"
abbrev st__law_told : Stmt := topS 39
abbrev hs__law_told : List (Str × Str) := [("BadPoint", "point"), ("BadShape", "shape"), ("NoWay", "no way"), ("TooLarge", "large")]
theorem sc__law_told : FnScope ["what"] ["what"] (defScope st__law_told) := ⟨rfl, rfl, rfl, by decide +kernel, rfl, by decide +kernel, by decide +kernel⟩
theorem gv__law_told {X : Cx} {g : Addr} {cl : Str → Addr} (ZT : ToldF X.K X.mg hs__law_told cl) : ∀ cdg q, LamX.GivesTo X ["what"] "_law_told" (defScope st__law_told) g cdg (defBody st__law_told) "what" q (TTm X.K cl hs__law_told) := fun _ _ =>
  told4_gives rfl rfl rfl rfl (ZT.gl ("BadPoint", "point") List.mem_cons_self) (ZT.gl ("BadShape", "shape") (List.mem_cons_of_mem _ List.mem_cons_self)) (ZT.gl ("NoWay", "no way") (List.mem_cons_of_mem _ (List.mem_cons_of_mem _ List.mem_cons_self))) (ZT.gl ("TooLarge", "large") (List.mem_cons_of_mem _ (List.mem_cons_of_mem _ (List.mem_cons_of_mem _ List.mem_cons_self)))) rfl rfl rfl rfl (fun _ => rfl)
/-! ### _law_dice -/
abbrev st__law_dice : Stmt := topS 36
abbrev N__law_dice : List Str := ["cell"]
theorem sc__law_dice : FnScope N__law_dice ["cell"] (defScope st__law_dice) := ⟨rfl, rfl, rfl, by decide +kernel, rfl, by decide +kernel, by decide +kernel⟩
def g__law_dice  : Sx → RS := (fSeq (fIfS (fTst (fChain nLt nLt (fOp nSub (fC (.int 0)) (fC (.int 10))) (fVar 0) (fC (.int 10)))) (fRet (fOwnE (fNew (fCons (fCB gAbs (fCons (fVar 0) fNil)) (fCons (fC (.int 0)) (fCons (fC (.int 2)) fNil)))))) fSkip) (fRet (fOwnE (fNew (fCons (fVar 0) (fCons (fOp nAdd (fC (.int 1)) (fOp nMod (fCB gInt (fCons (fVar 0) fNil)) (fC (.int 1009)))) (fCons (fCB gInt (fCons (fOp nGe (fVar 0) (fOp nPow (fC (.int 10)) (fC (.int 18)))) fNil)) fNil)))))))
theorem dv__law_dice {T : TPr} {P : Program} {w : World} {K : PySem.W.Frag} {mg : Str → Option Value} {base : Heap} (Z : Txt K mg)   {f : Addr} (cdv : Value) (A : Around) (outer : List Env) (s : Shared) (H : Hp) (E : XK) (hr : Room 0 (A.deeper (envOfC "_law_dice" (defScope st__law_dice) s.heap.objs.size f cdv))) :
    PSs (cxOf (L2.CX P w) P w K mg base N__law_dice "_law_dice" (defScope st__law_dice) f cdv A outer s H E) (defBody st__law_dice) (tS T mg (fun cls d _ H => E cls d H) (g__law_dice )) := by
  have nd := sc__law_dice.nd
  have B : Bd (cxOf (L2.CX P w) P w K mg base N__law_dice "_law_dice" (defScope st__law_dice) f cdv A outer s H E) (fun cls d _ H => E cls d H) 0 := ⟨takes_of rfl rfl rfl rfl, hr⟩
  exact (s_cons (s_if (t_chain op_lt od_lt op_lt od_lt (e_op op_sub od_sub e_int e_int) (e_var 0) e_int) (s_one (s_ret (e_ownE (f_lst (a_cons (e_cb call_abs cd_abs rfl Z.z_abs boot_abs (a_cons (e_var 0) a_nil)) (a_cons e_int (a_cons e_int a_nil))))))) s_nil) (s_one (s_ret (e_ownE (f_lst (a_cons (e_var 0) (a_cons (e_op op_add od_add e_int (e_op op_mod od_mod (e_ct call_int1 cd_int rfl Z.z_int boot_int (a_cons (e_var 0) a_nil)) e_int)) (a_cons (e_ct call_int1 cd_int rfl Z.z_int boot_int (a_cons (e_cmp op_ge od_ge (e_var 0) (e_op op_pow od_pow e_int e_int)) a_nil)) a_nil))))))))
def m__law_dice : List D → R D := autO 1 N__law_dice (g__law_dice )
theorem m__law_dice_len : ∀ ds, m__law_dice ds ≠ .no → ds.length = 1 := autO_len
/-! ### _law_rounds -/
abbrev st__law_rounds : Stmt := topS 38
abbrev N__law_rounds : List Str := ["script", "most", "cells", "cell"]
theorem sc__law_rounds : FnScope N__law_rounds ["script", "most"] (defScope st__law_rounds) := ⟨rfl, rfl, rfl, by decide +kernel, rfl, by decide +kernel, by decide +kernel⟩
def g__law_rounds (sk : Option (Addr × List Int)) : Sx → RS := (fSeq (fAsg (fSlK sk (fVar 0) fNoPart (fPart (fVar 1))) (bName 2)) (fSeq (fIfS (fTst (fOp gEq (fVar 2) (fLst fNil))) (fAsg (fLst (fCons (fC (.int 0)) fNil)) (bName 2)) fSkip) (fRet (fFz (fLc (fIt asLst (fVar 2)) (bName 3) fTrue (fCallO m__law_dice (fCons (fVar 3) fNil)) [3])))))
theorem dv__law_rounds {T : TPr} {P : Program} {w : World} {K : PySem.W.Frag} {mg : Str → Option Value} {base : Heap} (Z : Txt K mg) (sk : Option (Addr × List Int)) (C__law_dice : CalO T P w K mg base 1 "_law_dice" 1 m__law_dice) (hk : KSt K sk) {f : Addr} (cdv : Value) (A : Around) (outer : List Env) (s : Shared) (H : Hp) (E : XK) (hr : Room 1 (A.deeper (envOfC "_law_rounds" (defScope st__law_rounds) s.heap.objs.size f cdv))) :
    PSs (cxOf (L2.CX P w) P w K mg base N__law_rounds "_law_rounds" (defScope st__law_rounds) f cdv A outer s H E) (defBody st__law_rounds) (tS T mg (fun cls d _ H => E cls d H) (g__law_rounds sk)) := by
  have nd := sc__law_rounds.nd
  have B : Bd (cxOf (L2.CX P w) P w K mg base N__law_rounds "_law_rounds" (defScope st__law_rounds) f cdv A outer s H E) (fun cls d _ H => E cls d H) 1 := ⟨takes_of rfl rfl rfl rfl, hr⟩
  exact (s_cons (s_set 2 nd (e_slK hk (e_var 0) o_no (o_some (e_var 1)))) (s_cons (s_if (t_cmp (op_eqD B.hu) od_eq (e_var 2) (e_lst a_nil)) (s_one (s_set 2 nd (e_lst (a_cons e_int a_nil)))) s_nil) (s_one (s_ret (e_fz (f_lc (own := [("cell", 3)]) rfl nd (i_lst (e_var 2)) (blkOk_by (N := N__law_rounds) (sc := defScope st__law_rounds) (by decide +kernel)) (fun _ _ _ _ _ => (g_name 3 nd)) (fun _ _ _ _ _ => ts_nil) (fun _ _ _ _ _ => (e_callO B.blk (C__law_dice.mono (by decide)) (m__law_dice_len) rfl (a_cons (e_var 3) a_nil)))))))))
def m__law_rounds (sk : Option (Addr × List Int)) : List D → R D := autO 2 N__law_rounds (g__law_rounds sk)
theorem m__law_rounds_len (sk : Option (Addr × List Int)) : ∀ ds, (m__law_rounds sk) ds ≠ .no → ds.length = 2 := autO_len
/-! ### cross -/
abbrev st_cross : Stmt := topS 24
abbrev N_cross : List Str := ["u", "v"]
theorem sc_cross : FnScope N_cross ["u", "v"] (defScope st_cross) := ⟨rfl, rfl, rfl, by decide +kernel, rfl, by decide +kernel, by decide +kernel⟩
def g_cross  : Sx → RS := (fRet (fOp nSub (fOp nMul (fOp gIx (fVar 0) (fC (.int 0))) (fOp gIx (fVar 1) (fC (.int 1)))) (fOp nMul (fOp gIx (fVar 0) (fC (.int 1))) (fOp gIx (fVar 1) (fC (.int 0))))))
theorem dv_cross {T : TPr} {P : Program} {w : World} {K : PySem.W.Frag} {mg : Str → Option Value} {base : Heap} (Z : Txt K mg)   {f : Addr} (cdv : Value) (A : Around) (outer : List Env) (s : Shared) (H : Hp) (E : XK) (hr : Room 0 (A.deeper (envOfC "cross" (defScope st_cross) s.heap.objs.size f cdv))) :
    PSs (cxOf (L2.CX P w) P w K mg base N_cross "cross" (defScope st_cross) f cdv A outer s H E) (defBody st_cross) (tS T mg (fun cls d _ H => E cls d H) (g_cross )) := by
  have nd := sc_cross.nd
  have B : Bd (cxOf (L2.CX P w) P w K mg base N_cross "cross" (defScope st_cross) f cdv A outer s H E) (fun cls d _ H => E cls d H) 0 := ⟨takes_of rfl rfl rfl rfl, hr⟩
  exact (s_one (s_ret (e_op op_sub od_sub (e_op op_mul od_mul (e_ix (e_var 0) e_int) (e_ix (e_var 1) e_int)) (e_op op_mul od_mul (e_ix (e_var 0) e_int) (e_ix (e_var 1) e_int)))))
def m_cross : List D → Pu := aut 2 N_cross (g_cross )
theorem m_cross_len : ∀ ds, m_cross ds ≠ .no → ds.length = 2 := aut_len
/-! ### less_points -/
abbrev st_less_points : Stmt := topS 22
abbrev N_less_points : List Str := ["a", "b"]
theorem sc_less_points : FnScope N_less_points ["a", "b"] (defScope st_less_points) := ⟨rfl, rfl, rfl, by decide +kernel, rfl, by decide +kernel, by decide +kernel⟩
def g_less_points  : Sx → RS := (fRet (fTup (fCons (fOp nSub (fOp gIx (fVar 0) (fC (.int 0))) (fOp gIx (fVar 1) (fC (.int 0)))) (fCons (fOp nSub (fOp gIx (fVar 0) (fC (.int 1))) (fOp gIx (fVar 1) (fC (.int 1)))) fNil))))
theorem dv_less_points {T : TPr} {P : Program} {w : World} {K : PySem.W.Frag} {mg : Str → Option Value} {base : Heap} (Z : Txt K mg)   {f : Addr} (cdv : Value) (A : Around) (outer : List Env) (s : Shared) (H : Hp) (E : XK) (hr : Room 0 (A.deeper (envOfC "less" (defScope st_less_points) s.heap.objs.size f cdv))) :
    PSs (cxOf (L2.CX P w) P w K mg base N_less_points "less" (defScope st_less_points) f cdv A outer s H E) (defBody st_less_points) (tS T mg (fun cls d _ H => E cls d H) (g_less_points )) := by
  have nd := sc_less_points.nd
  have B : Bd (cxOf (L2.CX P w) P w K mg base N_less_points "less" (defScope st_less_points) f cdv A outer s H E) (fun cls d _ H => E cls d H) 0 := ⟨takes_of rfl rfl rfl rfl, hr⟩
  exact (s_one (s_ret (e_tup (a_cons (e_op op_sub od_sub (e_ix (e_var 0) e_int) (e_ix (e_var 1) e_int)) (a_cons (e_op op_sub od_sub (e_ix (e_var 0) e_int) (e_ix (e_var 1) e_int)) a_nil)))))
def m_less_points : List D → Pu := aut 2 N_less_points (g_less_points )
theorem m_less_points_len : ∀ ds, m_less_points ds ≠ .no → ds.length = 2 := aut_len
/-! ### turn -/
abbrev st_turn : Stmt := topS 26
abbrev N_turn : List Str := ["a", "b", "c"]
theorem sc_turn : FnScope N_turn ["a", "b", "c"] (defScope st_turn) := ⟨rfl, rfl, rfl, by decide +kernel, rfl, by decide +kernel, by decide +kernel⟩
def g_turn  : Sx → RS := (fRet (fCall m_cross (fCons (fCall m_less_points (fCons (fVar 1) (fCons (fVar 0) fNil))) (fCons (fCall m_less_points (fCons (fVar 2) (fCons (fVar 0) fNil))) fNil))))
theorem dv_turn {T : TPr} {P : Program} {w : World} {K : PySem.W.Frag} {mg : Str → Option Value} {base : Heap} (Z : Txt K mg)  (C_cross : Cal T P w K mg base 1 "cross" 2 (lift m_cross)) (C_less_points : Cal T P w K mg base 1 "less_points" 2 (lift m_less_points)) {f : Addr} (cdv : Value) (A : Around) (outer : List Env) (s : Shared) (H : Hp) (E : XK) (hr : Room 1 (A.deeper (envOfC "turn" (defScope st_turn) s.heap.objs.size f cdv))) :
    PSs (cxOf (L2.CX P w) P w K mg base N_turn "turn" (defScope st_turn) f cdv A outer s H E) (defBody st_turn) (tS T mg (fun cls d _ H => E cls d H) (g_turn )) := by
  have nd := sc_turn.nd
  have B : Bd (cxOf (L2.CX P w) P w K mg base N_turn "turn" (defScope st_turn) f cdv A outer s H E) (fun cls d _ H => E cls d H) 1 := ⟨takes_of rfl rfl rfl rfl, hr⟩
  exact (s_one (s_ret (e_call B (C_cross.mono (by decide)) m_cross_len rfl (a_cons (e_call B (C_less_points.mono (by decide)) m_less_points_len rfl (a_cons (e_var 1) (a_cons (e_var 0) a_nil))) (a_cons (e_call B (C_less_points.mono (by decide)) m_less_points_len rfl (a_cons (e_var 2) (a_cons (e_var 0) a_nil))) a_nil)))))
def m_turn : List D → Pu := aut 3 N_turn (g_turn )
theorem m_turn_len : ∀ ds, m_turn ds ≠ .no → ds.length = 3 := aut_len
/-! ### along -/
abbrev st_along : Stmt := topS 25
abbrev N_along : List Str := ["u", "v"]
theorem sc_along : FnScope N_along ["u", "v"] (defScope st_along) := ⟨rfl, rfl, rfl, by decide +kernel, rfl, by decide +kernel, by decide +kernel⟩
def g_along  : Sx → RS := (fRet (fOp nAdd (fOp nMul (fOp gIx (fVar 0) (fC (.int 0))) (fOp gIx (fVar 1) (fC (.int 0)))) (fOp nMul (fOp gIx (fVar 0) (fC (.int 1))) (fOp gIx (fVar 1) (fC (.int 1))))))
theorem dv_along {T : TPr} {P : Program} {w : World} {K : PySem.W.Frag} {mg : Str → Option Value} {base : Heap} (Z : Txt K mg)   {f : Addr} (cdv : Value) (A : Around) (outer : List Env) (s : Shared) (H : Hp) (E : XK) (hr : Room 0 (A.deeper (envOfC "along" (defScope st_along) s.heap.objs.size f cdv))) :
    PSs (cxOf (L2.CX P w) P w K mg base N_along "along" (defScope st_along) f cdv A outer s H E) (defBody st_along) (tS T mg (fun cls d _ H => E cls d H) (g_along )) := by
  have nd := sc_along.nd
  have B : Bd (cxOf (L2.CX P w) P w K mg base N_along "along" (defScope st_along) f cdv A outer s H E) (fun cls d _ H => E cls d H) 0 := ⟨takes_of rfl rfl rfl rfl, hr⟩
  exact (s_one (s_ret (e_op op_add od_add (e_op op_mul od_mul (e_ix (e_var 0) e_int) (e_ix (e_var 1) e_int)) (e_op op_mul od_mul (e_ix (e_var 0) e_int) (e_ix (e_var 1) e_int)))))
def m_along : List D → Pu := aut 2 N_along (g_along )
theorem m_along_len : ∀ ds, m_along ds ≠ .no → ds.length = 2 := aut_len
/-! ### is_between -/
abbrev st_is_between : Stmt := topS 29
abbrev N_is_between : List Str := ["a", "b", "c"]
theorem sc_is_between : FnScope N_is_between ["a", "b", "c"] (defScope st_is_between) := ⟨rfl, rfl, rfl, by decide +kernel, rfl, by decide +kernel, by decide +kernel⟩
def g_is_between  : Sx → RS := (fRet (fAndV (fOp gEq (fCall m_turn (fCons (fVar 0) (fCons (fVar 1) (fCons (fVar 2) fNil)))) (fC (.int 0))) (fOp nLe (fCall m_along (fCons (fCall m_less_points (fCons (fVar 0) (fCons (fVar 2) fNil))) (fCons (fCall m_less_points (fCons (fVar 1) (fCons (fVar 2) fNil))) fNil))) (fC (.int 0)))))
theorem dv_is_between {T : TPr} {P : Program} {w : World} {K : PySem.W.Frag} {mg : Str → Option Value} {base : Heap} (Z : Txt K mg)  (C_less_points : Cal T P w K mg base 1 "less_points" 2 (lift m_less_points)) (C_turn : Cal T P w K mg base 2 "turn" 3 (lift m_turn)) (C_along : Cal T P w K mg base 1 "along" 2 (lift m_along)) {f : Addr} (cdv : Value) (A : Around) (outer : List Env) (s : Shared) (H : Hp) (E : XK) (hr : Room 2 (A.deeper (envOfC "is_between" (defScope st_is_between) s.heap.objs.size f cdv))) :
    PSs (cxOf (L2.CX P w) P w K mg base N_is_between "is_between" (defScope st_is_between) f cdv A outer s H E) (defBody st_is_between) (tS T mg (fun cls d _ H => E cls d H) (g_is_between )) := by
  have nd := sc_is_between.nd
  have B : Bd (cxOf (L2.CX P w) P w K mg base N_is_between "is_between" (defScope st_is_between) f cdv A outer s H E) (fun cls d _ H => E cls d H) 2 := ⟨takes_of rfl rfl rfl rfl, hr⟩
  exact (s_one (s_ret (e_and (e_cmp (op_eqD B.hu) od_eq (e_call B (C_turn.mono (by decide)) m_turn_len rfl (a_cons (e_var 0) (a_cons (e_var 1) (a_cons (e_var 2) a_nil)))) e_int) (e_one (e_cmp op_le od_le (e_call B (C_along.mono (by decide)) m_along_len rfl (a_cons (e_call B (C_less_points.mono (by decide)) m_less_points_len rfl (a_cons (e_var 0) (a_cons (e_var 2) a_nil))) (a_cons (e_call B (C_less_points.mono (by decide)) m_less_points_len rfl (a_cons (e_var 1) (a_cons (e_var 2) a_nil))) a_nil))) e_int)))))
def m_is_between : List D → Pu := aut 3 N_is_between (g_is_between )
theorem m_is_between_len : ∀ ds, m_is_between ds ≠ .no → ds.length = 3 := aut_len
/-! ### side -/
abbrev st_side : Stmt := topS 27
abbrev N_side : List Str := ["a", "b", "c", "found"]
theorem sc_side : FnScope N_side ["a", "b", "c"] (defScope st_side) := ⟨rfl, rfl, rfl, by decide +kernel, rfl, by decide +kernel, by decide +kernel⟩
def g_side  : Sx → RS := (fSeq (fAsg (fCall m_turn (fCons (fVar 0) (fCons (fVar 1) (fCons (fVar 2) fNil)))) (bName 3)) (fRet (fOp nSubB (fOp nGt (fVar 3) (fC (.int 0))) (fOp nLt (fVar 3) (fC (.int 0))))))
theorem dv_side {T : TPr} {P : Program} {w : World} {K : PySem.W.Frag} {mg : Str → Option Value} {base : Heap} (Z : Txt K mg)  (C_turn : Cal T P w K mg base 2 "turn" 3 (lift m_turn)) {f : Addr} (cdv : Value) (A : Around) (outer : List Env) (s : Shared) (H : Hp) (E : XK) (hr : Room 2 (A.deeper (envOfC "side" (defScope st_side) s.heap.objs.size f cdv))) :
    PSs (cxOf (L2.CX P w) P w K mg base N_side "side" (defScope st_side) f cdv A outer s H E) (defBody st_side) (tS T mg (fun cls d _ H => E cls d H) (g_side )) := by
  have nd := sc_side.nd
  have B : Bd (cxOf (L2.CX P w) P w K mg base N_side "side" (defScope st_side) f cdv A outer s H E) (fun cls d _ H => E cls d H) 2 := ⟨takes_of rfl rfl rfl rfl, hr⟩
  exact (s_cons (s_set 3 nd (e_call B (C_turn.mono (by decide)) m_turn_len rfl (a_cons (e_var 0) (a_cons (e_var 1) (a_cons (e_var 2) a_nil))))) (s_one (s_ret (e_op op_subB od_subB (e_cmp op_gt od_gt (e_var 3) e_int) (e_cmp op_lt od_lt (e_var 3) e_int)))))
def m_side : List D → Pu := aut 3 N_side (g_side )
theorem m_side_len : ∀ ds, m_side ds ≠ .no → ds.length = 3 := aut_len
/-! ### do_meet -/
abbrev st_do_meet : Stmt := topS 30
abbrev N_do_meet : List Str := ["a", "b", "c", "d"]
theorem sc_do_meet : FnScope N_do_meet ["a", "b", "c", "d"] (defScope st_do_meet) := ⟨rfl, rfl, rfl, by decide +kernel, rfl, by decide +kernel, by decide +kernel⟩
def g_do_meet  : Sx → RS := (fSeq (fIfS (fAnd (fTst (fOp nLt (fOp nMul (fCall m_side (fCons (fVar 0) (fCons (fVar 1) (fCons (fVar 2) fNil)))) (fCall m_side (fCons (fVar 0) (fCons (fVar 1) (fCons (fVar 3) fNil))))) (fC (.int 0)))) (fTst (fOp nLt (fOp nMul (fCall m_side (fCons (fVar 2) (fCons (fVar 3) (fCons (fVar 0) fNil)))) (fCall m_side (fCons (fVar 2) (fCons (fVar 3) (fCons (fVar 1) fNil))))) (fC (.int 0))))) (fRet (fC (.bl true))) fSkip) (fRet (fOrV (fCall m_is_between (fCons (fVar 0) (fCons (fVar 1) (fCons (fVar 2) fNil)))) (fOrV (fCall m_is_between (fCons (fVar 0) (fCons (fVar 1) (fCons (fVar 3) fNil)))) (fOrV (fCall m_is_between (fCons (fVar 2) (fCons (fVar 3) (fCons (fVar 0) fNil)))) (fCall m_is_between (fCons (fVar 2) (fCons (fVar 3) (fCons (fVar 1) fNil)))))))))
theorem dv_do_meet {T : TPr} {P : Program} {w : World} {K : PySem.W.Frag} {mg : Str → Option Value} {base : Heap} (Z : Txt K mg)  (C_is_between : Cal T P w K mg base 3 "is_between" 3 (lift m_is_between)) (C_side : Cal T P w K mg base 3 "side" 3 (lift m_side)) {f : Addr} (cdv : Value) (A : Around) (outer : List Env) (s : Shared) (H : Hp) (E : XK) (hr : Room 3 (A.deeper (envOfC "do_meet" (defScope st_do_meet) s.heap.objs.size f cdv))) :
    PSs (cxOf (L2.CX P w) P w K mg base N_do_meet "do_meet" (defScope st_do_meet) f cdv A outer s H E) (defBody st_do_meet) (tS T mg (fun cls d _ H => E cls d H) (g_do_meet )) := by
  have nd := sc_do_meet.nd
  have B : Bd (cxOf (L2.CX P w) P w K mg base N_do_meet "do_meet" (defScope st_do_meet) f cdv A outer s H E) (fun cls d _ H => E cls d H) 3 := ⟨takes_of rfl rfl rfl rfl, hr⟩
  exact (s_cons (s_if (L2.PW.pt (w_and (t_cmp op_lt od_lt (e_op op_mul od_mul (e_call B (C_side.mono (by decide)) m_side_len rfl (a_cons (e_var 0) (a_cons (e_var 1) (a_cons (e_var 2) a_nil)))) (e_call B (C_side.mono (by decide)) m_side_len rfl (a_cons (e_var 0) (a_cons (e_var 1) (a_cons (e_var 3) a_nil))))) e_int) (w_and1 (t_cmp op_lt od_lt (e_op op_mul od_mul (e_call B (C_side.mono (by decide)) m_side_len rfl (a_cons (e_var 2) (a_cons (e_var 3) (a_cons (e_var 0) a_nil)))) (e_call B (C_side.mono (by decide)) m_side_len rfl (a_cons (e_var 2) (a_cons (e_var 3) (a_cons (e_var 1) a_nil))))) e_int)))) (s_one (s_ret e_bl)) s_nil) (s_one (s_ret (e_or (e_call B (C_is_between.mono (by decide)) m_is_between_len rfl (a_cons (e_var 0) (a_cons (e_var 1) (a_cons (e_var 2) a_nil)))) (e_or (e_call B (C_is_between.mono (by decide)) m_is_between_len rfl (a_cons (e_var 0) (a_cons (e_var 1) (a_cons (e_var 3) a_nil)))) (e_or (e_call B (C_is_between.mono (by decide)) m_is_between_len rfl (a_cons (e_var 2) (a_cons (e_var 3) (a_cons (e_var 0) a_nil)))) (e_one (e_call B (C_is_between.mono (by decide)) m_is_between_len rfl (a_cons (e_var 2) (a_cons (e_var 3) (a_cons (e_var 1) a_nil)))))))))))
def m_do_meet : List D → Pu := aut 4 N_do_meet (g_do_meet )
theorem m_do_meet_len : ∀ ds, m_do_meet ds ≠ .no → ds.length = 4 := aut_len
/-! ### shared -/
abbrev st_shared : Stmt := topS 7
abbrev N_shared : List Str := ["a", "b"]
theorem sc_shared : FnScope N_shared ["a", "b"] (defScope st_shared) := ⟨rfl, rfl, rfl, by decide +kernel, rfl, by decide +kernel, by decide +kernel⟩
def g_shared (n1 : Nat) : Sx → RS := (fSeq (fWhile (fTst (fOp gNe (fVar 1) (fC (.int 0)))) (fPar 0 1 (fCons (fVar 1) (fCons (fOp nMod (fVar 0) (fVar 1)) fNil))) n1) (fRet (fCB gAbs (fCons (fVar 0) fNil))))
theorem dv_shared {T : TPr} {P : Program} {w : World} {K : PySem.W.Frag} {mg : Str → Option Value} {base : Heap} (Z : Txt K mg) (n1 : Nat)  {f : Addr} (cdv : Value) (A : Around) (outer : List Env) (s : Shared) (H : Hp) (E : XK) (hr : Room 0 (A.deeper (envOfC "shared" (defScope st_shared) s.heap.objs.size f cdv))) :
    PSs (cxOf (L2.CX P w) P w K mg base N_shared "shared" (defScope st_shared) f cdv A outer s H E) (defBody st_shared) (tS T mg (fun cls d _ H => E cls d H) (g_shared n1)) := by
  have nd := sc_shared.nd
  have B : Bd (cxOf (L2.CX P w) P w K mg base N_shared "shared" (defScope st_shared) f cdv A outer s H E) (fun cls d _ H => E cls d H) 0 := ⟨takes_of rfl rfl rfl rfl, hr⟩
  exact (s_cons (s_while n1 (passes_of rfl) (t_cmp (op_neD B.hu) od_ne (e_var 1) e_int) (s_one (s_par 0 1 rfl nd (a_cons (e_var 1) (a_cons (e_op op_mod od_mod (e_var 0) (e_var 1)) a_nil))))) (s_one (s_ret (e_cb call_abs cd_abs rfl Z.z_abs boot_abs (a_cons (e_var 0) a_nil)))))
def m_shared : List D → Pu := autF 2 N_shared (fun n => g_shared n)
theorem m_shared_len : ∀ ds, m_shared ds ≠ .no → ds.length = 2 := autF_len
/-! ### made -/
abbrev st_made : Stmt := topS 8
abbrev N_made : List Str := ["top", "bottom", "both"]
theorem sc_made : FnScope N_made ["top", "bottom"] (defScope st_made) := ⟨rfl, rfl, rfl, by decide +kernel, rfl, by decide +kernel, by decide +kernel⟩
def g_made  : Sx → RS := (fSeq (fIfS (fTst (fOp gEq (fVar 1) (fC (.int 0)))) (fRaise "BadPoint") fSkip) (fSeq (fIfS (fTst (fOp nLt (fVar 1) (fC (.int 0)))) (fPar 0 1 (fCons (fUn nNeg (fVar 0)) (fCons (fUn nNeg (fVar 1)) fNil))) fSkip) (fSeq (fAsg (fCall m_shared (fCons (fVar 0) (fCons (fVar 1) fNil))) (bName 2)) (fRet (fTup (fCons (fOp nDiv (fVar 0) (fVar 2)) (fCons (fOp nDiv (fVar 1) (fVar 2)) fNil)))))))
theorem dv_made {T : TPr} {P : Program} {w : World} {K : PySem.W.Frag} {mg : Str → Option Value} {base : Heap} (Z : Txt K mg)  (C_shared : Cal T P w K mg base 1 "shared" 2 (lift m_shared)) {f : Addr} (cdv : Value) (A : Around) (outer : List Env) (s : Shared) (H : Hp) (E : XK) (hr : Room 1 (A.deeper (envOfC "made" (defScope st_made) s.heap.objs.size f cdv))) :
    PSs (cxOf (L2.CX P w) P w K mg base N_made "made" (defScope st_made) f cdv A outer s H E) (defBody st_made) (tS T mg (fun cls d _ H => E cls d H) (g_made )) := by
  have nd := sc_made.nd
  have B : Bd (cxOf (L2.CX P w) P w K mg base N_made "made" (defScope st_made) f cdv A outer s H E) (fun cls d _ H => E cls d H) 1 := ⟨takes_of rfl rfl rfl rfl, hr⟩
  exact (s_cons (s_if (t_cmp (op_eqD B.hu) od_eq (e_var 1) e_int) (s_one (s_raiseE B Z.x_BadPoint rfl)) s_nil) (s_cons (s_if (t_cmp op_lt od_lt (e_var 1) e_int) (s_one (s_par 0 1 rfl nd (a_cons (e_un un_neg ud_neg (e_var 0)) (a_cons (e_un un_neg ud_neg (e_var 1)) a_nil)))) s_nil) (s_cons (s_set 2 nd (e_call B (C_shared.mono (by decide)) m_shared_len rfl (a_cons (e_var 0) (a_cons (e_var 1) a_nil)))) (s_one (s_ret (e_tup (a_cons (e_op op_fdiv od_div (e_var 0) (e_var 2)) (a_cons (e_op op_fdiv od_div (e_var 1) (e_var 2)) a_nil))))))))
def m_made : List D → Pu := aut 2 N_made (g_made )
theorem m_made_len : ∀ ds, m_made ds ≠ .no → ds.length = 2 := aut_len
/-! ### square -/
abbrev st_square : Stmt := topS 28
abbrev N_square : List Str := ["a", "b", "u"]
theorem sc_square : FnScope N_square ["a", "b"] (defScope st_square) := ⟨rfl, rfl, rfl, by decide +kernel, rfl, by decide +kernel, by decide +kernel⟩
def g_square  : Sx → RS := (fSeq (fAsg (fCall m_less_points (fCons (fVar 0) (fCons (fVar 1) fNil))) (bName 2)) (fRet (fCall m_along (fCons (fVar 2) (fCons (fVar 2) fNil)))))
theorem dv_square {T : TPr} {P : Program} {w : World} {K : PySem.W.Frag} {mg : Str → Option Value} {base : Heap} (Z : Txt K mg)  (C_less_points : Cal T P w K mg base 1 "less_points" 2 (lift m_less_points)) (C_along : Cal T P w K mg base 1 "along" 2 (lift m_along)) {f : Addr} (cdv : Value) (A : Around) (outer : List Env) (s : Shared) (H : Hp) (E : XK) (hr : Room 1 (A.deeper (envOfC "square" (defScope st_square) s.heap.objs.size f cdv))) :
    PSs (cxOf (L2.CX P w) P w K mg base N_square "square" (defScope st_square) f cdv A outer s H E) (defBody st_square) (tS T mg (fun cls d _ H => E cls d H) (g_square )) := by
  have nd := sc_square.nd
  have B : Bd (cxOf (L2.CX P w) P w K mg base N_square "square" (defScope st_square) f cdv A outer s H E) (fun cls d _ H => E cls d H) 1 := ⟨takes_of rfl rfl rfl rfl, hr⟩
  exact (s_cons (s_set 2 nd (e_call B (C_less_points.mono (by decide)) m_less_points_len rfl (a_cons (e_var 0) (a_cons (e_var 1) a_nil)))) (s_one (s_ret (e_call B (C_along.mono (by decide)) m_along_len rfl (a_cons (e_var 2) (a_cons (e_var 2) a_nil))))))
def m_square : List D → Pu := aut 2 N_square (g_square )
theorem m_square_len : ∀ ds, m_square ds ≠ .no → ds.length = 2 := aut_len
/-! ### near_square -/
abbrev st_near_square : Stmt := topS 33
abbrev N_near_square : List Str := ["a", "b", "c", "u", "whole", "much"]
theorem sc_near_square : FnScope N_near_square ["a", "b", "c"] (defScope st_near_square) := ⟨rfl, rfl, rfl, by decide +kernel, rfl, by decide +kernel, by decide +kernel⟩
def g_near_square  : Sx → RS := (fSeq (fAsg (fCall m_less_points (fCons (fVar 1) (fCons (fVar 0) fNil))) (bName 3)) (fSeq (fAsg (fCall m_along (fCons (fVar 3) (fCons (fVar 3) fNil))) (bName 4)) (fSeq (fAsg (fCall m_along (fCons (fCall m_less_points (fCons (fVar 2) (fCons (fVar 0) fNil))) (fCons (fVar 3) fNil))) (bName 5)) (fSeq (fIfS (fOr (fTst (fOp gEq (fVar 4) (fC (.int 0)))) (fTst (fOp nLe (fVar 5) (fC (.int 0))))) (fRet (fTup (fCons (fCall m_square (fCons (fVar 0) (fCons (fVar 2) fNil))) (fCons (fC (.int 1)) fNil)))) fSkip) (fSeq (fIfS (fTst (fOp nGe (fVar 5) (fVar 4))) (fRet (fTup (fCons (fCall m_square (fCons (fVar 1) (fCons (fVar 2) fNil))) (fCons (fC (.int 1)) fNil)))) fSkip) (fRet (fCall m_made (fCons (fOp nMul (fCall m_turn (fCons (fVar 0) (fCons (fVar 1) (fCons (fVar 2) fNil)))) (fCall m_turn (fCons (fVar 0) (fCons (fVar 1) (fCons (fVar 2) fNil))))) (fCons (fVar 4) fNil)))))))))
theorem dv_near_square {T : TPr} {P : Program} {w : World} {K : PySem.W.Frag} {mg : Str → Option Value} {base : Heap} (Z : Txt K mg)  (C_less_points : Cal T P w K mg base 1 "less_points" 2 (lift m_less_points)) (C_turn : Cal T P w K mg base 2 "turn" 3 (lift m_turn)) (C_along : Cal T P w K mg base 1 "along" 2 (lift m_along)) (C_made : Cal T P w K mg base 2 "made" 2 (lift m_made)) (C_square : Cal T P w K mg base 2 "square" 2 (lift m_square)) {f : Addr} (cdv : Value) (A : Around) (outer : List Env) (s : Shared) (H : Hp) (E : XK) (hr : Room 2 (A.deeper (envOfC "near_square" (defScope st_near_square) s.heap.objs.size f cdv))) :
    PSs (cxOf (L2.CX P w) P w K mg base N_near_square "near_square" (defScope st_near_square) f cdv A outer s H E) (defBody st_near_square) (tS T mg (fun cls d _ H => E cls d H) (g_near_square )) := by
  have nd := sc_near_square.nd
  have B : Bd (cxOf (L2.CX P w) P w K mg base N_near_square "near_square" (defScope st_near_square) f cdv A outer s H E) (fun cls d _ H => E cls d H) 2 := ⟨takes_of rfl rfl rfl rfl, hr⟩
  exact (s_cons (s_set 3 nd (e_call B (C_less_points.mono (by decide)) m_less_points_len rfl (a_cons (e_var 1) (a_cons (e_var 0) a_nil)))) (s_cons (s_set 4 nd (e_call B (C_along.mono (by decide)) m_along_len rfl (a_cons (e_var 3) (a_cons (e_var 3) a_nil)))) (s_cons (s_set 5 nd (e_call B (C_along.mono (by decide)) m_along_len rfl (a_cons (e_call B (C_less_points.mono (by decide)) m_less_points_len rfl (a_cons (e_var 2) (a_cons (e_var 0) a_nil))) (a_cons (e_var 3) a_nil)))) (s_cons (s_if (L2.PW.pt (w_or (t_cmp (op_eqD B.hu) od_eq (e_var 4) e_int) (w_or1 (t_cmp op_le od_le (e_var 5) e_int)))) (s_one (s_ret (e_tup (a_cons (e_call B (C_square.mono (by decide)) m_square_len rfl (a_cons (e_var 0) (a_cons (e_var 2) a_nil))) (a_cons e_int a_nil))))) s_nil) (s_cons (s_if (t_cmp op_ge od_ge (e_var 5) (e_var 4)) (s_one (s_ret (e_tup (a_cons (e_call B (C_square.mono (by decide)) m_square_len rfl (a_cons (e_var 1) (a_cons (e_var 2) a_nil))) (a_cons e_int a_nil))))) s_nil) (s_one (s_ret (e_call B (C_made.mono (by decide)) m_made_len rfl (a_cons (e_op op_mul od_mul (e_call B (C_turn.mono (by decide)) m_turn_len rfl (a_cons (e_var 0) (a_cons (e_var 1) (a_cons (e_var 2) a_nil)))) (e_call B (C_turn.mono (by decide)) m_turn_len rfl (a_cons (e_var 0) (a_cons (e_var 1) (a_cons (e_var 2) a_nil))))) (a_cons (e_var 4) a_nil))))))))))
def m_near_square : List D → Pu := aut 3 N_near_square (g_near_square )
theorem m_near_square_len : ∀ ds, m_near_square ds ≠ .no → ds.length = 3 := aut_len
/-! ### order -/
abbrev st_order : Stmt := topS 14
abbrev N_order : List Str := ["a", "b", "gap"]
theorem sc_order : FnScope N_order ["a", "b"] (defScope st_order) := ⟨rfl, rfl, rfl, by decide +kernel, rfl, by decide +kernel, by decide +kernel⟩
def g_order  : Sx → RS := (fSeq (fAsg (fOp nSub (fOp nMul (fOp gIx (fVar 0) (fC (.int 0))) (fOp gIx (fVar 1) (fC (.int 1)))) (fOp nMul (fOp gIx (fVar 1) (fC (.int 0))) (fOp gIx (fVar 0) (fC (.int 1))))) (bName 2)) (fRet (fOp nSubB (fOp nGt (fVar 2) (fC (.int 0))) (fOp nLt (fVar 2) (fC (.int 0))))))
theorem dv_order {T : TPr} {P : Program} {w : World} {K : PySem.W.Frag} {mg : Str → Option Value} {base : Heap} (Z : Txt K mg)   {f : Addr} (cdv : Value) (A : Around) (outer : List Env) (s : Shared) (H : Hp) (E : XK) (hr : Room 0 (A.deeper (envOfC "order" (defScope st_order) s.heap.objs.size f cdv))) :
    PSs (cxOf (L2.CX P w) P w K mg base N_order "order" (defScope st_order) f cdv A outer s H E) (defBody st_order) (tS T mg (fun cls d _ H => E cls d H) (g_order )) := by
  have nd := sc_order.nd
  have B : Bd (cxOf (L2.CX P w) P w K mg base N_order "order" (defScope st_order) f cdv A outer s H E) (fun cls d _ H => E cls d H) 0 := ⟨takes_of rfl rfl rfl rfl, hr⟩
  exact (s_cons (s_set 2 nd (e_op op_sub od_sub (e_op op_mul od_mul (e_ix (e_var 0) e_int) (e_ix (e_var 1) e_int)) (e_op op_mul od_mul (e_ix (e_var 1) e_int) (e_ix (e_var 0) e_int)))) (s_one (s_ret (e_op op_subB od_subB (e_cmp op_gt od_gt (e_var 2) e_int) (e_cmp op_lt od_lt (e_var 2) e_int)))))
def m_order : List D → Pu := aut 2 N_order (g_order )
theorem m_order_len : ∀ ds, m_order ds ≠ .no → ds.length = 2 := aut_len
/-! ### ways_square -/
abbrev st_ways_square : Stmt := topS 34
abbrev N_ways_square : List Str := ["a", "b", "c", "d", "best", "one"]
theorem sc_ways_square : FnScope N_ways_square ["a", "b", "c", "d"] (defScope st_ways_square) := ⟨rfl, rfl, rfl, by decide +kernel, rfl, by decide +kernel, by decide +kernel⟩
def g_ways_square_1  : Sx → RS := (fIfS (fTst (fCall m_do_meet (fCons (fVar 0) (fCons (fVar 1) (fCons (fVar 2) (fCons (fVar 3) fNil)))))) (fRet (fTup (fCons (fC (.int 0)) (fCons (fC (.int 1)) fNil)))) fSkip)
def g_ways_square_2  : Sx → RS := (fAsg (fCall m_near_square (fCons (fVar 0) (fCons (fVar 1) (fCons (fVar 2) fNil)))) (bName 4))
def g_ways_square_3_1_1  : Sx → RS := (fAsg (fVar 5) (bName 4))
def g_ways_square_3_1  : Sx → RS := (fIfS (fTst (fOp nLt (fCall m_order (fCons (fVar 5) (fCons (fVar 4) fNil))) (fC (.int 0)))) g_ways_square_3_1_1 fSkip)
def g_ways_square_3  : Sx → RS := (fFor (fIt asTup (fTup (fCons (fCall m_near_square (fCons (fVar 0) (fCons (fVar 1) (fCons (fVar 3) fNil)))) (fCons (fCall m_near_square (fCons (fVar 2) (fCons (fVar 3) (fCons (fVar 0) fNil)))) (fCons (fCall m_near_square (fCons (fVar 2) (fCons (fVar 3) (fCons (fVar 1) fNil)))) fNil))))) (bName 5) g_ways_square_3_1)
def g_ways_square  : Sx → RS := (fSeq g_ways_square_1 (fSeq g_ways_square_2 (fSeq g_ways_square_3 (fRet (fVar 4)))))
theorem dv_ways_square {T : TPr} {P : Program} {w : World} {K : PySem.W.Frag} {mg : Str → Option Value} {base : Heap} (Z : Txt K mg)  (C_do_meet : Cal T P w K mg base 4 "do_meet" 4 (lift m_do_meet)) (C_near_square : Cal T P w K mg base 3 "near_square" 3 (lift m_near_square)) (C_order : Cal T P w K mg base 1 "order" 2 (lift m_order)) {f : Addr} (cdv : Value) (A : Around) (outer : List Env) (s : Shared) (H : Hp) (E : XK) (hr : Room 4 (A.deeper (envOfC "ways_square" (defScope st_ways_square) s.heap.objs.size f cdv))) :
    PSs (cxOf (L2.CX P w) P w K mg base N_ways_square "ways_square" (defScope st_ways_square) f cdv A outer s H E) (defBody st_ways_square) (tS T mg (fun cls d _ H => E cls d H) (g_ways_square )) := by
  have nd := sc_ways_square.nd
  have B : Bd (cxOf (L2.CX P w) P w K mg base N_ways_square "ways_square" (defScope st_ways_square) f cdv A outer s H E) (fun cls d _ H => E cls d H) 4 := ⟨takes_of rfl rfl rfl rfl, hr⟩
  exact (s_cons (s_if (t_val (e_call B (C_do_meet.mono (by decide)) m_do_meet_len rfl (a_cons (e_var 0) (a_cons (e_var 1) (a_cons (e_var 2) (a_cons (e_var 3) a_nil)))))) (s_one (s_ret (e_tup (a_cons e_int (a_cons e_int a_nil))))) s_nil) (s_cons (s_set 4 nd (e_call B (C_near_square.mono (by decide)) m_near_square_len rfl (a_cons (e_var 0) (a_cons (e_var 1) (a_cons (e_var 2) a_nil))))) (s_cons (s_for (ws := [5]) (passes_of rfl) rfl (i_tup (e_tup (a_cons (e_call B (C_near_square.mono (by decide)) m_near_square_len rfl (a_cons (e_var 0) (a_cons (e_var 1) (a_cons (e_var 3) a_nil)))) (a_cons (e_call B (C_near_square.mono (by decide)) m_near_square_len rfl (a_cons (e_var 2) (a_cons (e_var 3) (a_cons (e_var 0) a_nil)))) (a_cons (e_call B (C_near_square.mono (by decide)) m_near_square_len rfl (a_cons (e_var 2) (a_cons (e_var 3) (a_cons (e_var 1) a_nil)))) a_nil))))) (g_name 5 nd) (s_one (s_if (t_cmp op_lt od_lt (e_call B (C_order.mono (by decide)) m_order_len rfl (a_cons (e_var 5) (a_cons (e_var 4) a_nil))) e_int) (s_one (s_set 4 nd (e_var 5))) s_nil))) (s_one (s_ret (e_var 4))))))
def m_ways_square : List D → Pu := aut 4 N_ways_square (g_ways_square )
theorem m_ways_square_len : ∀ ds, m_ways_square ds ≠ .no → ds.length = 4 := aut_len
/-! ### _law_roll -/
abbrev st__law_roll : Stmt := topS 37
abbrev N__law_roll : List Str := ["dice", "many", "found"]
theorem sc__law_roll : FnScope N__law_roll ["dice", "many"] (defScope st__law_roll) := ⟨rfl, rfl, rfl, by decide +kernel, rfl, by decide +kernel, by decide +kernel⟩
def g__law_roll  : Sx → RS := (fSeq (fIfS (fOr (fTst (fOp gEq (fOp gIx (fVar 0) (fC (.int 2))) (fC (.int 2)))) (fAnd (fTst (fOp gEq (fOp gIx (fVar 0) (fC (.int 2))) (fC (.int 1)))) (fTst (fOp nGt (fOp gIx (fVar 0) (fC (.int 0))) (fC (.int 0)))))) (fSeq (fAsg (fOp nMod (fCB gInt (fCons (fOp gIx (fVar 0) (fC (.int 0))) fNil)) (fVar 1)) (bName 2)) (fSeq (fSetIx (fOp nDiv (fOp gIx (fVar 0) (fC (.int 0))) (fVar 1)) (fVar 0) (fC (.int 0))) (fRet (fVar 2)))) fSkip) (fSeq (fSetIx (fC (.int 0)) (fVar 0) (fC (.int 2))) (fSeq (fSetIx (fOp nMod (fCB gInt (fCons (fOp nAdd (fOp nAdd (fOp nMul (fOp gIx (fVar 0) (fC (.int 0))) (fC (.int 48271))) (fOp nMul (fOp gIx (fVar 0) (fC (.int 1))) (fC (.int 69621)))) (fC (.int 11))) fNil)) (fC (.int 2147483647))) (fVar 0) (fC (.int 0))) (fSeq (fSetIx (fOp nAdd (fOp gIx (fVar 0) (fC (.int 1))) (fC (.int 1))) (fVar 0) (fC (.int 1))) (fRet (fOp nMod (fCB gInt (fCons (fOp nAdd (fOp nDiv (fOp gIx (fVar 0) (fC (.int 0))) (fC (.int 7))) (fOp gIx (fVar 0) (fC (.int 0)))) fNil)) (fVar 1)))))))
theorem dv__law_roll {T : TPr} {P : Program} {w : World} {K : PySem.W.Frag} {mg : Str → Option Value} {base : Heap} (Z : Txt K mg)   {f : Addr} (cdv : Value) (A : Around) (outer : List Env) (s : Shared) (H : Hp) (E : XK) (hr : Room 0 (A.deeper (envOfC "_law_roll" (defScope st__law_roll) s.heap.objs.size f cdv))) :
    PSs (cxOf (L2.CX P w) P w K mg base N__law_roll "_law_roll" (defScope st__law_roll) f cdv A outer s H E) (defBody st__law_roll) (tS T mg (fun cls d _ H => E cls d H) (g__law_roll )) := by
  have nd := sc__law_roll.nd
  have B : Bd (cxOf (L2.CX P w) P w K mg base N__law_roll "_law_roll" (defScope st__law_roll) f cdv A outer s H E) (fun cls d _ H => E cls d H) 0 := ⟨takes_of rfl rfl rfl rfl, hr⟩
  exact (s_cons (s_if (L2.PW.pt (w_or (t_cmp (op_eqD B.hu) od_eq (e_ix (e_var 0) e_int) e_int) (w_or1 (L2.PW.pt (w_and (t_cmp (op_eqD B.hu) od_eq (e_ix (e_var 0) e_int) e_int) (w_and1 (t_cmp op_gt od_gt (e_ix (e_var 0) e_int) e_int))))))) (s_cons (s_set 2 nd (e_op op_mod od_mod (e_ct call_int1 cd_int rfl Z.z_int boot_int (a_cons (e_ix (e_var 0) e_int) a_nil)) (e_var 1))) (s_cons (s_setIx (e_op op_fdiv od_div (e_ix (e_var 0) e_int) (e_var 1)) (e_var 0) e_int) (s_one (s_ret (e_var 2))))) s_nil) (s_cons (s_setIx e_int (e_var 0) e_int) (s_cons (s_setIx (e_op op_mod od_mod (e_ct call_int1 cd_int rfl Z.z_int boot_int (a_cons (e_op op_add od_add (e_op op_add od_add (e_op op_mul od_mul (e_ix (e_var 0) e_int) e_int) (e_op op_mul od_mul (e_ix (e_var 0) e_int) e_int)) e_int) a_nil)) e_int) (e_var 0) e_int) (s_cons (s_setIx (e_op op_add od_add (e_ix (e_var 0) e_int) e_int) (e_var 0) e_int) (s_one (s_ret (e_op op_mod od_mod (e_ct call_int1 cd_int rfl Z.z_int boot_int (a_cons (e_op op_add od_add (e_op op_fdiv od_div (e_ix (e_var 0) e_int) e_int) (e_ix (e_var 0) e_int)) a_nil)) (e_var 1))))))))
def m__law_roll : List D → Cells → R D := autM 2 N__law_roll (g__law_roll )
theorem m__law_roll_len : ∀ ds M, m__law_roll ds M ≠ .no → ds.length = 2 := autM_len
/-! ### _law_point -/
abbrev st__law_point : Stmt := topS 40
abbrev N__law_point : List Str := ["dice", "far"]
theorem sc__law_point : FnScope N__law_point ["dice", "far"] (defScope st__law_point) := ⟨rfl, rfl, rfl, by decide +kernel, rfl, by decide +kernel, by decide +kernel⟩
def g__law_point  : Sx → RS := (fRet (fTup (fCons (fOp nSub (fCallM m__law_roll (fCons (fVar 0) (fCons (fOp nAdd (fOp nMul (fC (.int 2)) (fVar 1)) (fC (.int 1))) fNil))) (fVar 1)) (fCons (fOp nSub (fCallM m__law_roll (fCons (fVar 0) (fCons (fOp nAdd (fOp nMul (fC (.int 2)) (fVar 1)) (fC (.int 1))) fNil))) (fVar 1)) fNil))))
theorem dv__law_point {T : TPr} {P : Program} {w : World} {K : PySem.W.Frag} {mg : Str → Option Value} {base : Heap} (Z : Txt K mg)  (C__law_roll : Cal T P w K mg base 1 "_law_roll" 2 m__law_roll) {f : Addr} (cdv : Value) (A : Around) (outer : List Env) (s : Shared) (H : Hp) (E : XK) (hr : Room 1 (A.deeper (envOfC "_law_point" (defScope st__law_point) s.heap.objs.size f cdv))) :
    PSs (cxOf (L2.CX P w) P w K mg base N__law_point "_law_point" (defScope st__law_point) f cdv A outer s H E) (defBody st__law_point) (tS T mg (fun cls d _ H => E cls d H) (g__law_point )) := by
  have nd := sc__law_point.nd
  have B : Bd (cxOf (L2.CX P w) P w K mg base N__law_point "_law_point" (defScope st__law_point) f cdv A outer s H E) (fun cls d _ H => E cls d H) 1 := ⟨takes_of rfl rfl rfl rfl, hr⟩
  exact (s_one (s_ret (e_tup (a_cons (e_op op_sub od_sub (e_callM B (C__law_roll.mono (by decide)) m__law_roll_len rfl (a_cons (e_var 0) (a_cons (e_op op_add od_add (e_op op_mul od_mul e_int (e_var 1)) e_int) a_nil))) (e_var 1)) (a_cons (e_op op_sub od_sub (e_callM B (C__law_roll.mono (by decide)) m__law_roll_len rfl (a_cons (e_var 0) (a_cons (e_op op_add od_add (e_op op_mul od_mul e_int (e_var 1)) e_int) a_nil))) (e_var 1)) a_nil)))))
def m__law_point : List D → Cells → R D := autM 2 N__law_point (g__law_point )
theorem m__law_point_len : ∀ ds M, m__law_point ds M ≠ .no → ds.length = 2 := autM_len
/-! ### _law_turn -/
abbrev st__law_turn : Stmt := topS 41
abbrev N__law_turn : List Str := ["a", "b", "c"]
theorem sc__law_turn : FnScope N__law_turn ["a", "b", "c"] (defScope st__law_turn) := ⟨rfl, rfl, rfl, by decide +kernel, rfl, by decide +kernel, by decide +kernel⟩
def g__law_turn  : Sx → RS := (fRet (fOp nSub (fOp nMul (fOp nSub (fOp gIx (fVar 1) (fC (.int 0))) (fOp gIx (fVar 0) (fC (.int 0)))) (fOp nSub (fOp gIx (fVar 2) (fC (.int 1))) (fOp gIx (fVar 0) (fC (.int 1))))) (fOp nMul (fOp nSub (fOp gIx (fVar 1) (fC (.int 1))) (fOp gIx (fVar 0) (fC (.int 1)))) (fOp nSub (fOp gIx (fVar 2) (fC (.int 0))) (fOp gIx (fVar 0) (fC (.int 0)))))))
theorem dv__law_turn {T : TPr} {P : Program} {w : World} {K : PySem.W.Frag} {mg : Str → Option Value} {base : Heap} (Z : Txt K mg)   {f : Addr} (cdv : Value) (A : Around) (outer : List Env) (s : Shared) (H : Hp) (E : XK) (hr : Room 0 (A.deeper (envOfC "_law_turn" (defScope st__law_turn) s.heap.objs.size f cdv))) :
    PSs (cxOf (L2.CX P w) P w K mg base N__law_turn "_law_turn" (defScope st__law_turn) f cdv A outer s H E) (defBody st__law_turn) (tS T mg (fun cls d _ H => E cls d H) (g__law_turn )) := by
  have nd := sc__law_turn.nd
  have B : Bd (cxOf (L2.CX P w) P w K mg base N__law_turn "_law_turn" (defScope st__law_turn) f cdv A outer s H E) (fun cls d _ H => E cls d H) 0 := ⟨takes_of rfl rfl rfl rfl, hr⟩
  exact (s_one (s_ret (e_op op_sub od_sub (e_op op_mul od_mul (e_op op_sub od_sub (e_ix (e_var 1) e_int) (e_ix (e_var 0) e_int)) (e_op op_sub od_sub (e_ix (e_var 2) e_int) (e_ix (e_var 0) e_int))) (e_op op_mul od_mul (e_op op_sub od_sub (e_ix (e_var 1) e_int) (e_ix (e_var 0) e_int)) (e_op op_sub od_sub (e_ix (e_var 2) e_int) (e_ix (e_var 0) e_int))))))
def m__law_turn : List D → Pu := aut 3 N__law_turn (g__law_turn )
theorem m__law_turn_len : ∀ ds, m__law_turn ds ≠ .no → ds.length = 3 := aut_len
/-! ### add -/
abbrev st_add : Stmt := topS 9
abbrev N_add : List Str := ["a", "b"]
theorem sc_add : FnScope N_add ["a", "b"] (defScope st_add) := ⟨rfl, rfl, rfl, by decide +kernel, rfl, by decide +kernel, by decide +kernel⟩
def g_add  : Sx → RS := (fRet (fCall m_made (fCons (fOp nAdd (fOp nMul (fOp gIx (fVar 0) (fC (.int 0))) (fOp gIx (fVar 1) (fC (.int 1)))) (fOp nMul (fOp gIx (fVar 1) (fC (.int 0))) (fOp gIx (fVar 0) (fC (.int 1))))) (fCons (fOp nMul (fOp gIx (fVar 0) (fC (.int 1))) (fOp gIx (fVar 1) (fC (.int 1)))) fNil))))
theorem dv_add {T : TPr} {P : Program} {w : World} {K : PySem.W.Frag} {mg : Str → Option Value} {base : Heap} (Z : Txt K mg)  (C_made : Cal T P w K mg base 2 "made" 2 (lift m_made)) {f : Addr} (cdv : Value) (A : Around) (outer : List Env) (s : Shared) (H : Hp) (E : XK) (hr : Room 2 (A.deeper (envOfC "add" (defScope st_add) s.heap.objs.size f cdv))) :
    PSs (cxOf (L2.CX P w) P w K mg base N_add "add" (defScope st_add) f cdv A outer s H E) (defBody st_add) (tS T mg (fun cls d _ H => E cls d H) (g_add )) := by
  have nd := sc_add.nd
  have B : Bd (cxOf (L2.CX P w) P w K mg base N_add "add" (defScope st_add) f cdv A outer s H E) (fun cls d _ H => E cls d H) 2 := ⟨takes_of rfl rfl rfl rfl, hr⟩
  exact (s_one (s_ret (e_call B (C_made.mono (by decide)) m_made_len rfl (a_cons (e_op op_add od_add (e_op op_mul od_mul (e_ix (e_var 0) e_int) (e_ix (e_var 1) e_int)) (e_op op_mul od_mul (e_ix (e_var 1) e_int) (e_ix (e_var 0) e_int))) (a_cons (e_op op_mul od_mul (e_ix (e_var 0) e_int) (e_ix (e_var 1) e_int)) a_nil)))))
def m_add : List D → Pu := aut 2 N_add (g_add )
theorem m_add_len : ∀ ds, m_add ds ≠ .no → ds.length = 2 := aut_len
/-! ### less_parts -/
abbrev st_less_parts : Stmt := topS 10
abbrev N_less_parts : List Str := ["a", "b"]
theorem sc_less_parts : FnScope N_less_parts ["a", "b"] (defScope st_less_parts) := ⟨rfl, rfl, rfl, by decide +kernel, rfl, by decide +kernel, by decide +kernel⟩
def g_less_parts  : Sx → RS := (fRet (fCall m_made (fCons (fOp nSub (fOp nMul (fOp gIx (fVar 0) (fC (.int 0))) (fOp gIx (fVar 1) (fC (.int 1)))) (fOp nMul (fOp gIx (fVar 1) (fC (.int 0))) (fOp gIx (fVar 0) (fC (.int 1))))) (fCons (fOp nMul (fOp gIx (fVar 0) (fC (.int 1))) (fOp gIx (fVar 1) (fC (.int 1)))) fNil))))
theorem dv_less_parts {T : TPr} {P : Program} {w : World} {K : PySem.W.Frag} {mg : Str → Option Value} {base : Heap} (Z : Txt K mg)  (C_made : Cal T P w K mg base 2 "made" 2 (lift m_made)) {f : Addr} (cdv : Value) (A : Around) (outer : List Env) (s : Shared) (H : Hp) (E : XK) (hr : Room 2 (A.deeper (envOfC "less" (defScope st_less_parts) s.heap.objs.size f cdv))) :
    PSs (cxOf (L2.CX P w) P w K mg base N_less_parts "less" (defScope st_less_parts) f cdv A outer s H E) (defBody st_less_parts) (tS T mg (fun cls d _ H => E cls d H) (g_less_parts )) := by
  have nd := sc_less_parts.nd
  have B : Bd (cxOf (L2.CX P w) P w K mg base N_less_parts "less" (defScope st_less_parts) f cdv A outer s H E) (fun cls d _ H => E cls d H) 2 := ⟨takes_of rfl rfl rfl rfl, hr⟩
  exact (s_one (s_ret (e_call B (C_made.mono (by decide)) m_made_len rfl (a_cons (e_op op_sub od_sub (e_op op_mul od_mul (e_ix (e_var 0) e_int) (e_ix (e_var 1) e_int)) (e_op op_mul od_mul (e_ix (e_var 1) e_int) (e_ix (e_var 0) e_int))) (a_cons (e_op op_mul od_mul (e_ix (e_var 0) e_int) (e_ix (e_var 1) e_int)) a_nil)))))
def m_less_parts : List D → Pu := aut 2 N_less_parts (g_less_parts )
theorem m_less_parts_len : ∀ ds, m_less_parts ds ≠ .no → ds.length = 2 := aut_len
/-! ### times -/
abbrev st_times : Stmt := topS 12
abbrev N_times : List Str := ["a", "b"]
theorem sc_times : FnScope N_times ["a", "b"] (defScope st_times) := ⟨rfl, rfl, rfl, by decide +kernel, rfl, by decide +kernel, by decide +kernel⟩
def g_times  : Sx → RS := (fRet (fCall m_made (fCons (fOp nMul (fOp gIx (fVar 0) (fC (.int 0))) (fOp gIx (fVar 1) (fC (.int 0)))) (fCons (fOp nMul (fOp gIx (fVar 0) (fC (.int 1))) (fOp gIx (fVar 1) (fC (.int 1)))) fNil))))
theorem dv_times {T : TPr} {P : Program} {w : World} {K : PySem.W.Frag} {mg : Str → Option Value} {base : Heap} (Z : Txt K mg)  (C_made : Cal T P w K mg base 2 "made" 2 (lift m_made)) {f : Addr} (cdv : Value) (A : Around) (outer : List Env) (s : Shared) (H : Hp) (E : XK) (hr : Room 2 (A.deeper (envOfC "times" (defScope st_times) s.heap.objs.size f cdv))) :
    PSs (cxOf (L2.CX P w) P w K mg base N_times "times" (defScope st_times) f cdv A outer s H E) (defBody st_times) (tS T mg (fun cls d _ H => E cls d H) (g_times )) := by
  have nd := sc_times.nd
  have B : Bd (cxOf (L2.CX P w) P w K mg base N_times "times" (defScope st_times) f cdv A outer s H E) (fun cls d _ H => E cls d H) 2 := ⟨takes_of rfl rfl rfl rfl, hr⟩
  exact (s_one (s_ret (e_call B (C_made.mono (by decide)) m_made_len rfl (a_cons (e_op op_mul od_mul (e_ix (e_var 0) e_int) (e_ix (e_var 1) e_int)) (a_cons (e_op op_mul od_mul (e_ix (e_var 0) e_int) (e_ix (e_var 1) e_int)) a_nil)))))
def m_times : List D → Pu := aut 2 N_times (g_times )
theorem m_times_len : ∀ ds, m_times ds ≠ .no → ds.length = 2 := aut_len
/-! ### _law_gap -/
abbrev st__law_gap : Stmt := topS 43
abbrev N__law_gap : List Str := ["spot", "other", "x", "y"]
theorem sc__law_gap : FnScope N__law_gap ["spot", "other"] (defScope st__law_gap) := ⟨rfl, rfl, rfl, by decide +kernel, rfl, by decide +kernel, by decide +kernel⟩
def g__law_gap  : Sx → RS := (fSeq (fPar 2 3 (fCons (fCall m_less_parts (fCons (fOp gIx (fVar 0) (fC (.int 0))) (fCons (fOp gIx (fVar 1) (fC (.int 0))) fNil))) (fCons (fCall m_less_parts (fCons (fOp gIx (fVar 0) (fC (.int 1))) (fCons (fOp gIx (fVar 1) (fC (.int 1))) fNil))) fNil))) (fRet (fCall m_add (fCons (fCall m_times (fCons (fVar 2) (fCons (fVar 2) fNil))) (fCons (fCall m_times (fCons (fVar 3) (fCons (fVar 3) fNil))) fNil)))))
theorem dv__law_gap {T : TPr} {P : Program} {w : World} {K : PySem.W.Frag} {mg : Str → Option Value} {base : Heap} (Z : Txt K mg)  (C_add : Cal T P w K mg base 3 "add" 2 (lift m_add)) (C_less_parts : Cal T P w K mg base 3 "less_parts" 2 (lift m_less_parts)) (C_times : Cal T P w K mg base 3 "times" 2 (lift m_times)) {f : Addr} (cdv : Value) (A : Around) (outer : List Env) (s : Shared) (H : Hp) (E : XK) (hr : Room 3 (A.deeper (envOfC "_law_gap" (defScope st__law_gap) s.heap.objs.size f cdv))) :
    PSs (cxOf (L2.CX P w) P w K mg base N__law_gap "_law_gap" (defScope st__law_gap) f cdv A outer s H E) (defBody st__law_gap) (tS T mg (fun cls d _ H => E cls d H) (g__law_gap )) := by
  have nd := sc__law_gap.nd
  have B : Bd (cxOf (L2.CX P w) P w K mg base N__law_gap "_law_gap" (defScope st__law_gap) f cdv A outer s H E) (fun cls d _ H => E cls d H) 3 := ⟨takes_of rfl rfl rfl rfl, hr⟩
  exact (s_cons (s_par 2 3 rfl nd (a_cons (e_call B (C_less_parts.mono (by decide)) m_less_parts_len rfl (a_cons (e_ix (e_var 0) e_int) (a_cons (e_ix (e_var 1) e_int) a_nil))) (a_cons (e_call B (C_less_parts.mono (by decide)) m_less_parts_len rfl (a_cons (e_ix (e_var 0) e_int) (a_cons (e_ix (e_var 1) e_int) a_nil))) a_nil))) (s_one (s_ret (e_call B (C_add.mono (by decide)) m_add_len rfl (a_cons (e_call B (C_times.mono (by decide)) m_times_len rfl (a_cons (e_var 2) (a_cons (e_var 2) a_nil))) (a_cons (e_call B (C_times.mono (by decide)) m_times_len rfl (a_cons (e_var 3) (a_cons (e_var 3) a_nil))) a_nil))))))
def m__law_gap : List D → Pu := aut 2 N__law_gap (g__law_gap )
theorem m__law_gap_len : ∀ ds, m__law_gap ds ≠ .no → ds.length = 2 := aut_len
/-! ### _law_at -/
abbrev st__law_at : Stmt := topS 42
abbrev N__law_at : List Str := ["a", "b", "k"]
theorem sc__law_at : FnScope N__law_at ["a", "b", "k"] (defScope st__law_at) := ⟨rfl, rfl, rfl, by decide +kernel, rfl, by decide +kernel, by decide +kernel⟩
def g__law_at  : Sx → RS := (fRet (fTup (fCons (fCall m_made (fCons (fOp nAdd (fOp nMul (fOp gIx (fVar 0) (fC (.int 0))) (fOp nSub (fC (.int 12)) (fVar 2))) (fOp nMul (fOp gIx (fVar 1) (fC (.int 0))) (fVar 2))) (fCons (fC (.int 12)) fNil))) (fCons (fCall m_made (fCons (fOp nAdd (fOp nMul (fOp gIx (fVar 0) (fC (.int 1))) (fOp nSub (fC (.int 12)) (fVar 2))) (fOp nMul (fOp gIx (fVar 1) (fC (.int 1))) (fVar 2))) (fCons (fC (.int 12)) fNil))) fNil))))
theorem dv__law_at {T : TPr} {P : Program} {w : World} {K : PySem.W.Frag} {mg : Str → Option Value} {base : Heap} (Z : Txt K mg)  (C_made : Cal T P w K mg base 2 "made" 2 (lift m_made)) {f : Addr} (cdv : Value) (A : Around) (outer : List Env) (s : Shared) (H : Hp) (E : XK) (hr : Room 2 (A.deeper (envOfC "_law_at" (defScope st__law_at) s.heap.objs.size f cdv))) :
    PSs (cxOf (L2.CX P w) P w K mg base N__law_at "_law_at" (defScope st__law_at) f cdv A outer s H E) (defBody st__law_at) (tS T mg (fun cls d _ H => E cls d H) (g__law_at )) := by
  have nd := sc__law_at.nd
  have B : Bd (cxOf (L2.CX P w) P w K mg base N__law_at "_law_at" (defScope st__law_at) f cdv A outer s H E) (fun cls d _ H => E cls d H) 2 := ⟨takes_of rfl rfl rfl rfl, hr⟩
  exact (s_one (s_ret (e_tup (a_cons (e_call B (C_made.mono (by decide)) m_made_len rfl (a_cons (e_op op_add od_add (e_op op_mul od_mul (e_ix (e_var 0) e_int) (e_op op_sub od_sub e_int (e_var 2))) (e_op op_mul od_mul (e_ix (e_var 1) e_int) (e_var 2))) (a_cons e_int a_nil))) (a_cons (e_call B (C_made.mono (by decide)) m_made_len rfl (a_cons (e_op op_add od_add (e_op op_mul od_mul (e_ix (e_var 0) e_int) (e_op op_sub od_sub e_int (e_var 2))) (e_op op_mul od_mul (e_ix (e_var 1) e_int) (e_var 2))) (a_cons e_int a_nil))) a_nil)))))
def m__law_at : List D → Pu := aut 3 N__law_at (g__law_at )
theorem m__law_at_len : ∀ ds, m__law_at ds ≠ .no → ds.length = 3 := aut_len
/-! ### _law_near -/
abbrev st__law_near : Stmt := topS 44
abbrev N__law_near : List Str := ["a", "b", "c", "d", "p", "far", "one", "k", "ends", "x", "wide"]
theorem sc__law_near : FnScope N__law_near ["a", "b", "c", "d", "p", "far"] (defScope st__law_near) := ⟨rfl, rfl, rfl, by decide +kernel, rfl, by decide +kernel, by decide +kernel⟩
def g__law_near_1  : Sx → RS := (fAsg (fCall m_near_square (fCons (fVar 0) (fCons (fVar 1) (fCons (fVar 2) fNil)))) (bName 6))
def g__law_near_2_1  : Sx → RS := (fIfS (fTst (fOp nLt (fCall m_order (fCons (fCall m__law_gap (fCons (fCall m__law_at (fCons (fVar 0) (fCons (fVar 1) (fCons (fVar 7) fNil)))) (fCons (fTup (fCons (fTup (fCons (fOp gIx (fVar 2) (fC (.int 0))) (fCons (fC (.int 1)) fNil))) (fCons (fTup (fCons (fOp gIx (fVar 2) (fC (.int 1))) (fCons (fC (.int 1)) fNil))) fNil))) fNil))) (fCons (fVar 6) fNil))) (fC (.int 0)))) (fRet (fC (.bl false))) fSkip)
def g__law_near_2_2  : Sx → RS := (fIfS (fTst (fOp nLt (fCall m_order (fCons (fCall m__law_gap (fCons (fCall m__law_at (fCons (fVar 0) (fCons (fVar 1) (fCons (fVar 7) fNil)))) (fCons (fCall m__law_at (fCons (fVar 2) (fCons (fVar 3) (fCons (fOp nSub (fC (.int 12)) (fVar 7)) fNil)))) fNil))) (fCons (fVar 5) fNil))) (fC (.int 0)))) (fRet (fC (.bl false))) fSkip)
def g__law_near_2  : Sx → RS := (fFor (fIts asRg1 (fCons (fC (.int 13)) fNil)) (bName 7) (fSeq g__law_near_2_1 g__law_near_2_2))
def g__law_near_3  : Sx → RS := (fAsg (fFz (fLc (fIt asLst (fLst (fCons (fVar 0) (fCons (fVar 1) fNil)))) (bName 9) fTrue (fCall m__law_gap (fCons (fTup (fCons (fTup (fCons (fOp gIx (fVar 9) (fC (.int 0))) (fCons (fC (.int 1)) fNil))) (fCons (fTup (fCons (fOp gIx (fVar 9) (fC (.int 1))) (fCons (fC (.int 1)) fNil))) fNil))) (fCons (fTup (fCons (fTup (fCons (fOp gIx (fVar 2) (fC (.int 0))) (fCons (fC (.int 1)) fNil))) (fCons (fTup (fCons (fOp gIx (fVar 2) (fC (.int 1))) (fCons (fC (.int 1)) fNil))) fNil))) fNil))) [9])) (bName 8))
def g__law_near_4  : Sx → RS := (fAsg (fOp nAdd (fOp nMul (fOp nSub (fOp gIx (fVar 1) (fC (.int 0))) (fOp gIx (fVar 0) (fC (.int 0)))) (fOp nSub (fOp gIx (fVar 1) (fC (.int 0))) (fOp gIx (fVar 0) (fC (.int 0))))) (fOp nMul (fOp nSub (fOp gIx (fVar 1) (fC (.int 1))) (fOp gIx (fVar 0) (fC (.int 1)))) (fOp nSub (fOp gIx (fVar 1) (fC (.int 1))) (fOp gIx (fVar 0) (fC (.int 1)))))) (bName 10))
def g__law_near_5  : Sx → RS := (fIfS (fAnd (fTst (fOp gNotIn (fVar 6) (fVar 8))) (fOr (fTst (fOp gEq (fVar 10) (fC (.int 0)))) (fTst (fOp gNe (fVar 6) (fCall m_made (fCons (fOp nMul (fVar 4) (fVar 4)) (fCons (fVar 10) fNil))))))) (fRet (fC (.bl false))) fSkip)
def g__law_near  : Sx → RS := (fSeq g__law_near_1 (fSeq g__law_near_2 (fSeq g__law_near_3 (fSeq g__law_near_4 (fSeq g__law_near_5 (fRet (fC (.bl true))))))))
theorem dv__law_near {T : TPr} {P : Program} {w : World} {K : PySem.W.Frag} {mg : Str → Option Value} {base : Heap} (Z : Txt K mg)  (C_made : Cal T P w K mg base 2 "made" 2 (lift m_made)) (C_near_square : Cal T P w K mg base 3 "near_square" 3 (lift m_near_square)) (C_order : Cal T P w K mg base 1 "order" 2 (lift m_order)) (C__law_gap : Cal T P w K mg base 4 "_law_gap" 2 (lift m__law_gap)) (C__law_at : Cal T P w K mg base 3 "_law_at" 3 (lift m__law_at)) {f : Addr} (cdv : Value) (A : Around) (outer : List Env) (s : Shared) (H : Hp) (E : XK) (hr : Room 4 (A.deeper (envOfC "_law_near" (defScope st__law_near) s.heap.objs.size f cdv))) :
    PSs (cxOf (L2.CX P w) P w K mg base N__law_near "_law_near" (defScope st__law_near) f cdv A outer s H E) (defBody st__law_near) (tS T mg (fun cls d _ H => E cls d H) (g__law_near )) := by
  have nd := sc__law_near.nd
  have B : Bd (cxOf (L2.CX P w) P w K mg base N__law_near "_law_near" (defScope st__law_near) f cdv A outer s H E) (fun cls d _ H => E cls d H) 4 := ⟨takes_of rfl rfl rfl rfl, hr⟩
  exact (s_cons (s_set 6 nd (e_call B (C_near_square.mono (by decide)) m_near_square_len rfl (a_cons (e_var 0) (a_cons (e_var 1) (a_cons (e_var 2) a_nil))))) (s_cons (s_for (ws := [7]) (passes_of rfl) rfl (i_rg1 rfl Z.z_range (a_cons e_int a_nil)) (g_name 7 nd) (s_cons (s_if (t_cmp op_lt od_lt (e_call B (C_order.mono (by decide)) m_order_len rfl (a_cons (e_call B (C__law_gap.mono (by decide)) m__law_gap_len rfl (a_cons (e_call B (C__law_at.mono (by decide)) m__law_at_len rfl (a_cons (e_var 0) (a_cons (e_var 1) (a_cons (e_var 7) a_nil)))) (a_cons (e_tup (a_cons (e_tup (a_cons (e_ix (e_var 2) e_int) (a_cons e_int a_nil))) (a_cons (e_tup (a_cons (e_ix (e_var 2) e_int) (a_cons e_int a_nil))) a_nil))) a_nil))) (a_cons (e_var 6) a_nil))) e_int) (s_one (s_ret e_bl)) s_nil) (s_one (s_if (t_cmp op_lt od_lt (e_call B (C_order.mono (by decide)) m_order_len rfl (a_cons (e_call B (C__law_gap.mono (by decide)) m__law_gap_len rfl (a_cons (e_call B (C__law_at.mono (by decide)) m__law_at_len rfl (a_cons (e_var 0) (a_cons (e_var 1) (a_cons (e_var 7) a_nil)))) (a_cons (e_call B (C__law_at.mono (by decide)) m__law_at_len rfl (a_cons (e_var 2) (a_cons (e_var 3) (a_cons (e_op op_sub od_sub e_int (e_var 7)) a_nil)))) a_nil))) (a_cons (e_var 5) a_nil))) e_int) (s_one (s_ret e_bl)) s_nil)))) (s_cons (s_setLc 8 (own := [("x", 9)]) rfl nd (i_lst (e_lst (a_cons (e_var 0) (a_cons (e_var 1) a_nil)))) (blkOk_by (N := N__law_near) (sc := defScope st__law_near) (by decide +kernel)) (fun _ _ _ _ _ => (g_name 9 nd)) (fun _ _ _ _ _ => ts_nil) (fun _ _ _ _ _ => (e_call B.blk (C__law_gap.mono (by decide)) m__law_gap_len rfl (a_cons (e_tup (a_cons (e_tup (a_cons (e_ix (e_var 9) e_int) (a_cons e_int a_nil))) (a_cons (e_tup (a_cons (e_ix (e_var 9) e_int) (a_cons e_int a_nil))) a_nil))) (a_cons (e_tup (a_cons (e_tup (a_cons (e_ix (e_var 2) e_int) (a_cons e_int a_nil))) (a_cons (e_tup (a_cons (e_ix (e_var 2) e_int) (a_cons e_int a_nil))) a_nil))) a_nil))))) (s_cons (s_set 10 nd (e_op op_add od_add (e_op op_mul od_mul (e_op op_sub od_sub (e_ix (e_var 1) e_int) (e_ix (e_var 0) e_int)) (e_op op_sub od_sub (e_ix (e_var 1) e_int) (e_ix (e_var 0) e_int))) (e_op op_mul od_mul (e_op op_sub od_sub (e_ix (e_var 1) e_int) (e_ix (e_var 0) e_int)) (e_op op_sub od_sub (e_ix (e_var 1) e_int) (e_ix (e_var 0) e_int))))) (s_cons (s_if (L2.PW.pt (w_and (t_cmp (op_notInD B.hu5) od_notIn (e_var 6) (e_var 8)) (w_and1 (L2.PW.pt (w_or (t_cmp (op_eqD B.hu) od_eq (e_var 10) e_int) (w_or1 (t_cmp (op_neD B.hu) od_ne (e_var 6) (e_call B (C_made.mono (by decide)) m_made_len rfl (a_cons (e_op op_mul od_mul (e_var 4) (e_var 4)) (a_cons (e_var 10) a_nil)))))))))) (s_one (s_ret e_bl)) s_nil) (s_one (s_ret e_bl)))))))
def m__law_near : List D → Pu := aut 6 N__law_near (g__law_near )
theorem m__law_near_len : ∀ ds, m__law_near ds ≠ .no → ds.length = 6 := aut_len
/-! ### ceiling -/
abbrev st_ceiling : Stmt := topS 17
abbrev N_ceiling : List Str := ["a"]
theorem sc_ceiling : FnScope N_ceiling ["a"] (defScope st_ceiling) := ⟨rfl, rfl, rfl, by decide +kernel, rfl, by decide +kernel, by decide +kernel⟩
def g_ceiling  : Sx → RS := (fRet (fUn nNeg (fOp nDiv (fUn nNeg (fOp gIx (fVar 0) (fC (.int 0)))) (fOp gIx (fVar 0) (fC (.int 1))))))
theorem dv_ceiling {T : TPr} {P : Program} {w : World} {K : PySem.W.Frag} {mg : Str → Option Value} {base : Heap} (Z : Txt K mg)   {f : Addr} (cdv : Value) (A : Around) (outer : List Env) (s : Shared) (H : Hp) (E : XK) (hr : Room 0 (A.deeper (envOfC "ceiling" (defScope st_ceiling) s.heap.objs.size f cdv))) :
    PSs (cxOf (L2.CX P w) P w K mg base N_ceiling "ceiling" (defScope st_ceiling) f cdv A outer s H E) (defBody st_ceiling) (tS T mg (fun cls d _ H => E cls d H) (g_ceiling )) := by
  have nd := sc_ceiling.nd
  have B : Bd (cxOf (L2.CX P w) P w K mg base N_ceiling "ceiling" (defScope st_ceiling) f cdv A outer s H E) (fun cls d _ H => E cls d H) 0 := ⟨takes_of rfl rfl rfl rfl, hr⟩
  exact (s_one (s_ret (e_un un_neg ud_neg (e_op op_fdiv od_div (e_un un_neg ud_neg (e_ix (e_var 0) e_int)) (e_ix (e_var 0) e_int)))))
def m_ceiling : List D → Pu := aut 1 N_ceiling (g_ceiling )
theorem m_ceiling_len : ∀ ds, m_ceiling ds ≠ .no → ds.length = 1 := aut_len
/-! ### least -/
abbrev st_least : Stmt := topS 18
abbrev N_least : List Str := ["row", "found", "one"]
theorem sc_least : FnScope N_least ["row"] (defScope st_least) := ⟨rfl, rfl, rfl, by decide +kernel, rfl, by decide +kernel, by decide +kernel⟩
def g_least  : Sx → RS := (fSeq (fAsg (fOp gIx (fVar 0) (fC (.int 0))) (bName 1)) (fSeq (fFor (fIt asLst (fVar 0)) (bName 2) (fIfS (fTst (fOp nLt (fCall m_order (fCons (fVar 2) (fCons (fVar 1) fNil))) (fC (.int 0)))) (fAsg (fVar 2) (bName 1)) fSkip)) (fRet (fVar 1))))
theorem dv_least {T : TPr} {P : Program} {w : World} {K : PySem.W.Frag} {mg : Str → Option Value} {base : Heap} (Z : Txt K mg)  (C_order : Cal T P w K mg base 1 "order" 2 (lift m_order)) {f : Addr} (cdv : Value) (A : Around) (outer : List Env) (s : Shared) (H : Hp) (E : XK) (hr : Room 1 (A.deeper (envOfC "least" (defScope st_least) s.heap.objs.size f cdv))) :
    PSs (cxOf (L2.CX P w) P w K mg base N_least "least" (defScope st_least) f cdv A outer s H E) (defBody st_least) (tS T mg (fun cls d _ H => E cls d H) (g_least )) := by
  have nd := sc_least.nd
  have B : Bd (cxOf (L2.CX P w) P w K mg base N_least "least" (defScope st_least) f cdv A outer s H E) (fun cls d _ H => E cls d H) 1 := ⟨takes_of rfl rfl rfl rfl, hr⟩
  exact (s_cons (s_set 1 nd (e_ix (e_var 0) e_int)) (s_cons (s_for (ws := [2]) (passes_of rfl) rfl (i_lst (e_var 0)) (g_name 2 nd) (s_one (s_if (t_cmp op_lt od_lt (e_call B (C_order.mono (by decide)) m_order_len rfl (a_cons (e_var 2) (a_cons (e_var 1) a_nil))) e_int) (s_one (s_set 1 nd (e_var 2))) s_nil))) (s_one (s_ret (e_var 1)))))
def m_least : List D → Pu := aut 1 N_least (g_least )
theorem m_least_len : ∀ ds, m_least ds ≠ .no → ds.length = 1 := aut_len
/-! ### rising -/
abbrev st_rising : Stmt := topS 20
abbrev N_rising : List Str := ["row", "found", "one", "k"]
theorem sc_rising : FnScope N_rising ["row"] (defScope st_rising) := ⟨rfl, rfl, rfl, by decide +kernel, rfl, by decide +kernel, by decide +kernel⟩
def g_rising_1  : Sx → RS := (fOwn 1 (fNew fNil))
def g_rising_2_1  : Sx → RS := (fAsg (fC (.int 0)) (bName 3))
def g_rising_2_2_1  : Sx → RS := (fAug nAdd 3 (fC (.int 1)))
def g_rising_2_2 (n1 : Nat) : Sx → RS := (fWhile (fAnd (fTst (fOp nLt (fVar 3) (fCB gLen (fCons (fVar 1) fNil)))) (fTst (fOp nLt (fCall m_order (fCons (fOp gIx (fVar 1) (fVar 3)) (fCons (fVar 2) fNil))) (fC (.int 0))))) g_rising_2_2_1 n1)
def g_rising_2_3_1  : Sx → RS := (fDrop (fMt gInsert (fVar 1) (fCons (fVar 3) (fCons (fVar 2) fNil))))
def g_rising_2_3  : Sx → RS := (fIfS (fOr (fTst (fOp gEq (fVar 3) (fCB gLen (fCons (fVar 1) fNil)))) (fTst (fOp gNe (fOp gIx (fVar 1) (fVar 3)) (fVar 2)))) g_rising_2_3_1 fSkip)
def g_rising_2 (n1 : Nat) : Sx → RS := (fFor (fIt asLst (fVar 0)) (bName 2) (fSeq g_rising_2_1 (fSeq (g_rising_2_2 n1) g_rising_2_3)))
def g_rising (n1 : Nat) : Sx → RS := (fSeq g_rising_1 (fSeq (g_rising_2 n1) (fRet (fCB gTupOf (fCons (fVar 1) fNil)))))
theorem dv_rising {T : TPr} {P : Program} {w : World} {K : PySem.W.Frag} {mg : Str → Option Value} {base : Heap} (Z : Txt K mg) (n1 : Nat) (C_order : Cal T P w K mg base 1 "order" 2 (lift m_order)) {f : Addr} (cdv : Value) (A : Around) (outer : List Env) (s : Shared) (H : Hp) (E : XK) (hr : Room 1 (A.deeper (envOfC "rising" (defScope st_rising) s.heap.objs.size f cdv))) :
    PSs (cxOf (L2.CX P w) P w K mg base N_rising "rising" (defScope st_rising) f cdv A outer s H E) (defBody st_rising) (tS T mg (fun cls d _ H => E cls d H) (g_rising n1)) := by
  have nd := sc_rising.nd
  have B : Bd (cxOf (L2.CX P w) P w K mg base N_rising "rising" (defScope st_rising) f cdv A outer s H E) (fun cls d _ H => E cls d H) 1 := ⟨takes_of rfl rfl rfl rfl, hr⟩
  exact (s_cons (s_own 1 nd (f_lst a_nil)) (s_cons (s_for (ws := [2]) (passes_of rfl) rfl (i_lst (e_var 0)) (g_name 2 nd) (s_cons (s_set 3 nd e_int) (s_cons (s_while n1 (passes_of rfl) (L2.PW.pt (w_and (t_cmp op_lt od_lt (e_var 3) (e_cb call_len_seq cd_len rfl Z.z_len boot_len (a_cons (e_var 1) a_nil))) (w_and1 (t_cmp op_lt od_lt (e_call B (C_order.mono (by decide)) m_order_len rfl (a_cons (e_ix (e_var 1) (e_var 3)) (a_cons (e_var 2) a_nil))) e_int)))) (s_one (s_aug 3 nd e_int ip_add od_ipadd))) (s_one (s_if (L2.PW.pt (w_or (t_cmp (op_eqD B.hu) od_eq (e_var 3) (e_cb call_len_seq cd_len rfl Z.z_len boot_len (a_cons (e_var 1) a_nil))) (w_or1 (t_cmp (op_neD B.hu) od_ne (e_ix (e_var 1) (e_var 3)) (e_var 2))))) (s_one (s_expr (e_mt PySem.F.slot_list_insert PySem.F.type_list_insert mt_insert md_insert (e_var 1) (a_cons (e_var 3) (a_cons (e_var 2) a_nil))))) s_nil))))) (s_one (s_ret (e_ct call_tuple_of cd_tupOf rfl Z.z_tuple boot_tuple (a_cons (e_var 1) a_nil))))))
def m_rising : List D → Pu := autF 1 N_rising (fun n => g_rising n)
theorem m_rising_len : ∀ ds, m_rising ds ≠ .no → ds.length = 1 := autF_len
/-! ### sign -/
abbrev st_sign : Stmt := topS 15
abbrev N_sign : List Str := ["a"]
theorem sc_sign : FnScope N_sign ["a"] (defScope st_sign) := ⟨rfl, rfl, rfl, by decide +kernel, rfl, by decide +kernel, by decide +kernel⟩
def g_sign  : Sx → RS := (fRet (fOp nSubB (fOp nGt (fOp gIx (fVar 0) (fC (.int 0))) (fC (.int 0))) (fOp nLt (fOp gIx (fVar 0) (fC (.int 0))) (fC (.int 0)))))
theorem dv_sign {T : TPr} {P : Program} {w : World} {K : PySem.W.Frag} {mg : Str → Option Value} {base : Heap} (Z : Txt K mg)   {f : Addr} (cdv : Value) (A : Around) (outer : List Env) (s : Shared) (H : Hp) (E : XK) (hr : Room 0 (A.deeper (envOfC "sign" (defScope st_sign) s.heap.objs.size f cdv))) :
    PSs (cxOf (L2.CX P w) P w K mg base N_sign "sign" (defScope st_sign) f cdv A outer s H E) (defBody st_sign) (tS T mg (fun cls d _ H => E cls d H) (g_sign )) := by
  have nd := sc_sign.nd
  have B : Bd (cxOf (L2.CX P w) P w K mg base N_sign "sign" (defScope st_sign) f cdv A outer s H E) (fun cls d _ H => E cls d H) 0 := ⟨takes_of rfl rfl rfl rfl, hr⟩
  exact (s_one (s_ret (e_op op_subB od_subB (e_cmp op_gt od_gt (e_ix (e_var 0) e_int) e_int) (e_cmp op_lt od_lt (e_ix (e_var 0) e_int) e_int))))
def m_sign : List D → Pu := aut 1 N_sign (g_sign )
theorem m_sign_len : ∀ ds, m_sign ds ≠ .no → ds.length = 1 := aut_len
/-! ### floor -/
abbrev st_floor : Stmt := topS 16
abbrev N_floor : List Str := ["a"]
theorem sc_floor : FnScope N_floor ["a"] (defScope st_floor) := ⟨rfl, rfl, rfl, by decide +kernel, rfl, by decide +kernel, by decide +kernel⟩
def g_floor  : Sx → RS := (fRet (fOp nDiv (fOp gIx (fVar 0) (fC (.int 0))) (fOp gIx (fVar 0) (fC (.int 1)))))
theorem dv_floor {T : TPr} {P : Program} {w : World} {K : PySem.W.Frag} {mg : Str → Option Value} {base : Heap} (Z : Txt K mg)   {f : Addr} (cdv : Value) (A : Around) (outer : List Env) (s : Shared) (H : Hp) (E : XK) (hr : Room 0 (A.deeper (envOfC "floor" (defScope st_floor) s.heap.objs.size f cdv))) :
    PSs (cxOf (L2.CX P w) P w K mg base N_floor "floor" (defScope st_floor) f cdv A outer s H E) (defBody st_floor) (tS T mg (fun cls d _ H => E cls d H) (g_floor )) := by
  have nd := sc_floor.nd
  have B : Bd (cxOf (L2.CX P w) P w K mg base N_floor "floor" (defScope st_floor) f cdv A outer s H E) (fun cls d _ H => E cls d H) 0 := ⟨takes_of rfl rfl rfl rfl, hr⟩
  exact (s_one (s_ret (e_op op_fdiv od_div (e_ix (e_var 0) e_int) (e_ix (e_var 0) e_int))))
def m_floor : List D → Pu := aut 1 N_floor (g_floor )
theorem m_floor_len : ∀ ds, m_floor ds ≠ .no → ds.length = 1 := aut_len
/-! ### greatest -/
abbrev st_greatest : Stmt := topS 19
abbrev N_greatest : List Str := ["row", "found", "one"]
theorem sc_greatest : FnScope N_greatest ["row"] (defScope st_greatest) := ⟨rfl, rfl, rfl, by decide +kernel, rfl, by decide +kernel, by decide +kernel⟩
def g_greatest  : Sx → RS := (fSeq (fAsg (fOp gIx (fVar 0) (fC (.int 0))) (bName 1)) (fSeq (fFor (fIt asLst (fVar 0)) (bName 2) (fIfS (fTst (fOp nGt (fCall m_order (fCons (fVar 2) (fCons (fVar 1) fNil))) (fC (.int 0)))) (fAsg (fVar 2) (bName 1)) fSkip)) (fRet (fVar 1))))
theorem dv_greatest {T : TPr} {P : Program} {w : World} {K : PySem.W.Frag} {mg : Str → Option Value} {base : Heap} (Z : Txt K mg)  (C_order : Cal T P w K mg base 1 "order" 2 (lift m_order)) {f : Addr} (cdv : Value) (A : Around) (outer : List Env) (s : Shared) (H : Hp) (E : XK) (hr : Room 1 (A.deeper (envOfC "greatest" (defScope st_greatest) s.heap.objs.size f cdv))) :
    PSs (cxOf (L2.CX P w) P w K mg base N_greatest "greatest" (defScope st_greatest) f cdv A outer s H E) (defBody st_greatest) (tS T mg (fun cls d _ H => E cls d H) (g_greatest )) := by
  have nd := sc_greatest.nd
  have B : Bd (cxOf (L2.CX P w) P w K mg base N_greatest "greatest" (defScope st_greatest) f cdv A outer s H E) (fun cls d _ H => E cls d H) 1 := ⟨takes_of rfl rfl rfl rfl, hr⟩
  exact (s_cons (s_set 1 nd (e_ix (e_var 0) e_int)) (s_cons (s_for (ws := [2]) (passes_of rfl) rfl (i_lst (e_var 0)) (g_name 2 nd) (s_one (s_if (t_cmp op_gt od_gt (e_call B (C_order.mono (by decide)) m_order_len rfl (a_cons (e_var 2) (a_cons (e_var 1) a_nil))) e_int) (s_one (s_set 1 nd (e_var 2))) s_nil))) (s_one (s_ret (e_var 1)))))
def m_greatest : List D → Pu := aut 1 N_greatest (g_greatest )
theorem m_greatest_len : ∀ ds, m_greatest ds ≠ .no → ds.length = 1 := aut_len
/-! ### over -/
abbrev st_over : Stmt := topS 13
abbrev N_over : List Str := ["a", "b"]
theorem sc_over : FnScope N_over ["a", "b"] (defScope st_over) := ⟨rfl, rfl, rfl, by decide +kernel, rfl, by decide +kernel, by decide +kernel⟩
def g_over  : Sx → RS := (fRet (fCall m_made (fCons (fOp nMul (fOp gIx (fVar 0) (fC (.int 0))) (fOp gIx (fVar 1) (fC (.int 1)))) (fCons (fOp nMul (fOp gIx (fVar 0) (fC (.int 1))) (fOp gIx (fVar 1) (fC (.int 0)))) fNil))))
theorem dv_over {T : TPr} {P : Program} {w : World} {K : PySem.W.Frag} {mg : Str → Option Value} {base : Heap} (Z : Txt K mg)  (C_made : Cal T P w K mg base 2 "made" 2 (lift m_made)) {f : Addr} (cdv : Value) (A : Around) (outer : List Env) (s : Shared) (H : Hp) (E : XK) (hr : Room 2 (A.deeper (envOfC "over" (defScope st_over) s.heap.objs.size f cdv))) :
    PSs (cxOf (L2.CX P w) P w K mg base N_over "over" (defScope st_over) f cdv A outer s H E) (defBody st_over) (tS T mg (fun cls d _ H => E cls d H) (g_over )) := by
  have nd := sc_over.nd
  have B : Bd (cxOf (L2.CX P w) P w K mg base N_over "over" (defScope st_over) f cdv A outer s H E) (fun cls d _ H => E cls d H) 2 := ⟨takes_of rfl rfl rfl rfl, hr⟩
  exact (s_one (s_ret (e_call B (C_made.mono (by decide)) m_made_len rfl (a_cons (e_op op_mul od_mul (e_ix (e_var 0) e_int) (e_ix (e_var 1) e_int)) (a_cons (e_op op_mul od_mul (e_ix (e_var 0) e_int) (e_ix (e_var 1) e_int)) a_nil)))))
def m_over : List D → Pu := aut 2 N_over (g_over )
theorem m_over_len : ∀ ds, m_over ds ≠ .no → ds.length = 2 := aut_len
/-! ### _law_parts -/
abbrev st__law_parts : Stmt := topS 45
abbrev N__law_parts : List Str := ["dice", "x", "y"]
theorem sc__law_parts : FnScope N__law_parts ["dice"] (defScope st__law_parts) := ⟨rfl, rfl, rfl, by decide +kernel, rfl, by decide +kernel, by decide +kernel⟩
def g__law_parts_1  : Sx → RS := (fPar 1 2 (fCons (fCall m_made (fCons (fOp nSub (fCallM m__law_roll (fCons (fVar 0) (fCons (fC (.int 21)) fNil))) (fC (.int 10))) (fCons (fOp nAdd (fC (.int 1)) (fCallM m__law_roll (fCons (fVar 0) (fCons (fC (.int 6)) fNil)))) fNil))) (fCons (fCall m_made (fCons (fOp nSub (fCallM m__law_roll (fCons (fVar 0) (fCons (fC (.int 21)) fNil))) (fC (.int 10))) (fCons (fOp nAdd (fC (.int 1)) (fCallM m__law_roll (fCons (fVar 0) (fCons (fC (.int 6)) fNil)))) fNil))) fNil)))
def g__law_parts_2  : Sx → RS := (fIfS (fOr (fTst (fOp nGt (fOp nMul (fCall m_floor (fCons (fVar 1) fNil)) (fOp gIx (fVar 1) (fC (.int 1)))) (fOp gIx (fVar 1) (fC (.int 0))))) (fOr (fTst (fOp gNe (fCall m_ceiling (fCons (fVar 1) fNil)) (fOp nSub (fC (.int 0)) (fCall m_floor (fCons (fTup (fCons (fOp nSub (fC (.int 0)) (fOp gIx (fVar 1) (fC (.int 0)))) (fCons (fOp gIx (fVar 1) (fC (.int 1))) fNil))) fNil))))) (fTst (fOp gNotIn (fCall m_least (fCons (fLst (fCons (fVar 1) (fCons (fVar 2) fNil))) fNil)) (fLst (fCons (fVar 1) (fCons (fVar 2) fNil))))))) (fRet (fC (.bl false))) fSkip)
def g__law_parts_3  : Sx → RS := (fIfS (fOr (fTst (fOp nGt (fCall m_order (fCons (fCall m_least (fCons (fLst (fCons (fVar 1) (fCons (fVar 2) fNil))) fNil)) (fCons (fCall m_greatest (fCons (fLst (fCons (fVar 1) (fCons (fVar 2) fNil))) fNil)) fNil))) (fC (.int 0)))) (fTst (fOp gNe (fCall m_rising (fCons (fLst (fCons (fVar 2) (fCons (fVar 1) (fCons (fVar 2) fNil)))) fNil)) (fCall m_rising (fCons (fLst (fCons (fVar 1) (fCons (fVar 2) fNil))) fNil))))) (fRet (fC (.bl false))) fSkip)
def g__law_parts_4  : Sx → RS := (fIfS (fOr (fAnd (fTst (fOp gNe (fOp gIx (fVar 2) (fC (.int 0))) (fC (.int 0)))) (fTst (fOp gNe (fCall m_times (fCons (fCall m_over (fCons (fVar 1) (fCons (fVar 2) fNil))) (fCons (fVar 2) fNil))) (fVar 1)))) (fOr (fTst (fOp gNe (fCall m_sign (fCons (fCall m_less_parts (fCons (fVar 1) (fCons (fVar 2) fNil))) fNil)) (fCall m_order (fCons (fVar 1) (fCons (fVar 2) fNil))))) (fTst (fOp gNe (fCall m_add (fCons (fCall m_less_parts (fCons (fVar 1) (fCons (fVar 2) fNil))) (fCons (fVar 2) fNil))) (fVar 1))))) (fRet (fC (.bl false))) fSkip)
def g__law_parts  : Sx → RS := (fSeq g__law_parts_1 (fSeq g__law_parts_2 (fSeq g__law_parts_3 (fSeq g__law_parts_4 (fRet (fC (.bl true)))))))
theorem dv__law_parts {T : TPr} {P : Program} {w : World} {K : PySem.W.Frag} {mg : Str → Option Value} {base : Heap} (Z : Txt K mg)  (C_made : Cal T P w K mg base 2 "made" 2 (lift m_made)) (C_order : Cal T P w K mg base 1 "order" 2 (lift m_order)) (C__law_roll : Cal T P w K mg base 1 "_law_roll" 2 m__law_roll) (C_add : Cal T P w K mg base 3 "add" 2 (lift m_add)) (C_less_parts : Cal T P w K mg base 3 "less_parts" 2 (lift m_less_parts)) (C_times : Cal T P w K mg base 3 "times" 2 (lift m_times)) (C_ceiling : Cal T P w K mg base 1 "ceiling" 1 (lift m_ceiling)) (C_least : Cal T P w K mg base 2 "least" 1 (lift m_least)) (C_rising : Cal T P w K mg base 2 "rising" 1 (lift m_rising)) (C_sign : Cal T P w K mg base 1 "sign" 1 (lift m_sign)) (C_floor : Cal T P w K mg base 1 "floor" 1 (lift m_floor)) (C_greatest : Cal T P w K mg base 2 "greatest" 1 (lift m_greatest)) (C_over : Cal T P w K mg base 3 "over" 2 (lift m_over)) {f : Addr} (cdv : Value) (A : Around) (outer : List Env) (s : Shared) (H : Hp) (E : XK) (hr : Room 3 (A.deeper (envOfC "_law_parts" (defScope st__law_parts) s.heap.objs.size f cdv))) :
    PSs (cxOf (L2.CX P w) P w K mg base N__law_parts "_law_parts" (defScope st__law_parts) f cdv A outer s H E) (defBody st__law_parts) (tS T mg (fun cls d _ H => E cls d H) (g__law_parts )) := by
  have nd := sc__law_parts.nd
  have B : Bd (cxOf (L2.CX P w) P w K mg base N__law_parts "_law_parts" (defScope st__law_parts) f cdv A outer s H E) (fun cls d _ H => E cls d H) 3 := ⟨takes_of rfl rfl rfl rfl, hr⟩
  exact (s_cons (s_par 1 2 rfl nd (a_cons (e_call B (C_made.mono (by decide)) m_made_len rfl (a_cons (e_op op_sub od_sub (e_callM B (C__law_roll.mono (by decide)) m__law_roll_len rfl (a_cons (e_var 0) (a_cons e_int a_nil))) e_int) (a_cons (e_op op_add od_add e_int (e_callM B (C__law_roll.mono (by decide)) m__law_roll_len rfl (a_cons (e_var 0) (a_cons e_int a_nil)))) a_nil))) (a_cons (e_call B (C_made.mono (by decide)) m_made_len rfl (a_cons (e_op op_sub od_sub (e_callM B (C__law_roll.mono (by decide)) m__law_roll_len rfl (a_cons (e_var 0) (a_cons e_int a_nil))) e_int) (a_cons (e_op op_add od_add e_int (e_callM B (C__law_roll.mono (by decide)) m__law_roll_len rfl (a_cons (e_var 0) (a_cons e_int a_nil)))) a_nil))) a_nil))) (s_cons (s_if (L2.PW.pt (w_or (t_cmp op_gt od_gt (e_op op_mul od_mul (e_call B (C_floor.mono (by decide)) m_floor_len rfl (a_cons (e_var 1) a_nil)) (e_ix (e_var 1) e_int)) (e_ix (e_var 1) e_int)) (w_or (t_cmp (op_neD B.hu) od_ne (e_call B (C_ceiling.mono (by decide)) m_ceiling_len rfl (a_cons (e_var 1) a_nil)) (e_op op_sub od_sub e_int (e_call B (C_floor.mono (by decide)) m_floor_len rfl (a_cons (e_tup (a_cons (e_op op_sub od_sub e_int (e_ix (e_var 1) e_int)) (a_cons (e_ix (e_var 1) e_int) a_nil))) a_nil)))) (w_or1 (t_cmp (op_notInD B.hu5) od_notIn (e_call B (C_least.mono (by decide)) m_least_len rfl (a_cons (e_lst (a_cons (e_var 1) (a_cons (e_var 2) a_nil))) a_nil)) (e_lst (a_cons (e_var 1) (a_cons (e_var 2) a_nil)))))))) (s_one (s_ret e_bl)) s_nil) (s_cons (s_if (L2.PW.pt (w_or (t_cmp op_gt od_gt (e_call B (C_order.mono (by decide)) m_order_len rfl (a_cons (e_call B (C_least.mono (by decide)) m_least_len rfl (a_cons (e_lst (a_cons (e_var 1) (a_cons (e_var 2) a_nil))) a_nil)) (a_cons (e_call B (C_greatest.mono (by decide)) m_greatest_len rfl (a_cons (e_lst (a_cons (e_var 1) (a_cons (e_var 2) a_nil))) a_nil)) a_nil))) e_int) (w_or1 (t_cmp (op_neD B.hu) od_ne (e_call B (C_rising.mono (by decide)) m_rising_len rfl (a_cons (e_lst (a_cons (e_var 2) (a_cons (e_var 1) (a_cons (e_var 2) a_nil)))) a_nil)) (e_call B (C_rising.mono (by decide)) m_rising_len rfl (a_cons (e_lst (a_cons (e_var 1) (a_cons (e_var 2) a_nil))) a_nil)))))) (s_one (s_ret e_bl)) s_nil) (s_cons (s_if (L2.PW.pt (w_or (L2.PW.pt (w_and (t_cmp (op_neD B.hu) od_ne (e_ix (e_var 2) e_int) e_int) (w_and1 (t_cmp (op_neD B.hu) od_ne (e_call B (C_times.mono (by decide)) m_times_len rfl (a_cons (e_call B (C_over.mono (by decide)) m_over_len rfl (a_cons (e_var 1) (a_cons (e_var 2) a_nil))) (a_cons (e_var 2) a_nil))) (e_var 1))))) (w_or (t_cmp (op_neD B.hu) od_ne (e_call B (C_sign.mono (by decide)) m_sign_len rfl (a_cons (e_call B (C_less_parts.mono (by decide)) m_less_parts_len rfl (a_cons (e_var 1) (a_cons (e_var 2) a_nil))) a_nil)) (e_call B (C_order.mono (by decide)) m_order_len rfl (a_cons (e_var 1) (a_cons (e_var 2) a_nil)))) (w_or1 (t_cmp (op_neD B.hu) od_ne (e_call B (C_add.mono (by decide)) m_add_len rfl (a_cons (e_call B (C_less_parts.mono (by decide)) m_less_parts_len rfl (a_cons (e_var 1) (a_cons (e_var 2) a_nil))) (a_cons (e_var 2) a_nil))) (e_var 1)))))) (s_one (s_ret e_bl)) s_nil) (s_one (s_ret e_bl))))))
def m__law_parts : List D → Cells → R D := autM 1 N__law_parts (g__law_parts )
theorem m__law_parts_len : ∀ ds M, m__law_parts ds M ≠ .no → ds.length = 1 := autM_len
/-! ### do_cross -/
abbrev st_do_cross : Stmt := topS 31
abbrev N_do_cross : List Str := ["a", "b", "c", "d"]
theorem sc_do_cross : FnScope N_do_cross ["a", "b", "c", "d"] (defScope st_do_cross) := ⟨rfl, rfl, rfl, by decide +kernel, rfl, by decide +kernel, by decide +kernel⟩
def g_do_cross  : Sx → RS := (fRet (fAndV (fOp nLt (fOp nMul (fCall m_side (fCons (fVar 0) (fCons (fVar 1) (fCons (fVar 2) fNil)))) (fCall m_side (fCons (fVar 0) (fCons (fVar 1) (fCons (fVar 3) fNil))))) (fC (.int 0))) (fOp nLt (fOp nMul (fCall m_side (fCons (fVar 2) (fCons (fVar 3) (fCons (fVar 0) fNil)))) (fCall m_side (fCons (fVar 2) (fCons (fVar 3) (fCons (fVar 1) fNil))))) (fC (.int 0)))))
theorem dv_do_cross {T : TPr} {P : Program} {w : World} {K : PySem.W.Frag} {mg : Str → Option Value} {base : Heap} (Z : Txt K mg)  (C_side : Cal T P w K mg base 3 "side" 3 (lift m_side)) {f : Addr} (cdv : Value) (A : Around) (outer : List Env) (s : Shared) (H : Hp) (E : XK) (hr : Room 3 (A.deeper (envOfC "do_cross" (defScope st_do_cross) s.heap.objs.size f cdv))) :
    PSs (cxOf (L2.CX P w) P w K mg base N_do_cross "do_cross" (defScope st_do_cross) f cdv A outer s H E) (defBody st_do_cross) (tS T mg (fun cls d _ H => E cls d H) (g_do_cross )) := by
  have nd := sc_do_cross.nd
  have B : Bd (cxOf (L2.CX P w) P w K mg base N_do_cross "do_cross" (defScope st_do_cross) f cdv A outer s H E) (fun cls d _ H => E cls d H) 3 := ⟨takes_of rfl rfl rfl rfl, hr⟩
  exact (s_one (s_ret (e_and (e_cmp op_lt od_lt (e_op op_mul od_mul (e_call B (C_side.mono (by decide)) m_side_len rfl (a_cons (e_var 0) (a_cons (e_var 1) (a_cons (e_var 2) a_nil)))) (e_call B (C_side.mono (by decide)) m_side_len rfl (a_cons (e_var 0) (a_cons (e_var 1) (a_cons (e_var 3) a_nil))))) e_int) (e_one (e_cmp op_lt od_lt (e_op op_mul od_mul (e_call B (C_side.mono (by decide)) m_side_len rfl (a_cons (e_var 2) (a_cons (e_var 3) (a_cons (e_var 0) a_nil)))) (e_call B (C_side.mono (by decide)) m_side_len rfl (a_cons (e_var 2) (a_cons (e_var 3) (a_cons (e_var 1) a_nil))))) e_int)))))
def m_do_cross : List D → Pu := aut 4 N_do_cross (g_do_cross )
theorem m_do_cross_len : ∀ ds, m_do_cross ds ≠ .no → ds.length = 4 := aut_len
/-! ### crossing -/
abbrev st_crossing : Stmt := topS 32
abbrev N_crossing : List Str := ["a", "b", "c", "d", "u", "v", "low", "top"]
theorem sc_crossing : FnScope N_crossing ["a", "b", "c", "d"] (defScope st_crossing) := ⟨rfl, rfl, rfl, by decide +kernel, rfl, by decide +kernel, by decide +kernel⟩
def g_crossing  : Sx → RS := (fSeq (fPar 4 5 (fCons (fCall m_less_points (fCons (fVar 1) (fCons (fVar 0) fNil))) (fCons (fCall m_less_points (fCons (fVar 3) (fCons (fVar 2) fNil))) fNil))) (fSeq (fAsg (fCall m_cross (fCons (fVar 4) (fCons (fVar 5) fNil))) (bName 6)) (fSeq (fIfS (fTst (fOp gEq (fVar 6) (fC (.int 0)))) (fRaise "NoWay") fSkip) (fSeq (fAsg (fCall m_cross (fCons (fCall m_less_points (fCons (fVar 2) (fCons (fVar 0) fNil))) (fCons (fVar 5) fNil))) (bName 7)) (fRet (fTup (fCons (fCall m_made (fCons (fOp nAdd (fOp nMul (fOp gIx (fVar 0) (fC (.int 0))) (fVar 6)) (fOp nMul (fVar 7) (fOp gIx (fVar 4) (fC (.int 0))))) (fCons (fVar 6) fNil))) (fCons (fCall m_made (fCons (fOp nAdd (fOp nMul (fOp gIx (fVar 0) (fC (.int 1))) (fVar 6)) (fOp nMul (fVar 7) (fOp gIx (fVar 4) (fC (.int 1))))) (fCons (fVar 6) fNil))) fNil))))))))
theorem dv_crossing {T : TPr} {P : Program} {w : World} {K : PySem.W.Frag} {mg : Str → Option Value} {base : Heap} (Z : Txt K mg)  (C_cross : Cal T P w K mg base 1 "cross" 2 (lift m_cross)) (C_less_points : Cal T P w K mg base 1 "less_points" 2 (lift m_less_points)) (C_made : Cal T P w K mg base 2 "made" 2 (lift m_made)) {f : Addr} (cdv : Value) (A : Around) (outer : List Env) (s : Shared) (H : Hp) (E : XK) (hr : Room 2 (A.deeper (envOfC "crossing" (defScope st_crossing) s.heap.objs.size f cdv))) :
    PSs (cxOf (L2.CX P w) P w K mg base N_crossing "crossing" (defScope st_crossing) f cdv A outer s H E) (defBody st_crossing) (tS T mg (fun cls d _ H => E cls d H) (g_crossing )) := by
  have nd := sc_crossing.nd
  have B : Bd (cxOf (L2.CX P w) P w K mg base N_crossing "crossing" (defScope st_crossing) f cdv A outer s H E) (fun cls d _ H => E cls d H) 2 := ⟨takes_of rfl rfl rfl rfl, hr⟩
  exact (s_cons (s_par 4 5 rfl nd (a_cons (e_call B (C_less_points.mono (by decide)) m_less_points_len rfl (a_cons (e_var 1) (a_cons (e_var 0) a_nil))) (a_cons (e_call B (C_less_points.mono (by decide)) m_less_points_len rfl (a_cons (e_var 3) (a_cons (e_var 2) a_nil))) a_nil))) (s_cons (s_set 6 nd (e_call B (C_cross.mono (by decide)) m_cross_len rfl (a_cons (e_var 4) (a_cons (e_var 5) a_nil)))) (s_cons (s_if (t_cmp (op_eqD B.hu) od_eq (e_var 6) e_int) (s_one (s_raiseE B Z.x_NoWay rfl)) s_nil) (s_cons (s_set 7 nd (e_call B (C_cross.mono (by decide)) m_cross_len rfl (a_cons (e_call B (C_less_points.mono (by decide)) m_less_points_len rfl (a_cons (e_var 2) (a_cons (e_var 0) a_nil))) (a_cons (e_var 5) a_nil)))) (s_one (s_ret (e_tup (a_cons (e_call B (C_made.mono (by decide)) m_made_len rfl (a_cons (e_op op_add od_add (e_op op_mul od_mul (e_ix (e_var 0) e_int) (e_var 6)) (e_op op_mul od_mul (e_var 7) (e_ix (e_var 4) e_int))) (a_cons (e_var 6) a_nil))) (a_cons (e_call B (C_made.mono (by decide)) m_made_len rfl (a_cons (e_op op_add od_add (e_op op_mul od_mul (e_ix (e_var 0) e_int) (e_var 6)) (e_op op_mul od_mul (e_var 7) (e_ix (e_var 4) e_int))) (a_cons (e_var 6) a_nil))) a_nil)))))))))
def m_crossing : List D → Pu := aut 4 N_crossing (g_crossing )
theorem m_crossing_len : ∀ ds, m_crossing ds ≠ .no → ds.length = 4 := aut_len
/-! ### law -/
abbrev st_law : Stmt := topS 46
abbrev N_law : List Str := ["script", "dice", "a", "b", "c", "d", "k", "p", "q", "r", "s", "inside", "on", "x", "y", "z", "t", "spot", "low", "far"]
theorem sc_law : FnScope N_law ["script"] (defScope st_law) := ⟨rfl, rfl, rfl, by decide +kernel, rfl, by decide +kernel, by decide +kernel⟩
def g_law_1_1  : Sx → RS := (fAsg (fFz (fLc (fIts asRg1 (fCons (fC (.int 4)) fNil)) (bName 6) fTrue (fCallM m__law_point (fCons (fVar 1) (fCons (fC (.int 5)) fNil))) [6])) (bLst 4 (bCons (bName 2) (bCons (bName 3) (bCons (bName 4) (bCons (bName 5) bNil))))))
def g_law_1_2  : Sx → RS := (fAsg (fTup (fCons (fCall m__law_turn (fCons (fVar 2) (fCons (fVar 3) (fCons (fVar 4) fNil)))) (fCons (fCall m__law_turn (fCons (fVar 2) (fCons (fVar 3) (fCons (fVar 5) fNil)))) (fCons (fCall m__law_turn (fCons (fVar 4) (fCons (fVar 5) (fCons (fVar 2) fNil)))) (fCons (fCall m__law_turn (fCons (fVar 4) (fCons (fVar 5) (fCons (fVar 3) fNil)))) fNil))))) (bTup 4 (bCons (bName 7) (bCons (bName 8) (bCons (bName 9) (bCons (bName 10) bNil))))))
def g_law_1_3  : Sx → RS := (fAsg (fAndV (fOp nLt (fOp nMul (fVar 7) (fVar 8)) (fC (.int 0))) (fOp nLt (fOp nMul (fVar 9) (fVar 10)) (fC (.int 0)))) (bName 11))
def g_law_1_4  : Sx → RS := (fAsg (fFz (fLc (fIt asLst (fLst (fCons (fTup (fCons (fVar 2) (fCons (fVar 3) (fCons (fVar 4) (fCons (fVar 7) fNil))))) (fCons (fTup (fCons (fVar 2) (fCons (fVar 3) (fCons (fVar 5) (fCons (fVar 8) fNil))))) (fCons (fTup (fCons (fVar 4) (fCons (fVar 5) (fCons (fVar 2) (fCons (fVar 9) fNil))))) (fCons (fTup (fCons (fVar 4) (fCons (fVar 5) (fCons (fVar 3) (fCons (fVar 10) fNil))))) fNil)))))) (bTup 4 (bCons (bName 13) (bCons (bName 14) (bCons (bName 15) (bCons (bName 16) bNil))))) (fAnd (fTst (fOp gEq (fVar 16) (fC (.int 0)))) (fAnd (fTst (fChain nLe nLe (fCB gMin2 (fCons (fOp gIx (fVar 13) (fC (.int 0))) (fCons (fOp gIx (fVar 14) (fC (.int 0))) fNil))) (fOp gIx (fVar 15) (fC (.int 0))) (fCB gMax2 (fCons (fOp gIx (fVar 13) (fC (.int 0))) (fCons (fOp gIx (fVar 14) (fC (.int 0))) fNil))))) (fTst (fChain nLe nLe (fCB gMin2 (fCons (fOp gIx (fVar 13) (fC (.int 1))) (fCons (fOp gIx (fVar 14) (fC (.int 1))) fNil))) (fOp gIx (fVar 15) (fC (.int 1))) (fCB gMax2 (fCons (fOp gIx (fVar 13) (fC (.int 1))) (fCons (fOp gIx (fVar 14) (fC (.int 1))) fNil))))))) (fC (.int 1)) [13, 14, 15, 16])) (bName 12))
def g_law_1_5  : Sx → RS := (fIfS (fOr (fTst (fOp gNe (fCall m_do_cross (fCons (fVar 2) (fCons (fVar 3) (fCons (fVar 4) (fCons (fVar 5) fNil))))) (fVar 11))) (fTst (fOp gNe (fCall m_do_meet (fCons (fVar 2) (fCons (fVar 3) (fCons (fVar 4) (fCons (fVar 5) fNil))))) (fOrV (fVar 11) (fOp gNe (fVar 12) (fLst fNil)))))) (fRet (fC (.bl false))) fSkip)
def g_law_1_6  : Sx → RS := (fIfS (fTst (fOp gNe (fCall m_do_meet (fCons (fVar 4) (fCons (fVar 5) (fCons (fVar 3) (fCons (fVar 2) fNil))))) (fCall m_do_meet (fCons (fVar 2) (fCons (fVar 3) (fCons (fVar 4) (fCons (fVar 5) fNil))))))) (fRet (fC (.bl false))) fSkip)
def g_law_1_7  : Sx → RS := (fAsg (fTold hs__law_told (fCall m_crossing (fCons (fVar 2) (fCons (fVar 3) (fCons (fVar 4) (fCons (fVar 5) fNil)))))) (bName 17))
def g_law_1_8  : Sx → RS := (fAsg (fOp nSub (fOp nMul (fOp nSub (fOp gIx (fVar 3) (fC (.int 0))) (fOp gIx (fVar 2) (fC (.int 0)))) (fOp nSub (fOp gIx (fVar 5) (fC (.int 1))) (fOp gIx (fVar 4) (fC (.int 1))))) (fOp nMul (fOp nSub (fOp gIx (fVar 3) (fC (.int 1))) (fOp gIx (fVar 2) (fC (.int 1)))) (fOp nSub (fOp gIx (fVar 5) (fC (.int 0))) (fOp gIx (fVar 4) (fC (.int 0)))))) (bName 18))
def g_law_1_9  : Sx → RS := (fIfS (fTst (fOp gNe (fOp gEq (fVar 17) (fC (.str "no way"))) (fOp gEq (fVar 18) (fC (.int 0))))) (fRet (fC (.bl false))) fSkip)
def g_law_1_10_1_1  : Sx → RS := (fIfS (fTst (fOp gNe (fCall m_less_parts (fCons (fCall m_times (fCons (fCall m_less_parts (fCons (fOp gIx (fVar 17) (fC (.int 0))) (fCons (fTup (fCons (fOp gIx (fVar 13) (fC (.int 0))) (fCons (fC (.int 1)) fNil))) fNil))) (fCons (fTup (fCons (fOp nSub (fOp gIx (fVar 14) (fC (.int 1))) (fOp gIx (fVar 13) (fC (.int 1)))) (fCons (fC (.int 1)) fNil))) fNil))) (fCons (fCall m_times (fCons (fCall m_less_parts (fCons (fOp gIx (fVar 17) (fC (.int 1))) (fCons (fTup (fCons (fOp gIx (fVar 13) (fC (.int 1))) (fCons (fC (.int 1)) fNil))) fNil))) (fCons (fTup (fCons (fOp nSub (fOp gIx (fVar 14) (fC (.int 0))) (fOp gIx (fVar 13) (fC (.int 0)))) (fCons (fC (.int 1)) fNil))) fNil))) fNil))) (fTup (fCons (fC (.int 0)) (fCons (fC (.int 1)) fNil))))) (fRet (fC (.bl false))) fSkip)
def g_law_1_10_1  : Sx → RS := (fFor (fIt asLst (fLst (fCons (fTup (fCons (fVar 2) (fCons (fVar 3) fNil))) (fCons (fTup (fCons (fVar 4) (fCons (fVar 5) fNil))) fNil)))) (bTup 2 (bCons (bName 13) (bCons (bName 14) bNil))) g_law_1_10_1_1)
def g_law_1_10  : Sx → RS := (fIfS (fTst (fOp gNe (fVar 17) (fC (.str "no way")))) g_law_1_10_1 fSkip)
def g_law_1_11  : Sx → RS := (fAsg (fCall m_ways_square (fCons (fVar 2) (fCons (fVar 3) (fCons (fVar 4) (fCons (fVar 5) fNil))))) (bName 19))
def g_law_1_12  : Sx → RS := (fIfS (fOr (fTst (fOp gNe (fOp gEq (fVar 19) (fTup (fCons (fC (.int 0)) (fCons (fC (.int 1)) fNil)))) (fCall m_do_meet (fCons (fVar 2) (fCons (fVar 3) (fCons (fVar 4) (fCons (fVar 5) fNil))))))) (fTst (fOp gNe (fVar 19) (fCall m_ways_square (fCons (fVar 5) (fCons (fVar 4) (fCons (fVar 2) (fCons (fVar 3) fNil)))))))) (fRet (fC (.bl false))) fSkip)
def g_law_1_13  : Sx → RS := (fIfS (fNot (fTst (fCall m__law_near (fCons (fVar 2) (fCons (fVar 3) (fCons (fVar 4) (fCons (fVar 5) (fCons (fVar 7) (fCons (fVar 19) fNil))))))))) (fRet (fC (.bl false))) fSkip)
def g_law_1_14  : Sx → RS := (fIfS (fNot (fTst (fCallM m__law_parts (fCons (fVar 1) fNil)))) (fRet (fC (.bl false))) fSkip)
def g_law_1_15  : Sx → RS := (fIfS (fTst (fOp gNe (fTold hs__law_told (fCall m_made (fCons (fC (.int 1)) (fCons (fC (.int 0)) fNil)))) (fC (.str "point")))) (fRet (fC (.bl false))) fSkip)
def g_law_1 (sk : Option (Addr × List Int)) : Sx → RS := (fFor (fIt asLst (fCallO (m__law_rounds sk) (fCons (fVar 0) (fCons (fC (.int 6)) fNil)))) (bName 1) (fSeq g_law_1_1 (fSeq g_law_1_2 (fSeq g_law_1_3 (fSeq g_law_1_4 (fSeq g_law_1_5 (fSeq g_law_1_6 (fSeq g_law_1_7 (fSeq g_law_1_8 (fSeq g_law_1_9 (fSeq g_law_1_10 (fSeq g_law_1_11 (fSeq g_law_1_12 (fSeq g_law_1_13 (fSeq g_law_1_14 g_law_1_15)))))))))))))))
def g_law (sk : Option (Addr × List Int)) : Sx → RS := (fSeq (g_law_1 sk) (fRet (fC (.bl true))))
theorem dv_law {f c Tb gt : Addr} {fdt : FuncData} {cl : Str → Addr} {P : Program} {w : World} {K : PySem.W.Frag} {mg : Str → Option Value} {base : Heap} (Z : Txt K mg) (sk : Option (Addr × List Int)) (C__law_rounds : CalO (tabT [(Tb, "law.<locals>.<lambda>")]) P w K mg base 2 "_law_rounds" 2 (m__law_rounds sk)) (C_do_meet : Cal (tabT [(Tb, "law.<locals>.<lambda>")]) P w K mg base 4 "do_meet" 4 (lift m_do_meet)) (C_made : Cal (tabT [(Tb, "law.<locals>.<lambda>")]) P w K mg base 2 "made" 2 (lift m_made)) (C_ways_square : Cal (tabT [(Tb, "law.<locals>.<lambda>")]) P w K mg base 5 "ways_square" 4 (lift m_ways_square)) (C__law_point : Cal (tabT [(Tb, "law.<locals>.<lambda>")]) P w K mg base 2 "_law_point" 2 m__law_point) (C__law_turn : Cal (tabT [(Tb, "law.<locals>.<lambda>")]) P w K mg base 1 "_law_turn" 3 (lift m__law_turn)) (C_less_parts : Cal (tabT [(Tb, "law.<locals>.<lambda>")]) P w K mg base 3 "less_parts" 2 (lift m_less_parts)) (C_times : Cal (tabT [(Tb, "law.<locals>.<lambda>")]) P w K mg base 3 "times" 2 (lift m_times)) (C__law_near : Cal (tabT [(Tb, "law.<locals>.<lambda>")]) P w K mg base 5 "_law_near" 6 (lift m__law_near)) (C__law_parts : Cal (tabT [(Tb, "law.<locals>.<lambda>")]) P w K mg base 4 "_law_parts" 1 m__law_parts) (C_do_cross : Cal (tabT [(Tb, "law.<locals>.<lambda>")]) P w K mg base 4 "do_cross" 4 (lift m_do_cross)) (C_crossing : Cal (tabT [(Tb, "law.<locals>.<lambda>")]) P w K mg base 3 "crossing" 4 (lift m_crossing)) (hk : KSt K sk) (TB : LamX.TabB base mg c Tb) (ZT : ToldF K mg hs__law_told cl) (FT : FunD K "_law_told" "_law_told" (defArgs st__law_told) (defBody st__law_told) (defScope st__law_told) [] [] gt fdt) (hmt : mg "_law_told" = some (.ref gt)) (bnt : Binds K fdt ["what"] []) (A0 : Around) (outer0 : List Env) (s0 : Shared) (H0 : Hp) (E0 : XK) (hr : Room 5 (A0.deeper (envOfC "law" (defScope st_law) s0.heap.objs.size f (.ref c)))) :
    PSs (cxOf (L2.CX P w) P w K mg base N_law "law" (defScope st_law) f (.ref c) A0 outer0 s0 H0 E0) (defBody st_law) (tS (tabT [(Tb, "law.<locals>.<lambda>")]) mg (fun cls d _ H => E0 cls d H) (g_law sk)) := by
  have nd := sc_law.nd
  have B : Bd (cxOf (L2.CX P w) P w K mg base N_law "law" (defScope st_law) f (.ref c) A0 outer0 s0 H0 E0) (fun cls d _ H => E0 cls d H) 5 := ⟨takes_of rfl rfl rfl rfl, hr⟩
  exact (s_cons (s_for (ws := [1]) (passes_of rfl) rfl (i_lst (e_callO B (C__law_rounds.mono (by decide)) (m__law_rounds_len sk) rfl (a_cons (e_var 0) (a_cons e_int a_nil)))) (g_name 1 nd) (s_cons (s_asg (ws := [2, 3, 4, 5]) (e_fz (f_lc (own := [("k", 6)]) rfl nd (i_rg1 rfl Z.z_range (a_cons e_int a_nil)) (blkOk_by (N := N_law) (sc := defScope st_law) (by decide +kernel)) (fun _ _ _ _ _ => (g_name 6 nd)) (fun _ _ _ _ _ => ts_nil) (fun _ _ _ _ _ => (e_callM B.blk (C__law_point.mono (by decide)) m__law_point_len rfl (a_cons (e_var 1) (a_cons e_int a_nil)))))) (g_lst rfl (gs_cons (g_name 2 nd) (gs_cons (g_name 3 nd) (gs_cons (g_name 4 nd) (gs_cons (g_name 5 nd) gs_nil)))))) (s_cons (s_asg (ws := [7, 8, 9, 10]) (e_tup (a_cons (e_call B (C__law_turn.mono (by decide)) m__law_turn_len rfl (a_cons (e_var 2) (a_cons (e_var 3) (a_cons (e_var 4) a_nil)))) (a_cons (e_call B (C__law_turn.mono (by decide)) m__law_turn_len rfl (a_cons (e_var 2) (a_cons (e_var 3) (a_cons (e_var 5) a_nil)))) (a_cons (e_call B (C__law_turn.mono (by decide)) m__law_turn_len rfl (a_cons (e_var 4) (a_cons (e_var 5) (a_cons (e_var 2) a_nil)))) (a_cons (e_call B (C__law_turn.mono (by decide)) m__law_turn_len rfl (a_cons (e_var 4) (a_cons (e_var 5) (a_cons (e_var 3) a_nil)))) a_nil))))) (g_tup rfl (gs_cons (g_name 7 nd) (gs_cons (g_name 8 nd) (gs_cons (g_name 9 nd) (gs_cons (g_name 10 nd) gs_nil)))))) (s_cons (s_set 11 nd (e_and (e_cmp op_lt od_lt (e_op op_mul od_mul (e_var 7) (e_var 8)) e_int) (e_one (e_cmp op_lt od_lt (e_op op_mul od_mul (e_var 9) (e_var 10)) e_int)))) (s_cons (s_setLc 12 (own := [("x", 13), ("y", 14), ("z", 15), ("t", 16)]) rfl nd (i_lst (e_lst (a_cons (e_tup (a_cons (e_var 2) (a_cons (e_var 3) (a_cons (e_var 4) (a_cons (e_var 7) a_nil))))) (a_cons (e_tup (a_cons (e_var 2) (a_cons (e_var 3) (a_cons (e_var 5) (a_cons (e_var 8) a_nil))))) (a_cons (e_tup (a_cons (e_var 4) (a_cons (e_var 5) (a_cons (e_var 2) (a_cons (e_var 9) a_nil))))) (a_cons (e_tup (a_cons (e_var 4) (a_cons (e_var 5) (a_cons (e_var 3) (a_cons (e_var 10) a_nil))))) a_nil)))))) (blkOk_by (N := N_law) (sc := defScope st_law) (by decide +kernel)) (fun _ _ _ _ _ => (g_tup rfl (gs_cons (g_name 13 nd) (gs_cons (g_name 14 nd) (gs_cons (g_name 15 nd) (gs_cons (g_name 16 nd) gs_nil)))))) (fun _ _ _ _ _ => (ts_one (L2.PW.pt (w_and (t_cmp (op_eqD B.blk.hu) od_eq (e_var 16) e_int) (w_and (t_chain op_le od_le op_le od_le (e_cb (call_min2 rfl) cd_min2 rfl Z.z_min boot_min (a_cons (e_ix (e_var 13) e_int) (a_cons (e_ix (e_var 14) e_int) a_nil))) (e_ix (e_var 15) e_int) (e_cb (call_max2 rfl) cd_max2 rfl Z.z_max boot_max (a_cons (e_ix (e_var 13) e_int) (a_cons (e_ix (e_var 14) e_int) a_nil)))) (w_and1 (t_chain op_le od_le op_le od_le (e_cb (call_min2 rfl) cd_min2 rfl Z.z_min boot_min (a_cons (e_ix (e_var 13) e_int) (a_cons (e_ix (e_var 14) e_int) a_nil))) (e_ix (e_var 15) e_int) (e_cb (call_max2 rfl) cd_max2 rfl Z.z_max boot_max (a_cons (e_ix (e_var 13) e_int) (a_cons (e_ix (e_var 14) e_int) a_nil)))))))))) (fun _ _ _ _ _ => e_int)) (s_cons (s_if (L2.PW.pt (w_or (t_cmp (op_neD B.hu) od_ne (e_call B (C_do_cross.mono (by decide)) m_do_cross_len rfl (a_cons (e_var 2) (a_cons (e_var 3) (a_cons (e_var 4) (a_cons (e_var 5) a_nil))))) (e_var 11)) (w_or1 (t_cmp (op_neD B.hu) od_ne (e_call B (C_do_meet.mono (by decide)) m_do_meet_len rfl (a_cons (e_var 2) (a_cons (e_var 3) (a_cons (e_var 4) (a_cons (e_var 5) a_nil))))) (e_or (e_var 11) (e_one (e_cmp (op_neD B.hu) od_ne (e_var 12) (e_lst a_nil)))))))) (s_one (s_ret e_bl)) s_nil) (s_cons (s_if (t_cmp (op_neD B.hu) od_ne (e_call B (C_do_meet.mono (by decide)) m_do_meet_len rfl (a_cons (e_var 4) (a_cons (e_var 5) (a_cons (e_var 3) (a_cons (e_var 2) a_nil))))) (e_call B (C_do_meet.mono (by decide)) m_do_meet_len rfl (a_cons (e_var 2) (a_cons (e_var 3) (a_cons (e_var 4) (a_cons (e_var 5) a_nil)))))) (s_one (s_ret e_bl)) s_nil) (s_cons (s_set 17 nd (e_told B ZT FT hmt bnt sc__law_told (.inl rfl) (gv__law_told ZT) TB rfl (List.mem_singleton.mpr rfl) (fun p hp _ => by rw [List.mem_singleton.mp hp]; rfl) rfl (fun A outer s H E f2 c2 hr => 
    have B : Bd (LamX.lamCx (cxOf (L2.CX P w) P w K mg base N_law "law" (defScope st_law) f (.ref c) A0 outer0 s0 H0 E0) A outer s H E _ f2 c2) (fun cls d _ H => E cls d H) 3 := ⟨takes_of rfl rfl rfl rfl, hr⟩
    (e_call B (C_crossing.mono (by decide)) m_crossing_len rfl (a_cons (e_var 2) (a_cons (e_var 3) (a_cons (e_var 4) (a_cons (e_var 5) a_nil)))))) (LamX.lamS_by (sc := defScope st_law) (by decide +kernel)))) (s_cons (s_set 18 nd (e_op op_sub od_sub (e_op op_mul od_mul (e_op op_sub od_sub (e_ix (e_var 3) e_int) (e_ix (e_var 2) e_int)) (e_op op_sub od_sub (e_ix (e_var 5) e_int) (e_ix (e_var 4) e_int))) (e_op op_mul od_mul (e_op op_sub od_sub (e_ix (e_var 3) e_int) (e_ix (e_var 2) e_int)) (e_op op_sub od_sub (e_ix (e_var 5) e_int) (e_ix (e_var 4) e_int))))) (s_cons (s_if (t_cmp (op_neD B.hu) od_ne (e_cmp (op_eqD B.hu) od_eq (e_var 17) e_str) (e_cmp (op_eqD B.hu) od_eq (e_var 18) e_int)) (s_one (s_ret e_bl)) s_nil) (s_cons (s_if (t_cmp (op_neD B.hu) od_ne (e_var 17) e_str) (s_one (s_for (ws := [13, 14]) (passes_of rfl) rfl (i_lst (e_lst (a_cons (e_tup (a_cons (e_var 2) (a_cons (e_var 3) a_nil))) (a_cons (e_tup (a_cons (e_var 4) (a_cons (e_var 5) a_nil))) a_nil)))) (g_tup rfl (gs_cons (g_name 13 nd) (gs_cons (g_name 14 nd) gs_nil))) (s_one (s_if (t_cmp (op_neD B.hu) od_ne (e_call B (C_less_parts.mono (by decide)) m_less_parts_len rfl (a_cons (e_call B (C_times.mono (by decide)) m_times_len rfl (a_cons (e_call B (C_less_parts.mono (by decide)) m_less_parts_len rfl (a_cons (e_ix (e_var 17) e_int) (a_cons (e_tup (a_cons (e_ix (e_var 13) e_int) (a_cons e_int a_nil))) a_nil))) (a_cons (e_tup (a_cons (e_op op_sub od_sub (e_ix (e_var 14) e_int) (e_ix (e_var 13) e_int)) (a_cons e_int a_nil))) a_nil))) (a_cons (e_call B (C_times.mono (by decide)) m_times_len rfl (a_cons (e_call B (C_less_parts.mono (by decide)) m_less_parts_len rfl (a_cons (e_ix (e_var 17) e_int) (a_cons (e_tup (a_cons (e_ix (e_var 13) e_int) (a_cons e_int a_nil))) a_nil))) (a_cons (e_tup (a_cons (e_op op_sub od_sub (e_ix (e_var 14) e_int) (e_ix (e_var 13) e_int)) (a_cons e_int a_nil))) a_nil))) a_nil))) (e_tup (a_cons e_int (a_cons e_int a_nil)))) (s_one (s_ret e_bl)) s_nil)))) s_nil) (s_cons (s_set 19 nd (e_call B (C_ways_square.mono (by decide)) m_ways_square_len rfl (a_cons (e_var 2) (a_cons (e_var 3) (a_cons (e_var 4) (a_cons (e_var 5) a_nil)))))) (s_cons (s_if (L2.PW.pt (w_or (t_cmp (op_neD B.hu) od_ne (e_cmp (op_eqD B.hu) od_eq (e_var 19) (e_tup (a_cons e_int (a_cons e_int a_nil)))) (e_call B (C_do_meet.mono (by decide)) m_do_meet_len rfl (a_cons (e_var 2) (a_cons (e_var 3) (a_cons (e_var 4) (a_cons (e_var 5) a_nil)))))) (w_or1 (t_cmp (op_neD B.hu) od_ne (e_var 19) (e_call B (C_ways_square.mono (by decide)) m_ways_square_len rfl (a_cons (e_var 5) (a_cons (e_var 4) (a_cons (e_var 2) (a_cons (e_var 3) a_nil))))))))) (s_one (s_ret e_bl)) s_nil) (s_cons (s_if (t_not (t_val (e_call B (C__law_near.mono (by decide)) m__law_near_len rfl (a_cons (e_var 2) (a_cons (e_var 3) (a_cons (e_var 4) (a_cons (e_var 5) (a_cons (e_var 7) (a_cons (e_var 19) a_nil))))))))) (s_one (s_ret e_bl)) s_nil) (s_cons (s_if (t_not (t_val (e_callM B (C__law_parts.mono (by decide)) m__law_parts_len rfl (a_cons (e_var 1) a_nil)))) (s_one (s_ret e_bl)) s_nil) (s_one (s_if (t_cmp (op_neD B.hu) od_ne (e_told B ZT FT hmt bnt sc__law_told (.inl rfl) (gv__law_told ZT) TB rfl (List.mem_singleton.mpr rfl) (fun p hp _ => by rw [List.mem_singleton.mp hp]; rfl) rfl (fun A outer s H E f2 c2 hr => 
    have B : Bd (LamX.lamCx (cxOf (L2.CX P w) P w K mg base N_law "law" (defScope st_law) f (.ref c) A0 outer0 s0 H0 E0) A outer s H E _ f2 c2) (fun cls d _ H => E cls d H) 3 := ⟨takes_of rfl rfl rfl rfl, hr⟩
    (e_call B (C_made.mono (by decide)) m_made_len rfl (a_cons e_int (a_cons e_int a_nil)))) (LamX.lamS_by (sc := defScope st_law) (by decide +kernel))) e_str) (s_one (s_ret e_bl)) s_nil))))))))))))))))) (s_one (s_ret e_bl)))
end K2

namespace K2
open PySem PySem.Spec L2 DL
open PyProof.Rows hiding St
@[simp] theorem gIx_p0 {M : Cells} {p : DL.Pt} : gIx M (pt p) (.int 0) = some (.int p.1) := rfl
@[simp] theorem gIx_p1 {M : Cells} {p : DL.Pt} : gIx M (pt p) (.int 1) = some (.int p.2) := rfl
@[simp] theorem lf_pt {p : DL.Pt} : (pt p).lf = true := rfl
theorem pt_mk (a b : Int) : (D.tup [.int a, .int b]) = pt (a, b) := rfl
@[simp] theorem fz_pt {M : Cells} {k : Nat} {p : DL.Pt} : fz M k (pt p) = some (pt p) := by simp [pt]
/-! ### parts -/
theorem gcd_mod (a b : Int) : Int.gcd b (a % b) = Int.gcd a b := by
  have e : a % b = a - a / b * b := by rw [Int.emod_def, Int.mul_comm]
  rw [e, Int.gcd_comm a b]
  simp
theorem x_loop {a b : Int} : ∀ (n : Nat) (a b : Int), 0 ≤ b → b.natAbs < n → ∃ g : Int, fWhile (fTst (fOp gNe (fVar 1) (fC (.int 0)))) (fPar 0 1 (fCons (fVar 1) (fCons (fOp nMod (fVar 0) (fVar 1)) fNil))) n ⟨[some (.int a), some (.int b)], []⟩ = .nx ⟨[some (.int g), some (.int 0)], []⟩ ∧ g.natAbs = Int.gcd a b
  | 0, a, b, h1, h2 => by omega
  | n + 1, a, b, h1, h2 => by
    by_cases h : b = 0
    · subst h
      exact ⟨a, by simp [fWhile], by simp⟩
    · obtain ⟨g, e1, e2⟩ := x_loop (a := a) (b := b) n b (a % b) (Int.emod_nonneg _ h) (by have := Int.emod_lt_of_pos a (show 0 < b by omega); have := Int.emod_nonneg a h; omega)
      refine ⟨g, ?_, by rw [e2, gcd_mod]⟩
      unfold fWhile
      have hb : 0 < b := by omega
      simp [h, nMod_s hb, e1]
theorem x_shared {a b : Int} (h : 0 ≤ b) : m_shared [.int a, .int b] = .ok (.int (Int.gcd a b)) := by
  obtain ⟨g, e1, e2⟩ := x_loop (a := a) (b := b) (fuelOf [.int a, .int b]) a b h (by simp [fuelOf, szs, D.sz]; omega)
  show (g_shared (fuelOf [.int a, .int b]) ⟨[some (.int a), some (.int b)], []⟩).pu = _
  unfold g_shared
  rw [seq_nx e1]
  simp
  split <;> omega
/-- the part top / bottom -/
def mk (t b : Int) : DL.Pt := if b < 0 then ((-t) / (Int.gcd t b : Int), (-b) / (Int.gcd t b : Int)) else (t / (Int.gcd t b : Int), b / (Int.gcd t b : Int))
def Rd (p : DL.Pt) : Prop := 0 < p.2 ∧ Int.gcd p.1 p.2 = 1
theorem x_made {t b : Int} (h : b ≠ 0) (h1 : -1073741824 < b) (h2 : b < 1073741824) : m_made [.int t, .int b] = .ok (pt (mk t b)) := by
  have g0 : 0 < (Int.gcd t b : Int) := by have := Int.gcd_pos_of_ne_zero_right t h; omega
  have g1 : (Int.gcd t b : Int) < 1073741824 := by
    have := Int.gcd_le_natAbs_right t h
    omega
  unfold mk
  by_cases hn : b < 0
  · have s := x_shared (a := -t) (b := -b) (by omega)
    have e : Int.gcd (-t) (-b) = Int.gcd t b := by simp
    rw [e] at s
    simp [m_made, aut, g_made, init0, h, hn, call_s, lfs, D.lf, s, nDiv_s g0 g1, pt]
  · have s := x_shared (a := t) (b := b) (by omega)
    simp [m_made, aut, g_made, init0, h, hn, call_s, lfs, D.lf, s, nDiv_s g0 g1, pt]
theorem x_made0 : m_made [.int 1, .int 0] = .ex ⟨"BadPoint", none⟩ := by
  simp [m_made, aut, g_made, init0]
theorem mk_rd {t b : Int} (h : b ≠ 0) : Rd (mk t b) ∧ (mk t b).1 * b = t * (mk t b).2 := by
  have g0 : 0 < Int.gcd t b := Int.gcd_pos_of_ne_zero_right t h
  have en := Int.mul_ediv_cancel' (Int.gcd_dvd_left t b)
  have em := Int.mul_ediv_cancel' (Int.gcd_dvd_right t b)
  have c1 := Int.gcd_ediv_gcd_ediv_gcd (i := t) (j := b) g0
  have d1 : (-t) / (Int.gcd t b : Int) = -(t / (Int.gcd t b : Int)) := Int.neg_ediv_of_dvd (Int.gcd_dvd_left t b)
  have d2 : (-b) / (Int.gcd t b : Int) = -(b / (Int.gcd t b : Int)) := Int.neg_ediv_of_dvd (Int.gcd_dvd_right t b)
  unfold mk
  rw [d1, d2]
  generalize hg : (Int.gcd t b : Int) = g at *
  generalize t / g = n at *
  generalize b / g = m at *
  have gp : 0 < g := by omega
  have sg : 0 < b → 0 < m := fun hb => by
    rcases Int.lt_trichotomy m 0 with z | z | z
    · have := Int.mul_neg_of_pos_of_neg gp z
      omega
    · rw [z] at em; simp at em; omega
    · exact z
  have sg2 : b < 0 → m < 0 := fun hb => by
    rcases Int.lt_trichotomy m 0 with z | z | z
    · exact z
    · rw [z] at em; simp at em; omega
    · have := Int.mul_pos gp z
      omega
  split
  · rename_i hb
    refine ⟨⟨by have := sg2 hb; dsimp only; omega, by simpa using c1⟩, ?_⟩
    dsimp only
    rw [← en, ← em]; grind
  · rename_i hb
    refine ⟨⟨by have := sg (by omega); dsimp only; omega, c1⟩, ?_⟩
    dsimp only
    rw [← en, ← em]; grind
/-- parts in lowest terms that are as great are alike -/
theorem rd_uniq {p q : DL.Pt} (hp : Rd p) (hq : Rd q) (h : p.1 * q.2 = q.1 * p.2) : p = q := by
  obtain ⟨n, m⟩ := p
  obtain ⟨n', m'⟩ := q
  obtain ⟨h1, h2⟩ := hp
  obtain ⟨h3, h4⟩ := hq
  dsimp only at *
  have d1 : m ∣ m' := by
    have : m ∣ n * m' := ⟨n', by rw [h]; exact Int.mul_comm _ _⟩
    have z := Int.dvd_gcd_mul_iff_dvd_mul.mpr this
    rw [Int.gcd_comm, h2] at z
    simpa using z
  have d2 : m' ∣ m := by
    have : m' ∣ n' * m := ⟨n, by rw [← h]; exact Int.mul_comm _ _⟩
    have z := Int.dvd_gcd_mul_iff_dvd_mul.mpr this
    rw [Int.gcd_comm, h4] at z
    simpa using z
  have e : m = m' := Int.dvd_antisymm (by omega) (by omega) d1 d2
  subst e
  have : n = n' := Int.eq_of_mul_eq_mul_right (by omega) h
  rw [this]
theorem mk_eq {t b t' b' : Int} (h : b ≠ 0) (h' : b' ≠ 0) (e : t * b' = t' * b) : mk t b = mk t' b' := by
  obtain ⟨r1, e1⟩ := mk_rd (t := t) h
  obtain ⟨r2, e2⟩ := mk_rd (t := t') h'
  refine rd_uniq r1 r2 ?_
  have p1 := r1.1
  have p2 := r2.1
  have k : ((mk t b).1 * (mk t' b').2 - (mk t' b').1 * (mk t b).2) * (b * b') = 0 := by grind
  have := Int.mul_eq_zero.mp k
  rcases this with z | z
  · omega
  · rcases Int.mul_eq_zero.mp z with z | z
    · exact (h z).elim
    · exact (h' z).elim
theorem mk_self {p : DL.Pt} (h : Rd p) : mk p.1 p.2 = p := by
  obtain ⟨r1, e1⟩ := mk_rd (t := p.1) (show p.2 ≠ 0 by have := h.1; omega)
  exact rd_uniq r1 h e1
theorem rd_one (n : Int) : Rd (n, 1) := ⟨Int.zero_lt_one, by simp⟩
theorem mk_one (n : Int) : mk n 1 = (n, 1) := mk_self (rd_one n)
/-- how great numbers and the nether part are -/
def Bq (N D : Int) (p : DL.Pt) : Prop := -N ≤ p.1 ∧ p.1 ≤ N ∧ 0 < p.2 ∧ p.2 ≤ D
theorem mk_bq {t b N D : Int} (h : b ≠ 0) (h1 : -N ≤ t) (h2 : t ≤ N) (h3 : -D ≤ b) (h4 : b ≤ D) : Bq N D (mk t b) := by
  have r := (mk_rd (t := t) h).1.1
  have g0 : 0 < Int.gcd t b := Int.gcd_pos_of_ne_zero_right t h
  have en := Int.mul_ediv_cancel' (Int.gcd_dvd_left t b)
  have em := Int.mul_ediv_cancel' (Int.gcd_dvd_right t b)
  have d1 : (-t) / (Int.gcd t b : Int) = -(t / (Int.gcd t b : Int)) := Int.neg_ediv_of_dvd (Int.gcd_dvd_left t b)
  have d2 : (-b) / (Int.gcd t b : Int) = -(b / (Int.gcd t b : Int)) := Int.neg_ediv_of_dvd (Int.gcd_dvd_right t b)
  have key : ∀ g x y Z : Int, 0 < g → g * x = y → -Z ≤ y → y ≤ Z → -Z ≤ x ∧ x ≤ Z := fun g x y Z hg e a1 a2 => by
    constructor
    · by_cases hx : x < 0
      · have := Int.mul_le_mul_of_nonpos_right (show 1 ≤ g by omega) (show x ≤ 0 by omega)
        omega
      · omega
    · by_cases hx : 0 < x
      · have := Int.mul_le_mul_of_nonneg_right (show 1 ≤ g by omega) (show 0 ≤ x by omega)
        omega
      · omega
  have k1 := key _ _ _ N (by omega) en h1 h2
  have k2 := key _ _ _ D (by omega) em h3 h4
  unfold Bq
  refine ⟨?_, ?_, r, ?_⟩ <;> unfold mk <;> split <;> dsimp only <;> (try rw [d1]) <;> (try rw [d2]) <;> omega
theorem mk_zero {b : Int} (h : b ≠ 0) : mk 0 b = (0, 1) := mk_eq (t' := 0) (b' := 1) h (by decide) (by simp) |>.trans (mk_one 0)
theorem mk_zero_iff {t b : Int} (h : b ≠ 0) : mk t b = (0, 1) ↔ t = 0 := by
  constructor
  · intro e
    have := (mk_rd (t := t) h).2
    rw [e] at this
    simp at this
    omega
  · intro e
    subst e
    exact mk_zero h
/-! ### what the defs of parts say -/
/-- not too great for one multiplication -/
def Ok64 (p : DL.Pt) : Prop := -18446744073709551616 < p.1 ∧ p.1 < 18446744073709551616 ∧ -18446744073709551616 < p.2 ∧ p.2 < 18446744073709551616
def sg (x : Int) : Int := b2i (decide (0 < x)) - b2i (decide (x < 0))
def gap (p q : DL.Pt) : Int := p.1 * q.2 - q.1 * p.2
theorem x_add {p q : DL.Pt} (hp : Ok64 p) (hq : Ok64 q) (h : p.2 * q.2 ≠ 0) (h1 : -1073741824 < p.2 * q.2) (h2 : p.2 * q.2 < 1073741824) : m_add [pt p, pt q] = .ok (pt (mk (p.1 * q.2 + q.1 * p.2) (p.2 * q.2))) := by
  have m := x_made (t := p.1 * q.2 + q.1 * p.2) h h1 h2
  simp [m_add, aut, g_add, init0, call_s, lfs, D.lf, nMul_s hp.1 hp.2.1, nMul_s hp.2.2.1 hp.2.2.2, nMul_s hq.1 hq.2.1, m]
theorem x_lessp {p q : DL.Pt} (hp : Ok64 p) (hq : Ok64 q) (h : p.2 * q.2 ≠ 0) (h1 : -1073741824 < p.2 * q.2) (h2 : p.2 * q.2 < 1073741824) : m_less_parts [pt p, pt q] = .ok (pt (mk (gap p q) (p.2 * q.2))) := by
  have m := x_made (t := gap p q) h h1 h2
  unfold gap at *
  simp [m_less_parts, aut, g_less_parts, init0, call_s, lfs, D.lf, nMul_s hp.1 hp.2.1, nMul_s hp.2.2.1 hp.2.2.2, nMul_s hq.1 hq.2.1, m]
theorem x_times {p q : DL.Pt} (hp : Ok64 p) (h : p.2 * q.2 ≠ 0) (h1 : -1073741824 < p.2 * q.2) (h2 : p.2 * q.2 < 1073741824) : m_times [pt p, pt q] = .ok (pt (mk (p.1 * q.1) (p.2 * q.2))) := by
  have m := x_made (t := p.1 * q.1) h h1 h2
  simp [m_times, aut, g_times, init0, call_s, lfs, D.lf, nMul_s hp.1 hp.2.1, nMul_s hp.2.2.1 hp.2.2.2, m]
theorem x_over {p q : DL.Pt} (hp : Ok64 p) (h : p.2 * q.1 ≠ 0) (h1 : -1073741824 < p.2 * q.1) (h2 : p.2 * q.1 < 1073741824) : m_over [pt p, pt q] = .ok (pt (mk (p.1 * q.2) (p.2 * q.1))) := by
  have m := x_made (t := p.1 * q.2) h h1 h2
  simp [m_over, aut, g_over, init0, call_s, lfs, D.lf, nMul_s hp.1 hp.2.1, nMul_s hp.2.2.1 hp.2.2.2, m]
theorem x_order {p q : DL.Pt} (hp : Ok64 p) (hq : Ok64 q) : m_order [pt p, pt q] = .ok (.int (sg (gap p q))) := by
  unfold sg gap
  simp [m_order, aut, g_order, init0, nMul_s hp.1 hp.2.1, nMul_s hq.1 hq.2.1]
theorem sg_neg {x : Int} : sg x < 0 ↔ x < 0 := by
  unfold sg
  by_cases h : x < 0
  · have h2 : ¬ 0 < x := by omega
    simp [h, h2, b2i]
  · by_cases h2 : 0 < x <;> simp [h, h2, b2i]
theorem sg_pos {x : Int} : 0 < sg x ↔ 0 < x := by
  unfold sg
  by_cases h : x < 0
  · have h2 : ¬ 0 < x := by omega
    simp [h, h2, b2i]
  · by_cases h2 : 0 < x <;> simp [h, h2, b2i]
theorem x_sign {p : DL.Pt} : m_sign [pt p] = .ok (.int (sg p.1)) := by
  unfold sg
  simp [m_sign, aut, g_sign, init0]
theorem x_floor {p : DL.Pt} (h : 0 < p.2) (h2 : p.2 < 1073741824) : m_floor [pt p] = .ok (.int (p.1 / p.2)) := by
  simp [m_floor, aut, g_floor, init0, nDiv_s h h2]
theorem x_ceiling {p : DL.Pt} (h : 0 < p.2) (h2 : p.2 < 1073741824) : m_ceiling [pt p] = .ok (.int (-(-p.1 / p.2))) := by
  simp [m_ceiling, aut, g_ceiling, init0, nDiv_s h h2]
theorem x_least {p q : DL.Pt} (hp : Ok64 p) (hq : Ok64 q) : m_least [.lst [pt p, pt q]] = .ok (pt (if gap q p < 0 then q else p)) := by
  have n : ¬ sg (gap p p) < 0 := by rw [sg_neg]; unfold gap; omega
  by_cases h : gap q p < 0
  · have h' := sg_neg.mpr h
    simp [m_least, aut, g_least, init0, fForL, call_s, lfs, x_order hp hp, x_order hq hp, n, h, h']
  · have h' : ¬ sg (gap q p) < 0 := fun z => h (sg_neg.mp z)
    simp [m_least, aut, g_least, init0, fForL, call_s, lfs, x_order hp hp, x_order hq hp, n, h, h']
theorem x_greatest {p q : DL.Pt} (hp : Ok64 p) (hq : Ok64 q) : m_greatest [.lst [pt p, pt q]] = .ok (pt (if 0 < gap q p then q else p)) := by
  have n : ¬ 0 < sg (gap p p) := by rw [sg_pos]; unfold gap; omega
  by_cases h : 0 < gap q p
  · have h' := sg_pos.mpr h
    simp [m_greatest, aut, g_greatest, init0, fForL, call_s, lfs, x_order hp hp, x_order hq hp, n, h, h']
  · have h' : ¬ 0 < sg (gap q p) := fun z => h (sg_pos.mp z)
    simp [m_greatest, aut, g_greatest, init0, fForL, call_s, lfs, x_order hp hp, x_order hq hp, n, h, h']
end K2

namespace K2
open PySem PySem.Spec L2 DL
open PyProof.Rows hiding St
/-! ### points -/
def sub (a b : DL.Pt) : DL.Pt := (a.1 - b.1, a.2 - b.2)
def crs (u v : DL.Pt) : Int := u.1 * v.2 - u.2 * v.1
def aln (u v : DL.Pt) : Int := u.1 * v.1 + u.2 * v.2
def trn (a b c : DL.Pt) : Int := crs (sub b a) (sub c a)
def nrm (u : DL.Pt) : Int := aln u u
def btn (a b c : DL.Pt) : Bool := decide (trn a b c = 0) && decide (aln (sub a c) (sub b c) ≤ 0)
def crb (a b c d : DL.Pt) : Bool := decide (sg (trn a b c) * sg (trn a b d) < 0) && decide (sg (trn c d a) * sg (trn c d b) < 0)
def mee (a b c d : DL.Pt) : Bool := crb a b c d || (btn a b c || (btn a b d || (btn c d a || btn c d b)))
def Sm (u : DL.Pt) : Prop := -1000 ≤ u.1 ∧ u.1 ≤ 1000 ∧ -1000 ≤ u.2 ∧ u.2 ≤ 1000
def S5 (u : DL.Pt) : Prop := -5 ≤ u.1 ∧ u.1 ≤ 5 ∧ -5 ≤ u.2 ∧ u.2 ≤ 5
theorem S5.sm {u : DL.Pt} (h : S5 u) : Sm u := by unfold S5 at h; unfold Sm; omega
theorem S5.sub {u v : DL.Pt} (h : S5 u) (g : S5 v) : Sm (sub u v) := by unfold S5 at h g; unfold Sm K2.sub; dsimp only; omega
theorem x_lessq (a b : DL.Pt) : m_less_points [pt a, pt b] = .ok (pt (sub a b)) := rfl
theorem x_cross {u v : DL.Pt} (h : Sm u) : m_cross [pt u, pt v] = .ok (.int (crs u v)) := by
  unfold Sm at h
  simp (disch := omega) [m_cross, aut, g_cross, init0, crs]
theorem x_along {u v : DL.Pt} (h : Sm u) : m_along [pt u, pt v] = .ok (.int (aln u v)) := by
  unfold Sm at h
  simp (disch := omega) [m_along, aut, g_along, init0, aln]
theorem x_turn {a b c : DL.Pt} (ha : S5 a) (hb : S5 b) : m_turn [pt a, pt b, pt c] = .ok (.int (trn a b c)) := by
  simp [m_turn, aut, g_turn, init0, call_s, lfs, x_lessq, x_cross (hb.sub ha), trn]
theorem x_side {a b c : DL.Pt} (ha : S5 a) (hb : S5 b) : m_side [pt a, pt b, pt c] = .ok (.int (sg (trn a b c))) := by
  unfold sg
  simp [m_side, aut, g_side, init0, call_s, lfs, x_turn ha hb]
theorem x_square {a b : DL.Pt} (ha : S5 a) (hb : S5 b) : m_square [pt a, pt b] = .ok (.int (nrm (sub a b))) := by
  simp [m_square, aut, g_square, init0, call_s, lfs, x_lessq, x_along (ha.sub hb), nrm]
theorem x_between {a b c : DL.Pt} (ha : S5 a) (hb : S5 b) (hc : S5 c) : m_is_between [pt a, pt b, pt c] = .ok (.bl (btn a b c)) := by
  unfold btn
  by_cases h : trn a b c = 0
  · simp [m_is_between, aut, g_is_between, fAndV, init0, call_s, lfs, x_lessq, x_turn ha hb, x_along (ha.sub hc), h]
  · simp [m_is_between, aut, g_is_between, fAndV, init0, call_s, lfs, x_lessq, x_turn ha hb, h]
theorem sg_b {x : Int} : -1 ≤ sg x ∧ sg x ≤ 1 := by
  unfold sg b2i
  split <;> split <;> omega
theorem x_crossb {a b c d : DL.Pt} (ha : S5 a) (hb : S5 b) (hc : S5 c) (hd : S5 d) : m_do_cross [pt a, pt b, pt c, pt d] = .ok (.bl (crb a b c d)) := by
  unfold crb
  have b1 := sg_b (x := trn a b c)
  have b2 := sg_b (x := trn c d a)
  have m1 : ∀ {M : Cells}, nMul M (.int (sg (trn a b c))) (.int (sg (trn a b d))) = some (.int (sg (trn a b c) * sg (trn a b d))) := nMul_s (by omega) (by omega)
  have m2 : ∀ {M : Cells}, nMul M (.int (sg (trn c d a))) (.int (sg (trn c d b))) = some (.int (sg (trn c d a) * sg (trn c d b))) := nMul_s (by omega) (by omega)
  by_cases h : sg (trn a b c) * sg (trn a b d) < 0
  · simp [m_do_cross, aut, g_do_cross, fAndV, init0, call_s, lfs, x_side ha hb, x_side hc hd, m1, m2, h]
  · simp [m_do_cross, aut, g_do_cross, fAndV, init0, call_s, lfs, x_side ha hb, m1, h]
theorem x_meet {a b c d : DL.Pt} (ha : S5 a) (hb : S5 b) (hc : S5 c) (hd : S5 d) : m_do_meet [pt a, pt b, pt c, pt d] = .ok (.bl (mee a b c d)) := by
  have b1 := sg_b (x := trn a b c)
  have b2 := sg_b (x := trn c d a)
  have m1 : ∀ {M : Cells}, nMul M (.int (sg (trn a b c))) (.int (sg (trn a b d))) = some (.int (sg (trn a b c) * sg (trn a b d))) := nMul_s (by omega) (by omega)
  have m2 : ∀ {M : Cells}, nMul M (.int (sg (trn c d a))) (.int (sg (trn c d b))) = some (.int (sg (trn c d a) * sg (trn c d b))) := nMul_s (by omega) (by omega)
  have rest : crb a b c d = false → m_do_meet [pt a, pt b, pt c, pt d] = .ok (.bl (mee a b c d)) := fun hcr => by
    unfold mee
    rw [hcr]
    unfold crb at hcr
    by_cases h : sg (trn a b c) * sg (trn a b d) < 0
    · have h2 : ¬ sg (trn c d a) * sg (trn c d b) < 0 := by simpa [h] using hcr
      cases h3 : btn a b c <;> cases h4 : btn a b d <;> cases h5 : btn c d a <;>
        simp [m_do_meet, aut, g_do_meet, fOrV, init0, call_s, lfs, x_side ha hb, x_side hc hd, m1, m2, h, h2, x_between ha hb hc, x_between ha hb hd, x_between hc hd ha, x_between hc hd hb, h3, h4, h5]
    · cases h3 : btn a b c <;> cases h4 : btn a b d <;> cases h5 : btn c d a <;>
        simp [m_do_meet, aut, g_do_meet, fOrV, init0, call_s, lfs, x_side ha hb, m1, h, x_between ha hb hc, x_between ha hb hd, x_between hc hd ha, x_between hc hd hb, h3, h4, h5]
  cases hcr : crb a b c d with
  | false => exact rest hcr
  | true =>
    unfold mee
    rw [hcr]
    unfold crb at hcr
    simp only [Bool.and_eq_true, decide_eq_true_eq] at hcr
    simp [m_do_meet, aut, g_do_meet, fOrV, init0, call_s, lfs, x_side ha hb, x_side hc hd, m1, m2, hcr.1, hcr.2]
/-- near_square -/
def nsq (a b c : DL.Pt) : DL.Pt :=
  if nrm (sub b a) = 0 ∨ aln (sub c a) (sub b a) ≤ 0 then (nrm (sub a c), 1)
  else if nrm (sub b a) ≤ aln (sub c a) (sub b a) then (nrm (sub b c), 1)
  else mk (trn a b c * trn a b c) (nrm (sub b a))
theorem big_of {x y : Int} {k : Int} (hx : -k ≤ x ∧ x ≤ k) (hy : -k ≤ y ∧ y ≤ k) (hk : 0 ≤ k) : -(k * k) ≤ x * y ∧ x * y ≤ k * k := by
  have h1 : 0 ≤ (k - x) * (k - y) := Int.mul_nonneg (by omega) (by omega)
  have h2 : 0 ≤ (k + x) * (k + y) := Int.mul_nonneg (by omega) (by omega)
  have h3 : 0 ≤ (k - x) * (k + y) := Int.mul_nonneg (by omega) (by omega)
  have h4 : 0 ≤ (k + x) * (k - y) := Int.mul_nonneg (by omega) (by omega)
  constructor <;> grind
def S10 (u : DL.Pt) : Prop := -10 ≤ u.1 ∧ u.1 ≤ 10 ∧ -10 ≤ u.2 ∧ u.2 ≤ 10
theorem S5.s10 {u v : DL.Pt} (h : S5 u) (g : S5 v) : S10 (K2.sub u v) := by unfold S5 at h g; unfold S10 K2.sub; dsimp only; omega
theorem crs_b {u v : DL.Pt} (hu : S10 u) (hv : S10 v) : -200 ≤ crs u v ∧ crs u v ≤ 200 := by
  have h1 := big_of (k := 10) ⟨hu.1, hu.2.1⟩ ⟨hv.2.2.1, hv.2.2.2⟩ (by decide)
  have h2 := big_of (k := 10) ⟨hu.2.2.1, hu.2.2.2⟩ ⟨hv.1, hv.2.1⟩ (by decide)
  unfold crs; omega
theorem aln_b {u v : DL.Pt} (hu : S10 u) (hv : S10 v) : -200 ≤ aln u v ∧ aln u v ≤ 200 := by
  have h1 := big_of (k := 10) ⟨hu.1, hu.2.1⟩ ⟨hv.1, hv.2.1⟩ (by decide)
  have h2 := big_of (k := 10) ⟨hu.2.2.1, hu.2.2.2⟩ ⟨hv.2.2.1, hv.2.2.2⟩ (by decide)
  unfold aln; omega
theorem nrm_nn (u : DL.Pt) : 0 ≤ nrm u := by
  have h1 : 0 ≤ u.1 * u.1 := by rcases Int.le_total 0 u.1 with z | z; exact Int.mul_nonneg z z; exact Int.mul_nonneg_of_nonpos_of_nonpos z z
  have h2 : 0 ≤ u.2 * u.2 := by rcases Int.le_total 0 u.2 with z | z; exact Int.mul_nonneg z z; exact Int.mul_nonneg_of_nonpos_of_nonpos z z
  unfold nrm aln; omega
theorem aln_self (u : DL.Pt) : aln u u = nrm u := rfl
theorem x_near {a b c : DL.Pt} (ha : S5 a) (hb : S5 b) (hc : S5 c) : m_near_square [pt a, pt b, pt c] = .ok (pt (nsq a b c)) := by
  have wb := aln_b (hb.s10 ha) (hb.s10 ha)
  have tb := crs_b (hb.s10 ha) (hc.s10 ha)
  have w0 := nrm_nn (sub b a)
  unfold nsq
  by_cases h1 : nrm (sub b a) = 0
  · simp [m_near_square, aut, g_near_square, init0, call_s, lfs, x_lessq, x_along (hb.sub ha), x_along (hc.sub ha), x_square ha hc, h1, aln_self]
    rfl
  · by_cases h2 : aln (sub c a) (sub b a) ≤ 0
    · simp [m_near_square, aut, g_near_square, init0, call_s, lfs, x_lessq, x_along (hb.sub ha), x_along (hc.sub ha), x_square ha hc, h1, aln_self, h2]
      rfl
    · by_cases h3 : nrm (sub b a) ≤ aln (sub c a) (sub b a)
      · simp [m_near_square, aut, g_near_square, init0, call_s, lfs, x_lessq, x_along (hb.sub ha), x_along (hc.sub ha), x_square hb hc, h1, aln_self, h2, h3]
        rfl
      · have m := x_made (t := trn a b c * trn a b c) h1 (by omega) (by unfold nrm; omega)
        have q : ∀ {M : Cells}, nMul M (.int (trn a b c)) (.int (trn a b c)) = some (.int (trn a b c * trn a b c)) := nMul_s (by unfold trn; omega) (by unfold trn; omega)
        simp [m_near_square, aut, g_near_square, init0, call_s, lfs, x_lessq, x_along (hb.sub ha), x_along (hc.sub ha), h1, aln_self, h2, h3, x_turn ha hb, q, m, D.lf]
theorem nsq_rd {a b c : DL.Pt} : Rd (nsq a b c) := by
  unfold nsq
  split
  · exact rd_one _
  · rename_i h
    split
    · exact rd_one _
    · exact (mk_rd fun z => h (.inl z)).1
theorem nsq_bq {a b c : DL.Pt} (ha : S5 a) (hb : S5 b) (hc : S5 c) : Bq 40000 200 (nsq a b c) := by
  have w1 := aln_b (ha.s10 hc) (ha.s10 hc)
  have w2 := aln_b (hb.s10 hc) (hb.s10 hc)
  have w3 := aln_b (hb.s10 ha) (hb.s10 ha)
  have n1 := nrm_nn (sub a c)
  have n2 := nrm_nn (sub b c)
  have n3 := nrm_nn (sub b a)
  have tb := crs_b (hb.s10 ha) (hc.s10 ha)
  have t2 := big_of tb tb (by decide)
  unfold nsq
  split
  · unfold Bq nrm; dsimp only; omega
  · rename_i h
    split
    · unfold Bq nrm; dsimp only; omega
    · exact mk_bq (fun z => h (.inl z)) (by unfold trn; omega) (by unfold trn; omega) (by unfold nrm at *; omega) (by unfold nrm; omega)
theorem Bq.ok {N D : Int} {p : DL.Pt} (h : Bq N D p) (hN : N < 18446744073709551616) (hD : D < 18446744073709551616) : Ok64 p := by
  unfold Bq at h; unfold Ok64; omega
/-- the lesser of two -/
def bst (p q : DL.Pt) : DL.Pt := if gap q p < 0 then q else p
def wsq (a b c d : DL.Pt) : DL.Pt := if mee a b c d = true then (0, 1) else bst (bst (bst (nsq a b c) (nsq a b d)) (nsq c d a)) (nsq c d b)
theorem bst_or (p q : DL.Pt) : bst p q = p ∨ bst p q = q := by unfold bst; split; exact .inr rfl; exact .inl rfl
theorem bst_p {Q : DL.Pt → Prop} {p q : DL.Pt} (hp : Q p) (hq : Q q) : Q (bst p q) := by rcases bst_or p q with e | e <;> rw [e] <;> assumption
theorem x_ways {a b c d : DL.Pt} (ha : S5 a) (hb : S5 b) (hc : S5 c) (hd : S5 d) : m_ways_square [pt a, pt b, pt c, pt d] = .ok (pt (wsq a b c d)) := by
  unfold wsq
  cases hm : mee a b c d with
  | true =>
    simp [m_ways_square, aut, g_ways_square, g_ways_square_1, init0, call_s, lfs, x_meet ha hb hc hd, hm]
    rfl
  | false =>
    have o1 := (nsq_bq ha hb hc).ok (by decide) (by decide)
    have o2 := (nsq_bq ha hb hd).ok (by decide) (by decide)
    have o3 := (nsq_bq hc hd ha).ok (by decide) (by decide)
    have o4 := (nsq_bq hc hd hb).ok (by decide) (by decide)
    have st : ∀ (x : DL.Pt) (y : DL.Pt) (z : Option D), Ok64 x → Ok64 y → g_ways_square_3_1 ⟨[some (pt a), some (pt b), some (pt c), some (pt d), some (pt x), some (pt y)], []⟩ = .nx ⟨[some (pt a), some (pt b), some (pt c), some (pt d), some (pt (bst x y)), some (pt y)], []⟩ := fun x y z hx hy => by
      unfold bst
      by_cases h : gap y x < 0
      · have h' := sg_neg.mpr h
        simp [g_ways_square_3_1, g_ways_square_3_1_1, call_s, lfs, x_order hy hx, h', h]
      · have h' : ¬ sg (gap y x) < 0 := fun z => h (sg_neg.mp z)
        simp [g_ways_square_3_1, call_s, lfs, x_order hy hx, h', h]
    have s1 := st _ _ none o1 o2
    have s2 := st _ _ none (bst_p (Q := Ok64) o1 o2) o3
    have s3 := st _ _ none (bst_p (Q := Ok64) (bst_p (Q := Ok64) o1 o2) o3) o4
    simp [m_ways_square, aut, g_ways_square, g_ways_square_1, g_ways_square_2, g_ways_square_3, init0, call_s, lfs, x_meet ha hb hc hd, hm, x_near ha hb hc, x_near ha hb hd, x_near hc hd ha, x_near hc hd hb, fForL, s1, s2, s3]
/-- the crossing -/
def cr1 (a b c d : DL.Pt) : DL.Pt := mk (a.1 * crs (sub b a) (sub d c) + crs (sub c a) (sub d c) * (sub b a).1) (crs (sub b a) (sub d c))
def cr2 (a b c d : DL.Pt) : DL.Pt := mk (a.2 * crs (sub b a) (sub d c) + crs (sub c a) (sub d c) * (sub b a).2) (crs (sub b a) (sub d c))
theorem x_crossing {a b c d : DL.Pt} (ha : S5 a) (hb : S5 b) (hc : S5 c) (hd : S5 d) : m_crossing [pt a, pt b, pt c, pt d] = if crs (sub b a) (sub d c) = 0 then .ex ⟨"NoWay", none⟩ else .ok (.tup [pt (cr1 a b c d), pt (cr2 a b c d)]) := by
  have l := crs_b (hb.s10 ha) (hd.s10 hc)
  have t := crs_b (hc.s10 ha) (hd.s10 hc)
  by_cases h : crs (sub b a) (sub d c) = 0
  · rw [if_pos h]
    simp [m_crossing, aut, g_crossing, init0, call_s, lfs, x_lessq, x_cross (hb.sub ha), h]
  · rw [if_neg h]
    have m1 := x_made (t := a.1 * crs (sub b a) (sub d c) + crs (sub c a) (sub d c) * (sub b a).1) h (by omega) (by omega)
    have m2 := x_made (t := a.2 * crs (sub b a) (sub d c) + crs (sub c a) (sub d c) * (sub b a).2) h (by omega) (by omega)
    have q1 : ∀ {M : Cells}, nMul M (.int a.1) (.int (crs (sub b a) (sub d c))) = some (.int (a.1 * crs (sub b a) (sub d c))) := nMul_r (by omega) (by omega)
    have q2 : ∀ {M : Cells}, nMul M (.int a.2) (.int (crs (sub b a) (sub d c))) = some (.int (a.2 * crs (sub b a) (sub d c))) := nMul_r (by omega) (by omega)
    have q3 : ∀ {M : Cells} {x : Int}, nMul M (.int (crs (sub c a) (sub d c))) (.int x) = some (.int (crs (sub c a) (sub d c) * x)) := nMul_s (by omega) (by omega)
    simp [m_crossing, aut, g_crossing, init0, call_s, lfs, D.lf, x_lessq, x_cross (hb.sub ha), x_cross (hc.sub ha), h, q1, q2, q3, m1, m2, cr1, cr2]
end K2

namespace K2
open PySem PySem.Spec L2 DL
open PyProof.Rows hiding St
/-! ### squares of how far -/
theorem sq_nn (x : Int) : 0 ≤ x * x := by rcases Int.le_total 0 x with z | z; exact Int.mul_nonneg z z; exact Int.mul_nonneg_of_nonpos_of_nonpos z z
theorem le_of_mul {x y z : Int} (hz : 0 < z) (h : x * z ≤ y * z) : x ≤ y := Int.le_of_mul_le_mul_right h hz
theorem nrm_zero {u : DL.Pt} (h : nrm u = 0) : u.1 = 0 ∧ u.2 = 0 := by
  unfold nrm aln at h
  have h1 := sq_nn u.1
  have h2 := sq_nn u.2
  have e1 : u.1 * u.1 = 0 := by omega
  have e2 : u.2 * u.2 = 0 := by omega
  exact ⟨by rcases Int.mul_eq_zero.mp e1 with z | z <;> exact z, by rcases Int.mul_eq_zero.mp e2 with z | z <;> exact z⟩
def lin (J k : Int) (x u : DL.Pt) : DL.Pt := (J * x.1 + k * u.1, J * x.2 + k * u.2)
theorem nsq_le {a b c : DL.Pt} {k J : Int} (hJ : 0 < J) (h0 : 0 ≤ k) (h1 : k ≤ J) : (nsq a b c).1 * (J * J) ≤ nrm (lin J k (sub a c) (sub b a)) * (nsq a b c).2 := by
  have eN : nrm (lin J k (sub a c) (sub b a)) = J * J * nrm (sub a c) - 2 * (J * k) * aln (sub c a) (sub b a) + k * k * nrm (sub b a) := by
    unfold nrm aln lin sub; grind
  have eL : nrm (sub b a) * nrm (sub a c) = aln (sub c a) (sub b a) * aln (sub c a) (sub b a) + trn a b c * trn a b c := by
    unfold nrm aln trn crs sub; grind
  have eb : nrm (sub b c) = nrm (sub b a) - 2 * aln (sub c a) (sub b a) + nrm (sub a c) := by unfold nrm aln sub; grind
  have em0 : nrm (sub b a) = 0 → aln (sub c a) (sub b a) = 0 := fun h => by
    obtain ⟨z1, z2⟩ := nrm_zero h
    unfold aln; rw [z1, z2]; simp
  have W0 := nrm_nn (sub b a)
  have Jk : 0 ≤ J * k := Int.mul_nonneg (by omega) h0
  have kk := Int.mul_nonneg (sq_nn k) W0
  rw [eN]
  unfold nsq
  generalize nrm (sub b a) = W at *
  generalize aln (sub c a) (sub b a) = m at *
  generalize nrm (sub a c) = w2 at *
  generalize trn a b c = T at *
  split
  · rename_i h
    dsimp only
    have hm : m ≤ 0 := h.elim (fun z => by rw [em0 z]; exact Int.le_refl _) id
    have := Int.mul_nonneg_of_nonpos_of_nonpos (show -(J * k) ≤ 0 by omega) hm
    grind
  · rename_i h
    have hW : W ≠ 0 := fun z => h (.inl z)
    split
    · rename_i h2
      dsimp only
      rw [eb]
      have q1 := Int.mul_nonneg (show 0 ≤ J - k by omega) (show 0 ≤ J - k by omega)
      have q2 := Int.mul_nonneg q1 W0
      have q3 := Int.mul_nonneg (Int.mul_nonneg (show 0 ≤ J by omega) (show 0 ≤ J - k by omega)) (show 0 ≤ m - W by omega)
      grind
    · obtain ⟨r, e⟩ := mk_rd (t := T * T) hW
      have rp := r.1
      generalize mk (T * T) W = p at *
      refine le_of_mul (show 0 < W by omega) ?_
      have q1 := Int.mul_nonneg (sq_nn (k * W - J * m)) (show 0 ≤ p.2 by omega)
      have e1 : W * w2 * (J * J * p.2) = (m * m + T * T) * (J * J * p.2) := by rw [eL]
      have e2 : p.1 * W * (J * J) = T * T * p.2 * (J * J) := by rw [e]
      have e3 : (J * J * w2 - 2 * (J * k) * m + k * k * W) * p.2 * W = p.1 * (J * J) * W + (k * W - J * m) * (k * W - J * m) * p.2 := by
        clear eN eb em0 r h h1 q1 kk Jk
        grind
      omega
/-- twelve times the way from the one place to the other -/
def dv (a b c d : DL.Pt) (k l : Int) : DL.Pt := (12 * (a.1 - c.1) + k * (b.1 - a.1) - l * (d.1 - c.1), 12 * (a.2 - c.2) + k * (b.2 - a.2) - l * (d.2 - c.2))
/-- no nearer than that -/
def Far (D : DL.Pt) (p : DL.Pt) : Prop := p.1 * 144 ≤ nrm D * p.2
theorem dv_ab (a b c d : DL.Pt) (k l : Int) : dv b a c d (12 - k) l = dv a b c d k l := by
  unfold dv; refine Prod.ext ?_ ?_ <;> dsimp only <;> grind
theorem dv_cd (a b c d : DL.Pt) (k l : Int) : dv a b d c k (12 - l) = dv a b c d k l := by
  unfold dv; refine Prod.ext ?_ ?_ <;> dsimp only <;> grind
theorem dv_sw (a b c d : DL.Pt) (k l : Int) : nrm (dv c d a b l k) = nrm (dv a b c d k l) := by
  unfold dv nrm aln; grind
/-- from a scaled way to Far -/
theorem far_of {a b c D : DL.Pt} {J j m : Int} (hJ : 0 < J) (h0 : 0 ≤ j) (h1 : j ≤ J) (hm : 144 * (m * m) ≤ J * J) (e : nrm (lin J j (sub a c) (sub b a)) = m * m * nrm D) : Far D (nsq a b c) := by
  have q := nsq_le (a := a) (b := b) (c := c) hJ h0 h1
  have rp := (nsq_rd (a := a) (b := b) (c := c)).1
  rw [e] at q
  unfold Far
  have n0 := nrm_nn D
  generalize nsq a b c = p at *
  generalize nrm D = n at *
  have JJ : 0 < J * J := Int.mul_pos hJ hJ
  refine le_of_mul JJ ?_
  have q2 := Int.mul_le_mul_of_nonneg_right hm (Int.mul_nonneg n0 (show 0 ≤ p.2 by omega))
  have q3 : p.1 * 144 * (J * J) = 144 * (p.1 * (J * J)) := by grind
  have q4 : 144 * (m * m) * (n * p.2) = 144 * (m * m * n * p.2) := by grind
  have q5 : n * p.2 * (J * J) = J * J * (n * p.2) := by grind
  omega
structure Cr (a b c d : DL.Pt) (E S R : Int) : Prop where
  x : E * (a.1 - c.1) + S * (b.1 - a.1) - R * (d.1 - c.1) = 0
  y : E * (a.2 - c.2) + S * (b.2 - a.2) - R * (d.2 - c.2) = 0
theorem Cr.ab {a b c d : DL.Pt} {E S R : Int} (h : Cr a b c d E S R) : Cr b a c d E (E - S) R := ⟨by have := h.x; grind, by have := h.y; grind⟩
theorem Cr.cd {a b c d : DL.Pt} {E S R : Int} (h : Cr a b c d E S R) : Cr a b d c E S (E - R) := ⟨by have := h.x; grind, by have := h.y; grind⟩
theorem Cr.sw {a b c d : DL.Pt} {E S R : Int} (h : Cr a b c d E S R) : Cr c d a b E R S := ⟨by have := h.x; grind, by have := h.y; grind⟩
theorem edge {a b c d : DL.Pt} {E S R k l : Int} (h : Cr a b c d E S R) (hE : 0 < E) (hS : S < 0) (hk : 0 ≤ k) (h1 : 0 ≤ k * R - l * S) (h2 : k * R - l * S ≤ k * E - 12 * S) : Far (dv a b c d k l) (nsq c d a) := by
  have kE : 0 ≤ k * E := Int.mul_nonneg hk (by omega)
  refine far_of (J := k * E - 12 * S) (j := k * R - l * S) (m := S) (by omega) h1 h2 ?_ ?_
  · have q := Int.mul_nonneg (show 0 ≤ k * E by omega) (show 0 ≤ k * E - 24 * S by omega)
    grind
  · have e1 : (lin (k * E - 12 * S) (k * R - l * S) (sub c a) (sub d c)).1 = S * (dv a b c d k l).1 := by
      have := congrArg (fun z => k * z) h.x
      unfold lin dv sub; dsimp only at *; grind
    have e2 : (lin (k * E - 12 * S) (k * R - l * S) (sub c a) (sub d c)).2 = S * (dv a b c d k l).2 := by
      have := congrArg (fun z => k * z) h.y
      unfold lin dv sub; dsimp only at *; grind
    unfold nrm aln
    rw [e1, e2]
    grind
theorem edge2 {a b c d : DL.Pt} {E S R k l : Int} (h : Cr a b c d E S R) (hE : 0 < E) (hS : S < 0) (hk : 0 ≤ k) (hk2 : k ≤ 12) (hl : 0 ≤ l) (hl2 : l ≤ 12) : Far (dv a b c d k l) (nsq c d a) ∨ Far (dv a b c d k l) (nsq a b c) ∨ Far (dv a b c d k l) (nsq a b d) := by
  have lS := Int.mul_nonneg hl (show 0 ≤ -S by omega)
  have lE := Int.mul_nonneg hl (show 0 ≤ E by omega)
  by_cases hx : 0 ≤ k * R - l * S
  · by_cases hy : k * R - l * S ≤ k * E - 12 * S
    · exact .inl (edge h hE hS hk hx hy)
    · refine .inr (.inr ?_)
      have l2 := Int.mul_nonneg (show 0 ≤ 12 - l by omega) (show 0 ≤ -S by omega)
      have kp : 0 < k * (R - E) := by grind
      have hRE : 0 < R - E := by
        rcases Int.lt_or_le 0 (R - E) with z | z
        · exact z
        · have := Int.mul_nonneg hk (show 0 ≤ -(R - E) by omega)
          grind
      have l3 := Int.mul_nonneg (show 0 ≤ 12 - l by omega) (show 0 ≤ E - S by omega)
      have k3 := Int.mul_nonneg (show 0 ≤ 12 - k by omega) (show 0 ≤ R - E by omega)
      have f := edge (k := 12 - l) (l := k) h.cd.sw hE (by omega) (by omega) (by grind) (by grind)
      unfold Far at *
      rw [dv_sw, dv_cd] at f
      exact f
  · refine .inr (.inl ?_)
    have hR : R < 0 := by
      rcases Int.lt_or_le R 0 with z | z
      · exact z
      · have := Int.mul_nonneg hk z
        grind
    have k3 := Int.mul_nonneg (show 0 ≤ 12 - k by omega) (show 0 ≤ -R by omega)
    have f := edge (k := l) (l := k) h.sw hE hR hl (by omega) (by grind)
    unfold Far at *
    rw [dv_sw] at f
    exact f
end K2

namespace K2
open PySem PySem.Spec L2 DL
open PyProof.Rows hiding St
theorem nsq_sym (a b c : DL.Pt) : nsq b a c = nsq a b c := by
  have e1 : nrm (sub a b) = nrm (sub b a) := by unfold nrm aln sub; grind
  have e2 : aln (sub c b) (sub a b) = nrm (sub b a) - aln (sub c a) (sub b a) := by unfold nrm aln sub; grind
  have e3 : trn b a c * trn b a c = trn a b c * trn a b c := by unfold trn crs sub; grind
  have e4 : nrm (sub b a) = 0 → nrm (sub b c) = nrm (sub a c) := fun h => by
    obtain ⟨z1, z2⟩ := nrm_zero h
    unfold sub at z1 z2
    dsimp only at z1 z2
    have y1 : b.1 = a.1 := by omega
    have y2 : b.2 = a.2 := by omega
    unfold nrm aln sub; rw [y1, y2]
  have w0 := nrm_nn (sub b a)
  unfold nsq
  rw [e1, e2, e3]
  by_cases h0 : nrm (sub b a) = 0
  · rw [if_pos (.inl h0), if_pos (.inl h0), e4 h0]
  · by_cases h1 : aln (sub c a) (sub b a) ≤ 0
    · rw [if_neg (by omega), if_pos (by omega), if_pos (.inr h1)]
    · by_cases h2 : nrm (sub b a) ≤ aln (sub c a) (sub b a)
      · rw [if_pos (.inr (by omega)), if_neg (by omega), if_pos h2]
      · rw [if_neg (by omega), if_neg (by omega), if_neg (by omega), if_neg h2]
theorem far_par {a b c d : DL.Pt} {k l : Int} (h : crs (sub b a) (sub d c) = 0) (hk : 0 ≤ k) (hk2 : k ≤ 12) (hl : 0 ≤ l) (hl2 : l ≤ 12) : Far (dv a b c d k l) (nsq c d a) ∨ Far (dv a b c d k l) (nsq c d b) ∨ Far (dv a b c d k l) (nsq a b c) := by
  have W0 := nrm_nn (sub b a)
  have V0 := nrm_nn (sub d c)
  have r1 : nrm (sub b a) * (sub d c).1 = aln (sub b a) (sub d c) * (sub b a).1 := by
    have q : crs (sub b a) (sub d c) * (sub b a).2 = 0 := by rw [h]; simp
    unfold nrm aln; unfold crs at q; grind
  have r2 : nrm (sub b a) * (sub d c).2 = aln (sub b a) (sub d c) * (sub b a).2 := by
    have q : crs (sub b a) (sub d c) * (sub b a).1 = 0 := by rw [h]; simp
    unfold nrm aln; unfold crs at q; grind
  by_cases hW : nrm (sub b a) = 0
  · obtain ⟨z1, z2⟩ := nrm_zero hW
    refine .inl (far_of (J := 12) (j := l) (m := 1) (by decide) hl hl2 (by decide) ?_)
    have : nrm (lin 12 l (sub c a) (sub d c)) = nrm (dv a b c d k l) := by
      unfold sub at z1 z2
      dsimp only at z1 z2
      have y1 : b.1 = a.1 := by omega
      have y2 : b.2 = a.2 := by omega
      unfold nrm aln lin dv sub; dsimp only; rw [y1, y2]; grind
    rw [this]; omega
  · by_cases hV : nrm (sub d c) = 0
    · obtain ⟨z1, z2⟩ := nrm_zero hV
      refine .inr (.inr (far_of (J := 12) (j := k) (m := 1) (by decide) hk hk2 (by decide) ?_))
      have : nrm (lin 12 k (sub a c) (sub b a)) = nrm (dv a b c d k l) := by
        unfold sub at z1 z2
        dsimp only at z1 z2
        have y1 : d.1 = c.1 := by omega
        have y2 : d.2 = c.2 := by omega
        unfold nrm aln lin dv sub; dsimp only; rw [y1, y2]; grind
      rw [this]; omega
    · have key : ∀ (x y D : DL.Pt) (J j m : Int), (lin J j x y).1 = m * D.1 → (lin J j x y).2 = m * D.2 → nrm (lin J j x y) = m * m * nrm D := fun x y D J j m e1 e2 => by
        unfold nrm aln; rw [e1, e2]; grind
      have Wp : 0 < nrm (sub b a) := by omega
      generalize hWg : nrm (sub b a) = W at *
      generalize hMg : aln (sub b a) (sub d c) = M at *
      have kW : 0 ≤ k * W := Int.mul_nonneg hk W0
      have kW2 : 0 ≤ (12 - k) * W := Int.mul_nonneg (by omega) W0
      by_cases g0 : 0 ≤ k * W - l * M
      · by_cases g1 : k * W - l * M ≤ 12 * W
        · refine .inr (.inr (far_of (J := 12 * W) (j := k * W - l * M) (m := W) (by omega) g0 g1 (by grind) (key _ _ _ _ _ _ ?_ ?_)))
          · have := congrArg (fun z => l * z) r1
            unfold lin dv sub at *; dsimp only at *; grind
          · have := congrArg (fun z => l * z) r2
            unfold lin dv sub at *; dsimp only at *; grind
        · have hM : M < 0 := by
            rcases Int.lt_or_le M 0 with z | z
            · exact z
            · have := Int.mul_nonneg hl z
              grind
          have l2 := Int.mul_nonneg (show 0 ≤ 12 - l by omega) (show 0 ≤ -M by omega)
          refine .inr (.inl (far_of (J := -12 * M) (j := -(l * M) - (12 - k) * W) (m := M) (by omega) (by grind) (by grind) (by grind) (key _ _ _ _ _ _ ?_ ?_)))
          · have := congrArg (fun z => (12 - k) * z) r1
            unfold lin dv sub at *; dsimp only at *; grind
          · have := congrArg (fun z => (12 - k) * z) r2
            unfold lin dv sub at *; dsimp only at *; grind
      · have hM : 0 < M := by
          rcases Int.lt_or_le 0 M with z | z
          · exact z
          · have := Int.mul_nonneg hl (show 0 ≤ -M by omega)
            grind
        have l2 := Int.mul_nonneg (show 0 ≤ 12 - l by omega) (show 0 ≤ M by omega)
        refine .inl (far_of (J := 12 * M) (j := l * M - k * W) (m := -M) (by omega) (by omega) (by grind) (by grind) (key _ _ _ _ _ _ ?_ ?_))
        · have := congrArg (fun z => k * z) r1
          unfold lin dv sub at *; dsimp only at *; grind
        · have := congrArg (fun z => k * z) r2
          unfold lin dv sub at *; dsimp only at *; grind
theorem sg_mul (x y : Int) : sg x * sg y < 0 ↔ x * y < 0 := by
  have s1 : ∀ z : Int, 0 < z → sg z = 1 := fun z h => by unfold sg; have h2 : ¬ z < 0 := by omega
                                                         simp [h, h2, b2i]
  have s2 : ∀ z : Int, z < 0 → sg z = -1 := fun z h => by unfold sg; have h2 : ¬ 0 < z := by omega
                                                          simp [h, h2, b2i]
  have s3 : sg 0 = 0 := by decide
  rcases Int.lt_trichotomy x 0 with h | h | h <;> rcases Int.lt_trichotomy y 0 with g | g | g
  · have := Int.mul_pos_of_neg_of_neg h g; rw [s2 x h, s2 y g]; omega
  · subst g; rw [s3]; simp
  · have := Int.mul_neg_of_neg_of_pos h g; rw [s2 x h, s1 y g]; omega
  · subst h; rw [s3]; simp
  · subst h; rw [s3]; simp
  · subst h; rw [s3]; simp
  · have := Int.mul_neg_of_pos_of_neg h g; rw [s1 x h, s2 y g]; omega
  · subst g; rw [s3]; simp
  · have := Int.mul_pos h g; rw [s1 x h, s1 y g]; omega
theorem on_it {a b c d : DL.Pt} {E R : Int} (h : Cr a b c d E 0 R) (hE : 0 < E) (h1 : 0 ≤ R) (h2 : R ≤ E) : btn c d a = true := by
  have x := h.x
  have y := h.y
  have t : trn c d a = 0 := by
    have q : E * trn c d a = 0 := by
      have q1 := congrArg (fun z => z * (d.2 - c.2)) x
      have q2 := congrArg (fun z => z * (d.1 - c.1)) y
      unfold trn crs sub; dsimp only at *; grind
    rcases Int.mul_eq_zero.mp q with z | z
    · omega
    · exact z
  have s : aln (sub c a) (sub d a) ≤ 0 := by
    have n := Int.mul_nonneg (Int.mul_nonneg h1 (show 0 ≤ E - R by omega)) (nrm_nn (sub d c))
    have e1 : E * (c.1 - a.1) = -(R * (d.1 - c.1)) := by grind
    have e2 : E * (c.2 - a.2) = -(R * (d.2 - c.2)) := by grind
    have e3 : E * (d.1 - a.1) = (E - R) * (d.1 - c.1) := by grind
    have e4 : E * (d.2 - a.2) = (E - R) * (d.2 - c.2) := by grind
    have e5 : E * (c.1 - a.1) * (E * (d.1 - a.1)) + E * (c.2 - a.2) * (E * (d.2 - a.2)) = -(R * (E - R) * nrm (sub d c)) := by
      rw [e1, e2, e3, e4]; unfold nrm aln sub; grind
    have e6 : aln (sub c a) (sub d a) * (E * E) = E * (c.1 - a.1) * (E * (d.1 - a.1)) + E * (c.2 - a.2) * (E * (d.2 - a.2)) := by
      unfold aln sub; grind
    have EE : 0 < E * E := Int.mul_pos hE hE
    refine le_of_mul EE ?_
    omega
  unfold btn
  simp [t, s]
theorem inside_meet {a b c d : DL.Pt} {σ : Int} (hσ : σ = 1 ∨ σ = -1) (hE : 0 < σ * crs (sub b a) (sub d c)) (h1 : 0 ≤ σ * crs (sub c a) (sub d c)) (h2 : σ * crs (sub c a) (sub d c) ≤ σ * crs (sub b a) (sub d c)) (h3 : 0 ≤ σ * crs (sub c a) (sub b a)) (h4 : σ * crs (sub c a) (sub b a) ≤ σ * crs (sub b a) (sub d c)) : mee a b c d = true := by
  have C : Cr a b c d (σ * crs (sub b a) (sub d c)) (σ * crs (sub c a) (sub d c)) (σ * crs (sub c a) (sub b a)) := ⟨by unfold crs sub; grind, by unfold crs sub; grind⟩
  have t1 : trn a b c = -(crs (sub c a) (sub b a)) := by unfold trn crs sub; grind
  have t2 : trn a b d = crs (sub b a) (sub d c) - crs (sub c a) (sub b a) := by unfold trn crs sub; grind
  have t3 : trn c d a = crs (sub c a) (sub d c) := by unfold trn crs sub; grind
  have t4 : trn c d b = crs (sub c a) (sub d c) - crs (sub b a) (sub d c) := by unfold trn crs sub; grind
  unfold mee
  simp only [Bool.or_eq_true]
  generalize crs (sub b a) (sub d c) = E at *
  generalize crs (sub c a) (sub d c) = S at *
  generalize crs (sub c a) (sub b a) = R at *
  by_cases s0 : σ * S = 0
  · rw [s0] at C
    exact .inr (.inr (.inr (.inl (on_it C hE h3 h4))))
  · by_cases s1 : σ * S = σ * E
    · have C2 := C.ab
      rw [s1, Int.sub_self] at C2
      exact .inr (.inr (.inr (.inr (on_it C2 hE h3 h4))))
    · by_cases r0 : σ * R = 0
      · have C2 := C.sw
        rw [r0] at C2
        exact .inr (.inl (on_it C2 hE h1 h2))
      · by_cases r1 : σ * R = σ * E
        · have C2 := C.cd.sw
          rw [r1, Int.sub_self] at C2
          exact .inr (.inr (.inl (on_it C2 hE h1 h2)))
        · refine .inl ?_
          unfold crb
          simp only [Bool.and_eq_true, decide_eq_true_eq]
          rw [sg_mul, sg_mul, t1, t2, t3, t4]
          rcases hσ with rfl | rfl
          · have q1 := Int.mul_pos (show 0 < R by omega) (show 0 < E - R by omega)
            have q2 := Int.mul_pos (show 0 < S by omega) (show 0 < E - S by omega)
            constructor <;> grind
          · have q1 := Int.mul_pos (show 0 < -R by omega) (show 0 < -(E - R) by omega)
            have q2 := Int.mul_pos (show 0 < -S by omega) (show 0 < -(E - S) by omega)
            constructor <;> grind
end K2

namespace K2
open PySem PySem.Spec L2 DL
open PyProof.Rows hiding St
/-- no greater -/
def Lq (p q : DL.Pt) : Prop := p.1 * q.2 ≤ q.1 * p.2
theorem bst_l (p q : DL.Pt) : Lq (bst p q) p := by
  unfold bst Lq
  split
  · rename_i h; unfold gap at h; omega
  · exact Int.le_refl _
theorem bst_r (p q : DL.Pt) : Lq (bst p q) q := by
  unfold bst Lq
  split
  · exact Int.le_refl _
  · rename_i h; unfold gap at h; omega
theorem Lq.trans {p q r : DL.Pt} (hp : 0 < p.2) (hq : 0 < q.2) (hr : 0 < r.2) (h1 : Lq p q) (h2 : Lq q r) : Lq p r := by
  unfold Lq at *
  refine le_of_mul hq ?_
  have a1 := Int.mul_le_mul_of_nonneg_right h1 (show 0 ≤ r.2 by omega)
  have a2 := Int.mul_le_mul_of_nonneg_right h2 (show 0 ≤ p.2 by omega)
  grind
theorem Far.less {D p q : DL.Pt} (hq : 0 < q.2) (hp : 0 < p.2) (h : Lq p q) (f : Far D q) : Far D p := by
  unfold Far Lq at *
  refine le_of_mul hq ?_
  have a1 := Int.mul_le_mul_of_nonneg_right f (show 0 ≤ p.2 by omega)
  grind
def min4 (x y z w : DL.Pt) : DL.Pt := bst (bst (bst x y) z) w
theorem min4_le {x y z w : DL.Pt} (hx : 0 < x.2) (hy : 0 < y.2) (hz : 0 < z.2) (hw : 0 < w.2) : Lq (min4 x y z w) x ∧ Lq (min4 x y z w) y ∧ Lq (min4 x y z w) z ∧ Lq (min4 x y z w) w := by
  have p1 : 0 < (bst x y).2 := bst_p (Q := fun p => 0 < p.2) hx hy
  have p2 : 0 < (bst (bst x y) z).2 := bst_p (Q := fun p => 0 < p.2) p1 hz
  have p3 : 0 < (min4 x y z w).2 := bst_p (Q := fun p => 0 < p.2) p2 hw
  have a1 : Lq (min4 x y z w) (bst (bst x y) z) := bst_l _ _
  have a2 : Lq (min4 x y z w) (bst x y) := a1.trans p3 p2 p1 (bst_l _ _)
  exact ⟨a2.trans p3 p1 hx (bst_l _ _), a2.trans p3 p1 hy (bst_r _ _), a1.trans p3 p2 hz (bst_r _ _), bst_r _ _⟩
theorem min4_p {Q : DL.Pt → Prop} {x y z w : DL.Pt} (hx : Q x) (hy : Q y) (hz : Q z) (hw : Q w) : Q (min4 x y z w) := bst_p (Q := Q) (bst_p (Q := Q) (bst_p (Q := Q) hx hy) hz) hw
theorem min4_in (x y z w : DL.Pt) : min4 x y z w = x ∨ min4 x y z w = y ∨ min4 x y z w = z ∨ min4 x y z w = w := by
  exact min4_p (Q := fun p => p = x ∨ p = y ∨ p = z ∨ p = w) (.inl rfl) (.inr (.inl rfl)) (.inr (.inr (.inl rfl))) (.inr (.inr (.inr rfl)))
theorem wsq_min {a b c d : DL.Pt} (h : mee a b c d = false) : wsq a b c d = min4 (nsq a b c) (nsq a b d) (nsq c d a) (nsq c d b) := by
  unfold wsq; rw [if_neg (by rw [h]; decide)]; rfl
theorem far_wsq {a b c d : DL.Pt} {k l : Int} (hk : 0 ≤ k) (hk2 : k ≤ 12) (hl : 0 ≤ l) (hl2 : l ≤ 12) : Far (dv a b c d k l) (wsq a b c d) := by
  have n0 := nrm_nn (dv a b c d k l)
  cases hm : mee a b c d with
  | true => unfold wsq; rw [if_pos hm]; unfold Far; dsimp only; omega
  | false =>
    rw [wsq_min hm]
    have r1 := (nsq_rd (a := a) (b := b) (c := c)).1
    have r2 := (nsq_rd (a := a) (b := b) (c := d)).1
    have r3 := (nsq_rd (a := c) (b := d) (c := a)).1
    have r4 := (nsq_rd (a := c) (b := d) (c := b)).1
    obtain ⟨l1, l2, l3, l4⟩ := min4_le r1 r2 r3 r4
    have pm : 0 < (min4 (nsq a b c) (nsq a b d) (nsq c d a) (nsq c d b)).2 := min4_p (Q := fun p => 0 < p.2) r1 r2 r3 r4
    have fin : Far (dv a b c d k l) (nsq a b c) ∨ Far (dv a b c d k l) (nsq a b d) ∨ Far (dv a b c d k l) (nsq c d a) ∨ Far (dv a b c d k l) (nsq c d b) := by
      by_cases h0 : crs (sub b a) (sub d c) = 0
      · rcases far_par h0 hk hk2 hl hl2 with f | f | f
        · exact .inr (.inr (.inl f))
        · exact .inr (.inr (.inr f))
        · exact .inl f
      · obtain ⟨σ, hσ, hE⟩ : ∃ σ : Int, (σ = 1 ∨ σ = -1) ∧ 0 < σ * crs (sub b a) (sub d c) := by
          rcases Int.lt_or_le 0 (crs (sub b a) (sub d c)) with z | z
          · exact ⟨1, .inl rfl, by omega⟩
          · exact ⟨-1, .inr rfl, by omega⟩
        have C : Cr a b c d (σ * crs (sub b a) (sub d c)) (σ * crs (sub c a) (sub d c)) (σ * crs (sub c a) (sub b a)) := ⟨by unfold crs sub; grind, by unfold crs sub; grind⟩
        have im := fun h1 h2 h3 h4 => (inside_meet (a := a) (b := b) (c := c) (d := d) hσ hE h1 h2 h3 h4).symm.trans hm
        generalize σ * crs (sub b a) (sub d c) = E at *
        generalize σ * crs (sub c a) (sub d c) = S at *
        generalize σ * crs (sub c a) (sub b a) = R at *
        by_cases s0 : S < 0
        · rcases edge2 C hE s0 hk hk2 hl hl2 with f | f | f
          · exact .inr (.inr (.inl f))
          · exact .inl f
          · exact .inr (.inl f)
        · by_cases s1 : E < S
          · have f := edge2 (k := 12 - k) (l := l) C.ab hE (by omega) (by omega) (by omega) hl hl2
            rw [dv_ab, nsq_sym a b c, nsq_sym a b d] at f
            rcases f with f | f | f
            · exact .inr (.inr (.inr f))
            · exact .inl f
            · exact .inr (.inl f)
          · by_cases r0 : R < 0
            · have f := edge2 (k := l) (l := k) C.sw hE r0 hl hl2 hk hk2
              unfold Far at *
              rw [dv_sw] at f
              rcases f with f | f | f
              · exact .inl f
              · exact .inr (.inr (.inl f))
              · exact .inr (.inr (.inr f))
            · by_cases r1 : E < R
              · have f := edge2 (k := 12 - l) (l := k) C.cd.sw hE (by omega) (by omega) (by omega) hk hk2
                unfold Far at *
                rw [dv_sw, dv_cd, nsq_sym c d a, nsq_sym c d b] at f
                rcases f with f | f | f
                · exact .inr (.inl f)
                · exact .inr (.inr (.inl f))
                · exact .inr (.inr (.inr f))
              · exact (Bool.noConfusion (im (by omega) (by omega) (by omega) (by omega)))
    rcases fin with f | f | f | f
    · exact f.less r1 pm l1
    · exact f.less r2 pm l2
    · exact f.less r3 pm l3
    · exact f.less r4 pm l4
theorem btn_sym (a b c : DL.Pt) : btn b a c = btn a b c := by
  have e1 : trn b a c = 0 ↔ trn a b c = 0 := by
    have : trn b a c = - trn a b c := by unfold trn crs sub; grind
    omega
  have e2 : aln (sub b c) (sub a c) = aln (sub a c) (sub b c) := by unfold aln; grind
  unfold btn
  rw [e2]
  simp [e1]
theorem crb_sym (a b c d : DL.Pt) : crb d c a b = crb a b c d ∧ crb c d b a = crb a b c d := by
  have e1 : trn d c a = - trn c d a := by unfold trn crs sub; grind
  have e2 : trn d c b = - trn c d b := by unfold trn crs sub; grind
  have e3 : trn b a c = - trn a b c := by unfold trn crs sub; grind
  have e4 : trn b a d = - trn a b d := by unfold trn crs sub; grind
  have c1 : trn a b d * trn a b c = trn a b c * trn a b d := Int.mul_comm _ _
  have c2 : trn c d b * trn c d a = trn c d a * trn c d b := Int.mul_comm _ _
  unfold crb
  simp only [sg_mul, e1, e2, e3, e4, Int.neg_mul_neg, c1, c2]
  exact ⟨Bool.and_comm _ _, Bool.and_comm _ _⟩
theorem mee_sym1 (a b c d : DL.Pt) : mee d c a b = mee a b c d := by
  unfold mee
  rw [(crb_sym a b c d).1, btn_sym c d a, btn_sym c d b]
  cases crb a b c d <;> cases btn a b c <;> cases btn a b d <;> cases btn c d a <;> cases btn c d b <;> rfl
theorem mee_sym2 (a b c d : DL.Pt) : mee c d b a = mee a b c d := by
  unfold mee
  rw [(crb_sym a b c d).2, btn_sym a b c, btn_sym a b d]
  cases crb a b c d <;> cases btn a b c <;> cases btn a b d <;> cases btn c d a <;> cases btn c d b <;> rfl
theorem min_uniq {S : DL.Pt → Prop} {p q : DL.Pt} (hp : Rd p) (hq : Rd q) (h1 : Lq p q) (h2 : Lq q p) : p = q := rd_uniq hp hq (by unfold Lq at *; omega)
theorem wsq_sym (a b c d : DL.Pt) : wsq d c a b = wsq a b c d := by
  cases hm : mee a b c d with
  | true => unfold wsq; rw [if_pos hm, if_pos (by rw [mee_sym1]; exact hm)]
  | false =>
    rw [wsq_min hm, wsq_min (by rw [mee_sym1]; exact hm), nsq_sym c d a, nsq_sym c d b]
    have r1 := nsq_rd (a := a) (b := b) (c := c)
    have r2 := nsq_rd (a := a) (b := b) (c := d)
    have r3 := nsq_rd (a := c) (b := d) (c := a)
    have r4 := nsq_rd (a := c) (b := d) (c := b)
    generalize nsq a b c = x at *
    generalize nsq a b d = y at *
    generalize nsq c d a = z at *
    generalize nsq c d b = w at *
    obtain ⟨l1, l2, l3, l4⟩ := min4_le r1.1 r2.1 r3.1 r4.1
    obtain ⟨m1, m2, m3, m4⟩ := min4_le r3.1 r4.1 r2.1 r1.1
    refine rd_uniq (min4_p r3 r4 r2 r1) (min4_p r1 r2 r3 r4) (Int.le_antisymm ?_ ?_)
    · show Lq (min4 z w y x) (min4 x y z w)
      rcases min4_in x y z w with e | e | e | e <;> rw [e] <;> assumption
    · show Lq (min4 x y z w) (min4 z w y x)
      rcases min4_in z w y x with e | e | e | e <;> rw [e] <;> assumption
theorem nsq_zero {a b c : DL.Pt} (h : nsq a b c = (0, 1)) : btn a b c = true := by
  have eL : nrm (sub b a) * nrm (sub a c) = aln (sub c a) (sub b a) * aln (sub c a) (sub b a) + trn a b c * trn a b c := by
    unfold nrm aln trn crs sub; grind
  have eA : aln (sub a c) (sub b c) = nrm (sub a c) - aln (sub c a) (sub b a) := by unfold nrm aln sub; grind
  have W0 := nrm_nn (sub b a)
  have fin : trn a b c = 0 → aln (sub a c) (sub b c) ≤ 0 → btn a b c = true := fun h1 h2 => by unfold btn; simp [h1, h2]
  unfold nsq at h
  split at h
  · have e : nrm (sub a c) = 0 := congrArg Prod.fst h
    obtain ⟨z1, z2⟩ := nrm_zero e
    unfold sub at z1 z2
    dsimp only at z1 z2
    have y1 : a.1 = c.1 := by omega
    have y2 : a.2 = c.2 := by omega
    refine fin ?_ ?_
    · unfold trn crs sub; rw [y1, y2]; grind
    · unfold aln sub; rw [y1, y2]; grind
  · rename_i h0
    split at h
    · have e : nrm (sub b c) = 0 := congrArg Prod.fst h
      obtain ⟨z1, z2⟩ := nrm_zero e
      unfold sub at z1 z2
      dsimp only at z1 z2
      have y1 : b.1 = c.1 := by omega
      have y2 : b.2 = c.2 := by omega
      refine fin ?_ ?_
      · unfold trn crs sub; rw [y1, y2]; grind
      · unfold aln sub; rw [y1, y2]; grind
    · rename_i h1
      have hW : nrm (sub b a) ≠ 0 := fun z => h0 (.inl z)
      have T2 := (mk_zero_iff hW).mp h
      have T0 : trn a b c = 0 := by rcases Int.mul_eq_zero.mp T2 with z | z <;> exact z
      refine fin T0 ?_
      rw [eA]
      have hm : 0 < aln (sub c a) (sub b a) := by omega
      have q := Int.mul_pos hm (show 0 < nrm (sub b a) - aln (sub c a) (sub b a) by omega)
      rw [T0] at eL
      have : (nrm (sub a c) - aln (sub c a) (sub b a)) * nrm (sub b a) ≤ 0 * nrm (sub b a) := by grind
      exact le_of_mul (by omega) this
theorem wsq_zero {a b c d : DL.Pt} : wsq a b c d = (0, 1) ↔ mee a b c d = true := by
  constructor
  · intro h
    cases hm : mee a b c d with
    | true => rfl
    | false =>
      rw [wsq_min hm] at h
      unfold mee at hm
      simp only [Bool.or_eq_false_iff] at hm
      rcases min4_in (nsq a b c) (nsq a b d) (nsq c d a) (nsq c d b) with e | e | e | e <;> rw [e] at h <;> have := nsq_zero h <;> simp_all
  · intro h
    unfold wsq
    rw [if_pos h]
end K2

namespace K2
open PySem PySem.Spec L2 DL
open PyProof.Rows hiding St
theorem gNe_ptp {M : Cells} {p q : DL.Pt} : gNe M (pt p) (pt q) = some (.bl (!decide (p = q))) := by
  obtain ⟨a, b⟩ := p
  obtain ⟨c, d⟩ := q
  show gNe M (.tup [.int a, .int b]) (.tup [.int c, .int d]) = _
  rw [gNe_pt]
  simp [Prod.ext_iff]
theorem gEq_ptp {M : Cells} {p q : DL.Pt} : gEq M (pt p) (pt q) = some (.bl (decide (p = q))) := by
  obtain ⟨a, b⟩ := p
  obtain ⟨c, d⟩ := q
  show gEq M (.tup [.int a, .int b]) (.tup [.int c, .int d]) = _
  rw [gEq_pt]
  simp [Prod.ext_iff]
theorem gNotIn_2 {M : Cells} {p q r : DL.Pt} : gNotIn M (pt p) (.lst [pt q, pt r]) = some (.bl (!(decide (q = p) || decide (r = p)))) := by
  obtain ⟨a, b⟩ := p
  obtain ⟨c, d⟩ := q
  obtain ⟨e, f⟩ := r
  have h : dIn M (pt (a, b)) (.lst [pt (c, d), pt (e, f)]) = some (decide ((c, d) = (a, b)) || decide ((e, f) = (a, b))) := by
    unfold dIn
    have e1 : pyAt M (pt (a, b)) = some (.tuple [.int a, .int b]) := rfl
    have e2 : pyAt M (.lst [pt (c, d), pt (e, f)]) = some (.list [.tuple [.int c, .int d], .tuple [.int e, .int f]]) := rfl
    rw [e1, e2]
    dsimp only
    have s1 : SeqAt.shaped (.tuple [.int a, .int b]) = true := rfl
    have s2 : SeqAt.shaped (.list [.tuple [.int c, .int d], .tuple [.int e, .int f]]) = true := rfl
    rw [s1, s2]
    simp [PyData.eqv, PyData.eqvAll, Prod.ext_iff]
    rfl
  unfold gNotIn
  rw [h]; rfl
/-! ### what a part stands for -/
def Vl (p : DL.Pt) (t b : Int) : Prop := p.1 * b = t * p.2
theorem cancel {x y z : Int} (hz : z ≠ 0) (h : x * z = y * z) : x = y := Int.eq_of_mul_eq_mul_right hz h
theorem vl_mk {t b : Int} (h : b ≠ 0) : Vl (mk t b) t b := (mk_rd h).2
theorem vl_less {p q : DL.Pt} {t s b : Int} (hp : 0 < p.2) (hq : 0 < q.2) (h1 : Vl p t b) (h2 : Vl q s b) : Vl (mk (gap p q) (p.2 * q.2)) (t - s) b := by
  have pq : p.2 * q.2 ≠ 0 := by have := Int.mul_pos hp hq; omega
  have e := vl_mk (t := gap p q) pq
  unfold Vl gap at *
  generalize mk (p.1 * q.2 - q.1 * p.2) (p.2 * q.2) = m at *
  refine cancel pq ?_
  have a1 := congrArg (fun z => z * (q.2 * m.2)) h1
  have a2 := congrArg (fun z => z * (p.2 * m.2)) h2
  have a3 := congrArg (fun z => z * b) e
  grind
theorem vl_add {p q : DL.Pt} {t s b : Int} (hp : 0 < p.2) (hq : 0 < q.2) (h1 : Vl p t b) (h2 : Vl q s b) : Vl (mk (p.1 * q.2 + q.1 * p.2) (p.2 * q.2)) (t + s) b := by
  have pq : p.2 * q.2 ≠ 0 := by have := Int.mul_pos hp hq; omega
  have e := vl_mk (t := p.1 * q.2 + q.1 * p.2) pq
  unfold Vl at *
  generalize mk (p.1 * q.2 + q.1 * p.2) (p.2 * q.2) = m at *
  refine cancel pq ?_
  have a1 := congrArg (fun z => z * (q.2 * m.2)) h1
  have a2 := congrArg (fun z => z * (p.2 * m.2)) h2
  have a3 := congrArg (fun z => z * b) e
  grind
theorem vl_times {p q : DL.Pt} {t s b c : Int} (hp : 0 < p.2) (hq : 0 < q.2) (h1 : Vl p t b) (h2 : Vl q s c) : Vl (mk (p.1 * q.1) (p.2 * q.2)) (t * s) (b * c) := by
  have pq : p.2 * q.2 ≠ 0 := by have := Int.mul_pos hp hq; omega
  have e := vl_mk (t := p.1 * q.1) pq
  unfold Vl at *
  generalize mk (p.1 * q.1) (p.2 * q.2) = m at *
  refine cancel pq ?_
  have a1 : p.1 * b * (q.1 * c) * m.2 = t * p.2 * (s * q.2) * m.2 := by rw [h1, h2]
  have a3 := congrArg (fun z => z * (b * c)) e
  grind
/-- a part that stands for naught over something -/
theorem vl_zero {p : DL.Pt} {b : Int} (hp : Rd p) (hb : b ≠ 0) (h : Vl p 0 b) : p = (0, 1) := by
  unfold Vl at h
  have z : p.1 = 0 := by
    rcases Int.mul_eq_zero.mp (show p.1 * b = 0 by rw [h]; simp) with z | z
    · exact z
    · exact (hb z).elim
  exact rd_uniq hp (rd_one 0) (by dsimp only; rw [z]; simp)
theorem mul_b {x y A B : Int} (hx : -A ≤ x ∧ x ≤ A) (hy : -B ≤ y ∧ y ≤ B) : -(A * B) ≤ x * y ∧ x * y ≤ A * B := by
  have h1 : 0 ≤ (A - x) * (B - y) := Int.mul_nonneg (by omega) (by omega)
  have h2 : 0 ≤ (A + x) * (B + y) := Int.mul_nonneg (by omega) (by omega)
  have h3 : 0 ≤ (A - x) * (B + y) := Int.mul_nonneg (by omega) (by omega)
  have h4 : 0 ≤ (A + x) * (B - y) := Int.mul_nonneg (by omega) (by omega)
  constructor <;> grind
theorem Bq.mulB {N D M E : Int} {p q : DL.Pt} (hp : Bq N D p) (hq : Bq M E q) : 0 < p.2 * q.2 ∧ p.2 * q.2 ≤ D * E := by
  obtain ⟨_, _, h3, h4⟩ := hp
  obtain ⟨_, _, g3, g4⟩ := hq
  exact ⟨Int.mul_pos h3 g3, (mul_b (x := p.2) (y := q.2) (A := D) (B := E) ⟨by omega, h4⟩ ⟨by omega, g4⟩).2⟩
theorem bq_less {N D M E : Int} {p q : DL.Pt} (hp : Bq N D p) (hq : Bq M E q) : Bq (N * E + M * D) (D * E) (mk (gap p q) (p.2 * q.2)) := by
  obtain ⟨h1, h2, h3, h4⟩ := hp
  obtain ⟨g1, g2, g3, g4⟩ := hq
  have a1 := mul_b (x := p.1) (y := q.2) (A := N) (B := E) ⟨h1, h2⟩ ⟨by omega, g4⟩
  have a2 := mul_b (x := q.1) (y := p.2) (A := M) (B := D) ⟨g1, g2⟩ ⟨by omega, h4⟩
  have a3 := mul_b (x := p.2) (y := q.2) (A := D) (B := E) ⟨by omega, h4⟩ ⟨by omega, g4⟩
  have pp := Int.mul_pos h3 g3
  exact mk_bq (by omega) (by unfold gap; omega) (by unfold gap; omega) (by omega) a3.2
theorem bq_add {N D M E : Int} {p q : DL.Pt} (hp : Bq N D p) (hq : Bq M E q) : Bq (N * E + M * D) (D * E) (mk (p.1 * q.2 + q.1 * p.2) (p.2 * q.2)) := by
  obtain ⟨h1, h2, h3, h4⟩ := hp
  obtain ⟨g1, g2, g3, g4⟩ := hq
  have a1 := mul_b (x := p.1) (y := q.2) (A := N) (B := E) ⟨h1, h2⟩ ⟨by omega, g4⟩
  have a2 := mul_b (x := q.1) (y := p.2) (A := M) (B := D) ⟨g1, g2⟩ ⟨by omega, h4⟩
  have a3 := mul_b (x := p.2) (y := q.2) (A := D) (B := E) ⟨by omega, h4⟩ ⟨by omega, g4⟩
  have pp := Int.mul_pos h3 g3
  exact mk_bq (by omega) (by omega) (by omega) (by omega) a3.2
theorem bq_times {N D M E : Int} {p q : DL.Pt} (hp : Bq N D p) (hq : Bq M E q) : Bq (N * M) (D * E) (mk (p.1 * q.1) (p.2 * q.2)) := by
  obtain ⟨h1, h2, h3, h4⟩ := hp
  obtain ⟨g1, g2, g3, g4⟩ := hq
  have a1 := mul_b (x := p.1) (y := q.1) (A := N) (B := M) ⟨h1, h2⟩ ⟨g1, g2⟩
  have a3 := mul_b (x := p.2) (y := q.2) (A := D) (B := E) ⟨by omega, h4⟩ ⟨by omega, g4⟩
  have pp := Int.mul_pos h3 g3
  exact mk_bq (by omega) a1.1 a1.2 (by omega) a3.2
theorem Bq.less {N D M E : Int} {p : DL.Pt} (h : Bq N D p) (h1 : N ≤ M) (h2 : D ≤ E) : Bq M E p := by unfold Bq at *; omega
/-- calls with bounds -/
theorem y_less {N D M E : Int} {p q : DL.Pt} (hp : Bq N D p) (hq : Bq M E q) (n1 : N < 18446744073709551616) (n2 : D < 18446744073709551616) (n3 : M < 18446744073709551616) (n4 : E < 18446744073709551616) (n5 : D * E < 1073741824) : m_less_parts [pt p, pt q] = .ok (pt (mk (gap p q) (p.2 * q.2))) := by
  have b := hp.mulB hq
  exact x_lessp (hp.ok n1 n2) (hq.ok n3 n4) (by omega) (by omega) (by omega)
theorem y_times {N D M E : Int} {p q : DL.Pt} (hp : Bq N D p) (hq : Bq M E q) (n1 : N < 18446744073709551616) (n2 : D < 18446744073709551616) (n5 : D * E < 1073741824) : m_times [pt p, pt q] = .ok (pt (mk (p.1 * q.1) (p.2 * q.2))) := by
  have b := hp.mulB hq
  exact x_times (hp.ok n1 n2) (by omega) (by omega) (by omega)
theorem y_add {N D M E : Int} {p q : DL.Pt} (hp : Bq N D p) (hq : Bq M E q) (n1 : N < 18446744073709551616) (n2 : D < 18446744073709551616) (n3 : M < 18446744073709551616) (n4 : E < 18446744073709551616) (n5 : D * E < 1073741824) : m_add [pt p, pt q] = .ok (pt (mk (p.1 * q.2 + q.1 * p.2) (p.2 * q.2))) := by
  have b := hp.mulB hq
  exact x_add (hp.ok n1 n2) (hq.ok n3 n4) (by omega) (by omega) (by omega)
/-- the square of how far two spots of parts are -/
def gq (x1 x2 y1 y2 : DL.Pt) : DL.Pt :=
  let u := mk (gap x1 y1) (x1.2 * y1.2)
  let v := mk (gap x2 y2) (x2.2 * y2.2)
  let uu := mk (u.1 * u.1) (u.2 * u.2)
  let vv := mk (v.1 * v.1) (v.2 * v.2)
  mk (uu.1 * vv.2 + vv.1 * uu.2) (uu.2 * vv.2)
theorem gq_b {x1 x2 y1 y2 : DL.Pt} (h1 : Bq 60 12 x1) (h2 : Bq 60 12 x2) (h3 : Bq 60 12 y1) (h4 : Bq 60 12 y2) : Bq 85996339200 429981696 (gq x1 x2 y1 y2) := by
  have u := bq_less h1 h3
  have v := bq_less h2 h4
  exact (bq_add (bq_times u u) (bq_times v v)).less (by decide) (by decide)
theorem gq_rd {x1 x2 y1 y2 : DL.Pt} (h1 : Bq 60 12 x1) (h2 : Bq 60 12 x2) (h3 : Bq 60 12 y1) (h4 : Bq 60 12 y2) : Rd (gq x1 x2 y1 y2) := by
  have u := bq_less h1 h3
  have v := bq_less h2 h4
  have w := (bq_times u u).mulB (bq_times v v)
  exact (mk_rd (by omega)).1
theorem gq_v {x1 x2 y1 y2 : DL.Pt} (h1 : Bq 60 12 x1) (h2 : Bq 60 12 x2) (h3 : Bq 60 12 y1) (h4 : Bq 60 12 y2) {X1 X2 Y1 Y2 : Int} (v1 : Vl x1 X1 12) (v2 : Vl x2 X2 12) (v3 : Vl y1 Y1 12) (v4 : Vl y2 Y2 12) :
    Vl (gq x1 x2 y1 y2) ((X1 - Y1) * (X1 - Y1) + (X2 - Y2) * (X2 - Y2)) 144 := by
  have u := bq_less h1 h3
  have v := bq_less h2 h4
  have e1 := vl_less h1.2.2.1 h3.2.2.1 v1 v3
  have e2 := vl_less h2.2.2.1 h4.2.2.1 v2 v4
  exact vl_add (bq_times u u).2.2.1 (bq_times v v).2.2.1 (vl_times u.2.2.1 u.2.2.1 e1 e1) (vl_times v.2.2.1 v.2.2.1 e2 e2)
theorem x_gap {x1 x2 y1 y2 : DL.Pt} (h1 : Bq 60 12 x1) (h2 : Bq 60 12 x2) (h3 : Bq 60 12 y1) (h4 : Bq 60 12 y2) : m__law_gap [.tup [pt x1, pt x2], .tup [pt y1, pt y2]] = .ok (pt (gq x1 x2 y1 y2)) := by
  have u := bq_less h1 h3
  have v := bq_less h2 h4
  have c1 := y_less h1 h3 (by decide) (by decide) (by decide) (by decide) (by decide)
  have c2 := y_less h2 h4 (by decide) (by decide) (by decide) (by decide) (by decide)
  have c3 := y_times u u (by decide) (by decide) (by decide)
  have c4 := y_times v v (by decide) (by decide) (by decide)
  have c5 := y_add (bq_times u u) (bq_times v v) (by decide) (by decide) (by decide) (by decide) (by decide)
  simp [m__law_gap, aut, g__law_gap, init0, call_s, lfs, c1, c2, c3, c4, c5, gq]
theorem one_bq {n : Int} (h : -60 ≤ n ∧ n ≤ 60) : Bq 60 12 (n, 1) := by unfold Bq; dsimp only; omega
theorem gq_one (a b c d : Int) : gq (a, 1) (b, 1) (c, 1) (d, 1) = ((a - c) * (a - c) + (b - d) * (b - d), 1) := by
  unfold gq gap
  simp [mk_one]
theorem x_at {a b : DL.Pt} (ha : S5 a) (hb : S5 b) {k : Int} (h0 : 0 ≤ k) (h1 : k ≤ 12) : m__law_at [pt a, pt b, .int k] = .ok (.tup [pt (mk (a.1 * (12 - k) + b.1 * k) 12), pt (mk (a.2 * (12 - k) + b.2 * k) 12)]) := by
  unfold S5 at ha hb
  have m1 := x_made (t := a.1 * (12 - k) + b.1 * k) (b := 12) (by decide) (by decide) (by decide)
  have m2 := x_made (t := a.2 * (12 - k) + b.2 * k) (b := 12) (by decide) (by decide) (by decide)
  have q1 : ∀ {M : Cells} {x : Int}, nMul M (.int a.1) (.int x) = some (.int (a.1 * x)) := nMul_s (by omega) (by omega)
  have q2 : ∀ {M : Cells} {x : Int}, nMul M (.int a.2) (.int x) = some (.int (a.2 * x)) := nMul_s (by omega) (by omega)
  have q3 : ∀ {M : Cells} {x : Int}, nMul M (.int b.1) (.int x) = some (.int (b.1 * x)) := nMul_s (by omega) (by omega)
  have q4 : ∀ {M : Cells} {x : Int}, nMul M (.int b.2) (.int x) = some (.int (b.2 * x)) := nMul_s (by omega) (by omega)
  simp [m__law_at, aut, g__law_at, init0, call_s, lfs, D.lf, q1, q2, q3, q4, m1, m2]
theorem at_b {x y k : Int} (hx : -5 ≤ x ∧ x ≤ 5) (hy : -5 ≤ y ∧ y ≤ 5) (h0 : 0 ≤ k) (h1 : k ≤ 12) : Bq 60 12 (mk (x * (12 - k) + y * k) 12) := by
  have e1 := Int.mul_nonneg (show 0 ≤ 5 - x by omega) (show 0 ≤ 12 - k by omega)
  have e2 := Int.mul_nonneg (show 0 ≤ 5 + x by omega) (show 0 ≤ 12 - k by omega)
  have e3 := Int.mul_nonneg (show 0 ≤ 5 - y by omega) h0
  have e4 := Int.mul_nonneg (show 0 ≤ 5 + y by omega) h0
  exact mk_bq (by decide) (by grind) (by grind) (by decide) (by decide)
/-- no nearer than the part -/
theorem gap_ge {g p : DL.Pt} {N : Int} (hg : 0 < g.2) (h : Vl g N 144) (h2 : p.1 * 144 ≤ N * p.2) : ¬ gap g p < 0 := by
  unfold Vl at h
  unfold gap
  have a1 := Int.mul_le_mul_of_nonneg_right h2 (show 0 ≤ g.2 by omega)
  have a2 := congrArg (fun z => z * p.2) h
  intro z
  grind
end K2

namespace K2
open PySem PySem.Spec L2 DL
open PyProof.Rows hiding St
/-! ### _law_near -/
theorem x_law_near {a b c d : DL.Pt} (ha : S5 a) (hb : S5 b) (hc : S5 c) (hd : S5 d) : m__law_near [pt a, pt b, pt c, pt d, .int (trn a b c), pt (wsq a b c d)] = .ok (.bl true) := by
  have A : ∀ (z : Option D) (y7 y8 y9 y10 : Option D), True := fun _ _ _ _ _ => trivial
  have ob : Bq 40000 200 (nsq a b c) := nsq_bq ha hb hc
  have fb : Bq 40000 200 (wsq a b c d) := by
    unfold wsq
    split
    · unfold Bq; dsimp only; omega
    · exact min4_p (Q := Bq 40000 200) (nsq_bq ha hb hc) (nsq_bq ha hb hd) (nsq_bq hc hd ha) (nsq_bq hc hd hb)
  have bc1 : Bq 60 12 (c.1, 1) := one_bq (by unfold S5 at hc; omega)
  have bc2 : Bq 60 12 (c.2, 1) := one_bq (by unfold S5 at hc; omega)
  have s1 : g__law_near_1 ⟨[some (pt a), some (pt b), some (pt c), some (pt d), some (.int (trn a b c)), some (pt (wsq a b c d)), none, none, none, none, none], []⟩ = .nx ⟨[some (pt a), some (pt b), some (pt c), some (pt d), some (.int (trn a b c)), some (pt (wsq a b c d)), some (pt (nsq a b c)), none, none, none, none], []⟩ := by
    simp [g__law_near_1, call_s, lfs, x_near ha hb hc]
  have go := forL_inv (g := bName 7) (b := fSeq g__law_near_2_1 g__law_near_2_2) (fun dd => ∃ k : Nat, k < 13 ∧ dd = .int (k : Int))
    (fun s => ∃ y7, s = ⟨[some (pt a), some (pt b), some (pt c), some (pt d), some (.int (trn a b c)), some (pt (wsq a b c d)), some (pt (nsq a b c)), y7, none, none, none], []⟩) (fun dd s hdd hs => by
      obtain ⟨k, hk, rfl⟩ := hdd
      obtain ⟨y7, rfl⟩ := hs
      have k0 : (0 : Int) ≤ k := by omega
      have k1 : (k : Int) ≤ 12 := by omega
      have b1 := at_b (x := a.1) (y := b.1) (k := k) (by unfold S5 at ha; omega) (by unfold S5 at hb; omega) k0 k1
      have b2 := at_b (x := a.2) (y := b.2) (k := k) (by unfold S5 at ha; omega) (by unfold S5 at hb; omega) k0 k1
      have b3 := at_b (x := c.1) (y := d.1) (k := 12 - k) (by unfold S5 at hc; omega) (by unfold S5 at hd; omega) (by omega) (by omega)
      have b4 := at_b (x := c.2) (y := d.2) (k := 12 - k) (by unfold S5 at hc; omega) (by unfold S5 at hd; omega) (by omega) (by omega)
      have t1 := x_at ha hb k0 k1
      have t2 := x_at hc hd (k := 12 - k) (by omega) (by omega)
      have g1 := x_gap b1 b2 bc1 bc2
      have g2 := x_gap b1 b2 b3 b4
      have v1 : Vl (mk (a.1 * (12 - (k : Int)) + b.1 * k) 12) (a.1 * (12 - (k : Int)) + b.1 * k) 12 := vl_mk (by decide)
      have v2 : Vl (mk (a.2 * (12 - (k : Int)) + b.2 * k) 12) (a.2 * (12 - (k : Int)) + b.2 * k) 12 := vl_mk (by decide)
      have v3 : Vl (mk (c.1 * (12 - (12 - (k : Int))) + d.1 * (12 - k)) 12) (c.1 * (12 - (12 - (k : Int))) + d.1 * (12 - k)) 12 := vl_mk (by decide)
      have v4 : Vl (mk (c.2 * (12 - (12 - (k : Int))) + d.2 * (12 - k)) 12) (c.2 * (12 - (12 - (k : Int))) + d.2 * (12 - k)) 12 := vl_mk (by decide)
      have w1 : Vl (c.1, 1) (12 * c.1) 12 := by unfold Vl; dsimp only; omega
      have w2 : Vl (c.2, 1) (12 * c.2) 12 := by unfold Vl; dsimp only; omega
      have V1 := gq_v b1 b2 bc1 bc2 v1 v2 w1 w2
      have V2 := gq_v b1 b2 b3 b4 v1 v2 v3 v4
      have B1 := gq_b b1 b2 bc1 bc2
      have B2 := gq_b b1 b2 b3 b4
      have L1 := nsq_le (a := a) (b := b) (c := c) (J := 12) (k := k) (by decide) k0 k1
      have L2 := far_wsq (a := a) (b := b) (c := c) (d := d) (k := k) (l := 12 - k) k0 k1 (by omega) (by omega)
      have n1 : ¬ gap (gq (mk (a.1 * (12 - (k : Int)) + b.1 * k) 12) (mk (a.2 * (12 - (k : Int)) + b.2 * k) 12) (c.1, 1) (c.2, 1)) (nsq a b c) < 0 := by
        refine gap_ge B1.2.2.1 V1 ?_
        have e : nrm (lin 12 k (sub a c) (sub b a)) = (a.1 * (12 - (k : Int)) + b.1 * k - 12 * c.1) * (a.1 * (12 - (k : Int)) + b.1 * k - 12 * c.1) + (a.2 * (12 - (k : Int)) + b.2 * k - 12 * c.2) * (a.2 * (12 - (k : Int)) + b.2 * k - 12 * c.2) := by
          unfold nrm aln lin sub; grind
        rw [← e]
        exact L1
      have n2 : ¬ gap (gq (mk (a.1 * (12 - (k : Int)) + b.1 * k) 12) (mk (a.2 * (12 - (k : Int)) + b.2 * k) 12) (mk (c.1 * (12 - (12 - (k : Int))) + d.1 * (12 - k)) 12) (mk (c.2 * (12 - (12 - (k : Int))) + d.2 * (12 - k)) 12)) (wsq a b c d) < 0 := by
        refine gap_ge B2.2.2.1 V2 ?_
        unfold Far at L2
        have e : nrm (dv a b c d k (12 - k)) = (a.1 * (12 - (k : Int)) + b.1 * k - (c.1 * (12 - (12 - (k : Int))) + d.1 * (12 - k))) * (a.1 * (12 - (k : Int)) + b.1 * k - (c.1 * (12 - (12 - (k : Int))) + d.1 * (12 - k))) + (a.2 * (12 - (k : Int)) + b.2 * k - (c.2 * (12 - (12 - (k : Int))) + d.2 * (12 - k))) * (a.2 * (12 - (k : Int)) + b.2 * k - (c.2 * (12 - (12 - (k : Int))) + d.2 * (12 - k))) := by
          unfold nrm aln dv; grind
        rw [← e]
        exact L2
      have n1' := fun z => n1 (sg_neg.mp z)
      have n2' := fun z => n2 (sg_neg.mp z)
      have o1 := x_order (B1.ok (by decide) (by decide)) (ob.ok (by decide) (by decide))
      have o2 := x_order (B2.ok (by decide) (by decide)) (fb.ok (by decide) (by decide))
      refine ⟨_, rfl, ⟨[some (pt a), some (pt b), some (pt c), some (pt d), some (.int (trn a b c)), some (pt (wsq a b c d)), some (pt (nsq a b c)), some (.int (k : Int)), none, none, none], []⟩, ?_, _, rfl⟩
      have pc1 : D.tup [.int c.1, .int 1] = pt (c.1, 1) := rfl
      have pc2 : D.tup [.int c.2, .int 1] = pt (c.2, 1) := rfl
      have q1 : g__law_near_2_1 ⟨[some (pt a), some (pt b), some (pt c), some (pt d), some (.int (trn a b c)), some (pt (wsq a b c d)), some (pt (nsq a b c)), some (.int (k : Int)), none, none, none], []⟩ = .nx ⟨[some (pt a), some (pt b), some (pt c), some (pt d), some (.int (trn a b c)), some (pt (wsq a b c d)), some (pt (nsq a b c)), some (.int (k : Int)), none, none, none], []⟩ := by
        simp [g__law_near_2_1, call_s, lfs, D.lf, t1, pc1, pc2, g1, o1]
        exact Int.not_lt.mp n1'
      have q2 : g__law_near_2_2 ⟨[some (pt a), some (pt b), some (pt c), some (pt d), some (.int (trn a b c)), some (pt (wsq a b c d)), some (pt (nsq a b c)), some (.int (k : Int)), none, none, none], []⟩ = .nx ⟨[some (pt a), some (pt b), some (pt c), some (pt d), some (.int (trn a b c)), some (pt (wsq a b c d)), some (pt (nsq a b c)), some (.int (k : Int)), none, none, none], []⟩ := by
        simp [g__law_near_2_2, call_s, lfs, D.lf, t1, t2, g2, o2]
        exact Int.not_lt.mp n2'
      show fSeq g__law_near_2_1 g__law_near_2_2 ⟨[some (pt a), some (pt b), some (pt c), some (pt d), some (.int (trn a b c)), some (pt (wsq a b c d)), some (pt (nsq a b c)), some (.int (k : Int)), none, none, none], []⟩ = _
      rw [seq_nx q1, q2])
  obtain ⟨s', e1, y7, rfl⟩ := go (rgList 0 13) ⟨[some (pt a), some (pt b), some (pt c), some (pt d), some (.int (trn a b c)), some (pt (wsq a b c d)), some (pt (nsq a b c)), none, none, none, none], []⟩ (fun dd hdd => by
    obtain ⟨k, hk, rfl⟩ := rg_mem hdd
    exact ⟨k, hk, by congr 1; omega⟩) ⟨_, rfl⟩
  have s2 : g__law_near_2 ⟨[some (pt a), some (pt b), some (pt c), some (pt d), some (.int (trn a b c)), some (pt (wsq a b c d)), some (pt (nsq a b c)), none, none, none, none], []⟩ = .nx ⟨[some (pt a), some (pt b), some (pt c), some (pt d), some (.int (trn a b c)), some (pt (wsq a b c d)), some (pt (nsq a b c)), y7, none, none, none], []⟩ := by
    have r : asRg1 [.int 13] = some (rgList 0 13) := asRg1_s (j := 13) (by decide)
    unfold g__law_near_2
    rw [← e1]
    simp [r]
  have s3 : g__law_near_3 ⟨[some (pt a), some (pt b), some (pt c), some (pt d), some (.int (trn a b c)), some (pt (wsq a b c d)), some (pt (nsq a b c)), y7, none, none, none], []⟩ = .nx ⟨[some (pt a), some (pt b), some (pt c), some (pt d), some (.int (trn a b c)), some (pt (wsq a b c d)), some (pt (nsq a b c)), y7, some (.lst [pt (nrm (sub a c), 1), pt (nrm (sub b c), 1)]), none, none], []⟩ := by
    have e : ∀ x : DL.Pt, S5 x → m__law_gap [.tup [.tup [.int x.1, .int 1], .tup [.int x.2, .int 1]], .tup [.tup [.int c.1, .int 1], .tup [.int c.2, .int 1]]] = .ok (pt (nrm (sub x c), 1)) := fun x hx => by
      have g := x_gap (x1 := (x.1, 1)) (x2 := (x.2, 1)) (one_bq (by unfold S5 at hx; omega)) (one_bq (by unfold S5 at hx; omega)) bc1 bc2
      rw [gq_one] at g
      exact g
    simp [g__law_near_3, fLc, fLcGo, wipeD, fTrue, call_s, lfs, D.lf, e a ha, e b hb]
  have s4 : g__law_near_4 ⟨[some (pt a), some (pt b), some (pt c), some (pt d), some (.int (trn a b c)), some (pt (wsq a b c d)), some (pt (nsq a b c)), y7, some (.lst [pt (nrm (sub a c), 1), pt (nrm (sub b c), 1)]), none, none], []⟩ = .nx ⟨[some (pt a), some (pt b), some (pt c), some (pt d), some (.int (trn a b c)), some (pt (wsq a b c d)), some (pt (nsq a b c)), y7, some (.lst [pt (nrm (sub a c), 1), pt (nrm (sub b c), 1)]), none, some (.int (nrm (sub b a)))], []⟩ := by
    have m1 : -18446744073709551616 < b.1 - a.1 ∧ b.1 - a.1 < 18446744073709551616 := by unfold S5 at *; omega
    have m2 : -18446744073709551616 < b.2 - a.2 ∧ b.2 - a.2 < 18446744073709551616 := by unfold S5 at *; omega
    simp [g__law_near_4, nMul_s m1.1 m1.2, nMul_s m2.1 m2.2, nrm, aln, sub]
  have s5 : g__law_near_5 ⟨[some (pt a), some (pt b), some (pt c), some (pt d), some (.int (trn a b c)), some (pt (wsq a b c d)), some (pt (nsq a b c)), y7, some (.lst [pt (nrm (sub a c), 1), pt (nrm (sub b c), 1)]), none, some (.int (nrm (sub b a)))], []⟩ = .nx ⟨[some (pt a), some (pt b), some (pt c), some (pt d), some (.int (trn a b c)), some (pt (wsq a b c d)), some (pt (nsq a b c)), y7, some (.lst [pt (nrm (sub a c), 1), pt (nrm (sub b c), 1)]), none, some (.int (nrm (sub b a)))], []⟩ := by
    by_cases h1 : (nrm (sub a c), 1) = nsq a b c
    · simp [g__law_near_5, gNotIn_2, h1]
    · by_cases h2 : (nrm (sub b c), 1) = nsq a b c
      · simp [g__law_near_5, gNotIn_2, h2]
      · have w3 := aln_b (hb.s10 ha) (hb.s10 ha)
        have tb := crs_b (hb.s10 ha) (hc.s10 ha)
        have key : nrm (sub b a) ≠ 0 ∧ nsq a b c = mk (trn a b c * trn a b c) (nrm (sub b a)) := by
          unfold nsq at h1 h2 ⊢
          split at h1
          · exact (h1 rfl).elim
          · rename_i z
            rw [if_neg z] at h2
            split at h2
            · exact (h2 rfl).elim
            · exact ⟨fun y => z (.inl y), by rw [if_neg z, if_neg (by assumption)]⟩
        have m := x_made (t := trn a b c * trn a b c) key.1 (by unfold nrm; omega) (by unfold nrm; omega)
        have q : ∀ {M : Cells}, nMul M (.int (trn a b c)) (.int (trn a b c)) = some (.int (trn a b c * trn a b c)) := nMul_s (by unfold trn; omega) (by unfold trn; omega)
        simp [g__law_near_5, gNotIn_2, h1, h2, key.1, q, call_s, lfs, D.lf, m, gNe_ptp, ← key.2]
  show (g__law_near ⟨[some (pt a), some (pt b), some (pt c), some (pt d), some (.int (trn a b c)), some (pt (wsq a b c d)), none, none, none, none, none], []⟩).pu = _
  unfold g__law_near
  rw [seq_nx s1, seq_nx s2, seq_nx s3, seq_nx s4, seq_nx s5]
  simp
end K2

namespace K2
open PySem PySem.Spec L2 DL
open PyProof.Rows hiding St
/-! ### rising -/
def rpl (o : DL.Pt) : List DL.Pt → Nat
  | [] => 0
  | x :: r => if gap x o < 0 then rpl o r + 1 else 0
def ris (o : DL.Pt) (l : List DL.Pt) : List DL.Pt := if l[rpl o l]? = some o then l else l.take (rpl o l) ++ [o] ++ l.drop (rpl o l)
theorem rpl_le (o : DL.Pt) : ∀ l, rpl o l ≤ l.length
  | [] => Nat.le_refl _
  | x :: r => by
    unfold rpl
    have := rpl_le o r
    split <;> simp <;> omega
theorem rpl_lt (o : DL.Pt) : ∀ l (k : Nat), k < rpl o l → ∃ x, l[k]? = some x ∧ gap x o < 0
  | [], k, h => by simp [rpl] at h
  | x :: r, k, h => by
    unfold rpl at h
    split at h
    · rename_i hb
      cases k with
      | zero => exact ⟨x, rfl, hb⟩
      | succ k => exact rpl_lt o r k (by omega)
    · omega
theorem rpl_at (o : DL.Pt) : ∀ l x, l[rpl o l]? = some x → ¬ gap x o < 0
  | [], x, h => by simp at h
  | y :: r, x, h => by
    unfold rpl at h
    split at h
    · exact rpl_at o r x (by simpa using h)
    · rename_i hb
      simp at h
      subst h
      exact hb
theorem rise_while {W : D} {o : DL.Pt} {l : List DL.Pt} (ho : Ok64 o) (hl : ∀ p ∈ l, Ok64 p) : ∀ (n k : Nat), k ≤ rpl o l → rpl o l - k < n →
    g_rising_2_2 n ⟨[some W, some (.loc 0), some (pt o), some (.int k)], [l.map pt]⟩ = .nx ⟨[some W, some (.loc 0), some (pt o), some (.int (rpl o l))], [l.map pt]⟩
  | 0, k, _, h => by omega
  | n + 1, k, h1, h2 => by
    have hp := rpl_le o l
    have cnd : ∀ x, l[k]? = some x → (fAnd (fTst (fOp nLt (fVar 3) (fCB gLen (fCons (fVar 1) fNil)))) (fTst (fOp nLt (fCall m_order (fCons (fOp gIx (fVar 1) (fVar 3)) (fCons (fVar 2) fNil))) (fC (.int 0))))) ⟨[some W, some (.loc 0), some (pt o), some (.int k)], [l.map pt]⟩ = .ok (decide (gap x o < 0)) [l.map pt] := by
      intro x hx
      have hk : k < l.length := (List.getElem?_eq_some_iff.mp hx).1
      have e : atI (l.map pt) (k : Int) = some (pt x) := atI_at (by rw [List.getElem?_map, hx]; rfl)
      have c := x_order (hl x (List.mem_of_getElem? hx)) ho
      by_cases hg : gap x o < 0
      · have hg' := sg_neg.mpr hg
        simp [gLen, seqOf, hk, e, call_s, lfs, c, hg, hg']
      · have hg' : ¬ sg (gap x o) < 0 := fun z => hg (sg_neg.mp z)
        simp [gLen, seqOf, hk, e, call_s, lfs, c, hg, hg']
    unfold g_rising_2_2 fWhile
    by_cases hk : k < rpl o l
    · obtain ⟨x, hx, hb⟩ := rpl_lt o l k hk
      rw [cnd x hx, decide_eq_true hb]
      have ih := rise_while (W := W) ho hl n (k + 1) (by omega) (by omega)
      have st : g_rising_2_2_1 ⟨[some W, some (.loc 0), some (pt o), some (.int (k : Int))], [l.map pt]⟩ = .nx ⟨[some W, some (.loc 0), some (pt o), some (.int ((k + 1 : Nat) : Int))], [l.map pt]⟩ :=
        fAug_s (d := .int k) (e := .int 1) (z := .int ((k + 1 : Nat) : Int)) (M := [l.map pt]) rfl rfl (by simp)
      simp only [toS_ok, if_true, st]
      exact ih
    · have ek : k = rpl o l := by omega
      subst ek
      cases hx : l[rpl o l]? with
      | some x => rw [cnd x hx, decide_eq_false (rpl_at o l x hx)]; rfl
      | none =>
        have hlen : ¬ rpl o l < l.length := fun z => by rw [List.getElem?_eq_getElem z] at hx; cases hx
        simp [gLen, seqOf, hlen]
def rises : List DL.Pt → List DL.Pt → List DL.Pt
  | [], f => f
  | w :: ws, f => rises ws (ris w f)
theorem ris_mem {o : DL.Pt} {l : List DL.Pt} : ∀ p ∈ ris o l, p = o ∨ p ∈ l := by
  intro p hp
  unfold ris at hp
  split at hp
  · exact .inr hp
  · rcases List.mem_append.mp hp with z | z
    · rcases List.mem_append.mp z with z | z
      · exact .inr (List.mem_of_mem_take z)
      · exact .inl (by simpa using z)
    · exact .inr (List.mem_of_mem_drop z)
theorem ris_len {o : DL.Pt} {l : List DL.Pt} : (ris o l).length ≤ l.length + 1 := by
  unfold ris
  split
  · omega
  · simp; omega
theorem rise_loop {W : D} {n : Nat} (hn : 1000 ≤ n) : ∀ (ws f : List DL.Pt) (x y : Option D), (∀ p ∈ ws, Ok64 p) → (∀ p ∈ f, Ok64 p) → ws.length + f.length ≤ 500 →
    ∃ x' y', fForL (bName 2) (fSeq g_rising_2_1 (fSeq (g_rising_2_2 n) g_rising_2_3)) (ws.map pt) ⟨[some W, some (.loc 0), x, y], [f.map pt]⟩ = .nx ⟨[some W, some (.loc 0), x', y'], [(rises ws f).map pt]⟩
  | [], f, x, y, _, _, _ => ⟨x, y, by simp [rises]⟩
  | w :: ws, f, x, y, hw, hf, hl => by
    have hw' : ∀ p ∈ ws, Ok64 p := fun p hp => hw p (List.mem_cons_of_mem _ hp)
    have hp := rpl_le w f
    have wk := rise_while (W := W) (hw w List.mem_cons_self) hf n 0 (Nat.zero_le _) (by simp at hl; omega)
    have a1 : g_rising_2_1 ⟨[some W, some (.loc 0), some (pt w), y], [f.map pt]⟩ = .nx ⟨[some W, some (.loc 0), some (pt w), some (.int ((0 : Nat) : Int))], [f.map pt]⟩ := by simp [g_rising_2_1]
    have b1 : f.length < 100000 := by simp at hl; omega
    have b3 : (rpl w f : Int) ≤ 100000 := by omega
    have a2 : g_rising_2_3 ⟨[some W, some (.loc 0), some (pt w), some (.int (rpl w f))], [f.map pt]⟩ = .nx ⟨[some W, some (.loc 0), some (pt w), some (.int (rpl w f))], [(ris w f).map pt]⟩ := by
      have ins : g_rising_2_3_1 ⟨[some W, some (.loc 0), some (pt w), some (.int (rpl w f))], [f.map pt]⟩ = .nx ⟨[some W, some (.loc 0), some (pt w), some (.int (rpl w f))], [(f.take (rpl w f) ++ [w] ++ f.drop (rpl w f)).map pt]⟩ := by
        simp [g_rising_2_3_1, fMt, isLst, gInsert, b1, b3]
      by_cases hlen : rpl w f = f.length
      · have no : ¬ f[rpl w f]? = some w := by rw [hlen]; simp
        unfold ris
        rw [if_neg no, ← ins]
        simp [g_rising_2_3, gLen, seqOf, hlen]
      · have hlt : rpl w f < f.length := by omega
        have e : atI (f.map pt) (rpl w f : Int) = some (pt f[rpl w f]) := atI_at (by rw [List.getElem?_map, List.getElem?_eq_getElem hlt]; rfl)
        have ne : ¬ (rpl w f : Int) = (f.length : Int) := by omega
        unfold ris
        rw [List.getElem?_eq_getElem hlt]
        by_cases hq : f[rpl w f] = w
        · rw [if_pos (by rw [hq])]
          simp [g_rising_2_3, gLen, seqOf, ne, e, gNe_ptp, hq]
        · rw [if_neg (fun z => hq (Option.some.inj z)), ← ins]
          simp [g_rising_2_3, gLen, seqOf, ne, e, gNe_ptp, hq]
    rw [List.map_cons, fForL, bName_s]
    simp only [List.set]
    rw [seq_nx a1, seq_nx wk, a2]
    dsimp only
    refine rise_loop hn ws (ris w f) _ _ hw' (fun p hp => ?_) ?_
    · rcases ris_mem p hp with z | z
      · rw [z]; exact hw w List.mem_cons_self
      · exact hf p z
    · have := ris_len (o := w) (l := f)
      simp at hl
      omega
theorem lf_pts : ∀ ps : List DL.Pt, lfs (ps.map pt) = true
  | [] => rfl
  | p :: r => by
    show lfs (pt p :: r.map pt) = true
    unfold lfs; rw [lf_pts r]; rfl
theorem ns_pts : ∀ ps : List DL.Pt, noscrs (ps.map pt) = true
  | [] => rfl
  | p :: r => by
    show noscrs (pt p :: r.map pt) = true
    unfold noscrs; rw [ns_pts r]; rfl
theorem x_rising {ws : List DL.Pt} (h : ∀ p ∈ ws, Ok64 p) (hl : ws.length ≤ 500) : m_rising [.lst (ws.map pt)] = .ok (.tup ((rises ws []).map pt)) := by
  obtain ⟨x', y', e⟩ := rise_loop (W := .lst (ws.map pt)) (n := fuelOf [.lst (ws.map pt)]) (by unfold fuelOf; omega) ws [] none none h (fun _ z => by cases z) (by simpa using hl)
  have hfz : ∀ ps : List DL.Pt, fzs [ps.map pt] 0 (ps.map pt) = some (ps.map pt) := fun ps => fzs_lf (lf_pts ps) (ns_pts ps)
  have a1 : g_rising_1 ⟨[some (.lst (ws.map pt)), none, none, none], []⟩ = .nx ⟨[some (.lst (ws.map pt)), some (.loc 0), none, none], [List.map pt []]⟩ := by
    simp [g_rising_1]
  have a2 : g_rising_2 (fuelOf [.lst (ws.map pt)]) ⟨[some (.lst (ws.map pt)), some (.loc 0), none, none], [List.map pt []]⟩ = .nx ⟨[some (.lst (ws.map pt)), some (.loc 0), x', y'], [(rises ws []).map pt]⟩ := by
    unfold g_rising_2
    simp only [fFor_s, fIt_s, fVar_s, ce0, bind_ok, asLst_s, opt_some, toS_ok]
    exact e
  show (g_rising (fuelOf [.lst (ws.map pt)]) ⟨[some (.lst (ws.map pt)), none, none, none], []⟩).pu = _
  unfold g_rising
  rw [seq_nx a1, seq_nx a2]
  simp [gTupOf, seqOf, hfz]
theorem rises_eq {x y : DL.Pt} (hx : Rd x) (hy : Rd y) : rises [y, x, y] [] = rises [x, y] [] := by
  have g0 : ∀ p : DL.Pt, ¬ gap p p < 0 := fun p => by unfold gap; omega
  have gs : gap y x = - gap x y := by unfold gap; omega
  rcases Int.lt_trichotomy (gap x y) 0 with h | h | h
  · have h1 : ¬ gap y x < 0 := by omega
    have ne : y ≠ x := fun z => by rw [z] at h; exact g0 x h
    simp [rises, ris, rpl, g0, h, h1, ne]
  · have e : x = y := rd_uniq hx hy (by unfold gap at h; omega)
    subst e
    simp [rises, ris, rpl, g0]
  · have h1 : gap y x < 0 := by omega
    have h2 : ¬ gap x y < 0 := by omega
    have ne : x ≠ y := fun z => by rw [z] at h; unfold gap at h; omega
    simp [rises, ris, rpl, g0, h1, h2, ne]
/-! ### _law_parts -/
theorem sg_mk {t b : Int} (hb : 0 < b) : sg (mk t b).1 = sg t := by
  obtain ⟨r, e⟩ := mk_rd (t := t) (show b ≠ 0 by omega)
  have p := r.1
  generalize mk t b = m at *
  have k1 : 0 < m.1 ↔ 0 < t := by
    constructor
    · intro z
      have := Int.mul_pos z hb
      rcases Int.lt_or_le 0 t with y | y
      · exact y
      · have := Int.mul_nonneg (show 0 ≤ -t by omega) (show 0 ≤ m.2 by omega)
        grind
    · intro z
      have := Int.mul_pos z p
      rcases Int.lt_or_le 0 m.1 with y | y
      · exact y
      · have := Int.mul_nonneg (show 0 ≤ -m.1 by omega) (show 0 ≤ b by omega)
        grind
  have k2 : m.1 < 0 ↔ t < 0 := by
    constructor
    · intro z
      have := Int.mul_neg_of_neg_of_pos z hb
      rcases Int.lt_or_le t 0 with y | y
      · exact y
      · have := Int.mul_nonneg y (show 0 ≤ m.2 by omega)
        grind
    · intro z
      have := Int.mul_neg_of_neg_of_pos z p
      rcases Int.lt_or_le m.1 0 with y | y
      · exact y
      · have := Int.mul_nonneg y (show 0 ≤ b by omega)
        grind
  unfold sg
  simp only [k1, k2]
section
variable {x y : DL.Pt} {L : D} {M : Cells} (bx : Bq 10 6 x) (by' : Bq 10 6 y) (rx : Rd x) (ry : Rd y)
include bx by' rx ry
theorem pr2 : g__law_parts_2 ⟨[some L, some (pt x), some (pt y)], M⟩ = .nx ⟨[some L, some (pt x), some (pt y)], M⟩ := by
  have ox := bx.ok (by decide) (by decide)
  have oy := by'.ok (by decide) (by decide)
  have x2 := bx.2.2.1
  have x3 := bx.2.2.2
  have f1 := x_floor (p := x) x2 (by omega)
  have f2 := x_floor (p := (-x.1, x.2)) x2 (by dsimp only; omega)
  have f2 : m_floor [.tup [.int (-x.1), .int x.2]] = .ok (.int (-x.1 / x.2)) := f2
  have c1 := x_ceiling (p := x) x2 (by omega)
  have l1 := x_least ox oy
  have q : ∀ {M : Cells} {z : Int}, nMul M (.int z) (.int x.2) = some (.int (z * x.2)) := nMul_r (by omega) (by omega)
  have n1 : ¬ x.1 < x.1 / x.2 * x.2 := by
    have := Int.ediv_mul_le x.1 (show x.2 ≠ 0 by omega)
    omega
  have e0 : 0 - x.1 = -x.1 := by omega
  by_cases h : gap y x < 0
  · simp [g__law_parts_2, call_s, lfs, D.lf, f1, q, n1, c1, f2, l1, h, gNotIn_2]
  · simp [g__law_parts_2, call_s, lfs, D.lf, f1, q, n1, c1, f2, l1, h, gNotIn_2]
theorem pr3 : g__law_parts_3 ⟨[some L, some (pt x), some (pt y)], M⟩ = .nx ⟨[some L, some (pt x), some (pt y)], M⟩ := by
  have ox := bx.ok (by decide) (by decide)
  have oy := by'.ok (by decide) (by decide)
  have gs : gap y x = - gap x y := by unfold gap; omega
  have r1 := x_rising (ws := [y, x, y]) (fun p hp => by simp at hp; rcases hp with z | z | z <;> rw [z] <;> assumption) (by simp)
  have r2 := x_rising (ws := [x, y]) (fun p hp => by simp at hp; rcases hp with z | z <;> rw [z] <;> assumption) (by simp)
  rw [rises_eq rx ry] at r1
  have r1 : m_rising [.lst [pt y, pt x, pt y]] = _ := r1
  have r2 : m_rising [.lst [pt x, pt y]] = _ := r2
  have n3 : ∀ l : List DL.Pt, gNe M (.tup (l.map pt)) (.tup (l.map pt)) = some (.bl false) := fun l => gNe_self (by unfold D.cmp; exact pts_cmp l)
  have l1 := x_least ox oy
  have l2 := x_greatest ox oy
  have o : ∀ p q : DL.Pt, Ok64 p → Ok64 q → ¬ 0 < gap p q → m_order [pt p, pt q] = .ok (.int (sg (gap p q))) ∧ ¬ 0 < sg (gap p q) := fun p q hp hq h => ⟨x_order hp hq, fun z => h (sg_pos.mp z)⟩
  by_cases h : gap y x < 0
  · have h2 : ¬ 0 < gap y x := by omega
    obtain ⟨o1, o2⟩ := o y x oy ox h2
    simp [g__law_parts_3, call_s, lfs, D.lf, l1, l2, h, h2, o1, o2, r1, r2, n3]
  · by_cases h2 : 0 < gap y x
    · obtain ⟨o1, o2⟩ := o x y ox oy (by omega)
      simp [g__law_parts_3, call_s, lfs, D.lf, l1, l2, h, h2, o1, o2, r1, r2, n3]
    · obtain ⟨o1, o2⟩ := o x x ox ox (by unfold gap; omega)
      simp [g__law_parts_3, call_s, lfs, D.lf, l1, l2, h, h2, o1, o2, r1, r2, n3]
theorem pr4 : g__law_parts_4 ⟨[some L, some (pt x), some (pt y)], M⟩ = .nx ⟨[some L, some (pt x), some (pt y)], M⟩ := by
  have ox := bx.ok (by decide) (by decide)
  have oy := by'.ok (by decide) (by decide)
  have bl := bq_less bx by'
  have c1 := y_less bx by' (by decide) (by decide) (by decide) (by decide) (by decide)
  have c2 := y_add bl by' (by decide) (by decide) (by decide) (by decide) (by decide)
  have pp := bx.mulB by'
  have or1 := x_order ox oy
  have s1 : sg (mk (gap x y) (x.2 * y.2)).1 = sg (gap x y) := sg_mk pp.1
  have e2 : mk ((mk (gap x y) (x.2 * y.2)).1 * y.2 + y.1 * (mk (gap x y) (x.2 * y.2)).2) ((mk (gap x y) (x.2 * y.2)).2 * y.2) = x := by
    have v := vl_mk (t := gap x y) (show x.2 * y.2 ≠ 0 by omega)
    have pl := bl.2.2.1
    unfold Vl gap at v
    unfold gap at pl ⊢
    generalize mk (x.1 * y.2 - y.1 * x.2) (x.2 * y.2) = l at *
    rw [← mk_self rx]
    have q1 : l.2 * y.2 ≠ 0 := by have := Int.mul_pos pl by'.2.2.1; omega
    have q2 : x.2 ≠ 0 := by have := bx.2.2.1; omega
    rw [mk_self rx]
    refine (mk_eq (t' := x.1) (b' := x.2) q1 q2 ?_).trans (mk_self rx)
    grind
  by_cases h : y.1 = 0
  · have e2' : mk ((mk (gap x y) (x.2 * y.2)).1 * y.2) ((mk (gap x y) (x.2 * y.2)).2 * y.2) = x := by simpa [h] using e2
    simp [g__law_parts_4, call_s, lfs, D.lf, h, c1, x_sign, s1, or1, c2, e2', gNe_ptp]
  · have xy : x.2 * y.1 ≠ 0 := fun z => by
      rcases Int.mul_eq_zero.mp z with z | z
      · have := bx.2.2.1; omega
      · exact h z
    have mb := mul_b (x := x.2) (y := y.1) (A := 6) (B := 10) (by have := bx.2.2; omega) (by have := by'; unfold Bq at this; omega)
    have mb2 := mul_b (x := x.1) (y := y.2) (A := 10) (B := 6) (by have := bx; unfold Bq at this; omega) (by have := by'; unfold Bq at this; omega)
    have c3 := x_over ox (q := y) xy (by omega) (by omega)
    have bo : Bq 60 60 (mk (x.1 * y.2) (x.2 * y.1)) := mk_bq xy (by omega) (by omega) (by omega) (by omega)
    have c4 := y_times bo by' (by decide) (by decide) (by decide)
    have e4 : mk ((mk (x.1 * y.2) (x.2 * y.1)).1 * y.1) ((mk (x.1 * y.2) (x.2 * y.1)).2 * y.2) = x := by
      have v := vl_mk (t := x.1 * y.2) xy
      have pl := bo.2.2.1
      unfold Vl at v
      generalize mk (x.1 * y.2) (x.2 * y.1) = l at *
      have q1 : l.2 * y.2 ≠ 0 := by have := Int.mul_pos pl by'.2.2.1; omega
      have q2 : x.2 ≠ 0 := by have := bx.2.2.1; omega
      refine (mk_eq (t' := x.1) (b' := x.2) q1 q2 ?_).trans (mk_self rx)
      grind
    simp [g__law_parts_4, call_s, lfs, D.lf, h, c1, x_sign, s1, or1, c2, e2, gNe_ptp, c3, c4, e4]
end
end K2

namespace K2
open PySem PySem.Spec L2 DL
open PyProof.Rows hiding St
theorem x_law_parts {a b c : Int} : ∃ x y z, m__law_parts [.loc 0] [Tri a b c] = .ok (.bl true) [Tri x y z] := by
  obtain ⟨r1, x1, y1, z1, e1, b1, b2⟩ := roll_ok (a := a) (b := b) (c := c) (many := 21) (by decide) (by decide)
  obtain ⟨r2, x2, y2, z2, e2, b3, b4⟩ := roll_ok (a := x1) (b := y1) (c := z1) (many := 6) (by decide) (by decide)
  obtain ⟨r3, x3, y3, z3, e3, b5, b6⟩ := roll_ok (a := x2) (b := y2) (c := z2) (many := 21) (by decide) (by decide)
  obtain ⟨r4, x4, y4, z4, e4, b7, b8⟩ := roll_ok (a := x3) (b := y3) (c := z3) (many := 6) (by decide) (by decide)
  refine ⟨x4, y4, z4, ?_⟩
  have d1 : fCallM m__law_roll (fCons (fVar 0) (fCons (fC (.int 21)) fNil)) ⟨[some (.loc 0), none, none], [Tri a b c]⟩ = .ok (.int r1) [Tri x1 y1 z1] := callM_at (n := 0) (M := [Tri a b c]) (rest := [.int 21]) (by simp) rfl rfl rfl rfl rfl e1
  have d2 : fCallM m__law_roll (fCons (fVar 0) (fCons (fC (.int 6)) fNil)) ⟨[some (.loc 0), none, none], [Tri x1 y1 z1]⟩ = .ok (.int r2) [Tri x2 y2 z2] := callM_at (n := 0) (M := [Tri x1 y1 z1]) (rest := [.int 6]) (by simp) rfl rfl rfl rfl rfl e2
  have d3 : fCallM m__law_roll (fCons (fVar 0) (fCons (fC (.int 21)) fNil)) ⟨[some (.loc 0), none, none], [Tri x2 y2 z2]⟩ = .ok (.int r3) [Tri x3 y3 z3] := callM_at (n := 0) (M := [Tri x2 y2 z2]) (rest := [.int 21]) (by simp) rfl rfl rfl rfl rfl e3
  have d4 : fCallM m__law_roll (fCons (fVar 0) (fCons (fC (.int 6)) fNil)) ⟨[some (.loc 0), none, none], [Tri x3 y3 z3]⟩ = .ok (.int r4) [Tri x4 y4 z4] := callM_at (n := 0) (M := [Tri x3 y3 z3]) (rest := [.int 6]) (by simp) rfl rfl rfl rfl rfl e4
  have m1 := x_made (t := r1 - 10) (b := 1 + r2) (by omega) (by omega) (by omega)
  have m2 := x_made (t := r3 - 10) (b := 1 + r4) (by omega) (by omega) (by omega)
  have q1 : Bq 10 6 (mk (r1 - 10) (1 + r2)) := mk_bq (by omega) (by omega) (by omega) (by omega) (by omega)
  have q2 : Bq 10 6 (mk (r3 - 10) (1 + r4)) := mk_bq (by omega) (by omega) (by omega) (by omega) (by omega)
  have k1 := (mk_rd (t := r1 - 10) (show 1 + r2 ≠ 0 by omega)).1
  have k2 := (mk_rd (t := r3 - 10) (show 1 + r4 ≠ 0 by omega)).1
  have s1 : g__law_parts_1 ⟨[some (.loc 0), none, none], [Tri a b c]⟩ = .nx ⟨[some (.loc 0), some (pt (mk (r1 - 10) (1 + r2))), some (pt (mk (r3 - 10) (1 + r4)))], [Tri x4 y4 z4]⟩ := by
    simp [g__law_parts_1, d1, d2, d3, d4, call_s, lfs, D.lf, m1, m2]
  show RS.out 1 (g__law_parts ⟨[some (.loc 0), none, none], [Tri a b c]⟩) = _
  unfold g__law_parts
  rw [seq_nx s1, seq_nx (pr2 q1 q2 k1 k2), seq_nx (pr3 q1 q2 k1 k2), seq_nx (pr4 q1 q2 k1 k2)]
  simp [RS.out, cutM, lfs, D.lf]
/-! ### the law's own lines -/
theorem lcGo_ones {g : D → Sx → Option Sx} {t : Sx → R Bool} {e : Sx → R D} {ρ : List (Option D)} {M : Cells} (pd : D → Bool) : ∀ l : List D, (∀ d ∈ l, ∃ ρ1, g d ⟨ρ, M⟩ = some ⟨ρ1, M⟩ ∧ t ⟨ρ1, M⟩ = .ok (pd d) M ∧ e ⟨ρ1, M⟩ = .ok (.int 1) M) → fLcGo g t e ρ l M = .ok ((l.filter pd).map fun _ => .int 1) M
  | [], _ => by simp [fLcGo]
  | d :: l, h => by
    obtain ⟨ρ1, e1, e2, e3⟩ := h d List.mem_cons_self
    have ih := lcGo_ones pd l fun x hx => h x (List.mem_cons_of_mem _ hx)
    rw [fLcGo, e1]
    simp only [e2]
    cases hp : pd d with
    | true =>
      rw [if_pos rfl]
      simp only [e3, ih]
      simp [hp]
    | false =>
      rw [if_neg (by simp), ih, List.filter_cons_of_neg (by simp [hp])]
theorem btw (p q r : Int) : (p - r) * (q - r) ≤ 0 ↔ (if q < p then q else p) ≤ r ∧ r ≤ (if p < q then q else p) := by
  constructor
  · intro h
    by_cases h1 : p < r
    · by_cases h2 : q < r
      · have := Int.mul_pos_of_neg_of_neg (show p - r < 0 by omega) (show q - r < 0 by omega)
        omega
      · split <;> split <;> omega
    · by_cases h2 : r < p
      · by_cases h3 : r < q
        · have := Int.mul_pos (show 0 < p - r by omega) (show 0 < q - r by omega)
          omega
        · split <;> split <;> omega
      · split <;> split <;> omega
  · rintro ⟨ha, hb⟩
    by_cases h0 : p = r
    · subst h0; simp
    · by_cases h1 : p < r
      · have h2 : r ≤ q := by split at hb <;> omega
        exact Int.mul_nonpos_of_nonpos_of_nonneg (by omega) (by omega)
      · have h2 : q ≤ r := by split at ha <;> omega
        exact Int.mul_nonpos_of_nonneg_of_nonpos (by omega) (by omega)
theorem btn_box (a b c : DL.Pt) : btn a b c = (decide (trn a b c = 0) && (decide ((if b.1 < a.1 then b.1 else a.1) ≤ c.1) && decide (c.1 ≤ if a.1 < b.1 then b.1 else a.1)) && (decide ((if b.2 < a.2 then b.2 else a.2) ≤ c.2) && decide (c.2 ≤ if a.2 < b.2 then b.2 else a.2))) := by
  unfold btn
  by_cases h0 : trn a b c = 0
  · have k : ((a.1 - c.1) * (b.1 - c.1)) * ((a.2 - c.2) * (b.2 - c.2)) = ((a.1 - c.1) * (b.2 - c.2)) * ((a.1 - c.1) * (b.2 - c.2)) := by
      have q : (a.1 - c.1) * (b.2 - c.2) = (a.2 - c.2) * (b.1 - c.1) := by unfold trn crs sub at h0; dsimp only at h0; grind
      grind
    have sq := sq_nn ((a.1 - c.1) * (b.2 - c.2))
    rw [← k] at sq
    have b1 := btw a.1 b.1 c.1
    have b2 := btw a.2 b.2 c.2
    rw [decide_eq_true h0, Bool.true_and, Bool.true_and, Bool.eq_iff_iff]
    simp only [Bool.and_eq_true, decide_eq_true_eq]
    rw [← b1, ← b2]
    unfold aln sub
    dsimp only
    generalize (a.1 - c.1) * (b.1 - c.1) = x at *
    generalize (a.2 - c.2) * (b.2 - c.2) = y at *
    constructor
    · intro z
      refine ⟨Int.not_lt.mp fun hx => ?_, Int.not_lt.mp fun hy => ?_⟩
      · have := Int.mul_neg_of_pos_of_neg hx (show y < 0 by omega)
        omega
      · have := Int.mul_neg_of_neg_of_pos (show x < 0 by omega) hy
        omega
    · intro z
      omega
  · simp [h0]
abbrev Lw (x0 x1 : Option D) (a b c d : DL.Pt) (r : List (Option D)) : List (Option D) := x0 :: x1 :: some (pt a) :: some (pt b) :: some (pt c) :: some (pt d) :: r
def ons (a b c d : DL.Pt) : List D := ([(btn a b c), (btn a b d), (btn c d a), (btn c d b)].filter id).map fun _ => .int 1
theorem lt_turn {a b c : DL.Pt} (ha : S5 a) (hb : S5 b) : m__law_turn [pt a, pt b, pt c] = .ok (.int (trn a b c)) := by
  have m1 : -18446744073709551616 < b.1 - a.1 ∧ b.1 - a.1 < 18446744073709551616 := by unfold S5 at *; omega
  have m2 : -18446744073709551616 < b.2 - a.2 ∧ b.2 - a.2 < 18446744073709551616 := by unfold S5 at *; omega
  simp [m__law_turn, aut, g__law_turn, init0, nMul_s m1.1 m1.2, nMul_s m2.1 m2.2, trn, crs, sub]
/-- the test on one of four -/
abbrev cT : Sx → R Bool := (fAnd (fTst (fOp gEq (fVar 16) (fC (.int 0)))) (fAnd (fTst (fChain nLe nLe (fCB gMin2 (fCons (fOp gIx (fVar 13) (fC (.int 0))) (fCons (fOp gIx (fVar 14) (fC (.int 0))) fNil))) (fOp gIx (fVar 15) (fC (.int 0))) (fCB gMax2 (fCons (fOp gIx (fVar 13) (fC (.int 0))) (fCons (fOp gIx (fVar 14) (fC (.int 0))) fNil))))) (fTst (fChain nLe nLe (fCB gMin2 (fCons (fOp gIx (fVar 13) (fC (.int 1))) (fCons (fOp gIx (fVar 14) (fC (.int 1))) fNil))) (fOp gIx (fVar 15) (fC (.int 1))) (fCB gMax2 (fCons (fOp gIx (fVar 13) (fC (.int 1))) (fCons (fOp gIx (fVar 14) (fC (.int 1))) fNil)))))))
theorem cT_ok {y0 y1 y2 y3 y4 y5 y6 y7 y8 y9 y10 y11 y12 y17 y18 y19 : Option D} {M : Cells} {a b c : DL.Pt} : cT ⟨[y0, y1, y2, y3, y4, y5, y6, y7, y8, y9, y10, y11, y12, some (pt a), some (pt b), some (pt c), some (.int (trn a b c)), y17, y18, y19], M⟩ = .ok (btn a b c) M := by
  rw [btn_box]
  by_cases h1 : trn a b c = 0
  · by_cases h2 : (if b.1 < a.1 then b.1 else a.1) ≤ c.1
    · by_cases h3 : c.1 ≤ if a.1 < b.1 then b.1 else a.1
      · by_cases h4 : (if b.2 < a.2 then b.2 else a.2) ≤ c.2
        · simp [gMin2, gMax2, h1, h2, h3, h4]
        · simp [gMin2, gMax2, h1, h2, h3, h4]
      · simp [gMin2, gMax2, h1, h2, h3]
    · simp [gMin2, gMax2, h1, h2]
  · simp [h1]
section
variable {x0 x1 x6 x7 x8 x9 x10 x11 x12 x13 x14 x15 x16 x17 x18 x19 : Option D} {M : Cells} {a b c d : DL.Pt} (ha : S5 a) (hb : S5 b) (hc : S5 c) (hd : S5 d)
include ha hb hc hd
theorem st2 : g_law_1_2 ⟨Lw x0 x1 a b c d [x6, x7, x8, x9, x10, x11, x12, x13, x14, x15, x16, x17, x18, x19], M⟩ =
    .nx ⟨Lw x0 x1 a b c d [x6, some (.int (trn a b c)), some (.int (trn a b d)), some (.int (trn c d a)), some (.int (trn c d b)), x11, x12, x13, x14, x15, x16, x17, x18, x19], M⟩ := by
  simp [g_law_1_2, call_s, lfs, lt_turn ha hb, lt_turn hc hd, bTup, bCons, bNil]
theorem st3 : g_law_1_3 ⟨Lw x0 x1 a b c d [x6, some (.int (trn a b c)), some (.int (trn a b d)), some (.int (trn c d a)), some (.int (trn c d b)), x11, x12, x13, x14, x15, x16, x17, x18, x19], M⟩ =
    .nx ⟨Lw x0 x1 a b c d [x6, some (.int (trn a b c)), some (.int (trn a b d)), some (.int (trn c d a)), some (.int (trn c d b)), some (.bl (crb a b c d)), x12, x13, x14, x15, x16, x17, x18, x19], M⟩ := by
  have t1 := crs_b (hb.s10 ha) (hc.s10 ha)
  have t2 := crs_b (hd.s10 hc) (ha.s10 hc)
  have q1 : ∀ {M : Cells} {z : Int}, nMul M (.int (trn a b c)) (.int z) = some (.int (trn a b c * z)) := nMul_s (by unfold trn; omega) (by unfold trn; omega)
  have q2 : ∀ {M : Cells} {z : Int}, nMul M (.int (trn c d a)) (.int z) = some (.int (trn c d a * z)) := nMul_s (by unfold trn; omega) (by unfold trn; omega)
  unfold crb
  simp only [sg_mul]
  by_cases h : trn a b c * trn a b d < 0
  · simp [g_law_1_3, fAndV, q1, q2, h]
  · simp [g_law_1_3, fAndV, q1, h]
omit ha hb hc hd in
theorem st4 : g_law_1_4 ⟨Lw x0 x1 a b c d [x6, some (.int (trn a b c)), some (.int (trn a b d)), some (.int (trn c d a)), some (.int (trn c d b)), x11, x12, x13, x14, x15, x16, x17, x18, x19], M⟩ =
    .nx ⟨Lw x0 x1 a b c d [x6, some (.int (trn a b c)), some (.int (trn a b d)), some (.int (trn c d a)), some (.int (trn c d b)), x11, some (.lst (ons a b c d)), x13, x14, x15, x16, x17, x18, x19], M⟩ := by
  have w : wipeD (Lw x0 x1 a b c d [x6, some (.int (trn a b c)), some (.int (trn a b d)), some (.int (trn c d a)), some (.int (trn c d b)), x11, x12, x13, x14, x15, x16, x17, x18, x19]) [13, 14, 15, 16] = Lw x0 x1 a b c d [x6, some (.int (trn a b c)), some (.int (trn a b d)), some (.int (trn c d a)), some (.int (trn c d b)), x11, x12, none, none, none, none, x17, x18, x19] := rfl
  have go : ∀ p q r : DL.Pt, ∀ l : List D, ∀ ys : List D, fLcGo (bTup 4 (bCons (bName 13) (bCons (bName 14) (bCons (bName 15) (bCons (bName 16) bNil))))) cT (fC (.int 1)) (Lw x0 x1 a b c d [x6, some (.int (trn a b c)), some (.int (trn a b d)), some (.int (trn c d a)), some (.int (trn c d b)), x11, x12, none, none, none, none, x17, x18, x19]) l M = .ok ys M →
      fLcGo (bTup 4 (bCons (bName 13) (bCons (bName 14) (bCons (bName 15) (bCons (bName 16) bNil))))) cT (fC (.int 1)) (Lw x0 x1 a b c d [x6, some (.int (trn a b c)), some (.int (trn a b d)), some (.int (trn c d a)), some (.int (trn c d b)), x11, x12, none, none, none, none, x17, x18, x19]) (.tup [pt p, pt q, pt r, .int (trn p q r)] :: l) M = .ok (if btn p q r = true then .int 1 :: ys else ys) M := by
    intro p q r l ys h
    rw [fLcGo]
    have g : bTup 4 (bCons (bName 13) (bCons (bName 14) (bCons (bName 15) (bCons (bName 16) bNil)))) (.tup [pt p, pt q, pt r, .int (trn p q r)]) ⟨Lw x0 x1 a b c d [x6, some (.int (trn a b c)), some (.int (trn a b d)), some (.int (trn c d a)), some (.int (trn c d b)), x11, x12, none, none, none, none, x17, x18, x19], M⟩ = some ⟨Lw x0 x1 a b c d [x6, some (.int (trn a b c)), some (.int (trn a b d)), some (.int (trn c d a)), some (.int (trn c d b)), x11, x12, some (pt p), some (pt q), some (pt r), some (.int (trn p q r)), x17, x18, x19], M⟩ := rfl
    rw [g]
    dsimp only
    rw [cT_ok]
    dsimp only
    cases btn p q r with
    | true => rw [if_pos rfl, if_pos rfl]; simp only [fC_s, h]; rfl
    | false => rw [if_neg (by simp), if_neg (by simp)]; exact h
  have e := go a b c _ _ (go a b d _ _ (go c d a _ _ (go c d b [] [] rfl)))
  have es : (if btn a b c = true then D.int 1 :: (if btn a b d = true then D.int 1 :: (if btn c d a = true then D.int 1 :: (if btn c d b = true then D.int 1 :: [] else []) else (if btn c d b = true then D.int 1 :: [] else [])) else (if btn c d a = true then D.int 1 :: (if btn c d b = true then D.int 1 :: [] else []) else (if btn c d b = true then D.int 1 :: [] else []))) else (if btn a b d = true then D.int 1 :: (if btn c d a = true then D.int 1 :: (if btn c d b = true then D.int 1 :: [] else []) else (if btn c d b = true then D.int 1 :: [] else [])) else (if btn c d a = true then D.int 1 :: (if btn c d b = true then D.int 1 :: [] else []) else (if btn c d b = true then D.int 1 :: [] else [])))) = ons a b c d := by
    unfold ons
    cases btn a b c <;> cases btn a b d <;> cases btn c d a <;> cases btn c d b <;> rfl
  rw [es] at e
  have f : (fLc (fIt asLst (fLst (fCons (fTup (fCons (fVar 2) (fCons (fVar 3) (fCons (fVar 4) (fCons (fVar 7) fNil))))) (fCons (fTup (fCons (fVar 2) (fCons (fVar 3) (fCons (fVar 5) (fCons (fVar 8) fNil))))) (fCons (fTup (fCons (fVar 4) (fCons (fVar 5) (fCons (fVar 2) (fCons (fVar 9) fNil))))) (fCons (fTup (fCons (fVar 4) (fCons (fVar 5) (fCons (fVar 3) (fCons (fVar 10) fNil))))) fNil)))))) (bTup 4 (bCons (bName 13) (bCons (bName 14) (bCons (bName 15) (bCons (bName 16) bNil))))) cT (fC (.int 1)) [13, 14, 15, 16]) ⟨Lw x0 x1 a b c d [x6, some (.int (trn a b c)), some (.int (trn a b d)), some (.int (trn c d a)), some (.int (trn c d b)), x11, x12, x13, x14, x15, x16, x17, x18, x19], M⟩ = .ok (ons a b c d) M := by
    rw [← e, ← w]
    rfl
  unfold g_law_1_4
  rw [fAsg_s, fFz_s]
  have f' := f
  unfold cT at f'
  rw [f']
  rfl
theorem st5 : g_law_1_5 ⟨Lw x0 x1 a b c d [x6, x7, x8, x9, x10, some (.bl (crb a b c d)), some (.lst (ons a b c d)), x13, x14, x15, x16, x17, x18, x19], M⟩ =
    .nx ⟨Lw x0 x1 a b c d [x6, x7, x8, x9, x10, some (.bl (crb a b c d)), some (.lst (ons a b c d)), x13, x14, x15, x16, x17, x18, x19], M⟩ := by
  have e : gNe M (.lst (ons a b c d)) (.lst []) = some (.bl (btn a b c || (btn a b d || (btn c d a || btn c d b)))) := by
    unfold ons
    cases btn a b c <;> cases btn a b d <;> cases btn c d a <;> cases btn c d b <;> first | exact gNe_self (by rfl) | exact gNe_ne (by rfl) (by rfl) (by simp)
  have k := x_crossb ha hb hc hd
  have m := x_meet ha hb hc hd
  unfold mee at m
  cases h : crb a b c d with
  | true => rw [h] at k m; simp [g_law_1_5, fOrV, call_s, lfs, k, m]
  | false =>
    rw [h] at k m
    rw [Bool.false_or] at m
    simp [g_law_1_5, fOrV, call_s, lfs, k, m, e]
theorem st6 : g_law_1_6 ⟨Lw x0 x1 a b c d [x6, x7, x8, x9, x10, x11, x12, x13, x14, x15, x16, x17, x18, x19], M⟩ =
    .nx ⟨Lw x0 x1 a b c d [x6, x7, x8, x9, x10, x11, x12, x13, x14, x15, x16, x17, x18, x19], M⟩ := by
  have m := x_meet ha hb hc hd
  have m2 := x_meet hc hd hb ha
  rw [mee_sym2] at m2
  simp [g_law_1_6, call_s, lfs, m, m2]
def spt (a b c d : DL.Pt) : D := if crs (sub b a) (sub d c) = 0 then .str "no way" else .tup [pt (cr1 a b c d), pt (cr2 a b c d)]
theorem st7 : g_law_1_7 ⟨Lw x0 x1 a b c d [x6, x7, x8, x9, x10, x11, x12, x13, x14, x15, x16, x17, x18, x19], M⟩ =
    .nx ⟨Lw x0 x1 a b c d [x6, x7, x8, x9, x10, x11, x12, x13, x14, x15, x16, some (spt a b c d), x18, x19], M⟩ := by
  have c1 := x_crossing ha hb hc hd
  have t : toldBy hs__law_told "NoWay" = some "no way" := by rfl
  unfold spt
  by_cases h : crs (sub b a) (sub d c) = 0
  · rw [if_pos h] at c1 ⊢
    simp [g_law_1_7, fTold, call_s, lfs, c1, t]
  · rw [if_neg h] at c1 ⊢
    simp [g_law_1_7, fTold, call_s, lfs, c1]
theorem st8 : g_law_1_8 ⟨Lw x0 x1 a b c d [x6, x7, x8, x9, x10, x11, x12, x13, x14, x15, x16, x17, x18, x19], M⟩ =
    .nx ⟨Lw x0 x1 a b c d [x6, x7, x8, x9, x10, x11, x12, x13, x14, x15, x16, x17, some (.int (crs (sub b a) (sub d c))), x19], M⟩ := by
  have m1 : -18446744073709551616 < b.1 - a.1 ∧ b.1 - a.1 < 18446744073709551616 := by unfold S5 at *; omega
  have m2 : -18446744073709551616 < b.2 - a.2 ∧ b.2 - a.2 < 18446744073709551616 := by unfold S5 at *; omega
  simp [g_law_1_8, nMul_s m1.1 m1.2, nMul_s m2.1 m2.2, crs, sub]
end
end K2

namespace K2
open PySem PySem.Spec L2 DL
open PyProof.Rows hiding St
theorem dEq_nw {M : Cells} : dEq M (.str "no way") (.str "no way") = some true := by
  have e := dEq_str (M := M) (x := "no way") (y := "no way") (by decide +kernel) (by decide +kernel)
  exact e.trans (congrArg some (by decide +kernel))
theorem dEq_tw {M : Cells} {p q : DL.Pt} : dEq M (.tup [pt p, pt q]) (.str "no way") = some false := by
  unfold dEq
  have e1 : pyAt M (.tup [pt p, pt q]) = some (.tuple [.tuple [.int p.1, .int p.2], .tuple [.int q.1, .int q.2]]) := rfl
  have e2 : pyAt M (.str "no way") = some (.str "no way") := by unfold pyAt pyOf; rfl
  have s1 : SeqAt.shaped (.tuple [.tuple [.int p.1, .int p.2], .tuple [.int q.1, .int q.2]]) = true := rfl
  have s2 : SeqAt.shaped (.str "no way") = true := by
    have h : PyData.strOk "no way" = true := by decide +kernel
    simp [SeqAt.shaped, PyData.canLay0, PyData.depth, h]
  rw [e1, e2]
  dsimp only
  rw [s1, s2]
  simp [PyData.eqv]
theorem spt_eq {M : Cells} {a b c d : DL.Pt} : gEq M (spt a b c d) (.str "no way") = some (.bl (decide (crs (sub b a) (sub d c) = 0))) ∧ gNe M (spt a b c d) (.str "no way") = some (.bl (!decide (crs (sub b a) (sub d c) = 0))) := by
  unfold spt gEq gNe
  by_cases h : crs (sub b a) (sub d c) = 0
  · rw [if_pos h, dEq_nw]; simp [h]
  · rw [if_neg h, dEq_tw]; simp [h]
section
variable {x0 x1 x6 x7 x8 x9 x10 x11 x12 x13 x14 x15 x16 x17 x18 x19 : Option D} {M : Cells} {a b c d : DL.Pt} (ha : S5 a) (hb : S5 b) (hc : S5 c) (hd : S5 d)
omit ha hb hc hd in
theorem st9 : g_law_1_9 ⟨Lw x0 x1 a b c d [x6, x7, x8, x9, x10, x11, x12, x13, x14, x15, x16, some (spt a b c d), some (.int (crs (sub b a) (sub d c))), x19], M⟩ =
    .nx ⟨Lw x0 x1 a b c d [x6, x7, x8, x9, x10, x11, x12, x13, x14, x15, x16, some (spt a b c d), some (.int (crs (sub b a) (sub d c))), x19], M⟩ := by
  simp [g_law_1_9, spt_eq.1]
include ha hb hc hd
theorem cr_zero (h : crs (sub b a) (sub d c) ≠ 0) {x y : DL.Pt} (hx : S5 x) (hy : S5 y)
    (hz : (a.1 * crs (sub b a) (sub d c) + crs (sub c a) (sub d c) * (sub b a).1 - x.1 * crs (sub b a) (sub d c)) * (y.2 - x.2) - (a.2 * crs (sub b a) (sub d c) + crs (sub c a) (sub d c) * (sub b a).2 - x.2 * crs (sub b a) (sub d c)) * (y.1 - x.1) = 0) :
    g_law_1_10_1_1 ⟨Lw x0 x1 a b c d [x6, x7, x8, x9, x10, x11, x12, some (pt x), some (pt y), x15, x16, some (.tup [pt (cr1 a b c d), pt (cr2 a b c d)]), x18, x19], M⟩ =
    .nx ⟨Lw x0 x1 a b c d [x6, x7, x8, x9, x10, x11, x12, some (pt x), some (pt y), x15, x16, some (.tup [pt (cr1 a b c d), pt (cr2 a b c d)]), x18, x19], M⟩ := by
  have l := crs_b (hb.s10 ha) (hd.s10 hc)
  have t := crs_b (hc.s10 ha) (hd.s10 hc)
  have u := hb.s10 ha
  unfold S10 at u
  have B1 : Bq 3000 200 (cr1 a b c d) := by
    have e1 := mul_b (x := a.1) (y := crs (sub b a) (sub d c)) (A := 5) (B := 200) (by unfold S5 at ha; omega) l
    have e2 := mul_b (x := crs (sub c a) (sub d c)) (y := (sub b a).1) (A := 200) (B := 10) t (by omega)
    exact mk_bq h (by omega) (by omega) (by omega) (by omega)
  have B2 : Bq 3000 200 (cr2 a b c d) := by
    have e1 := mul_b (x := a.2) (y := crs (sub b a) (sub d c)) (A := 5) (B := 200) (by unfold S5 at ha; omega) l
    have e2 := mul_b (x := crs (sub c a) (sub d c)) (y := (sub b a).2) (A := 200) (B := 10) t (by omega)
    exact mk_bq h (by omega) (by omega) (by omega) (by omega)
  have V1 : Vl (cr1 a b c d) (a.1 * crs (sub b a) (sub d c) + crs (sub c a) (sub d c) * (sub b a).1) (crs (sub b a) (sub d c)) := vl_mk h
  have V2 : Vl (cr2 a b c d) (a.2 * crs (sub b a) (sub d c) + crs (sub c a) (sub d c) * (sub b a).2) (crs (sub b a) (sub d c)) := vl_mk h
  generalize cr1 a b c d = p at *
  generalize cr2 a b c d = q at *
  generalize crs (sub b a) (sub d c) = L at *
  generalize a.1 * L + crs (sub c a) (sub d c) * (sub b a).1 = T1 at *
  generalize a.2 * L + crs (sub c a) (sub d c) * (sub b a).2 = T2 at *
  have bx1 : Bq 5 1 (x.1, 1) := by unfold S5 at hx; unfold Bq; dsimp only; omega
  have bx2 : Bq 5 1 (x.2, 1) := by unfold S5 at hx; unfold Bq; dsimp only; omega
  have by1 : Bq 10 1 (y.2 - x.2, 1) := by unfold S5 at hx hy; unfold Bq; dsimp only; omega
  have by2 : Bq 10 1 (y.1 - x.1, 1) := by unfold S5 at hx hy; unfold Bq; dsimp only; omega
  have c1 := y_less B1 bx1 (by decide) (by decide) (by decide) (by decide) (by decide)
  have c2 := y_less B2 bx2 (by decide) (by decide) (by decide) (by decide) (by decide)
  have b1 := bq_less B1 bx1
  have b2 := bq_less B2 bx2
  have c3 := y_times b1 by1 (by decide) (by decide) (by decide)
  have c4 := y_times b2 by2 (by decide) (by decide) (by decide)
  have b3 := bq_times b1 by1
  have b4 := bq_times b2 by2
  have c5 := y_less b3 b4 (by decide) (by decide) (by decide) (by decide) (by decide)
  have w1 : Vl (x.1, 1) (x.1 * L) L := by unfold Vl; dsimp only; omega
  have w2 : Vl (x.2, 1) (x.2 * L) L := by unfold Vl; dsimp only; omega
  have w3 : Vl (y.2 - x.2, 1) (y.2 - x.2) 1 := by unfold Vl; dsimp only
  have w4 : Vl (y.1 - x.1, 1) (y.1 - x.1) 1 := by unfold Vl; dsimp only
  have v1 := vl_times b1.2.2.1 by1.2.2.1 (vl_less B1.2.2.1 bx1.2.2.1 V1 w1) w3
  have v2 := vl_times b2.2.2.1 by2.2.2.1 (vl_less B2.2.2.1 bx2.2.2.1 V2 w2) w4
  have v3 := vl_less b3.2.2.1 b4.2.2.1 v1 v2
  rw [hz] at v3
  have pp := b3.mulB b4
  have z := vl_zero (mk_rd (by omega)).1 (by rw [Int.mul_one]; exact h) v3
  rw [z] at c5
  simp only [Int.mul_one] at c1 c2 c3 c4 c5
  have p1 : D.tup [.int x.1, .int 1] = pt (x.1, 1) := rfl
  have p2 : D.tup [.int x.2, .int 1] = pt (x.2, 1) := rfl
  have p3 : D.tup [.int (y.2 - x.2), .int 1] = pt (y.2 - x.2, 1) := rfl
  have p4 : D.tup [.int (y.1 - x.1), .int 1] = pt (y.1 - x.1, 1) := rfl
  have p5 : D.tup [.int 0, .int 1] = pt (0, 1) := rfl
  simp [g_law_1_10_1_1, call_s, lfs, D.lf, p1, p2, p3, p4, p5, c1, c2, c3, c4, c5, gNe_ptp]
theorem st10 : ∃ y13 y14, g_law_1_10 ⟨Lw x0 x1 a b c d [x6, x7, x8, x9, x10, x11, x12, x13, x14, x15, x16, some (spt a b c d), x18, x19], M⟩ =
    .nx ⟨Lw x0 x1 a b c d [x6, x7, x8, x9, x10, x11, x12, y13, y14, x15, x16, some (spt a b c d), x18, x19], M⟩ := by
  by_cases h : crs (sub b a) (sub d c) = 0
  · refine ⟨x13, x14, ?_⟩
    simp [g_law_1_10, spt_eq.2, h]
  · have e : spt a b c d = .tup [pt (cr1 a b c d), pt (cr2 a b c d)] := by unfold spt; rw [if_neg h]
    have n : gNe M (.tup [pt (cr1 a b c d), pt (cr2 a b c d)]) (.str "no way") = some (.bl true) := by rw [← e, spt_eq.2]; simp [h]
    have z1 := cr_zero (x0 := x0) (x1 := x1) (x6 := x6) (x7 := x7) (x8 := x8) (x9 := x9) (x10 := x10) (x11 := x11) (x12 := x12) (x15 := x15) (x16 := x16) (x18 := x18) (x19 := x19) (M := M) ha hb hc hd h (x := a) (y := b) ha hb (by unfold crs sub; grind)
    have z2 := cr_zero (x0 := x0) (x1 := x1) (x6 := x6) (x7 := x7) (x8 := x8) (x9 := x9) (x10 := x10) (x11 := x11) (x12 := x12) (x15 := x15) (x16 := x16) (x18 := x18) (x19 := x19) (M := M) ha hb hc hd h (x := c) (y := d) hc hd (by unfold crs sub; grind)
    refine ⟨some (pt c), some (pt d), ?_⟩
    rw [e]
    simp [g_law_1_10, g_law_1_10_1, n, fForL, bTup, bCons, bNil, z1, z2]
theorem st11 : g_law_1_11 ⟨Lw x0 x1 a b c d [x6, x7, x8, x9, x10, x11, x12, x13, x14, x15, x16, x17, x18, x19], M⟩ =
    .nx ⟨Lw x0 x1 a b c d [x6, x7, x8, x9, x10, x11, x12, x13, x14, x15, x16, x17, x18, some (pt (wsq a b c d))], M⟩ := by
  simp [g_law_1_11, call_s, lfs, x_ways ha hb hc hd]
theorem st12 : g_law_1_12 ⟨Lw x0 x1 a b c d [x6, x7, x8, x9, x10, x11, x12, x13, x14, x15, x16, x17, x18, some (pt (wsq a b c d))], M⟩ =
    .nx ⟨Lw x0 x1 a b c d [x6, x7, x8, x9, x10, x11, x12, x13, x14, x15, x16, x17, x18, some (pt (wsq a b c d))], M⟩ := by
  have p5 : D.tup [.int 0, .int 1] = pt (0, 1) := rfl
  have w := x_ways hd hc ha hb
  rw [wsq_sym] at w
  have z : decide (wsq a b c d = (0, 1)) = mee a b c d := by
    rw [Bool.eq_iff_iff, decide_eq_true_eq]
    exact wsq_zero
  simp only [g_law_1_12, fIfS_s, fOr_s, fTst_s, fOp_s, fVar_s, List.getElem?_cons_succ, ce0, bind_ok, fTup_s, fCons_s, fC_s, fNil_s, List.length_cons, List.length_nil, p5, call_s, lfs, lf_pt, x_meet ha hb hc hd, w]
  simp [p5, gEq_ptp, gNe_ptp, z]
theorem st13 : g_law_1_13 ⟨Lw x0 x1 a b c d [x6, some (.int (trn a b c)), x8, x9, x10, x11, x12, x13, x14, x15, x16, x17, x18, some (pt (wsq a b c d))], M⟩ =
    .nx ⟨Lw x0 x1 a b c d [x6, some (.int (trn a b c)), x8, x9, x10, x11, x12, x13, x14, x15, x16, x17, x18, some (pt (wsq a b c d))], M⟩ := by
  simp [g_law_1_13, call_s, lfs, D.lf, x_law_near ha hb hc hd]
omit ha hb hc hd
theorem st14 {n : Nat} (hM : AllTri M) (hn : n < M.length) : ∃ M', g_law_1_14 ⟨Lw x0 (some (.loc n)) a b c d [x6, x7, x8, x9, x10, x11, x12, x13, x14, x15, x16, x17, x18, x19], M⟩ =
    .nx ⟨Lw x0 (some (.loc n)) a b c d [x6, x7, x8, x9, x10, x11, x12, x13, x14, x15, x16, x17, x18, x19], M'⟩ ∧ AllTri M' ∧ M'.length = M.length := by
  obtain ⟨p, q, r, ht⟩ := hM.at hn
  obtain ⟨x, y, z, e⟩ := x_law_parts (a := p) (b := q) (c := r)
  refine ⟨M.set n (Tri x y z), ?_, hM.put, by simp⟩
  have cM : fCallM m__law_parts (fCons (fVar 1) fNil) ⟨Lw x0 (some (.loc n)) a b c d [x6, x7, x8, x9, x10, x11, x12, x13, x14, x15, x16, x17, x18, x19], M⟩ = .ok (.bl true) (M.set n (Tri x y z)) := callM_at (rest := []) (by simp) ht rfl rfl rfl rfl e
  simp [g_law_1_14, cM]
theorem st15 : g_law_1_15 ⟨Lw x0 x1 a b c d [x6, x7, x8, x9, x10, x11, x12, x13, x14, x15, x16, x17, x18, x19], M⟩ =
    .nx ⟨Lw x0 x1 a b c d [x6, x7, x8, x9, x10, x11, x12, x13, x14, x15, x16, x17, x18, x19], M⟩ := by
  have n0 : gNe M (.str "point") (.str "point") = some (.bl false) := by rw [gNe_str (by decide +kernel) (by decide +kernel)]; rfl
  have t : toldBy hs__law_told "BadPoint" = some "point" := by rfl
  simp [g_law_1_15, fTold, call_s, lfs, D.lf, x_made0, t, n0]
end
theorem body_ok {x0 x2 x3 x4 x5 x6 x7 x8 x9 x10 x11 x12 x13 x14 x15 x16 x17 x18 x19 : Option D} {M : Cells} {n : Nat} (hM : AllTri M) (hn : n < M.length) : ∃ ρ' M', (fSeq g_law_1_1 (fSeq g_law_1_2 (fSeq g_law_1_3 (fSeq g_law_1_4 (fSeq g_law_1_5 (fSeq g_law_1_6 (fSeq g_law_1_7 (fSeq g_law_1_8 (fSeq g_law_1_9 (fSeq g_law_1_10 (fSeq g_law_1_11 (fSeq g_law_1_12 (fSeq g_law_1_13 (fSeq g_law_1_14 g_law_1_15))))))))))))))
    ⟨[x0, some (.loc n), x2, x3, x4, x5, x6, x7, x8, x9, x10, x11, x12, x13, x14, x15, x16, x17, x18, x19], M⟩ = .nx ⟨ρ', M'⟩ ∧ ρ'.length = 20 ∧ AllTri M' ∧ M'.length = M.length := by
  have draw := lcGo_all (g := bName 6) (t := fTrue) (e := fCallM m__law_point (fCons (fVar 1) (fCons (fC (.int 5)) fNil))) (ρ := wipeD [x0, some (.loc n), x2, x3, x4, x5, x6, x7, x8, x9, x10, x11, x12, x13, x14, x15, x16, x17, x18, x19] [6])
    (fun y => ∃ p, y = pt p ∧ S5 p) (fun M' => AllTri M' ∧ M'.length = M.length) (fun dd M1 hI => by
      obtain ⟨a, b, c, ht⟩ := hI.1.at (n := n) (by rw [hI.2]; exact hn)
      obtain ⟨p, q, x, y, z, e1, h1, h2, h3, h4⟩ := point_ok (a := a) (b := b) (c := c) (far := 5) (by decide) (by decide)
      refine ⟨_, rfl, _, rfl, pt (p, q), M1.set n (Tri x y z), ?_, ⟨(p, q), rfl, ⟨h1, h2, h3, h4⟩⟩, hI.1.put, by simp [hI.2]⟩
      exact callM_at (rest := [.int 5]) (by simp [wipeD]) ht rfl rfl rfl rfl e1)
  obtain ⟨ys, M', e1, hl, hy, hM', hL⟩ := draw [.int 0, .int 1, .int 2, .int 3] M ⟨hM, rfl⟩
  match ys, hl, hy, e1 with
  | [y1, y2, y3, y4], _, hy, e1 =>
    obtain ⟨a, rfl, ha⟩ := hy y1 (by simp)
    obtain ⟨b, rfl, hb⟩ := hy y2 (by simp)
    obtain ⟨c, rfl, hc⟩ := hy y3 (by simp)
    obtain ⟨d, rfl, hd⟩ := hy y4 (by simp)
    have r : asRg1 [.int 4] = some [.int 0, .int 1, .int 2, .int 3] := by rfl
    have s1 : g_law_1_1 ⟨[x0, some (.loc n), x2, x3, x4, x5, x6, x7, x8, x9, x10, x11, x12, x13, x14, x15, x16, x17, x18, x19], M⟩ = .nx ⟨Lw x0 (some (.loc n)) a b c d [x6, x7, x8, x9, x10, x11, x12, x13, x14, x15, x16, x17, x18, x19], M'⟩ := by
      simp [g_law_1_1, fLc, r, e1, bLst, bCons, bNil]
    rw [seq_nx s1, seq_nx (st2 ha hb hc hd), seq_nx (st3 ha hb hc hd), seq_nx st4, seq_nx (st5 ha hb hc hd), seq_nx (st6 ha hb hc hd), seq_nx (st7 ha hb hc hd), seq_nx (st8 ha hb hc hd), seq_nx st9]
    obtain ⟨y13, y14, s10⟩ := st10 (x0 := x0) (x1 := some (.loc n)) (x6 := x6) (x7 := some (.int (trn a b c))) (x8 := some (.int (trn a b d))) (x9 := some (.int (trn c d a))) (x10 := some (.int (trn c d b))) (x11 := some (.bl (crb a b c d))) (x12 := some (.lst (ons a b c d))) (x13 := x13) (x14 := x14) (x15 := x15) (x16 := x16) (x18 := some (.int (crs (sub b a) (sub d c)))) (x19 := x19) (M := M') ha hb hc hd
    rw [seq_nx s10, seq_nx (st11 ha hb hc hd), seq_nx (st12 ha hb hc hd), seq_nx (st13 ha hb hc hd)]
    obtain ⟨M2, s14, q1, q2⟩ := st14 (x0 := x0) (a := a) (b := b) (c := c) (d := d) (x6 := x6) (x7 := some (.int (trn a b c))) (x8 := some (.int (trn a b d))) (x9 := some (.int (trn c d a))) (x10 := some (.int (trn c d b))) (x11 := some (.bl (crb a b c d))) (x12 := some (.lst (ons a b c d))) (x13 := y13) (x14 := y14) (x15 := x15) (x16 := x16) (x17 := some (spt a b c d)) (x18 := some (.int (crs (sub b a) (sub d c)))) (x19 := some (pt (wsq a b c d))) (M := M') (n := n) hM' (by rw [hL]; exact hn)
    rw [seq_nx s14]
    exact ⟨_, _, st15, rfl, q1, q2.trans hL⟩
theorem len20 {α : Type} : ∀ {l : List α}, l.length = 20 → ∃ x0 x1 x2 x3 x4 x5 x6 x7 x8 x9 x10 x11 x12 x13 x14 x15 x16 x17 x18 x19, l = [x0, x1, x2, x3, x4, x5, x6, x7, x8, x9, x10, x11, x12, x13, x14, x15, x16, x17, x18, x19]
  | [x0, x1, x2, x3, x4, x5, x6, x7, x8, x9, x10, x11, x12, x13, x14, x15, x16, x17, x18, x19], _ => ⟨x0, x1, x2, x3, x4, x5, x6, x7, x8, x9, x10, x11, x12, x13, x14, x15, x16, x17, x18, x19, rfl⟩
theorem law_ok : ∀ sk d ns, Scr sk d ns → ns.length ≤ 63 → ∃ s1, g_law sk ⟨init0 N_law [d], []⟩ = .rt (.bl true) s1 := by
  intro sk d ns h hl
  obtain ⟨Mb, e1, hM⟩ := rounds_ok h hl (most := 6) (by decide)
  have e1 : m__law_rounds sk [d, .int 6] = .ok (.lst ((List.range Mb.length).map .loc)) Mb := e1
  obtain ⟨s', e2, _⟩ := forL_inv (g := bName 1) (b := fSeq g_law_1_1 (fSeq g_law_1_2 (fSeq g_law_1_3 (fSeq g_law_1_4 (fSeq g_law_1_5 (fSeq g_law_1_6 (fSeq g_law_1_7 (fSeq g_law_1_8 (fSeq g_law_1_9 (fSeq g_law_1_10 (fSeq g_law_1_11 (fSeq g_law_1_12 (fSeq g_law_1_13 (fSeq g_law_1_14 g_law_1_15))))))))))))))
    (fun d => ∃ n, n < Mb.length ∧ d = .loc n) (fun s => s.ρ.length = 20 ∧ AllTri s.M ∧ s.M.length = Mb.length) (fun dd s hd hs => by
      obtain ⟨n, hn, rfl⟩ := hd
      obtain ⟨ρ, M⟩ := s
      obtain ⟨h1, h2, h3⟩ := hs
      obtain ⟨x0, x1, x2, x3, x4, x5, x6, x7, x8, x9, x10, x11, x12, x13, x14, x15, x16, x17, x18, x19, rfl⟩ := len20 h1
      obtain ⟨ρ', M', q1, q2, q3, q4⟩ := body_ok (x0 := x0) (x2 := x2) (x3 := x3) (x4 := x4) (x5 := x5) (x6 := x6) (x7 := x7) (x8 := x8) (x9 := x9) (x10 := x10) (x11 := x11) (x12 := x12) (x13 := x13) (x14 := x14) (x15 := x15) (x16 := x16) (x17 := x17) (x18 := x18) (x19 := x19) (n := n) h2 (by rw [h3]; exact hn)
      exact ⟨_, rfl, _, q1, q2, q3, q4.trans h3⟩) ((List.range Mb.length).map .loc) ⟨init0 N_law [d], Mb⟩ (fun dd hd => by
        obtain ⟨n, hn, rfl⟩ := List.mem_map.mp hd
        exact ⟨n, List.mem_range.mp hn, rfl⟩) ⟨rfl, hM, rfl⟩
  have e3 : g_law_1 sk ⟨init0 N_law [d], []⟩ = .nx s' := by
    unfold g_law_1
    rw [fFor_s]
    have q : fCallO (m__law_rounds sk) (fCons (fVar 0) (fCons (fC (.int 6)) fNil)) ⟨init0 N_law [d], []⟩ = .ok (.lst ((List.range Mb.length).map .loc)) Mb := rounds_call (k := 6) h rfl (by simp [init0]) e1 hM
    rw [fIt_s, q]
    simp only [bind_ok, asLst_s, opt_some, toS_ok]
    exact e2
  unfold g_law
  rw [seq_nx e3]
  exact ⟨_, rfl⟩
end K2

namespace K2
open PySem PySem.Spec L2 DL PySem.W
open PyProof.Rows hiding St
def fn : List He.DefD := [⟨("_law_dice", none), "_law_dice", "_law_dice", defArgs st__law_dice, defBody st__law_dice, defScope st__law_dice, [], []⟩,
  ⟨("_law_rounds", none), "_law_rounds", "_law_rounds", defArgs st__law_rounds, defBody st__law_rounds, defScope st__law_rounds, [], []⟩,
  ⟨("cross", none), "cross", "cross", defArgs st_cross, defBody st_cross, defScope st_cross, [], []⟩,
  ⟨("less_points", none), "less", "less", defArgs st_less_points, defBody st_less_points, defScope st_less_points, [], []⟩,
  ⟨("turn", none), "turn", "turn", defArgs st_turn, defBody st_turn, defScope st_turn, [], []⟩,
  ⟨("along", none), "along", "along", defArgs st_along, defBody st_along, defScope st_along, [], []⟩,
  ⟨("is_between", none), "is_between", "is_between", defArgs st_is_between, defBody st_is_between, defScope st_is_between, [], []⟩,
  ⟨("side", none), "side", "side", defArgs st_side, defBody st_side, defScope st_side, [], []⟩,
  ⟨("do_meet", none), "do_meet", "do_meet", defArgs st_do_meet, defBody st_do_meet, defScope st_do_meet, [], []⟩,
  ⟨("shared", none), "shared", "shared", defArgs st_shared, defBody st_shared, defScope st_shared, [], []⟩,
  ⟨("made", none), "made", "made", defArgs st_made, defBody st_made, defScope st_made, [], []⟩,
  ⟨("square", none), "square", "square", defArgs st_square, defBody st_square, defScope st_square, [], []⟩,
  ⟨("near_square", none), "near_square", "near_square", defArgs st_near_square, defBody st_near_square, defScope st_near_square, [], []⟩,
  ⟨("order", none), "order", "order", defArgs st_order, defBody st_order, defScope st_order, [], []⟩,
  ⟨("ways_square", none), "ways_square", "ways_square", defArgs st_ways_square, defBody st_ways_square, defScope st_ways_square, [], []⟩,
  ⟨("_law_roll", none), "_law_roll", "_law_roll", defArgs st__law_roll, defBody st__law_roll, defScope st__law_roll, [], []⟩,
  ⟨("_law_point", none), "_law_point", "_law_point", defArgs st__law_point, defBody st__law_point, defScope st__law_point, [], []⟩,
  ⟨("_law_turn", none), "_law_turn", "_law_turn", defArgs st__law_turn, defBody st__law_turn, defScope st__law_turn, [], []⟩,
  ⟨("add", none), "add", "add", defArgs st_add, defBody st_add, defScope st_add, [], []⟩,
  ⟨("less_parts", none), "less", "less", defArgs st_less_parts, defBody st_less_parts, defScope st_less_parts, [], []⟩,
  ⟨("times", none), "times", "times", defArgs st_times, defBody st_times, defScope st_times, [], []⟩,
  ⟨("_law_gap", none), "_law_gap", "_law_gap", defArgs st__law_gap, defBody st__law_gap, defScope st__law_gap, [], []⟩,
  ⟨("_law_at", none), "_law_at", "_law_at", defArgs st__law_at, defBody st__law_at, defScope st__law_at, [], []⟩,
  ⟨("_law_near", none), "_law_near", "_law_near", defArgs st__law_near, defBody st__law_near, defScope st__law_near, [], []⟩,
  ⟨("ceiling", none), "ceiling", "ceiling", defArgs st_ceiling, defBody st_ceiling, defScope st_ceiling, [], []⟩,
  ⟨("least", none), "least", "least", defArgs st_least, defBody st_least, defScope st_least, [], []⟩,
  ⟨("rising", none), "rising", "rising", defArgs st_rising, defBody st_rising, defScope st_rising, [], []⟩,
  ⟨("sign", none), "sign", "sign", defArgs st_sign, defBody st_sign, defScope st_sign, [], []⟩,
  ⟨("floor", none), "floor", "floor", defArgs st_floor, defBody st_floor, defScope st_floor, [], []⟩,
  ⟨("greatest", none), "greatest", "greatest", defArgs st_greatest, defBody st_greatest, defScope st_greatest, [], []⟩,
  ⟨("over", none), "over", "over", defArgs st_over, defBody st_over, defScope st_over, [], []⟩,
  ⟨("_law_parts", none), "_law_parts", "_law_parts", defArgs st__law_parts, defBody st__law_parts, defScope st__law_parts, [], []⟩,
  ⟨("do_cross", none), "do_cross", "do_cross", defArgs st_do_cross, defBody st_do_cross, defScope st_do_cross, [], []⟩,
  ⟨("crossing", none), "crossing", "crossing", defArgs st_crossing, defBody st_crossing, defScope st_crossing, [], []⟩,
  ⟨("law", none), "law", "law", defArgs st_law, defBody st_law, defScope st_law, [], []⟩,
  ⟨("_law_told", none), "_law_told", "_law_told", defArgs st__law_told, defBody st__law_told, defScope st__law_told, [], []⟩]
def fa : List He.Fa := [.glo "_law_dice", .glo "_law_rounds", .glo "cross", .glo "less_points", .glo "turn", .glo "along", .glo "is_between", .glo "side", .glo "do_meet", .glo "shared", .glo "made", .glo "square", .glo "near_square", .glo "order", .glo "ways_square", .glo "_law_roll", .glo "_law_point", .glo "_law_turn", .glo "add", .glo "less_parts", .glo "times", .glo "_law_gap", .glo "_law_at", .glo "_law_near", .glo "ceiling", .glo "least", .glo "rising", .glo "sign", .glo "floor", .glo "greatest", .glo "over", .glo "_law_parts", .glo "do_cross", .glo "crossing", .glo "law", .glo "_law_told", .free "abs", .free "int", .free "len", .free "max", .free "min", .free "range", .free "tuple", .glo "BadPoint", .exc "BadPoint", .glo "NoWay", .exc "NoWay", .exm "BadPoint" "BadPoint" true, .exm "BadPoint" "BadShape" false, .exm "BadPoint" "NoWay" false, .exm "BadPoint" "TooLarge" false, .glo "BadShape", .exm "BadShape" "BadPoint" false, .exm "BadShape" "BadShape" true, .exm "BadShape" "NoWay" false, .exm "BadShape" "TooLarge" false, .exm "NoWay" "BadPoint" false, .exm "NoWay" "BadShape" false, .exm "NoWay" "NoWay" true, .exm "NoWay" "TooLarge" false, .glo "TooLarge", .exm "TooLarge" "BadPoint" false, .exm "TooLarge" "BadShape" false, .exm "TooLarge" "NoWay" false, .exm "TooLarge" "TooLarge" true]
def loose0 : List PySem.Str := ["ShapeFault", "BadPoint", "BadShape", "NoWay", "TooLarge", "shared", "made", "add", "less", "less_parts", "times", "over", "order", "sign", "floor", "ceiling", "least", "greatest", "rising", "less_points", "cross", "along", "turn", "side", "square", "is_between", "do_meet", "do_cross", "crossing", "near_square"]
def loose1 : List PySem.Str := ["ways_square", "_law_dice", "_law_roll", "_law_rounds", "_law_told", "_law_point", "_law_turn", "_law_at", "_law_gap", "_law_near", "_law_parts"]
def loose : List PySem.Str := loose0 ++ loose1
abbrev Rr : PySem.W.OpenRow := PySem.W.OpenLaw.row PySem.Challenge.rw_hullhall_k02_crossings_and_near_ways
abbrev hkX : PySem.W.Hook := He.hookX 4 fa fn [] [("law", none)] (fun _ => true)
def ob (s : PySem.W.SharedT) : He.AlX := He.obsX 4 fa fn [] [("law", none)] (fun _ => true) (HandSHeadRun.getT s)
theorem ob_eq (s : PySem.W.SharedT) : ob s = hkX.obs s.abs := He.obsX_eq (HandSHeadRun.getT_eq s)
theorem run (w : World) : HandSHeadRun.RunEq Rr (PySem.W.view Rr.prog [46]) hkX ob 4000 loose w := by
  intro os
  kernel_rfl
end K2

namespace K2
open PySem PySem.Spec L2 DL
open PyProof.Rows hiding St
theorem facts {w : World} {K : PySem.W.Frag} {h : Heap} {mg : Str → Option Value} {f : Addr} (X : K.In h) (G : h.Ns mainGlobals mg) (hfa : mg ("law" : Str) = some (.ref f)) (c : He.SaysX fa fn [] [("law", none)] (fun _ => true) w h K) :
    LamX.LawAtS PySem.Challenge.rw_hullhall_k02_crossings_and_near_ways w K (L2.CX (PySem.Challenge.rw_hullhall_k02_crossings_and_near_ways).prog w) 6 63 "script" mg f h := by
  have G__law_dice : mg "_law_dice" = some (.ref (He.ga K "_law_dice")) := He.glo_ok X G (c.t.d.fact 0 rfl)
  have G__law_rounds : mg "_law_rounds" = some (.ref (He.ga K "_law_rounds")) := He.glo_ok X G (c.t.d.fact 1 rfl)
  have G_cross : mg "cross" = some (.ref (He.ga K "cross")) := He.glo_ok X G (c.t.d.fact 2 rfl)
  have G_less_points : mg "less_points" = some (.ref (He.ga K "less_points")) := He.glo_ok X G (c.t.d.fact 3 rfl)
  have G_turn : mg "turn" = some (.ref (He.ga K "turn")) := He.glo_ok X G (c.t.d.fact 4 rfl)
  have G_along : mg "along" = some (.ref (He.ga K "along")) := He.glo_ok X G (c.t.d.fact 5 rfl)
  have G_is_between : mg "is_between" = some (.ref (He.ga K "is_between")) := He.glo_ok X G (c.t.d.fact 6 rfl)
  have G_side : mg "side" = some (.ref (He.ga K "side")) := He.glo_ok X G (c.t.d.fact 7 rfl)
  have G_do_meet : mg "do_meet" = some (.ref (He.ga K "do_meet")) := He.glo_ok X G (c.t.d.fact 8 rfl)
  have G_shared : mg "shared" = some (.ref (He.ga K "shared")) := He.glo_ok X G (c.t.d.fact 9 rfl)
  have G_made : mg "made" = some (.ref (He.ga K "made")) := He.glo_ok X G (c.t.d.fact 10 rfl)
  have G_square : mg "square" = some (.ref (He.ga K "square")) := He.glo_ok X G (c.t.d.fact 11 rfl)
  have G_near_square : mg "near_square" = some (.ref (He.ga K "near_square")) := He.glo_ok X G (c.t.d.fact 12 rfl)
  have G_order : mg "order" = some (.ref (He.ga K "order")) := He.glo_ok X G (c.t.d.fact 13 rfl)
  have G_ways_square : mg "ways_square" = some (.ref (He.ga K "ways_square")) := He.glo_ok X G (c.t.d.fact 14 rfl)
  have G__law_roll : mg "_law_roll" = some (.ref (He.ga K "_law_roll")) := He.glo_ok X G (c.t.d.fact 15 rfl)
  have G__law_point : mg "_law_point" = some (.ref (He.ga K "_law_point")) := He.glo_ok X G (c.t.d.fact 16 rfl)
  have G__law_turn : mg "_law_turn" = some (.ref (He.ga K "_law_turn")) := He.glo_ok X G (c.t.d.fact 17 rfl)
  have G_add : mg "add" = some (.ref (He.ga K "add")) := He.glo_ok X G (c.t.d.fact 18 rfl)
  have G_less_parts : mg "less_parts" = some (.ref (He.ga K "less_parts")) := He.glo_ok X G (c.t.d.fact 19 rfl)
  have G_times : mg "times" = some (.ref (He.ga K "times")) := He.glo_ok X G (c.t.d.fact 20 rfl)
  have G__law_gap : mg "_law_gap" = some (.ref (He.ga K "_law_gap")) := He.glo_ok X G (c.t.d.fact 21 rfl)
  have G__law_at : mg "_law_at" = some (.ref (He.ga K "_law_at")) := He.glo_ok X G (c.t.d.fact 22 rfl)
  have G__law_near : mg "_law_near" = some (.ref (He.ga K "_law_near")) := He.glo_ok X G (c.t.d.fact 23 rfl)
  have G_ceiling : mg "ceiling" = some (.ref (He.ga K "ceiling")) := He.glo_ok X G (c.t.d.fact 24 rfl)
  have G_least : mg "least" = some (.ref (He.ga K "least")) := He.glo_ok X G (c.t.d.fact 25 rfl)
  have G_rising : mg "rising" = some (.ref (He.ga K "rising")) := He.glo_ok X G (c.t.d.fact 26 rfl)
  have G_sign : mg "sign" = some (.ref (He.ga K "sign")) := He.glo_ok X G (c.t.d.fact 27 rfl)
  have G_floor : mg "floor" = some (.ref (He.ga K "floor")) := He.glo_ok X G (c.t.d.fact 28 rfl)
  have G_greatest : mg "greatest" = some (.ref (He.ga K "greatest")) := He.glo_ok X G (c.t.d.fact 29 rfl)
  have G_over : mg "over" = some (.ref (He.ga K "over")) := He.glo_ok X G (c.t.d.fact 30 rfl)
  have G__law_parts : mg "_law_parts" = some (.ref (He.ga K "_law_parts")) := He.glo_ok X G (c.t.d.fact 31 rfl)
  have G_do_cross : mg "do_cross" = some (.ref (He.ga K "do_cross")) := He.glo_ok X G (c.t.d.fact 32 rfl)
  have G_crossing : mg "crossing" = some (.ref (He.ga K "crossing")) := He.glo_ok X G (c.t.d.fact 33 rfl)
  have G_law : mg "law" = some (.ref (He.ga K "law")) := He.glo_ok X G (c.t.d.fact 34 rfl)
  have G__law_told : mg "_law_told" = some (.ref (He.ga K "_law_told")) := He.glo_ok X G (c.t.d.fact 35 rfl)
  have Z : Txt K mg := ⟨He.free_ok X G (c.t.d.fact 36 rfl), He.free_ok X G (c.t.d.fact 37 rfl), He.free_ok X G (c.t.d.fact 38 rfl), He.free_ok X G (c.t.d.fact 39 rfl), He.free_ok X G (c.t.d.fact 40 rfl), He.free_ok X G (c.t.d.fact 41 rfl), He.free_ok X G (c.t.d.fact 42 rfl), exC_of (He.glo_ok X G (c.t.d.fact 43 rfl)) (c.t.d.fact 44 rfl), exC_of (He.glo_ok X G (c.t.d.fact 45 rfl)) (c.t.d.fact 46 rfl)⟩
  obtain ⟨fd__law_dice, F0__law_dice⟩ := c.t.d.def_ 0 rfl
  have F__law_dice : FunD K "_law_dice" "_law_dice" (defArgs st__law_dice) (defBody st__law_dice) (defScope st__law_dice) [] [] (He.fAd K ("_law_dice", none)) fd__law_dice := F0__law_dice
  have b__law_dice : Binds K fd__law_dice ["cell"] [] := FunD.bindsN (ps := ["cell"]) F__law_dice fun _ _ _ _ _ _ us hl => match us, hl with | [_], _ => rfl
  obtain ⟨fd__law_rounds, F0__law_rounds⟩ := c.t.d.def_ 1 rfl
  have F__law_rounds : FunD K "_law_rounds" "_law_rounds" (defArgs st__law_rounds) (defBody st__law_rounds) (defScope st__law_rounds) [] [] (He.fAd K ("_law_rounds", none)) fd__law_rounds := F0__law_rounds
  have b__law_rounds : Binds K fd__law_rounds ["script", "most"] [] := FunD.bindsN (ps := ["script", "most"]) F__law_rounds fun _ _ _ _ _ _ us hl => match us, hl with | [_, _], _ => rfl
  obtain ⟨fd_cross, F0_cross⟩ := c.t.d.def_ 2 rfl
  have F_cross : FunD K "cross" "cross" (defArgs st_cross) (defBody st_cross) (defScope st_cross) [] [] (He.fAd K ("cross", none)) fd_cross := F0_cross
  have b_cross : Binds K fd_cross ["u", "v"] [] := FunD.bindsN (ps := ["u", "v"]) F_cross fun _ _ _ _ _ _ us hl => match us, hl with | [_, _], _ => rfl
  obtain ⟨fd_less_points, F0_less_points⟩ := c.t.d.def_ 3 rfl
  have F_less_points : FunD K "less" "less" (defArgs st_less_points) (defBody st_less_points) (defScope st_less_points) [] [] (He.fAd K ("less_points", none)) fd_less_points := F0_less_points
  have b_less_points : Binds K fd_less_points ["a", "b"] [] := FunD.bindsN (ps := ["a", "b"]) F_less_points fun _ _ _ _ _ _ us hl => match us, hl with | [_, _], _ => rfl
  obtain ⟨fd_turn, F0_turn⟩ := c.t.d.def_ 4 rfl
  have F_turn : FunD K "turn" "turn" (defArgs st_turn) (defBody st_turn) (defScope st_turn) [] [] (He.fAd K ("turn", none)) fd_turn := F0_turn
  have b_turn : Binds K fd_turn ["a", "b", "c"] [] := FunD.bindsN (ps := ["a", "b", "c"]) F_turn fun _ _ _ _ _ _ us hl => match us, hl with | [_, _, _], _ => rfl
  obtain ⟨fd_along, F0_along⟩ := c.t.d.def_ 5 rfl
  have F_along : FunD K "along" "along" (defArgs st_along) (defBody st_along) (defScope st_along) [] [] (He.fAd K ("along", none)) fd_along := F0_along
  have b_along : Binds K fd_along ["u", "v"] [] := FunD.bindsN (ps := ["u", "v"]) F_along fun _ _ _ _ _ _ us hl => match us, hl with | [_, _], _ => rfl
  obtain ⟨fd_is_between, F0_is_between⟩ := c.t.d.def_ 6 rfl
  have F_is_between : FunD K "is_between" "is_between" (defArgs st_is_between) (defBody st_is_between) (defScope st_is_between) [] [] (He.fAd K ("is_between", none)) fd_is_between := F0_is_between
  have b_is_between : Binds K fd_is_between ["a", "b", "c"] [] := FunD.bindsN (ps := ["a", "b", "c"]) F_is_between fun _ _ _ _ _ _ us hl => match us, hl with | [_, _, _], _ => rfl
  obtain ⟨fd_side, F0_side⟩ := c.t.d.def_ 7 rfl
  have F_side : FunD K "side" "side" (defArgs st_side) (defBody st_side) (defScope st_side) [] [] (He.fAd K ("side", none)) fd_side := F0_side
  have b_side : Binds K fd_side ["a", "b", "c"] [] := FunD.bindsN (ps := ["a", "b", "c"]) F_side fun _ _ _ _ _ _ us hl => match us, hl with | [_, _, _], _ => rfl
  obtain ⟨fd_do_meet, F0_do_meet⟩ := c.t.d.def_ 8 rfl
  have F_do_meet : FunD K "do_meet" "do_meet" (defArgs st_do_meet) (defBody st_do_meet) (defScope st_do_meet) [] [] (He.fAd K ("do_meet", none)) fd_do_meet := F0_do_meet
  have b_do_meet : Binds K fd_do_meet ["a", "b", "c", "d"] [] := FunD.bindsN (ps := ["a", "b", "c", "d"]) F_do_meet fun _ _ _ _ _ _ us hl => match us, hl with | [_, _, _, _], _ => rfl
  obtain ⟨fd_shared, F0_shared⟩ := c.t.d.def_ 9 rfl
  have F_shared : FunD K "shared" "shared" (defArgs st_shared) (defBody st_shared) (defScope st_shared) [] [] (He.fAd K ("shared", none)) fd_shared := F0_shared
  have b_shared : Binds K fd_shared ["a", "b"] [] := FunD.bindsN (ps := ["a", "b"]) F_shared fun _ _ _ _ _ _ us hl => match us, hl with | [_, _], _ => rfl
  obtain ⟨fd_made, F0_made⟩ := c.t.d.def_ 10 rfl
  have F_made : FunD K "made" "made" (defArgs st_made) (defBody st_made) (defScope st_made) [] [] (He.fAd K ("made", none)) fd_made := F0_made
  have b_made : Binds K fd_made ["top", "bottom"] [] := FunD.bindsN (ps := ["top", "bottom"]) F_made fun _ _ _ _ _ _ us hl => match us, hl with | [_, _], _ => rfl
  obtain ⟨fd_square, F0_square⟩ := c.t.d.def_ 11 rfl
  have F_square : FunD K "square" "square" (defArgs st_square) (defBody st_square) (defScope st_square) [] [] (He.fAd K ("square", none)) fd_square := F0_square
  have b_square : Binds K fd_square ["a", "b"] [] := FunD.bindsN (ps := ["a", "b"]) F_square fun _ _ _ _ _ _ us hl => match us, hl with | [_, _], _ => rfl
  obtain ⟨fd_near_square, F0_near_square⟩ := c.t.d.def_ 12 rfl
  have F_near_square : FunD K "near_square" "near_square" (defArgs st_near_square) (defBody st_near_square) (defScope st_near_square) [] [] (He.fAd K ("near_square", none)) fd_near_square := F0_near_square
  have b_near_square : Binds K fd_near_square ["a", "b", "c"] [] := FunD.bindsN (ps := ["a", "b", "c"]) F_near_square fun _ _ _ _ _ _ us hl => match us, hl with | [_, _, _], _ => rfl
  obtain ⟨fd_order, F0_order⟩ := c.t.d.def_ 13 rfl
  have F_order : FunD K "order" "order" (defArgs st_order) (defBody st_order) (defScope st_order) [] [] (He.fAd K ("order", none)) fd_order := F0_order
  have b_order : Binds K fd_order ["a", "b"] [] := FunD.bindsN (ps := ["a", "b"]) F_order fun _ _ _ _ _ _ us hl => match us, hl with | [_, _], _ => rfl
  obtain ⟨fd_ways_square, F0_ways_square⟩ := c.t.d.def_ 14 rfl
  have F_ways_square : FunD K "ways_square" "ways_square" (defArgs st_ways_square) (defBody st_ways_square) (defScope st_ways_square) [] [] (He.fAd K ("ways_square", none)) fd_ways_square := F0_ways_square
  have b_ways_square : Binds K fd_ways_square ["a", "b", "c", "d"] [] := FunD.bindsN (ps := ["a", "b", "c", "d"]) F_ways_square fun _ _ _ _ _ _ us hl => match us, hl with | [_, _, _, _], _ => rfl
  obtain ⟨fd__law_roll, F0__law_roll⟩ := c.t.d.def_ 15 rfl
  have F__law_roll : FunD K "_law_roll" "_law_roll" (defArgs st__law_roll) (defBody st__law_roll) (defScope st__law_roll) [] [] (He.fAd K ("_law_roll", none)) fd__law_roll := F0__law_roll
  have b__law_roll : Binds K fd__law_roll ["dice", "many"] [] := FunD.bindsN (ps := ["dice", "many"]) F__law_roll fun _ _ _ _ _ _ us hl => match us, hl with | [_, _], _ => rfl
  obtain ⟨fd__law_point, F0__law_point⟩ := c.t.d.def_ 16 rfl
  have F__law_point : FunD K "_law_point" "_law_point" (defArgs st__law_point) (defBody st__law_point) (defScope st__law_point) [] [] (He.fAd K ("_law_point", none)) fd__law_point := F0__law_point
  have b__law_point : Binds K fd__law_point ["dice", "far"] [] := FunD.bindsN (ps := ["dice", "far"]) F__law_point fun _ _ _ _ _ _ us hl => match us, hl with | [_, _], _ => rfl
  obtain ⟨fd__law_turn, F0__law_turn⟩ := c.t.d.def_ 17 rfl
  have F__law_turn : FunD K "_law_turn" "_law_turn" (defArgs st__law_turn) (defBody st__law_turn) (defScope st__law_turn) [] [] (He.fAd K ("_law_turn", none)) fd__law_turn := F0__law_turn
  have b__law_turn : Binds K fd__law_turn ["a", "b", "c"] [] := FunD.bindsN (ps := ["a", "b", "c"]) F__law_turn fun _ _ _ _ _ _ us hl => match us, hl with | [_, _, _], _ => rfl
  obtain ⟨fd_add, F0_add⟩ := c.t.d.def_ 18 rfl
  have F_add : FunD K "add" "add" (defArgs st_add) (defBody st_add) (defScope st_add) [] [] (He.fAd K ("add", none)) fd_add := F0_add
  have b_add : Binds K fd_add ["a", "b"] [] := FunD.bindsN (ps := ["a", "b"]) F_add fun _ _ _ _ _ _ us hl => match us, hl with | [_, _], _ => rfl
  obtain ⟨fd_less_parts, F0_less_parts⟩ := c.t.d.def_ 19 rfl
  have F_less_parts : FunD K "less" "less" (defArgs st_less_parts) (defBody st_less_parts) (defScope st_less_parts) [] [] (He.fAd K ("less_parts", none)) fd_less_parts := F0_less_parts
  have b_less_parts : Binds K fd_less_parts ["a", "b"] [] := FunD.bindsN (ps := ["a", "b"]) F_less_parts fun _ _ _ _ _ _ us hl => match us, hl with | [_, _], _ => rfl
  obtain ⟨fd_times, F0_times⟩ := c.t.d.def_ 20 rfl
  have F_times : FunD K "times" "times" (defArgs st_times) (defBody st_times) (defScope st_times) [] [] (He.fAd K ("times", none)) fd_times := F0_times
  have b_times : Binds K fd_times ["a", "b"] [] := FunD.bindsN (ps := ["a", "b"]) F_times fun _ _ _ _ _ _ us hl => match us, hl with | [_, _], _ => rfl
  obtain ⟨fd__law_gap, F0__law_gap⟩ := c.t.d.def_ 21 rfl
  have F__law_gap : FunD K "_law_gap" "_law_gap" (defArgs st__law_gap) (defBody st__law_gap) (defScope st__law_gap) [] [] (He.fAd K ("_law_gap", none)) fd__law_gap := F0__law_gap
  have b__law_gap : Binds K fd__law_gap ["spot", "other"] [] := FunD.bindsN (ps := ["spot", "other"]) F__law_gap fun _ _ _ _ _ _ us hl => match us, hl with | [_, _], _ => rfl
  obtain ⟨fd__law_at, F0__law_at⟩ := c.t.d.def_ 22 rfl
  have F__law_at : FunD K "_law_at" "_law_at" (defArgs st__law_at) (defBody st__law_at) (defScope st__law_at) [] [] (He.fAd K ("_law_at", none)) fd__law_at := F0__law_at
  have b__law_at : Binds K fd__law_at ["a", "b", "k"] [] := FunD.bindsN (ps := ["a", "b", "k"]) F__law_at fun _ _ _ _ _ _ us hl => match us, hl with | [_, _, _], _ => rfl
  obtain ⟨fd__law_near, F0__law_near⟩ := c.t.d.def_ 23 rfl
  have F__law_near : FunD K "_law_near" "_law_near" (defArgs st__law_near) (defBody st__law_near) (defScope st__law_near) [] [] (He.fAd K ("_law_near", none)) fd__law_near := F0__law_near
  have b__law_near : Binds K fd__law_near ["a", "b", "c", "d", "p", "far"] [] := FunD.bindsN (ps := ["a", "b", "c", "d", "p", "far"]) F__law_near fun _ _ _ _ _ _ us hl => match us, hl with | [_, _, _, _, _, _], _ => rfl
  obtain ⟨fd_ceiling, F0_ceiling⟩ := c.t.d.def_ 24 rfl
  have F_ceiling : FunD K "ceiling" "ceiling" (defArgs st_ceiling) (defBody st_ceiling) (defScope st_ceiling) [] [] (He.fAd K ("ceiling", none)) fd_ceiling := F0_ceiling
  have b_ceiling : Binds K fd_ceiling ["a"] [] := FunD.bindsN (ps := ["a"]) F_ceiling fun _ _ _ _ _ _ us hl => match us, hl with | [_], _ => rfl
  obtain ⟨fd_least, F0_least⟩ := c.t.d.def_ 25 rfl
  have F_least : FunD K "least" "least" (defArgs st_least) (defBody st_least) (defScope st_least) [] [] (He.fAd K ("least", none)) fd_least := F0_least
  have b_least : Binds K fd_least ["row"] [] := FunD.bindsN (ps := ["row"]) F_least fun _ _ _ _ _ _ us hl => match us, hl with | [_], _ => rfl
  obtain ⟨fd_rising, F0_rising⟩ := c.t.d.def_ 26 rfl
  have F_rising : FunD K "rising" "rising" (defArgs st_rising) (defBody st_rising) (defScope st_rising) [] [] (He.fAd K ("rising", none)) fd_rising := F0_rising
  have b_rising : Binds K fd_rising ["row"] [] := FunD.bindsN (ps := ["row"]) F_rising fun _ _ _ _ _ _ us hl => match us, hl with | [_], _ => rfl
  obtain ⟨fd_sign, F0_sign⟩ := c.t.d.def_ 27 rfl
  have F_sign : FunD K "sign" "sign" (defArgs st_sign) (defBody st_sign) (defScope st_sign) [] [] (He.fAd K ("sign", none)) fd_sign := F0_sign
  have b_sign : Binds K fd_sign ["a"] [] := FunD.bindsN (ps := ["a"]) F_sign fun _ _ _ _ _ _ us hl => match us, hl with | [_], _ => rfl
  obtain ⟨fd_floor, F0_floor⟩ := c.t.d.def_ 28 rfl
  have F_floor : FunD K "floor" "floor" (defArgs st_floor) (defBody st_floor) (defScope st_floor) [] [] (He.fAd K ("floor", none)) fd_floor := F0_floor
  have b_floor : Binds K fd_floor ["a"] [] := FunD.bindsN (ps := ["a"]) F_floor fun _ _ _ _ _ _ us hl => match us, hl with | [_], _ => rfl
  obtain ⟨fd_greatest, F0_greatest⟩ := c.t.d.def_ 29 rfl
  have F_greatest : FunD K "greatest" "greatest" (defArgs st_greatest) (defBody st_greatest) (defScope st_greatest) [] [] (He.fAd K ("greatest", none)) fd_greatest := F0_greatest
  have b_greatest : Binds K fd_greatest ["row"] [] := FunD.bindsN (ps := ["row"]) F_greatest fun _ _ _ _ _ _ us hl => match us, hl with | [_], _ => rfl
  obtain ⟨fd_over, F0_over⟩ := c.t.d.def_ 30 rfl
  have F_over : FunD K "over" "over" (defArgs st_over) (defBody st_over) (defScope st_over) [] [] (He.fAd K ("over", none)) fd_over := F0_over
  have b_over : Binds K fd_over ["a", "b"] [] := FunD.bindsN (ps := ["a", "b"]) F_over fun _ _ _ _ _ _ us hl => match us, hl with | [_, _], _ => rfl
  obtain ⟨fd__law_parts, F0__law_parts⟩ := c.t.d.def_ 31 rfl
  have F__law_parts : FunD K "_law_parts" "_law_parts" (defArgs st__law_parts) (defBody st__law_parts) (defScope st__law_parts) [] [] (He.fAd K ("_law_parts", none)) fd__law_parts := F0__law_parts
  have b__law_parts : Binds K fd__law_parts ["dice"] [] := FunD.bindsN (ps := ["dice"]) F__law_parts fun _ _ _ _ _ _ us hl => match us, hl with | [_], _ => rfl
  obtain ⟨fd_do_cross, F0_do_cross⟩ := c.t.d.def_ 32 rfl
  have F_do_cross : FunD K "do_cross" "do_cross" (defArgs st_do_cross) (defBody st_do_cross) (defScope st_do_cross) [] [] (He.fAd K ("do_cross", none)) fd_do_cross := F0_do_cross
  have b_do_cross : Binds K fd_do_cross ["a", "b", "c", "d"] [] := FunD.bindsN (ps := ["a", "b", "c", "d"]) F_do_cross fun _ _ _ _ _ _ us hl => match us, hl with | [_, _, _, _], _ => rfl
  obtain ⟨fd_crossing, F0_crossing⟩ := c.t.d.def_ 33 rfl
  have F_crossing : FunD K "crossing" "crossing" (defArgs st_crossing) (defBody st_crossing) (defScope st_crossing) [] [] (He.fAd K ("crossing", none)) fd_crossing := F0_crossing
  have b_crossing : Binds K fd_crossing ["a", "b", "c", "d"] [] := FunD.bindsN (ps := ["a", "b", "c", "d"]) F_crossing fun _ _ _ _ _ _ us hl => match us, hl with | [_, _, _, _], _ => rfl
  obtain ⟨fd_law, F0_law⟩ := c.t.d.def_ 34 rfl
  have F_law : FunD K "law" "law" (defArgs st_law) (defBody st_law) (defScope st_law) [] [] (He.fAd K ("law", none)) fd_law := F0_law
  obtain ⟨fd__law_told, F0__law_told⟩ := c.t.d.def_ 35 rfl
  have F__law_told : FunD K "_law_told" "_law_told" (defArgs st__law_told) (defBody st__law_told) (defScope st__law_told) [] [] (He.fAd K ("_law_told", none)) fd__law_told := F0__law_told
  have b__law_told : Binds K fd__law_told ["what"] [] := FunD.bindsN (ps := ["what"]) F__law_told fun _ _ _ _ _ _ us hl => match us, hl with | [_], _ => rfl
  have b_law := FunD.bindsA (ps := ["script"]) F_law fun _ _ _ _ _ _ us hl => match us, hl with | [_], _ => rfl
  have ZT : ToldF K mg hs__law_told (He.ga K) := ⟨fun p hp => by
    simp only [hs__law_told, List.mem_cons, List.not_mem_nil, or_false] at hp
    rcases hp with rfl | rfl | rfl | rfl
    · exact He.glo_ok X G (c.t.d.fact 43 rfl)
    · exact He.glo_ok X G (c.t.d.fact 51 rfl)
    · exact He.glo_ok X G (c.t.d.fact 45 rfl)
    · exact He.glo_ok X G (c.t.d.fact 60 rfl), fun p hp q hq => by
    simp only [hs__law_told, List.mem_cons, List.not_mem_nil, or_false] at hp hq
    rcases hp with rfl | rfl | rfl | rfl
    · rcases hq with rfl | rfl | rfl | rfl
      · exact (He.exm_ok (c.t.d.fact 47 rfl)).trans (congrArg some (by decide))
      · exact (He.exm_ok (c.t.d.fact 48 rfl)).trans (congrArg some (by decide))
      · exact (He.exm_ok (c.t.d.fact 49 rfl)).trans (congrArg some (by decide))
      · exact (He.exm_ok (c.t.d.fact 50 rfl)).trans (congrArg some (by decide))
    · rcases hq with rfl | rfl | rfl | rfl
      · exact (He.exm_ok (c.t.d.fact 52 rfl)).trans (congrArg some (by decide))
      · exact (He.exm_ok (c.t.d.fact 53 rfl)).trans (congrArg some (by decide))
      · exact (He.exm_ok (c.t.d.fact 54 rfl)).trans (congrArg some (by decide))
      · exact (He.exm_ok (c.t.d.fact 55 rfl)).trans (congrArg some (by decide))
    · rcases hq with rfl | rfl | rfl | rfl
      · exact (He.exm_ok (c.t.d.fact 56 rfl)).trans (congrArg some (by decide))
      · exact (He.exm_ok (c.t.d.fact 57 rfl)).trans (congrArg some (by decide))
      · exact (He.exm_ok (c.t.d.fact 58 rfl)).trans (congrArg some (by decide))
      · exact (He.exm_ok (c.t.d.fact 59 rfl)).trans (congrArg some (by decide))
    · rcases hq with rfl | rfl | rfl | rfl
      · exact (He.exm_ok (c.t.d.fact 61 rfl)).trans (congrArg some (by decide))
      · exact (He.exm_ok (c.t.d.fact 62 rfl)).trans (congrArg some (by decide))
      · exact (He.exm_ok (c.t.d.fact 63 rfl)).trans (congrArg some (by decide))
      · exact (He.exm_ok (c.t.d.fact 64 rfl)).trans (congrArg some (by decide))⟩
  refine law_at (q := "law.<locals>.<lambda>") X G hfa c G_law (fun s v => b_law s [v] rfl) fun base kb nb TB => fn_law (st := st_law) (Nm := N_law) (g := fun sk => g_law sk) F_law sc_law (fun sk hk A outer s H E hr => ?_) law_ok
  have C__law_dice := calO_of (st := st__law_dice) (T := tabT [(He.tabOf K (He.codeOf K ("law", none)), "law.<locals>.<lambda>")]) (P := (PySem.Challenge.rw_hullhall_k02_crossings_and_near_ways).prog) (w := w) (base := base) G__law_dice F__law_dice b__law_dice (fn_autO (st := st__law_dice) F__law_dice sc__law_dice (fun cdv A outer s H E hr => dv__law_dice Z cdv A outer s H E hr))
  have C__law_rounds := calO_of (st := st__law_rounds) (T := tabT [(He.tabOf K (He.codeOf K ("law", none)), "law.<locals>.<lambda>")]) (P := (PySem.Challenge.rw_hullhall_k02_crossings_and_near_ways).prog) (w := w) (base := base) G__law_rounds F__law_rounds b__law_rounds (fn_autO (st := st__law_rounds) F__law_rounds sc__law_rounds (fun cdv A outer s H E hr => dv__law_rounds Z sk C__law_dice hk cdv A outer s H E hr))
  have C_cross := cal_of (st := st_cross) (T := tabT [(He.tabOf K (He.codeOf K ("law", none)), "law.<locals>.<lambda>")]) (P := (PySem.Challenge.rw_hullhall_k02_crossings_and_near_ways).prog) (w := w) (base := base) G_cross F_cross b_cross (fn_aut (st := st_cross) F_cross sc_cross (fun cdv A outer s H E hr => dv_cross Z cdv A outer s H E hr))
  have C_less_points := cal_as (st := st_less_points) (T := tabT [(He.tabOf K (He.codeOf K ("law", none)), "law.<locals>.<lambda>")]) (P := (PySem.Challenge.rw_hullhall_k02_crossings_and_near_ways).prog) (w := w) (base := base) G_less_points F_less_points b_less_points (fn_aut (st := st_less_points) F_less_points sc_less_points (fun cdv A outer s H E hr => dv_less_points Z cdv A outer s H E hr))
  have C_turn := cal_of (st := st_turn) (T := tabT [(He.tabOf K (He.codeOf K ("law", none)), "law.<locals>.<lambda>")]) (P := (PySem.Challenge.rw_hullhall_k02_crossings_and_near_ways).prog) (w := w) (base := base) G_turn F_turn b_turn (fn_aut (st := st_turn) F_turn sc_turn (fun cdv A outer s H E hr => dv_turn Z C_cross C_less_points cdv A outer s H E hr))
  have C_along := cal_of (st := st_along) (T := tabT [(He.tabOf K (He.codeOf K ("law", none)), "law.<locals>.<lambda>")]) (P := (PySem.Challenge.rw_hullhall_k02_crossings_and_near_ways).prog) (w := w) (base := base) G_along F_along b_along (fn_aut (st := st_along) F_along sc_along (fun cdv A outer s H E hr => dv_along Z cdv A outer s H E hr))
  have C_is_between := cal_of (st := st_is_between) (T := tabT [(He.tabOf K (He.codeOf K ("law", none)), "law.<locals>.<lambda>")]) (P := (PySem.Challenge.rw_hullhall_k02_crossings_and_near_ways).prog) (w := w) (base := base) G_is_between F_is_between b_is_between (fn_aut (st := st_is_between) F_is_between sc_is_between (fun cdv A outer s H E hr => dv_is_between Z C_less_points C_turn C_along cdv A outer s H E hr))
  have C_side := cal_of (st := st_side) (T := tabT [(He.tabOf K (He.codeOf K ("law", none)), "law.<locals>.<lambda>")]) (P := (PySem.Challenge.rw_hullhall_k02_crossings_and_near_ways).prog) (w := w) (base := base) G_side F_side b_side (fn_aut (st := st_side) F_side sc_side (fun cdv A outer s H E hr => dv_side Z C_turn cdv A outer s H E hr))
  have C_do_meet := cal_of (st := st_do_meet) (T := tabT [(He.tabOf K (He.codeOf K ("law", none)), "law.<locals>.<lambda>")]) (P := (PySem.Challenge.rw_hullhall_k02_crossings_and_near_ways).prog) (w := w) (base := base) G_do_meet F_do_meet b_do_meet (fn_aut (st := st_do_meet) F_do_meet sc_do_meet (fun cdv A outer s H E hr => dv_do_meet Z C_is_between C_side cdv A outer s H E hr))
  have C_shared := cal_of (st := st_shared) (T := tabT [(He.tabOf K (He.codeOf K ("law", none)), "law.<locals>.<lambda>")]) (P := (PySem.Challenge.rw_hullhall_k02_crossings_and_near_ways).prog) (w := w) (base := base) G_shared F_shared b_shared (fn_autF (st := st_shared) F_shared sc_shared (fun n cdv A outer s H E hr => dv_shared Z n cdv A outer s H E hr))
  have C_made := cal_of (st := st_made) (T := tabT [(He.tabOf K (He.codeOf K ("law", none)), "law.<locals>.<lambda>")]) (P := (PySem.Challenge.rw_hullhall_k02_crossings_and_near_ways).prog) (w := w) (base := base) G_made F_made b_made (fn_aut (st := st_made) F_made sc_made (fun cdv A outer s H E hr => dv_made Z C_shared cdv A outer s H E hr))
  have C_square := cal_of (st := st_square) (T := tabT [(He.tabOf K (He.codeOf K ("law", none)), "law.<locals>.<lambda>")]) (P := (PySem.Challenge.rw_hullhall_k02_crossings_and_near_ways).prog) (w := w) (base := base) G_square F_square b_square (fn_aut (st := st_square) F_square sc_square (fun cdv A outer s H E hr => dv_square Z C_less_points C_along cdv A outer s H E hr))
  have C_near_square := cal_of (st := st_near_square) (T := tabT [(He.tabOf K (He.codeOf K ("law", none)), "law.<locals>.<lambda>")]) (P := (PySem.Challenge.rw_hullhall_k02_crossings_and_near_ways).prog) (w := w) (base := base) G_near_square F_near_square b_near_square (fn_aut (st := st_near_square) F_near_square sc_near_square (fun cdv A outer s H E hr => dv_near_square Z C_less_points C_turn C_along C_made C_square cdv A outer s H E hr))
  have C_order := cal_of (st := st_order) (T := tabT [(He.tabOf K (He.codeOf K ("law", none)), "law.<locals>.<lambda>")]) (P := (PySem.Challenge.rw_hullhall_k02_crossings_and_near_ways).prog) (w := w) (base := base) G_order F_order b_order (fn_aut (st := st_order) F_order sc_order (fun cdv A outer s H E hr => dv_order Z cdv A outer s H E hr))
  have C_ways_square := cal_of (st := st_ways_square) (T := tabT [(He.tabOf K (He.codeOf K ("law", none)), "law.<locals>.<lambda>")]) (P := (PySem.Challenge.rw_hullhall_k02_crossings_and_near_ways).prog) (w := w) (base := base) G_ways_square F_ways_square b_ways_square (fn_aut (st := st_ways_square) F_ways_square sc_ways_square (fun cdv A outer s H E hr => dv_ways_square Z C_do_meet C_near_square C_order cdv A outer s H E hr))
  have C__law_roll := cal_of (st := st__law_roll) (T := tabT [(He.tabOf K (He.codeOf K ("law", none)), "law.<locals>.<lambda>")]) (P := (PySem.Challenge.rw_hullhall_k02_crossings_and_near_ways).prog) (w := w) (base := base) G__law_roll F__law_roll b__law_roll (fn_autM (st := st__law_roll) F__law_roll sc__law_roll (fun cdv A outer s H E hr => dv__law_roll Z cdv A outer s H E hr))
  have C__law_point := cal_of (st := st__law_point) (T := tabT [(He.tabOf K (He.codeOf K ("law", none)), "law.<locals>.<lambda>")]) (P := (PySem.Challenge.rw_hullhall_k02_crossings_and_near_ways).prog) (w := w) (base := base) G__law_point F__law_point b__law_point (fn_autM (st := st__law_point) F__law_point sc__law_point (fun cdv A outer s H E hr => dv__law_point Z C__law_roll cdv A outer s H E hr))
  have C__law_turn := cal_of (st := st__law_turn) (T := tabT [(He.tabOf K (He.codeOf K ("law", none)), "law.<locals>.<lambda>")]) (P := (PySem.Challenge.rw_hullhall_k02_crossings_and_near_ways).prog) (w := w) (base := base) G__law_turn F__law_turn b__law_turn (fn_aut (st := st__law_turn) F__law_turn sc__law_turn (fun cdv A outer s H E hr => dv__law_turn Z cdv A outer s H E hr))
  have C_add := cal_of (st := st_add) (T := tabT [(He.tabOf K (He.codeOf K ("law", none)), "law.<locals>.<lambda>")]) (P := (PySem.Challenge.rw_hullhall_k02_crossings_and_near_ways).prog) (w := w) (base := base) G_add F_add b_add (fn_aut (st := st_add) F_add sc_add (fun cdv A outer s H E hr => dv_add Z C_made cdv A outer s H E hr))
  have C_less_parts := cal_as (st := st_less_parts) (T := tabT [(He.tabOf K (He.codeOf K ("law", none)), "law.<locals>.<lambda>")]) (P := (PySem.Challenge.rw_hullhall_k02_crossings_and_near_ways).prog) (w := w) (base := base) G_less_parts F_less_parts b_less_parts (fn_aut (st := st_less_parts) F_less_parts sc_less_parts (fun cdv A outer s H E hr => dv_less_parts Z C_made cdv A outer s H E hr))
  have C_times := cal_of (st := st_times) (T := tabT [(He.tabOf K (He.codeOf K ("law", none)), "law.<locals>.<lambda>")]) (P := (PySem.Challenge.rw_hullhall_k02_crossings_and_near_ways).prog) (w := w) (base := base) G_times F_times b_times (fn_aut (st := st_times) F_times sc_times (fun cdv A outer s H E hr => dv_times Z C_made cdv A outer s H E hr))
  have C__law_gap := cal_of (st := st__law_gap) (T := tabT [(He.tabOf K (He.codeOf K ("law", none)), "law.<locals>.<lambda>")]) (P := (PySem.Challenge.rw_hullhall_k02_crossings_and_near_ways).prog) (w := w) (base := base) G__law_gap F__law_gap b__law_gap (fn_aut (st := st__law_gap) F__law_gap sc__law_gap (fun cdv A outer s H E hr => dv__law_gap Z C_add C_less_parts C_times cdv A outer s H E hr))
  have C__law_at := cal_of (st := st__law_at) (T := tabT [(He.tabOf K (He.codeOf K ("law", none)), "law.<locals>.<lambda>")]) (P := (PySem.Challenge.rw_hullhall_k02_crossings_and_near_ways).prog) (w := w) (base := base) G__law_at F__law_at b__law_at (fn_aut (st := st__law_at) F__law_at sc__law_at (fun cdv A outer s H E hr => dv__law_at Z C_made cdv A outer s H E hr))
  have C__law_near := cal_of (st := st__law_near) (T := tabT [(He.tabOf K (He.codeOf K ("law", none)), "law.<locals>.<lambda>")]) (P := (PySem.Challenge.rw_hullhall_k02_crossings_and_near_ways).prog) (w := w) (base := base) G__law_near F__law_near b__law_near (fn_aut (st := st__law_near) F__law_near sc__law_near (fun cdv A outer s H E hr => dv__law_near Z C_made C_near_square C_order C__law_gap C__law_at cdv A outer s H E hr))
  have C_ceiling := cal_of (st := st_ceiling) (T := tabT [(He.tabOf K (He.codeOf K ("law", none)), "law.<locals>.<lambda>")]) (P := (PySem.Challenge.rw_hullhall_k02_crossings_and_near_ways).prog) (w := w) (base := base) G_ceiling F_ceiling b_ceiling (fn_aut (st := st_ceiling) F_ceiling sc_ceiling (fun cdv A outer s H E hr => dv_ceiling Z cdv A outer s H E hr))
  have C_least := cal_of (st := st_least) (T := tabT [(He.tabOf K (He.codeOf K ("law", none)), "law.<locals>.<lambda>")]) (P := (PySem.Challenge.rw_hullhall_k02_crossings_and_near_ways).prog) (w := w) (base := base) G_least F_least b_least (fn_aut (st := st_least) F_least sc_least (fun cdv A outer s H E hr => dv_least Z C_order cdv A outer s H E hr))
  have C_rising := cal_of (st := st_rising) (T := tabT [(He.tabOf K (He.codeOf K ("law", none)), "law.<locals>.<lambda>")]) (P := (PySem.Challenge.rw_hullhall_k02_crossings_and_near_ways).prog) (w := w) (base := base) G_rising F_rising b_rising (fn_autF (st := st_rising) F_rising sc_rising (fun n cdv A outer s H E hr => dv_rising Z n C_order cdv A outer s H E hr))
  have C_sign := cal_of (st := st_sign) (T := tabT [(He.tabOf K (He.codeOf K ("law", none)), "law.<locals>.<lambda>")]) (P := (PySem.Challenge.rw_hullhall_k02_crossings_and_near_ways).prog) (w := w) (base := base) G_sign F_sign b_sign (fn_aut (st := st_sign) F_sign sc_sign (fun cdv A outer s H E hr => dv_sign Z cdv A outer s H E hr))
  have C_floor := cal_of (st := st_floor) (T := tabT [(He.tabOf K (He.codeOf K ("law", none)), "law.<locals>.<lambda>")]) (P := (PySem.Challenge.rw_hullhall_k02_crossings_and_near_ways).prog) (w := w) (base := base) G_floor F_floor b_floor (fn_aut (st := st_floor) F_floor sc_floor (fun cdv A outer s H E hr => dv_floor Z cdv A outer s H E hr))
  have C_greatest := cal_of (st := st_greatest) (T := tabT [(He.tabOf K (He.codeOf K ("law", none)), "law.<locals>.<lambda>")]) (P := (PySem.Challenge.rw_hullhall_k02_crossings_and_near_ways).prog) (w := w) (base := base) G_greatest F_greatest b_greatest (fn_aut (st := st_greatest) F_greatest sc_greatest (fun cdv A outer s H E hr => dv_greatest Z C_order cdv A outer s H E hr))
  have C_over := cal_of (st := st_over) (T := tabT [(He.tabOf K (He.codeOf K ("law", none)), "law.<locals>.<lambda>")]) (P := (PySem.Challenge.rw_hullhall_k02_crossings_and_near_ways).prog) (w := w) (base := base) G_over F_over b_over (fn_aut (st := st_over) F_over sc_over (fun cdv A outer s H E hr => dv_over Z C_made cdv A outer s H E hr))
  have C__law_parts := cal_of (st := st__law_parts) (T := tabT [(He.tabOf K (He.codeOf K ("law", none)), "law.<locals>.<lambda>")]) (P := (PySem.Challenge.rw_hullhall_k02_crossings_and_near_ways).prog) (w := w) (base := base) G__law_parts F__law_parts b__law_parts (fn_autM (st := st__law_parts) F__law_parts sc__law_parts (fun cdv A outer s H E hr => dv__law_parts Z C_made C_order C__law_roll C_add C_less_parts C_times C_ceiling C_least C_rising C_sign C_floor C_greatest C_over cdv A outer s H E hr))
  have C_do_cross := cal_of (st := st_do_cross) (T := tabT [(He.tabOf K (He.codeOf K ("law", none)), "law.<locals>.<lambda>")]) (P := (PySem.Challenge.rw_hullhall_k02_crossings_and_near_ways).prog) (w := w) (base := base) G_do_cross F_do_cross b_do_cross (fn_aut (st := st_do_cross) F_do_cross sc_do_cross (fun cdv A outer s H E hr => dv_do_cross Z C_side cdv A outer s H E hr))
  have C_crossing := cal_of (st := st_crossing) (T := tabT [(He.tabOf K (He.codeOf K ("law", none)), "law.<locals>.<lambda>")]) (P := (PySem.Challenge.rw_hullhall_k02_crossings_and_near_ways).prog) (w := w) (base := base) G_crossing F_crossing b_crossing (fn_aut (st := st_crossing) F_crossing sc_crossing (fun cdv A outer s H E hr => dv_crossing Z C_cross C_less_points C_made cdv A outer s H E hr))
  exact dv_law Z sk C__law_rounds C_do_meet C_made C_ways_square C__law_point C__law_turn C_less_parts C_times C__law_near C__law_parts C_do_cross C_crossing hk TB ZT F__law_told G__law_told b__law_told A outer s H E hr
end K2

open PySem PySem.W PySem.Calls PyProof.Rows
theorem PySem.Challenge.cw_hullhall_k02_crossings_and_near_ways_holds : PySem.Challenge.rw_hullhall_k02_crossings_and_near_ways.Holds := by
  w_on; o_law
  refine HandSHeadRun.head_any (r := PySem.W.OpenLaw.row PySem.Challenge.rw_hullhall_k02_crossings_and_near_ways) (q := PySem.W.view (PySem.W.OpenLaw.row PySem.Challenge.rw_hullhall_k02_crossings_and_near_ways).prog [46]) (H := K2.hkX) (ob := K2.ob) (M := 4000) (loose := K2.loose) (d := HandSHeadRun.topDef (PySem.W.OpenLaw.row PySem.Challenge.rw_hullhall_k02_crossings_and_near_ways).prog 46) (kwd := []) K2.ob_eq
    (by kernel_rfl) (fun s => by kernel_rfl) K2.run (by kernel_rfl) (by kernel_rfl) (by kernel_rfl) (by rfl) (by first | assumption | decide +kernel) (by decide +kernel) ⟨rfl, rfl, rfl, rfl, rfl, by decide +kernel⟩ ?hw ?hc
  case hw => w_witness2
  case hc =>
    refine LamX.walk_ofTsE (l := PySem.Challenge.rw_hullhall_k02_crossings_and_near_ways) (n := 63) (k := 6) (x := "script") (CX := fun w => L2.CX (PySem.Challenge.rw_hullhall_k02_crossings_and_near_ways).prog w) rfl (by decide) (by kernel_rfl) ⟨rfl, by decide, by decide⟩ ?F (fun _ _ _ _ _ z => DL.cx_no z)
    intro w mg fa h Y G hmg0
    obtain ⟨K, KX, c⟩ := Y
    have hmg : mg ("law" : PySem.Str) = some (.ref fa) := by
      have e : (HandSHeadRun.topDef (PySem.W.OpenLaw.row PySem.Challenge.rw_hullhall_k02_crossings_and_near_ways).prog 46).name = ("law" : PySem.Str) := by kernel_rfl
      rw [← e]
      exact hmg0
    exact ⟨K, KX, K2.facts KX G hmg c⟩

