import PyProof.Rows.All
import Wide.All
import OpenK.AllK
import Wide.FinOn
import PyProof.EqAt
import PyProof.EqKinds
import PyProof.TupleCall
import HandS.Base
import HandS.Call
import HandS.List
import HandS.Comp
import HandS.Ends
import HandS.Words
import HandS.WordsList
import HandS.Exc
import HandS.ExcOwn
import HandS.TryOnly
import HandS.Iter
import HandS.WordsExc
import HandS.More
import HandS.IsInst
import HandS.Style
import HandS.TryMany
import HandS.Defaults
import HandS.TupAny
import KE.SortData
import HandS.Deep
import KE.KLam
import HandS.Lambda
import HandS.EndTab
import HandS.HeadWalk
import HandS.HeadHook4
import HandS.GenCall
import HandS.GenList
import HandS.AnyAll
import PyProof.GenComp
import PyProof.SumAny
import HandS.DictComp
import HandS.DictTup
import HandS.TupLen
import HandS.Conv
import KE.KDictSum
import KE.KExcSuper
import HandS.Nested
import HandS.ExcInit
import HandS.ExcField
import KE.GoesMore
import HandS.Zip
import HandS.Rev
import HandS.New
import KE.KExcIs
import HandS.ExcIs
import KE.DataMinMax
import HandS.Strs
import HandS.ForExc
import KE.KStateDown
import HandS.Head0
import HandS.Head1
import HandS.Head2
import HandS.HeadEnd
import HandS.HeadHook1
import HandS.HeadHook2
import HandS.HeadHook3
import PySem.Challenge.RW_hullhall_k04_hulls_and_papers
set_option Elab.async false
set_option linter.all false
set_option maxRecDepth 100000
set_option maxHeartbeats 0
namespace DL
open PySem PySem.Spec L2
open PyProof.Rows hiding St

/-! ### data: what a value says, without addresses; loc n: the n-th list of our own, which may change -/
inductive Kd where
  | ins (C : Addr) (ns : List Str)
  | dic
inductive D where
  | non
  | bl (b : Bool)
  | int (i : Int)
  | str (x : Str)
  | tup (l : List D)
  | lst (l : List D)
  | loc (n : Nat)
  | adr (a : Addr)
  | ty (n : String)
  /-- a locked list (the script) -/
  | scr (l : List D)
  /-- a known object, by what it is (a lambda) -/
  | fnv (i : Nat) (o : Addr → Addr → HO) (o' : Addr → HO)
  /-- what a cell is that is no list: at its head -/
  | tag (k : Kd)
abbrev Cells := List (List D)
/-- a raised exception: the class's name, what it carries -/
structure Ex where
  name : Str
  part : Option D
inductive R (γ : Type) where
  | ok (a : γ) (M : Cells)
  | ex (e : Ex) (M : Cells)
  | no
def R.bind {γ δ : Type} (r : R γ) (k : γ → Cells → R δ) : R δ := match r with
  | .ok a M => k a M
  | .ex e M => .ex e M
  | .no => .no
structure Sx where
  ρ : List (Option D)
  M : Cells

mutual
def Rel (H : Hp) (N : Addr → Prop) (α : List Addr) : D → V → Prop
  | .non, v => v = .non
  | .bl b, v => v = .bl b
  | .int i, v => v = .int i
  | .str x, v => v = .str x
  | .tup l, v => ∃ a vs, v = .ref a ∧ H a = some (.tup vs) ∧ Rels H N α l vs
  | .lst l, v => ∃ a vs, v = .ref a ∧ ¬ N a ∧ H a = some (.lst vs) ∧ Rels H N α l vs
  | .loc n, v => ∃ a, v = .ref a ∧ α[n]? = some a
  | .adr a, v => v = .ref a
  | .ty n, v => v = .ty n
  | .scr l, v => ∃ a o vs, v = .ref a ∧ H a = some (.frz o (.lst vs)) ∧ Rels H N α l vs
  | .fnv _ o o', v => ∃ f c φ φ', v = .ref f ∧ o f c = .ext φ ∧ o' c = .ext φ' ∧ H f = some (o f c) ∧ H c = some (o' c)
  | .tag _, _ => False
def Rels (H : Hp) (N : Addr → Prop) (α : List Addr) : List D → List V → Prop
  | [], vs => vs = []
  | d :: l, vs => ∃ v r, vs = v :: r ∧ Rel H N α d v ∧ Rels H N α l r
end

/-- objects that may change -/
def Chg : HO → Prop
  | .lst _ => True
  | .ins _ _ _ => True
  | .dT _ => True
  | .dK _ => True
  | _ => False
/-- nothing stands there but a code table, maybe -/
def Fz (H : Hp) (b : Addr) : Prop := ∀ o, H b = some o → ∃ ps, o = .tbl ps
theorem fz_of {H : Hp} {b : Addr} (h : H b = none) : Fz H b := fun o e => by rw [h] at e; cases e
structure Ext (α : List Addr) (N : Addr → Prop) (H : Hp) (α' : List Addr) (N' : Addr → Prop) (H' : Hp) : Prop where
  pre : ∃ β, α' = α ++ β ∧ ∀ b ∈ β, Fz H b
  nn : ∀ a, N a → N' a
  nb : ∀ a, N' a → N a ∨ Fz H a
  keep : ∀ b o, H b = some o → (Chg o → b ∉ α) → (∀ ps, o ≠ .tbl ps) → H' b = some o
  there : ∀ b, ¬ Fz H b → ¬ Fz H' b

theorem Ext.refl {α : List Addr} {N : Addr → Prop} {H : Hp} : Ext α N H α N H :=
  ⟨⟨[], by simp, by simp⟩, fun _ h => h, fun _ h => .inl h, fun _ _ h _ _ => h, fun _ h => h⟩
theorem Ext.trans {α α1 α2 : List Addr} {N N1 N2 : Addr → Prop} {H H1 H2 : Hp} (a : Ext α N H α1 N1 H1) (b : Ext α1 N1 H1 α2 N2 H2) : Ext α N H α2 N2 H2 := by
  obtain ⟨β, e1, f1⟩ := a.pre
  obtain ⟨γ, e2, f2⟩ := b.pre
  have back : ∀ x, Fz H1 x → Fz H x := fun x h => Classical.byContradiction fun q => a.there x q h
  refine ⟨⟨β ++ γ, by rw [e2, e1, List.append_assoc], fun x hx => ?_⟩, fun x h => b.nn x (a.nn x h), fun x h => ?_, fun x o h1 h2 h3 => ?_, fun x h => b.there x (a.there x h)⟩
  · rcases List.mem_append.mp hx with h | h
    · exact f1 x h
    · exact back x (f2 x h)
  · rcases b.nb x h with h | h
    · exact a.nb x h
    · exact .inr (back x h)
  · refine b.keep x o (a.keep x o h1 h2 h3) (fun hl hm => ?_) h3
    rw [e1] at hm
    rcases List.mem_append.mp hm with z | z
    · exact h2 hl z
    · obtain ⟨ps, e⟩ := f1 x z o h1; exact h3 ps e

theorem keepT {α : List Addr} {N N' : Addr → Prop} {H H' : Hp} {α' : List Addr} {a : Addr} {vs : List V} (e : Ext α N H α' N' H') (h : H a = some (.tup vs)) : H' a = some (.tup vs) :=
  e.keep a _ h (fun z => z.elim) (fun _ z => by cases z)
theorem keepF {α : List Addr} {N N' : Addr → Prop} {H H' : Hp} {α' : List Addr} {a : Addr} {o : Obj} {vs : HO} (e : Ext α N H α' N' H') (h : H a = some (.frz o vs)) : H' a = some (.frz o vs) :=
  e.keep a _ h (fun z => z.elim) (fun _ z => by cases z)
theorem keepL {α : List Addr} {N N' : Addr → Prop} {H H' : Hp} {α' : List Addr} {a : Addr} {vs : List V} (e : Ext α N H α' N' H') (ha : a ∉ α) (h : H a = some (.lst vs)) : H' a = some (.lst vs) :=
  e.keep a _ h (fun _ => ha) (fun _ z => by cases z)
theorem keepX {α : List Addr} {N N' : Addr → Prop} {H H' : Hp} {α' : List Addr} {a : Addr} {φ : Heap → Prop} (e : Ext α N H α' N' H') (h : H a = some (.ext φ)) : H' a = some (.ext φ) :=
  e.keep a _ h (fun z => z.elim) (fun _ z => by cases z)
theorem nf_of {H : Hp} {a : Addr} {u : HO} (hu : ∀ ps, u ≠ .tbl ps) (h : H a = some u) : ¬ Fz H a := fun z => by
  obtain ⟨ps, e⟩ := z _ h; exact hu ps e
theorem pre_get {α α' : List Addr} {n : Nat} {a : Addr} (h : α[n]? = some a) (p : ∃ β : List Addr, α' = α ++ β ∧ True) : α'[n]? = some a := by
  obtain ⟨β, e, _⟩ := p
  rw [e, List.getElem?_append_left (List.getElem?_eq_some_iff.mp h).1]
  exact h

section
variable {α α' : List Addr} {N N' : Addr → Prop} {H H' : Hp}
mutual
theorem Rel.mono (sub : ∀ a ∈ α, N a) (e : Ext α N H α' N' H') : ∀ {d : D} {v : V}, Rel H N α d v → Rel H' N' α' d v
  | .non, _, h => by unfold Rel at h ⊢; exact h
  | .bl _, _, h => by unfold Rel at h ⊢; exact h
  | .int _, _, h => by unfold Rel at h ⊢; exact h
  | .str _, _, h => by unfold Rel at h ⊢; exact h
  | .tup l, _, h => by
    unfold Rel at h ⊢
    obtain ⟨a, vs, h1, h2, h3⟩ := h
    exact ⟨a, vs, h1, keepT e h2, Rels.mono sub e h3⟩
  | .lst l, _, h => by
    unfold Rel at h ⊢
    obtain ⟨a, vs, h1, h0, h2, h3⟩ := h
    refine ⟨a, vs, h1, fun z => ?_, keepL e (fun z => h0 (sub a z)) h2, Rels.mono sub e h3⟩
    rcases e.nb a z with z | z
    · exact h0 z
    · exact nf_of (fun _ e => by cases e) h2 z
  | .loc n, _, h => by
    unfold Rel at h ⊢
    obtain ⟨a, h1, h2⟩ := h
    obtain ⟨β, e1, _⟩ := e.pre
    exact ⟨a, h1, pre_get h2 ⟨β, e1, trivial⟩⟩
  | .adr _, _, h => by unfold Rel at h ⊢; exact h
  | .ty _, _, h => by unfold Rel at h ⊢; exact h
  | .scr l, _, h => by
    unfold Rel at h ⊢
    obtain ⟨a, o, vs, h1, h2, h3⟩ := h
    exact ⟨a, o, vs, h1, keepF e h2, Rels.mono sub e h3⟩
  | .fnv i o o', _, h => by
    unfold Rel at h ⊢
    obtain ⟨f, c, φ, φ', h1, h2, h3, h4, h5⟩ := h
    exact ⟨f, c, φ, φ', h1, h2, h3, by rw [h2] at h4 ⊢; exact keepX e h4, by rw [h3] at h5 ⊢; exact keepX e h5⟩
  | .tag _, _, h => by unfold Rel at h; exact h.elim
theorem Rels.mono (sub : ∀ a ∈ α, N a) (e : Ext α N H α' N' H') : ∀ {l : List D} {vs : List V}, Rels H N α l vs → Rels H' N' α' l vs
  | [], _, h => by unfold Rels at h ⊢; exact h
  | d :: l, _, h => by
    unfold Rels at h ⊢
    obtain ⟨v, r, h1, h2, h3⟩ := h
    exact ⟨v, r, h1, Rel.mono sub e h2, Rels.mono sub e h3⟩
end
end
mutual
/-- fewer forbidden places -/
theorem Rel.less {H : Hp} {N N' : Addr → Prop} {α : List Addr} (hn : ∀ a, N' a → N a) : ∀ {d : D} {v : V}, Rel H N α d v → Rel H N' α d v
  | .non, _, h => by unfold Rel at h ⊢; exact h
  | .bl _, _, h => by unfold Rel at h ⊢; exact h
  | .int _, _, h => by unfold Rel at h ⊢; exact h
  | .str _, _, h => by unfold Rel at h ⊢; exact h
  | .tup l, _, h => by
    unfold Rel at h ⊢
    obtain ⟨a, vs, h1, h2, h3⟩ := h
    exact ⟨a, vs, h1, h2, Rels.less hn h3⟩
  | .lst l, _, h => by
    unfold Rel at h ⊢
    obtain ⟨a, vs, h1, h0, h2, h3⟩ := h
    exact ⟨a, vs, h1, fun z => h0 (hn a z), h2, Rels.less hn h3⟩
  | .loc n, _, h => by unfold Rel at h ⊢; exact h
  | .adr _, _, h => by unfold Rel at h ⊢; exact h
  | .ty _, _, h => by unfold Rel at h ⊢; exact h
  | .scr l, _, h => by
    unfold Rel at h ⊢
    obtain ⟨a, o, vs, h1, h2, h3⟩ := h
    exact ⟨a, o, vs, h1, h2, Rels.less hn h3⟩
  | .fnv i o o', _, h => by unfold Rel at h ⊢; exact h
  | .tag _, _, h => by unfold Rel at h; exact h.elim
theorem Rels.less {H : Hp} {N N' : Addr → Prop} {α : List Addr} (hn : ∀ a, N' a → N a) : ∀ {l : List D} {vs : List V}, Rels H N α l vs → Rels H N' α l vs
  | [], _, h => by unfold Rels at h ⊢; exact h
  | d :: l, _, h => by
    unfold Rels at h ⊢
    obtain ⟨v, r, h1, h2, h3⟩ := h
    exact ⟨v, r, h1, Rel.less hn h2, Rels.less hn h3⟩
end
mutual
def D.lf : D → Bool
  | .tup l => lfs l
  | .lst l => lfs l
  | .scr l => lfs l
  | .loc _ => false
  | _ => true
def lfs : List D → Bool
  | [] => true
  | d :: l => d.lf && lfs l
end
mutual
/-- no list within -/
def D.nol : D → Bool
  | .tup l => nols l
  | .lst _ => false
  | .scr _ => false
  | .loc _ => false
  | _ => true
def nols : List D → Bool
  | [] => true
  | d :: l => d.nol && nols l
end
mutual
theorem Rel.lf {H : Hp} {N : Addr → Prop} {α α' : List Addr} : ∀ {d : D} {v : V}, d.lf = true → Rel H N α d v → Rel H N α' d v
  | .non, _, _, h => by unfold Rel at h ⊢; exact h
  | .bl _, _, _, h => by unfold Rel at h ⊢; exact h
  | .int _, _, _, h => by unfold Rel at h ⊢; exact h
  | .str _, _, _, h => by unfold Rel at h ⊢; exact h
  | .tup l, _, f, h => by
    unfold Rel at h ⊢
    obtain ⟨a, vs, h1, h2, h3⟩ := h
    exact ⟨a, vs, h1, h2, Rels.lf (by unfold D.lf at f; exact f) h3⟩
  | .lst l, _, f, h => by
    unfold Rel at h ⊢
    obtain ⟨a, vs, h1, h0, h2, h3⟩ := h
    exact ⟨a, vs, h1, h0, h2, Rels.lf (by unfold D.lf at f; exact f) h3⟩
  | .loc n, _, f, h => by unfold D.lf at f; cases f
  | .adr _, _, _, h => by unfold Rel at h ⊢; exact h
  | .ty _, _, _, h => by unfold Rel at h ⊢; exact h
  | .scr l, _, f, h => by
    unfold Rel at h ⊢
    obtain ⟨a, o, vs, h1, h2, h3⟩ := h
    exact ⟨a, o, vs, h1, h2, Rels.lf (by unfold D.lf at f; exact f) h3⟩
  | .fnv i o o', _, _, h => by unfold Rel at h ⊢; exact h
  | .tag _, _, _, h => by unfold Rel at h; exact h.elim
theorem Rels.lf {H : Hp} {N : Addr → Prop} {α α' : List Addr} : ∀ {l : List D} {vs : List V}, lfs l = true → Rels H N α l vs → Rels H N α' l vs
  | [], _, _, h => by unfold Rels at h ⊢; exact h
  | d :: l, _, f, h => by
    unfold Rels at h ⊢
    unfold lfs at f
    obtain ⟨f1, f2⟩ := Bool.and_eq_true_iff.mp f
    obtain ⟨v, r, h1, h2, h3⟩ := h
    exact ⟨v, r, h1, Rel.lf f1 h2, Rels.lf f2 h3⟩
end
mutual
theorem Rel.nil {H : Hp} {N : Addr → Prop} {α : List Addr} : ∀ {d : D} {v : V}, Rel H N [] d v → Rel H N α d v
  | .non, _, h => by unfold Rel at h ⊢; exact h
  | .bl _, _, h => by unfold Rel at h ⊢; exact h
  | .int _, _, h => by unfold Rel at h ⊢; exact h
  | .str _, _, h => by unfold Rel at h ⊢; exact h
  | .tup l, _, h => by
    unfold Rel at h ⊢
    obtain ⟨a, vs, h1, h2, h3⟩ := h
    exact ⟨a, vs, h1, h2, Rels.nil h3⟩
  | .lst l, _, h => by
    unfold Rel at h ⊢
    obtain ⟨a, vs, h1, h0, h2, h3⟩ := h
    exact ⟨a, vs, h1, h0, h2, Rels.nil h3⟩
  | .loc n, _, h => by
    unfold Rel at h
    obtain ⟨a, _, h2⟩ := h
    simp at h2
  | .adr _, _, h => by unfold Rel at h ⊢; exact h
  | .ty _, _, h => by unfold Rel at h ⊢; exact h
  | .scr l, _, h => by
    unfold Rel at h ⊢
    obtain ⟨a, o, vs, h1, h2, h3⟩ := h
    exact ⟨a, o, vs, h1, h2, Rels.nil h3⟩
  | .fnv i o o', _, h => by unfold Rel at h ⊢; exact h
  | .tag _, _, h => by unfold Rel at h; exact h.elim
theorem Rels.nil {H : Hp} {N : Addr → Prop} {α : List Addr} : ∀ {l : List D} {vs : List V}, Rels H N [] l vs → Rels H N α l vs
  | [], _, h => by unfold Rels at h ⊢; exact h
  | d :: l, _, h => by
    unfold Rels at h ⊢
    obtain ⟨v, r, h1, h2, h3⟩ := h
    exact ⟨v, r, h1, Rel.nil h2, Rels.nil h3⟩
end
mutual
theorem Rel.nol {H : Hp} {N N' : Addr → Prop} {α α' : List Addr} : ∀ {d : D} {v : V}, d.nol = true → Rel H N α d v → Rel H N' α' d v
  | .non, _, _, h => by unfold Rel at h ⊢; exact h
  | .bl _, _, _, h => by unfold Rel at h ⊢; exact h
  | .int _, _, _, h => by unfold Rel at h ⊢; exact h
  | .str _, _, _, h => by unfold Rel at h ⊢; exact h
  | .tup l, _, f, h => by
    unfold Rel at h ⊢
    obtain ⟨a, vs, h1, h2, h3⟩ := h
    exact ⟨a, vs, h1, h2, Rels.nol (by unfold D.nol at f; exact f) h3⟩
  | .lst l, _, f, h => by unfold D.nol at f; cases f
  | .loc n, _, f, h => by unfold D.nol at f; cases f
  | .adr _, _, _, h => by unfold Rel at h ⊢; exact h
  | .ty _, _, _, h => by unfold Rel at h ⊢; exact h
  | .scr l, _, f, h => by unfold D.nol at f; cases f
  | .fnv i o o', _, _, h => by unfold Rel at h ⊢; exact h
  | .tag _, _, _, h => by unfold Rel at h; exact h.elim
theorem Rels.nol {H : Hp} {N N' : Addr → Prop} {α α' : List Addr} : ∀ {l : List D} {vs : List V}, nols l = true → Rels H N α l vs → Rels H N' α' l vs
  | [], _, _, h => by unfold Rels at h ⊢; exact h
  | d :: l, _, f, h => by
    unfold Rels at h ⊢
    unfold nols at f
    obtain ⟨f1, f2⟩ := Bool.and_eq_true_iff.mp f
    obtain ⟨v, r, h1, h2, h3⟩ := h
    exact ⟨v, r, h1, Rel.nol f1 h2, Rels.nol f2 h3⟩
end
theorem Rels.length {H : Hp} {N : Addr → Prop} {α : List Addr} : ∀ {l : List D} {vs : List V}, Rels H N α l vs → l.length = vs.length
  | [], _, h => by unfold Rels at h; rw [h]; rfl
  | d :: l, _, h => by
    unfold Rels at h
    obtain ⟨v, r, h1, _, h3⟩ := h
    rw [h1]; simp [Rels.length h3]
theorem Rels.get {H : Hp} {N : Addr → Prop} {α : List Addr} : ∀ {l : List D} {vs : List V} {i : Nat} {d : D}, Rels H N α l vs → l[i]? = some d → ∃ v, vs[i]? = some v ∧ Rel H N α d v
  | [], _, _, _, _, e => by simp at e
  | d :: l, _, 0, _, h, e => by
    unfold Rels at h
    obtain ⟨v, r, h1, h2, _⟩ := h
    simp at e; subst e; subst h1
    exact ⟨v, rfl, h2⟩
  | d :: l, _, i + 1, _, h, e => by
    unfold Rels at h
    obtain ⟨v, r, h1, _, h3⟩ := h
    subst h1
    obtain ⟨u, q1, q2⟩ := Rels.get (i := i) h3 (by simpa using e)
    exact ⟨u, by simpa using q1, q2⟩
theorem Rels.append {H : Hp} {N : Addr → Prop} {α : List Addr} {l2 : List D} {ws : List V} (h2 : Rels H N α l2 ws) : ∀ {l : List D} {vs : List V}, Rels H N α l vs → Rels H N α (l ++ l2) (vs ++ ws)
  | [], _, h => by unfold Rels at h; subst h; exact h2
  | d :: l, _, h => by
    unfold Rels at h
    obtain ⟨v, r, h1, q1, q2⟩ := h
    subst h1
    show Rels H N α (d :: (l ++ l2)) (v :: (r ++ ws))
    unfold Rels
    exact ⟨v, _, rfl, q1, Rels.append h2 q2⟩
theorem Rels.one {H : Hp} {N : Addr → Prop} {α : List Addr} {d : D} {v : V} (h : Rel H N α d v) : Rels H N α [d] [v] := by
  unfold Rels; exact ⟨v, [], rfl, h, by unfold Rels; rfl⟩
theorem Rels.cons {H : Hp} {N : Addr → Prop} {α : List Addr} {d : D} {v : V} {l : List D} {vs : List V} (h : Rel H N α d v) (t : Rels H N α l vs) : Rels H N α (d :: l) (v :: vs) := by
  unfold Rels; exact ⟨v, vs, rfl, h, t⟩
theorem Rels.take {H : Hp} {N : Addr → Prop} {α : List Addr} : ∀ {l : List D} {vs : List V} (n : Nat), Rels H N α l vs → Rels H N α (l.take n) (vs.take n)
  | _, _, 0, _ => by simp [Rels]
  | [], _, n + 1, h => by unfold Rels at h; subst h; simp [Rels]
  | d :: l, _, n + 1, h => by
    unfold Rels at h
    obtain ⟨v, r, h1, q1, q2⟩ := h
    subst h1
    show Rels H N α (d :: l.take n) (v :: r.take n)
    exact Rels.cons q1 (Rels.take n q2)
theorem Rels.drop {H : Hp} {N : Addr → Prop} {α : List Addr} : ∀ {l : List D} {vs : List V} (n : Nat), Rels H N α l vs → Rels H N α (l.drop n) (vs.drop n)
  | _, _, 0, h => h
  | [], _, n + 1, h => by unfold Rels at h; subst h; simp [Rels]
  | d :: l, _, n + 1, h => by
    unfold Rels at h
    obtain ⟨v, r, h1, q1, q2⟩ := h
    subst h1
    show Rels H N α (l.drop n) (r.drop n)
    exact Rels.drop n q2
theorem Rels.set {H : Hp} {N : Addr → Prop} {α : List Addr} {d : D} {v : V} (hd : Rel H N α d v) : ∀ {l : List D} {vs : List V} (n : Nat), Rels H N α l vs → Rels H N α (l.set n d) (vs.set n v)
  | [], _, n, h => by unfold Rels at h; subst h; simp [Rels]
  | e :: l, _, 0, h => by
    unfold Rels at h
    obtain ⟨w, r, h1, q1, q2⟩ := h
    subst h1
    exact Rels.cons hd q2
  | e :: l, _, n + 1, h => by
    unfold Rels at h
    obtain ⟨w, r, h1, q1, q2⟩ := h
    subst h1
    exact Rels.cons q1 (Rels.set hd n q2)
theorem Rels.reverse {H : Hp} {N : Addr → Prop} {α : List Addr} : ∀ {l : List D} {vs : List V}, Rels H N α l vs → Rels H N α l.reverse vs.reverse
  | [], _, h => by unfold Rels at h; subst h; simp [Rels]
  | d :: l, _, h => by
    unfold Rels at h
    obtain ⟨v, r, h1, q1, q2⟩ := h
    subst h1
    rw [List.reverse_cons, List.reverse_cons]
    exact Rels.append (Rels.one q1) (Rels.reverse q2)
theorem Rels.eraseIdx {H : Hp} {N : Addr → Prop} {α : List Addr} : ∀ {l : List D} {vs : List V} (n : Nat), Rels H N α l vs → Rels H N α (l.eraseIdx n) (vs.eraseIdx n)
  | [], _, n, h => by unfold Rels at h; subst h; simp [Rels]
  | e :: l, _, 0, h => by
    unfold Rels at h
    obtain ⟨w, r, h1, q1, q2⟩ := h
    subst h1
    exact q2
  | e :: l, _, n + 1, h => by
    unfold Rels at h
    obtain ⟨w, r, h1, q1, q2⟩ := h
    subst h1
    exact Rels.cons q1 (Rels.eraseIdx n q2)

/-! ### what stands by of code tables -/
structure TPr where
  p : Hp → Prop
  mono : ∀ H H', p H → (∀ b o, H b = some o → ((∃ ps, o = .tbl ps) ∨ ∃ φ, o = .ext φ) → H' b = some o) → p H'

/-- an entry of a dict whose keys are tuples of ints -/
def RelP (H : Hp) (N : Addr → Prop) (α : List Addr) (d : D) (kv : List Key × V) : Prop := ∃ (ks : List Int) (dv : D), d = .tup [.tup (ks.map .int), dv] ∧ kv.1 = ks.map Sum.inl ∧ Rel H N α dv kv.2
/-- a cell as it lies: a list, an instance, a dict -/
def CelOk (H : Hp) (N : Addr → Prop) (α : List Addr) (a : Addr) (l : List D) : Prop :=
  (∃ vs, H a = some (.lst vs) ∧ Rels H N α l vs) ∨
  (∃ C ns ds dx vs, l = .tag (.ins C ns) :: ds ∧ H a = some (.ins C dx (ns.zip vs)) ∧ ds.length = ns.length ∧ Rels H N α ds vs) ∨
  ∃ ds kvs, l = .tag .dic :: ds ∧ H a = some (.dT kvs) ∧ Paired (RelP H N α) ds kvs
/-- a list, by its head -/
def plain : List D → Bool
  | .tag _ :: _ => false
  | _ => true
def lat (M : Cells) (n : Nat) : Option (List D) := match M[n]? with
  | some l => if plain l = true then some l else none
  | none => none
theorem lat_some {M : Cells} {n : Nat} {l : List D} (h : lat M n = some l) : M[n]? = some l ∧ plain l = true := by
  unfold lat at h
  cases q : M[n]? with
  | none => rw [q] at h; cases h
  | some m =>
    rw [q] at h
    dsimp only at h
    by_cases hp : plain m = true
    · rw [if_pos hp] at h; cases h; exact ⟨rfl, hp⟩
    · rw [if_neg hp] at h; cases h
theorem CelOk.lst {H : Hp} {N : Addr → Prop} {α : List Addr} {a : Addr} {l : List D} (h : CelOk H N α a l) (hp : plain l = true) : ∃ vs, H a = some (.lst vs) ∧ Rels H N α l vs := by
  rcases h with h | ⟨C, ns, ds, dx, vs, rfl, _⟩ | ⟨ds, kvs, rfl, _⟩
  · exact h
  · cases hp
  · cases hp
theorem CelOk.chg {H : Hp} {N : Addr → Prop} {α : List Addr} {a : Addr} {l : List D} (h : CelOk H N α a l) : ∃ o, H a = some o ∧ Chg o ∧ (∀ ps, o ≠ .tbl ps) := by
  rcases h with ⟨vs, h, _⟩ | ⟨C, ns, ds, dx, vs, _, h, _⟩ | ⟨ds, kvs, _, h, _⟩
  · exact ⟨_, h, trivial, fun _ z => by cases z⟩
  · exact ⟨_, h, trivial, fun _ z => by cases z⟩
  · exact ⟨_, h, trivial, fun _ z => by cases z⟩
theorem CelOk.map {H H' : Hp} {N N' : Addr → Prop} {α α' : List Addr} {a : Addr} {l : List D} (h : CelOk H N α a l) (k : ∀ o, H a = some o → Chg o → (∀ ps, o ≠ .tbl ps) → H' a = some o)
    (r : ∀ d v, d ∈ l ∨ (∃ x, .tup [x, d] ∈ l) → Rel H N α d v → Rel H' N' α' d v) : CelOk H' N' α' a l := by
  have rs : ∀ (ds : List D) (vs : List V), (∀ d ∈ ds, d ∈ l) → Rels H N α ds vs → Rels H' N' α' ds vs := by
    intro ds
    induction ds with
    | nil => intro vs _ h; unfold Rels at h ⊢; exact h
    | cons d ds ih =>
      intro vs hm h
      unfold Rels at h ⊢
      obtain ⟨v, w, h1, h2, h3⟩ := h
      exact ⟨v, w, h1, r d v (.inl (hm d List.mem_cons_self)) h2, ih w (fun d hd => hm d (List.mem_cons_of_mem _ hd)) h3⟩
  rcases h with ⟨vs, h, q⟩ | ⟨C, ns, ds, dx, vs, e, h, hl, q⟩ | ⟨ds, kvs, e, h, q⟩
  · exact .inl ⟨vs, k _ h trivial (fun _ z => by cases z), rs l vs (fun _ h => h) q⟩
  · exact .inr (.inl ⟨C, ns, ds, dx, vs, e, k _ h trivial (fun _ z => by cases z), hl, rs ds vs (fun d hd => by rw [e]; exact List.mem_cons_of_mem _ hd) q⟩)
  · refine .inr (.inr ⟨ds, kvs, e, k _ h trivial (fun _ z => by cases z), ?_⟩)
    have hm : ∀ d ∈ ds, d ∈ l := fun d hd => by rw [e]; exact List.mem_cons_of_mem _ hd
    clear e h
    induction q with
    | nil => exact .nil
    | @cons d kv ds kvs hd t ih =>
      refine .cons ?_ (ih fun d hd => hm d (List.mem_cons_of_mem _ hd))
      obtain ⟨ks, dv, e1, e2, e3⟩ := hd
      exact ⟨ks, dv, e1, e2, r dv kv.2 (.inr ⟨_, by rw [← e1]; exact hm d List.mem_cons_self⟩) e3⟩
theorem CelOk.all {H H' : Hp} {N N' : Addr → Prop} {α α' : List Addr} {a : Addr} {l : List D} (h : CelOk H N α a l) (k : ∀ o, H a = some o → Chg o → (∀ ps, o ≠ .tbl ps) → H' a = some o) (r : ∀ d v, Rel H N α d v → Rel H' N' α' d v) : CelOk H' N' α' a l := h.map k fun d v _ q => r d v q
theorem lfs_mem : ∀ {l : List D} {d : D}, lfs l = true → d ∈ l → d.lf = true
  | [], _, _, h => by cases h
  | e :: l, d, f, h => by
    unfold lfs at f
    obtain ⟨f1, f2⟩ := Bool.and_eq_true_iff.mp f
    rcases List.mem_cons.mp h with z | z
    · rw [z]; exact f1
    · exact lfs_mem f2 z
theorem CelOk.lf {H : Hp} {N : Addr → Prop} {α α' : List Addr} {a : Addr} {l : List D} (hl : lfs l = true) (h : CelOk H N α a l) : CelOk H N α' a l := h.map (fun _ q _ _ => q) fun d v hd q => by
  refine Rel.lf ?_ q
  rcases hd with hd | ⟨x, hd⟩
  · exact lfs_mem hl hd
  · have := lfs_mem hl hd
    unfold D.lf lfs lfs at this
    obtain ⟨_, f2⟩ := Bool.and_eq_true_iff.mp this
    exact (Bool.and_eq_true_iff.mp f2).1
/-- the cells -/
structure StC (T : TPr) (N : Addr → Prop) (H : Hp) (M : Cells) (α : List Addr) : Prop where
  nd : α.Nodup
  sub : ∀ a ∈ α, N a
  som : ∀ a, N a → ¬ Fz H a
  len : α.length = M.length
  cel : ∀ (n : Nat) (l : List D), M[n]? = some l → ∃ a, α[n]? = some a ∧ CelOk H N α a l
  tab : T.p H
/-- the cells and the slots -/
structure StR (T : TPr) (N : Addr → Prop) (H : Hp) (σ : St) (s : Sx) (α : List Addr) : Prop where
  c : StC T N H s.M α
  slt : ∀ (i : Nat) (d : D), s.ρ[i]? = some (some d) → ∃ v, σ[i]? = some (some v) ∧ Rel H N α d v
  lnr : s.ρ.length = σ.length

/-- a raised exception as it lies -/
def XR (mg : Str → Option Value) (e : Ex) (cls : Value) (dd : Option Addr) (H : Hp) (N : Addr → Prop) (α : List Addr) : Prop :=
  mg e.name = some cls ∧ match e.part with
    | none => dd = none
    | some d => ∃ a v, dd = some a ∧ H a = some (.xd [(("part" : Str), v)]) ∧ Rel H N α d v

abbrev RG (γ δ : Type) := Hp → (Addr → Prop) → List Addr → γ → δ → Prop
section
variable {γ γ' δ δ' : Type}
def Post (T : TPr) (mg : Str → Option Value) (G : RG γ δ) (N : Addr → Prop) (α : List Addr) (H : Hp) (σ : St) (ρ : List (Option D)) (W : WX) (Q : δ → Hp → Prop) : R γ → Prop
  | .ok d M => ∀ v H' α' N', StR T N' H' σ ⟨ρ, M⟩ α' → Ext α N H α' N' H' → G H' N' α' d v → Q v H'
  | .ex e M => ∀ cls dd H' α' N', StR T N' H' σ ⟨ρ, M⟩ α' → Ext α N H α' N' H' → XR mg e cls dd H' N' α' → W cls dd σ H'
  | .no => False
def tG (T : TPr) (mg : Str → Option Value) (G : RG γ δ) (W : WX) (f : Sx → R γ) : St → Hp → (δ → Hp → Prop) → Prop :=
  fun σ H Q => ∃ s α N, StR T N H σ s α ∧ Post T mg G N α H σ s.ρ W Q (f s)
variable {T : TPr} {mg : Str → Option Value} {G : RG γ δ} {G' : RG γ' δ'} {N : Addr → Prop} {α : List Addr} {H : Hp} {σ : St} {ρ : List (Option D)} {W : WX}
theorem Post.later {Q : δ → Hp → Prop} {r : R γ} {N1 : Addr → Prop} {α1 : List Addr} {H1 : Hp} (e1 : Ext α N H α1 N1 H1) (h : Post T mg G N α H σ ρ W Q r) : Post T mg G N1 α1 H1 σ ρ W Q r := by
  cases r with
  | no => exact h
  | ex e M => exact fun cls dd H' α' N' s2 e2 x => h cls dd H' α' N' s2 (e1.trans e2) x
  | ok c2 M2 => exact fun v2 H' α' N' s2 e2 g2 => h v2 H' α' N' s2 (e1.trans e2) g2
theorem Post.bind {Q : δ' → Hp → Prop} {r : R γ} {k : γ → Cells → R γ'} (h : Post T mg G' N α H σ ρ W Q (r.bind k)) :
    Post T mg G N α H σ ρ W (fun v H1 => ∃ M α1 N1 c, StR T N1 H1 σ ⟨ρ, M⟩ α1 ∧ Ext α N H α1 N1 H1 ∧ G H1 N1 α1 c v ∧ Post T mg G' N1 α1 H1 σ ρ W Q (k c M)) r := by
  cases r with
  | no => exact h
  | ex e M => exact h
  | ok c M =>
    intro v H1 α1 N1 s1 e1 g1
    exact ⟨M, α1, N1, c, s1, e1, g1, Post.later e1 h⟩
theorem Post.mono {Q Q' : δ → Hp → Prop} {r : R γ} (hq : ∀ v H', Q v H' → Q' v H') (h : Post T mg G N α H σ ρ W Q r) : Post T mg G N α H σ ρ W Q' r := by
  cases r with
  | no => exact h
  | ex e M => exact h
  | ok c M => exact fun v H' α' N' s e g => hq v H' (h v H' α' N' s e g)
theorem Post.now {Q : δ → Hp → Prop} {c : γ} {M : Cells} {v : δ} (h : Post T mg G N α H σ ρ W Q (.ok c M)) (s : StR T N H σ ⟨ρ, M⟩ α) (g : G H N α c v) : Q v H :=
  h v H α N s Ext.refl g
theorem tG.mk {Q : δ → Hp → Prop} {f : Sx → R γ} {M : Cells} (s : StR T N H σ ⟨ρ, M⟩ α) (h : Post T mg G N α H σ ρ W Q (f ⟨ρ, M⟩)) : tG T mg G W f σ H Q := ⟨⟨ρ, M⟩, α, N, s, h⟩
end
theorem _root_.L2.PE.imp {X : Cx} {e : Expr} {t t' : TE} (h : PE X e t) (hi : ∀ σ H Q, t' σ H Q → t σ H Q) : PE X e t' := ⟨fun pins s σ H Q I q => h.run pins s σ H Q I (hi σ H Q q)⟩
theorem _root_.L2.PT.imp {X : Cx} {e : Expr} {t t' : TT} (h : PT X e t) (hi : ∀ σ H Q, t' σ H Q → t σ H Q) : PT X e t' := ⟨fun pins s σ H Q I q => h.run pins s σ H Q I (hi σ H Q q)⟩
theorem _root_.L2.PW.imp {X : Cx} {e : Expr} {t t' : TT} (h : PW X e t) (hi : ∀ σ H Q, t' σ H Q → t σ H Q) : PW X e t' := ⟨fun w pins s σ H Q I q => h.run w pins s σ H Q I (hi σ H Q q)⟩
theorem _root_.L2.PA.imp {X : Cx} {e : List Expr} {t t' : TA} (h : PA X e t) (hi : ∀ σ H Q, t' σ H Q → t σ H Q) : PA X e t' := ⟨fun p pins s σ H Q I q => h.run p pins s σ H Q I (hi σ H Q q)⟩
theorem _root_.L2.PS.imp {X : Cx} {e : Stmt} {t t' : TS} (h : PS X e t) (hi : ∀ D σ H, t' D σ H → t D σ H) : PS X e t' := ⟨fun pins s σ H D I q => h.run pins s σ H D I (hi D σ H q)⟩
theorem _root_.L2.PSs.imp {X : Cx} {e : List Stmt} {t t' : TS} (h : PSs X e t) (hi : ∀ D σ H, t' D σ H → t D σ H) : PSs X e t' := ⟨fun pins s σ H D I q => h.run pins s σ H D I (hi D σ H q)⟩
end DL

namespace DL
open PySem PySem.Spec L2
open PyProof.Rows hiding St

abbrev RelD : RG D V := fun H N α d v => Rel H N α d v
abbrev RelL : RG (List D) (List V) := fun H N α d v => Rels H N α d v
abbrev RelB : RG Bool Bool := fun _ _ _ c b => c = b
abbrev RelO : RG (Option Int) (Option Int) := fun _ _ _ c b => c = b
abbrev tD (T : TPr) (mg : Str → Option Value) (W : WX) (f : Sx → R D) : TE := tG T mg RelD W f
abbrev tL (T : TPr) (mg : Str → Option Value) (W : WX) (f : Sx → R (List D)) : TA := tG T mg RelL W f
abbrev tB' (T : TPr) (mg : Str → Option Value) (W : WX) (f : Sx → R Bool) : TT := tG T mg RelB W f

section
variable {T : TPr} {mg : Str → Option Value} {W : WX} {σ : L2.St} {H : Hp} {N : Addr → Prop} {α : List Addr}

theorem StC.keep {M M' : Cells} {N' : Addr → Prop} {α' : List Addr} {H' : Hp} {ρ : List (Option D)} (s : StR T N H σ ⟨ρ, M⟩ α) (c : StC T N' H' M' α') (e : Ext α N H α' N' H') : StR T N' H' σ ⟨ρ, M'⟩ α' :=
  ⟨c, fun i d h => by obtain ⟨v, h1, h2⟩ := s.slt i d h; exact ⟨v, h1, Rel.mono s.c.sub e h2⟩, s.lnr⟩
/-- what holds of grown heaps where no cell changed -/
theorem StC.grow {M : Cells} {H' : Hp} (c : StC T N H M α) (k : ∀ b o, H b = some o → H' b = some o) : StC T N H' M α := by
  have e : Ext α N H α N H' := ⟨⟨[], by simp, by simp⟩, fun _ h => h, fun _ h => .inl h, fun b o h _ _ => k b o h, fun b h z => h fun o e => z o (k b o e)⟩
  exact ⟨c.nd, c.sub, fun a h => e.there a (c.som a h), c.len, fun n l h => by
    obtain ⟨a, h1, h2⟩ := c.cel n l h
    exact ⟨a, h1, h2.all (fun o q _ _ => k _ o q) fun d v q => Rel.mono c.sub e q⟩, T.mono _ _ c.tab fun b o h _ => k b o h⟩
theorem Ext.grow {H' : Hp} (k : ∀ b o, H b = some o → H' b = some o) : Ext α N H α N H' :=
  ⟨⟨[], by simp, by simp⟩, fun _ h => h, fun _ h => .inl h, fun b o h _ _ => k b o h, fun b h z => h fun o e => z o (k b o e)⟩
theorem new_keep {p : Addr} {o : HO} (h : H p = none) : ∀ b u, H b = some u → upd H p o b = some u := fun b u e => by
  rw [upd_ne (ne_of_none e h)]; exact e

/-! ### names, constants -/
def fVar (i : Nat) : Sx → R D := fun s => match s.ρ[i]? with
  | some (some d) => .ok d s.M
  | _ => .no
def fC (d : D) : Sx → R D := fun s => .ok d s.M
theorem var_imp {i : Nat} {Q : VK} (h : tD T mg W (fVar i) σ H Q) : tVar i σ H Q := by
  obtain ⟨s, α, N, hs, p⟩ := h
  unfold fVar at p
  cases q : s.ρ[i]? with
  | none => rw [q] at p; exact p.elim
  | some o =>
    cases o with
    | none => rw [q] at p; exact p.elim
    | some d =>
      rw [q] at p
      obtain ⟨v, h1, h2⟩ := hs.slt i d q
      exact ⟨v, h1, Post.now p hs h2⟩
theorem c_imp {d : D} {v : V} {Q : VK} (hv : ∀ H N α, Rel H N α d v) (h : tD T mg W (fC d) σ H Q) : tC v σ H Q := by
  obtain ⟨s, α, N, hs, p⟩ := h
  exact Post.now p hs (hv _ _ _)

/-! ### values -/
def opt {γ : Type} (o : Option γ) (M : Cells) : R γ := match o with
  | some z => .ok z M
  | none => .no
def fOp (g : Cells → D → D → Option D) (fa fb : Sx → R D) : Sx → R D := fun s =>
  (fa s).bind fun d M1 => (fb ⟨s.ρ, M1⟩).bind fun e M2 => opt (g M2 d e) M2
def fUn (g : Cells → D → Option D) (fa : Sx → R D) : Sx → R D := fun s => (fa s).bind fun d M1 => opt (g M1 d) M1
def fCB (g : Cells → List D → Option D) (fa : Sx → R (List D)) : Sx → R D := fun s => (fa s).bind fun l M1 => opt (g M1 l) M1
/-- an operation on values, told by data -/
def OpD (T : TPr) (r : R2) (g : Cells → D → D → Option D) : Prop := ∀ {N : Addr → Prop} {H : Hp} {M : Cells} {α : List Addr} {d e : D} {x y : V} {z : D} {Q : VK}, StC T N H M α → Rel H N α d x → Rel H N α e y → g M d e = some z →
  (∀ v H', StC T N H' M α → Ext α N H α N H' → Rel H' N α z v → Q v H') → r x y H Q
def UnD (T : TPr) (r : V → Hp → VK → Prop) (g : Cells → D → Option D) : Prop := ∀ {N : Addr → Prop} {H : Hp} {M : Cells} {α : List Addr} {d : D} {x : V} {z : D} {Q : VK}, StC T N H M α → Rel H N α d x → g M d = some z →
  (∀ v H', StC T N H' M α → Ext α N H α N H' → Rel H' N α z v → Q v H') → r x H Q
def CbD (T : TPr) (r : List V → Hp → VK → Prop) (g : Cells → List D → Option D) : Prop := ∀ {N : Addr → Prop} {H : Hp} {M : Cells} {α : List Addr} {l : List D} {xs : List V} {z : D} {Q : VK}, StC T N H M α → Rels H N α l xs → g M l = some z →
  (∀ v H', StC T N H' M α → Ext α N H α N H' → Rel H' N α z v → Q v H') → r xs H Q
theorem Post.opt {γ δ : Type} {G : RG γ δ} {ρ : List (Option D)} {Q : δ → Hp → Prop} {o : Option γ} {M : Cells} (h : Post T mg G N α H σ ρ W Q (opt o M)) : ∃ z, o = some z ∧ Post T mg G N α H σ ρ W Q (.ok z M) := by
  cases o with
  | none => exact h.elim
  | some z => exact ⟨z, rfl, h⟩
theorem op_imp {r : R2} {g : Cells → D → D → Option D} {fa fb : Sx → R D} (ho : OpD T r g) {Q : VK} (h : tD T mg W (fOp g fa fb) σ H Q) : tOp r (tD T mg W fa) (tD T mg W fb) σ H Q := by
  obtain ⟨s, α, N, hs, p⟩ := h
  refine ⟨s, α, N, hs, Post.mono (fun x H1 h1 => ?_) p.bind⟩
  obtain ⟨M1, α1, N1, d, s1, e1, g1, p1⟩ := h1
  refine ⟨_, α1, N1, s1, Post.mono (fun y H2 h2 => ?_) p1.bind⟩
  obtain ⟨M2, α2, N2, e, s2, e2, g2, p2⟩ := h2
  obtain ⟨z, hz, p3⟩ := p2.opt
  exact ho s2.c (Rel.mono s1.c.sub e2 g1) g2 hz fun v H' c e rz => p3 v H' α2 N2 (StC.keep s2 c e) e rz
theorem un_imp {r : V → Hp → VK → Prop} {g : Cells → D → Option D} {fa : Sx → R D} (ho : UnD T r g) {Q : VK} (h : tD T mg W (fUn g fa) σ H Q) : tUn r (tD T mg W fa) σ H Q := by
  obtain ⟨s, α, N, hs, p⟩ := h
  refine ⟨s, α, N, hs, Post.mono (fun x H1 h1 => ?_) p.bind⟩
  obtain ⟨M1, α1, N1, d, s1, e1, g1, p1⟩ := h1
  obtain ⟨z, hz, p3⟩ := p1.opt
  exact ho s1.c g1 hz fun v H' c e rz => p3 v H' α1 N1 (StC.keep s1 c e) e rz
theorem cb_imp {r : List V → Hp → VK → Prop} {g : Cells → List D → Option D} {fa : Sx → R (List D)} (ho : CbD T r g) {Q : VK} (h : tD T mg W (fCB g fa) σ H Q) : tCB r (tL T mg W fa) σ H Q := by
  obtain ⟨s, α, N, hs, p⟩ := h
  refine ⟨s, α, N, hs, Post.mono (fun x H1 h1 => ?_) p.bind⟩
  obtain ⟨M1, α1, N1, d, s1, e1, g1, p1⟩ := h1
  obtain ⟨z, hz, p3⟩ := p1.opt
  exact ho s1.c g1 hz fun v H' c e rz => p3 v H' α1 N1 (StC.keep s1 c e) e rz

/-! ### argument lists -/
def fNil : Sx → R (List D) := fun s => .ok [] s.M
def fCons (fa : Sx → R D) (fr : Sx → R (List D)) : Sx → R (List D) := fun s => (fa s).bind fun d M1 => (fr ⟨s.ρ, M1⟩).bind fun l M2 => .ok (d :: l) M2
theorem nil_imp {Q : List V → Hp → Prop} (h : tL T mg W fNil σ H Q) : tNil σ H Q := by
  obtain ⟨s, α, N, hs, p⟩ := h
  exact Post.now p hs (by unfold RelL Rels; rfl)
theorem cons_imp {fa : Sx → R D} {fr : Sx → R (List D)} {Q : List V → Hp → Prop} (h : tL T mg W (fCons fa fr) σ H Q) : tCons (tD T mg W fa) (tL T mg W fr) σ H Q := by
  obtain ⟨s, α, N, hs, p⟩ := h
  refine ⟨s, α, N, hs, Post.mono (fun x H1 h1 => ?_) p.bind⟩
  obtain ⟨M1, α1, N1, d, s1, e1, g1, p1⟩ := h1
  refine ⟨_, α1, N1, s1, Post.mono (fun y H2 h2 => ?_) p1.bind⟩
  obtain ⟨M2, α2, N2, e, s2, e2, g2, p2⟩ := h2
  exact Post.now p2 s2 (Rels.cons (Rel.mono s1.c.sub e2 g1) g2)

/-! ### displays -/
def fTup (f : Sx → R (List D)) : Sx → R D := fun s => (f s).bind fun l M => if l.length ≤ 100000 then .ok (.tup l) M else .no
def fLst (f : Sx → R (List D)) : Sx → R D := fun s => (f s).bind fun l M => if l.length ≤ 100000 then .ok (.lst l) M else .no
theorem sz_of {n : Nat} (h : n ≤ 100000) : n ≤ sizeLine := Nat.le_trans h (by decide)
theorem Post.ite {γ δ : Type} {G : RG γ δ} {ρ : List (Option D)} {Q : δ → Hp → Prop} {c : Prop} [Decidable c] {r : R γ} (h : Post T mg G N α H σ ρ W Q (if c then r else .no)) : c ∧ Post T mg G N α H σ ρ W Q r := by
  by_cases hc : c
  · rw [if_pos hc] at h; exact ⟨hc, h⟩
  · rw [if_neg hc] at h; exact h.elim
/-- a new tuple -/
theorem tup_new {l : List D} {vs : List V} {p : Addr} (r : Rels H N α l vs) (sub : ∀ a ∈ α, N a) (hp : H p = none) : Rel (upd H p (.tup vs)) N α (.tup l) (.ref p) := by
  unfold Rel
  exact ⟨p, vs, rfl, upd_same, Rels.mono sub (Ext.grow (new_keep hp)) r⟩
theorem lst_new {l : List D} {vs : List V} {p : Addr} (r : Rels H N α l vs) (sub : ∀ a ∈ α, N a) (som : ∀ a, N a → ¬ Fz H a) (hp : H p = none) : Rel (upd H p (.lst vs)) N α (.lst l) (.ref p) := by
  unfold Rel
  exact ⟨p, vs, rfl, fun z => som p z (fz_of hp), upd_same, Rels.mono sub (Ext.grow (new_keep hp)) r⟩
theorem tup_imp {f : Sx → R (List D)} {Q : VK} (h : tD T mg W (fTup f) σ H Q) : tTup (tL T mg W f) σ H Q := by
  obtain ⟨s, α, N, hs, p⟩ := h
  refine ⟨s, α, N, hs, Post.mono (fun x H1 h1 => ?_) p.bind⟩
  obtain ⟨M1, α1, N1, l, s1, e1, g1, p1⟩ := h1
  obtain ⟨hl, p2⟩ := p1.ite
  have hl' := Rels.length g1
  exact ⟨sz_of (by omega), fun p hp => p2 _ _ α1 N1 (StC.keep s1 (s1.c.grow (new_keep hp)) (Ext.grow (new_keep hp))) (Ext.grow (new_keep hp)) (tup_new g1 s1.c.sub hp)⟩
theorem lst_imp {f : Sx → R (List D)} {Q : VK} (h : tD T mg W (fLst f) σ H Q) : tLst (tL T mg W f) σ H Q := by
  obtain ⟨s, α, N, hs, p⟩ := h
  refine ⟨s, α, N, hs, Post.mono (fun x H1 h1 => ?_) p.bind⟩
  obtain ⟨M1, α1, N1, l, s1, e1, g1, p1⟩ := h1
  obtain ⟨hl, p2⟩ := p1.ite
  have hl' := Rels.length g1
  exact ⟨sz_of (by omega), fun p hp => p2 _ _ α1 N1 (StC.keep s1 (s1.c.grow (new_keep hp)) (Ext.grow (new_keep hp))) (Ext.grow (new_keep hp)) (lst_new g1 s1.c.sub s1.c.som hp)⟩

/-! ### tests -/
def toB (r : R D) : R Bool := r.bind fun d M => match d with
  | .bl b => .ok b M
  | _ => .no
def fTst (f : Sx → R D) : Sx → R Bool := fun s => toB (f s)
def fAnd (f g : Sx → R Bool) : Sx → R Bool := fun s => (f s).bind fun b M => if b = true then g ⟨s.ρ, M⟩ else .ok false M
def fOr (f g : Sx → R Bool) : Sx → R Bool := fun s => (f s).bind fun b M => if b = true then .ok true M else g ⟨s.ρ, M⟩
def fNot (f : Sx → R Bool) : Sx → R Bool := fun s => (f s).bind fun b M => .ok (!b) M
def fIf (c : Sx → R Bool) (f g : Sx → R D) : Sx → R D := fun s => (c s).bind fun b M => if b = true then f ⟨s.ρ, M⟩ else g ⟨s.ρ, M⟩
def ofB (f : Sx → R Bool) : Sx → R D := fun s => (f s).bind fun b M => .ok (.bl b) M
theorem tst_imp {f : Sx → R D} {Q : Bool → Hp → Prop} (h : tB' T mg W (fTst f) σ H Q) : tTest (tD T mg W f) σ H Q := by
  obtain ⟨s, α, N, hs, p⟩ := h
  refine ⟨s, α, N, hs, Post.mono (fun x H1 h1 => ?_) (Post.bind (G := RelD) p)⟩
  obtain ⟨M1, α1, N1, d, s1, e1, g1, p1⟩ := h1
  cases d with
  | bl b =>
    unfold RelD Rel at g1
    exact ⟨b, g1, Post.now p1 s1 rfl⟩
  | _ => exact p1.elim
theorem and_imp {f g : Sx → R Bool} {Q : Bool → Hp → Prop} (h : tB' T mg W (fAnd f g) σ H Q) : tAnd (tB' T mg W f) (tB' T mg W g) σ H Q := by
  obtain ⟨s, α, N, hs, p⟩ := h
  refine ⟨s, α, N, hs, Post.mono (fun x H1 h1 => ?_) (Post.bind (G := RelB) p)⟩
  obtain ⟨M1, α1, N1, b, s1, e1, g1, p1⟩ := h1
  cases g1
  cases x with
  | true => exact ⟨_, α1, N1, s1, p1⟩
  | false => exact Post.now p1 s1 rfl
theorem or_imp {f g : Sx → R Bool} {Q : Bool → Hp → Prop} (h : tB' T mg W (fOr f g) σ H Q) : tOr (tB' T mg W f) (tB' T mg W g) σ H Q := by
  obtain ⟨s, α, N, hs, p⟩ := h
  refine ⟨s, α, N, hs, Post.mono (fun x H1 h1 => ?_) (Post.bind (G := RelB) p)⟩
  obtain ⟨M1, α1, N1, b, s1, e1, g1, p1⟩ := h1
  cases g1
  cases x with
  | true => exact Post.now p1 s1 rfl
  | false => exact ⟨_, α1, N1, s1, p1⟩
theorem not_imp {f : Sx → R Bool} {Q : Bool → Hp → Prop} (h : tB' T mg W (fNot f) σ H Q) : tNot (tB' T mg W f) σ H Q := by
  obtain ⟨s, α, N, hs, p⟩ := h
  refine ⟨s, α, N, hs, Post.mono (fun x H1 h1 => ?_) (Post.bind (G := RelB) p)⟩
  obtain ⟨M1, α1, N1, b, s1, e1, g1, p1⟩ := h1
  cases g1
  exact Post.now p1 s1 rfl
theorem if_imp {c : Sx → R Bool} {f g : Sx → R D} {Q : VK} (h : tD T mg W (fIf c f g) σ H Q) : tIf (tB' T mg W c) (tD T mg W f) (tD T mg W g) σ H Q := by
  obtain ⟨s, α, N, hs, p⟩ := h
  refine ⟨s, α, N, hs, Post.mono (fun x H1 h1 => ?_) (Post.bind (G := RelB) p)⟩
  obtain ⟨M1, α1, N1, b, s1, e1, g1, p1⟩ := h1
  cases g1
  cases x with
  | true => exact ⟨_, α1, N1, s1, p1⟩
  | false => exact ⟨_, α1, N1, s1, p1⟩
def fAndV (fa fb : Sx → R D) : Sx → R D := fun s => (fa s).bind fun d M => match d with
  | .bl b => if b = true then fb ⟨s.ρ, M⟩ else .ok (.bl false) M
  | _ => .no
def fOrV (fa fb : Sx → R D) : Sx → R D := fun s => (fa s).bind fun d M => match d with
  | .bl b => if b = true then .ok (.bl true) M else fb ⟨s.ρ, M⟩
  | _ => .no
def fNotV (fa : Sx → R D) : Sx → R D := fun s => (fa s).bind fun d M => match d with
  | .bl b => .ok (.bl (!b)) M
  | _ => .no
theorem andV_imp {fa fb : Sx → R D} {Q : VK} (h : tD T mg W (fAndV fa fb) σ H Q) : tAndV (tD T mg W fa) (tD T mg W fb) σ H Q := by
  obtain ⟨s, α, N, hs, p⟩ := h
  refine ⟨s, α, N, hs, Post.mono (fun x H1 h1 => ?_) (Post.bind (G := RelD) p)⟩
  obtain ⟨M1, α1, N1, d, s1, e1, g1, p1⟩ := h1
  cases d with
  | bl b =>
    unfold RelD Rel at g1
    refine ⟨b, g1, ?_⟩
    cases b with
    | true => exact ⟨_, α1, N1, s1, p1⟩
    | false => exact Post.now p1 s1 (by unfold RelD Rel; rfl)
  | _ => exact p1.elim
theorem orV_imp {fa fb : Sx → R D} {Q : VK} (h : tD T mg W (fOrV fa fb) σ H Q) : tOrV (tD T mg W fa) (tD T mg W fb) σ H Q := by
  obtain ⟨s, α, N, hs, p⟩ := h
  refine ⟨s, α, N, hs, Post.mono (fun x H1 h1 => ?_) (Post.bind (G := RelD) p)⟩
  obtain ⟨M1, α1, N1, d, s1, e1, g1, p1⟩ := h1
  cases d with
  | bl b =>
    unfold RelD Rel at g1
    refine ⟨b, g1, ?_⟩
    cases b with
    | true => exact Post.now p1 s1 (by unfold RelD Rel; rfl)
    | false => exact ⟨_, α1, N1, s1, p1⟩
  | _ => exact p1.elim
theorem notV_imp {fa : Sx → R D} {Q : VK} (h : tD T mg W (fNotV fa) σ H Q) : tNotV (tD T mg W fa) σ H Q := by
  obtain ⟨s, α, N, hs, p⟩ := h
  refine ⟨s, α, N, hs, Post.mono (fun x H1 h1 => ?_) (Post.bind (G := RelD) p)⟩
  obtain ⟨M1, α1, N1, d, s1, e1, g1, p1⟩ := h1
  cases d with
  | bl b =>
    unfold RelD Rel at g1
    exact ⟨b, g1, Post.now p1 s1 (by unfold RelD Rel; rfl)⟩
  | _ => exact p1.elim
/-- a op b op' c -/
def fChain (g g' : Cells → D → D → Option D) (fa fb fc : Sx → R D) : Sx → R D := fun s =>
  (fa s).bind fun d M1 => (fb ⟨s.ρ, M1⟩).bind fun e M2 => (opt (g M2 d e) M2).bind fun z M3 => match z with
    | .bl b => if b = true then (fc ⟨s.ρ, M3⟩).bind fun w M4 => opt (g' M4 e w) M4 else .ok (.bl false) M3
    | _ => .no
theorem chain_imp {r r' : R2} {g g' : Cells → D → D → Option D} {fa fb fc : Sx → R D} (ho : OpD T r g) (ho' : OpD T r' g') {Q : VK} (h : tD T mg W (fChain g g' fa fb fc) σ H Q) : tChain r r' (tD T mg W fa) (tD T mg W fb) (tD T mg W fc) σ H Q := by
  obtain ⟨s, α, N, hs, p⟩ := h
  refine ⟨s, α, N, hs, Post.mono (fun x H1 h1 => ?_) (Post.bind (G := RelD) p)⟩
  obtain ⟨M1, α1, N1, d, s1, e1, g1, p1⟩ := h1
  refine ⟨_, α1, N1, s1, Post.mono (fun y H2 h2 => ?_) (Post.bind (G := RelD) p1)⟩
  obtain ⟨M2, α2, N2, e, s2, e2, g2, p2⟩ := h2
  cases q : g M2 d e with
  | none => rw [q] at p2; exact p2.elim
  | some z =>
    refine ho s2.c (Rel.mono s1.c.sub e2 g1) g2 q fun v H' c ex rz => ?_
    rw [q] at p2
    have s3 := StC.keep s2 c ex
    cases z with
    | bl b =>
      unfold Rel at rz
      refine ⟨b, rz, ?_⟩
      have p3 : Post T mg RelD N2 α2 H2 σ s.ρ W Q (if b = true then (fc ⟨s.ρ, M2⟩).bind fun w M4 => DL.opt (g' M4 e w) M4 else .ok (.bl false) M2) := p2
      cases b with
      | false =>
        rw [if_neg (by decide)] at p3 ⊢
        exact p3 _ _ _ _ s3 ex (by unfold RelD Rel; rfl)
      | true =>
        rw [if_pos rfl] at p3 ⊢
        have p4 : Post T mg RelD N2 α2 H' σ s.ρ W Q ((fc ⟨s.ρ, M2⟩).bind fun w M4 => DL.opt (g' M4 e w) M4) := by
          exact Post.later ex p3
        refine ⟨_, α2, N2, s3, Post.mono (fun w H4 h4 => ?_) (Post.bind (G := RelD) p4)⟩
        obtain ⟨M4, α4, N4, ww, s4, e4, g4, p5⟩ := h4
        obtain ⟨z4, hz4, p6⟩ := p5.opt
        exact ho' s4.c (Rel.mono s3.c.sub e4 (Rel.mono s2.c.sub ex g2)) g4 hz4 fun v H5 c e rz => p6 v H5 α4 N4 (StC.keep s4 c e) e rz
    | _ => exact p2.elim
end
end DL

namespace DL
open PySem PySem.Spec L2
open PyProof.Rows hiding St

/-! ### statements -/
inductive RS where
  | nx (s : Sx)
  | rt (d : D) (s : Sx)
  | bk (s : Sx)
  | ct (s : Sx)
  | ex (e : Ex) (s : Sx)
  | no
def PostS (T : TPr) (mg : Str → Option Value) (N : Addr → Prop) (α : List Addr) (H : Hp) (W : WX) (Dn : Ends) : RS → Prop
  | .nx s => ∀ σ' H' α' N', StR T N' H' σ' s α' → Ext α N H α' N' H' → Dn.nx σ' H'
  | .bk s => ∀ σ' H' α' N', StR T N' H' σ' s α' → Ext α N H α' N' H' → Dn.bk σ' H'
  | .ct s => ∀ σ' H' α' N', StR T N' H' σ' s α' → Ext α N H α' N' H' → Dn.ct σ' H'
  | .rt d s => ∀ v σ' H' α' N', StR T N' H' σ' s α' → Ext α N H α' N' H' → Rel H' N' α' d v → Dn.rt v H'
  | .ex e s => ∀ cls dd σ' H' α' N', StR T N' H' σ' s α' → Ext α N H α' N' H' → XR mg e cls dd H' N' α' → W cls dd σ' H'
  | .no => False
def tS (T : TPr) (mg : Str → Option Value) (W : WX) (f : Sx → RS) : TS := fun Dn σ H => ∃ s α N, StR T N H σ s α ∧ PostS T mg N α H W Dn (f s)
def R.toS {γ : Type} (r : R γ) (ρ : List (Option D)) (k : γ → Cells → RS) : RS := match r with
  | .ok a M => k a M
  | .ex e M => .ex e ⟨ρ, M⟩
  | .no => .no
section
variable {T : TPr} {mg : Str → Option Value} {W : WX} {σ : L2.St} {H : Hp} {N : Addr → Prop} {α : List Addr} {Dn : Ends}
theorem PostS.later {r : RS} {N1 : Addr → Prop} {α1 : List Addr} {H1 : Hp} (e1 : Ext α N H α1 N1 H1) (h : PostS T mg N α H W Dn r) : PostS T mg N1 α1 H1 W Dn r := by
  cases r with
  | no => exact h
  | nx s => exact fun σ' H' α' N' s2 e2 => h σ' H' α' N' s2 (e1.trans e2)
  | bk s => exact fun σ' H' α' N' s2 e2 => h σ' H' α' N' s2 (e1.trans e2)
  | ct s => exact fun σ' H' α' N' s2 e2 => h σ' H' α' N' s2 (e1.trans e2)
  | rt d s => exact fun v σ' H' α' N' s2 e2 => h v σ' H' α' N' s2 (e1.trans e2)
  | ex e s => exact fun c d σ' H' α' N' s2 e2 => h c d σ' H' α' N' s2 (e1.trans e2)
theorem PostS.bind {γ δ : Type} {G : RG γ δ} {ρ : List (Option D)} {r : R γ} {k : γ → Cells → RS} (h : PostS T mg N α H W Dn (r.toS ρ k)) :
    Post T mg G N α H σ ρ W (fun v H1 => ∃ M α1 N1 c, StR T N1 H1 σ ⟨ρ, M⟩ α1 ∧ Ext α N H α1 N1 H1 ∧ G H1 N1 α1 c v ∧ PostS T mg N1 α1 H1 W Dn (k c M)) r := by
  cases r with
  | no => exact h
  | ex e M => exact fun cls dd H' α' N' s2 e2 x => h cls dd σ H' α' N' s2 e2 x
  | ok c M => exact fun v H1 α1 N1 s1 e1 g1 => ⟨M, α1, N1, c, s1, e1, g1, PostS.later e1 h⟩
theorem PostS.nxNow {s : Sx} (h : PostS T mg N α H W Dn (.nx s)) (hs : StR T N H σ s α) : Dn.nx σ H := h σ H α N hs Ext.refl

def fSkip : Sx → RS := fun s => .nx s
def fSeq (f g : Sx → RS) : Sx → RS := fun s => match f s with
  | .nx s1 => g s1
  | r => r
theorem skip_imp (h : tS T mg W fSkip Dn σ H) : tNext Dn σ H := by
  obtain ⟨s, α, N, hs, p⟩ := h
  exact p.nxNow hs
theorem seq_imp {f g : Sx → RS} (h : tS T mg W (fSeq f g) Dn σ H) : tSeq (tS T mg W f) (tS T mg W g) Dn σ H := by
  obtain ⟨s, α, N, hs, p⟩ := h
  refine ⟨s, α, N, hs, ?_⟩
  unfold fSeq at p
  cases q : f s with
  | nx s1 => rw [q] at p; exact fun σ' H' α' N' s' e => ⟨s1, α', N', s', PostS.later e p⟩
  | rt d s1 => rw [q] at p; exact p
  | bk s1 => rw [q] at p; exact p
  | ct s1 => rw [q] at p; exact p
  | ex e s1 => rw [q] at p; exact p
  | no => rw [q] at p; exact p
def fRet (f : Sx → R D) : Sx → RS := fun s => (f s).toS s.ρ fun d M => .rt d ⟨s.ρ, M⟩
def fRetN : Sx → RS := fun s => .rt .non s
theorem ret_imp {f : Sx → R D} (h : tS T mg W (fRet f) Dn σ H) : tRet (tD T mg W f) Dn σ H := by
  obtain ⟨s, α, N, hs, p⟩ := h
  refine ⟨s, α, N, hs, Post.mono (fun v H1 h1 => ?_) (PostS.bind (G := RelD) p)⟩
  obtain ⟨M1, α1, N1, d, s1, e1, g1, p1⟩ := h1
  exact p1 v σ H1 α1 N1 s1 Ext.refl g1
theorem retN_imp (h : tS T mg W fRetN Dn σ H) : tRetN Dn σ H := by
  obtain ⟨s, α, N, hs, p⟩ := h
  exact p .non σ H α N hs Ext.refl (by unfold Rel; rfl)
def fDrop (f : Sx → R D) : Sx → RS := fun s => (f s).toS s.ρ fun _ M => .nx ⟨s.ρ, M⟩
theorem drop_imp {f : Sx → R D} (h : tS T mg W (fDrop f) Dn σ H) : tDrop (tD T mg W f) Dn σ H := by
  obtain ⟨s, α, N, hs, p⟩ := h
  refine ⟨s, α, N, hs, Post.mono (fun v H1 h1 => ?_) (PostS.bind (G := RelD) p)⟩
  obtain ⟨M1, α1, N1, d, s1, e1, g1, p1⟩ := h1
  exact p1.nxNow s1
def fIfS (c : Sx → R Bool) (f g : Sx → RS) : Sx → RS := fun s => (c s).toS s.ρ fun b M => if b = true then f ⟨s.ρ, M⟩ else g ⟨s.ρ, M⟩
theorem ifS_imp {c : Sx → R Bool} {f g : Sx → RS} (h : tS T mg W (fIfS c f g) Dn σ H) : tIfS (tB' T mg W c) (tS T mg W f) (tS T mg W g) Dn σ H := by
  obtain ⟨s, α, N, hs, p⟩ := h
  refine ⟨s, α, N, hs, Post.mono (fun x H1 h1 => ?_) (PostS.bind (G := RelB) p)⟩
  obtain ⟨M1, α1, N1, b, s1, e1, g1, p1⟩ := h1
  cases g1
  cases x with
  | true => exact ⟨_, α1, N1, s1, p1⟩
  | false => exact ⟨_, α1, N1, s1, p1⟩
def fBrk : Sx → RS := fun s => .bk s
def fCnt : Sx → RS := fun s => .ct s
theorem brk_imp (h : tS T mg W fBrk Dn σ H) : tBreak Dn σ H := by
  obtain ⟨s, α, N, hs, p⟩ := h
  exact p σ H α N hs Ext.refl
theorem cnt_imp (h : tS T mg W fCnt Dn σ H) : tCont Dn σ H := by
  obtain ⟨s, α, N, hs, p⟩ := h
  exact p σ H α N hs Ext.refl

/-! ### targets -/
theorem StR.set {ρ : List (Option D)} {M : Cells} {i : Nat} {d : D} {v : V} (s : StR T N H σ ⟨ρ, M⟩ α) (r : Rel H N α d v) : StR T N H (σ.set i (some v)) ⟨ρ.set i (some d), M⟩ α := by
  refine ⟨s.c, fun j e h => ?_, by simpa using s.lnr⟩
  by_cases hj : i = j
  · subst hj
    by_cases hl : i < ρ.length
    · have h' : (ρ.set i (some d))[i]? = some (some e) := h
      rw [List.getElem?_set_self hl] at h'
      cases h'
      have hl' : i < σ.length := by have := s.lnr; simp at this; omega
      exact ⟨v, by rw [List.getElem?_set_self hl'], r⟩
    · have h' : (ρ.set i (some d))[i]? = some (some e) := h
      rw [List.getElem?_eq_none (by simpa using hl)] at h'
      cases h'
  · have h' : (ρ.set i (some d))[j]? = some (some e) := h
    rw [List.getElem?_set_ne hj] at h'
    obtain ⟨w, h1, h2⟩ := s.slt j e h'
    exact ⟨w, by rw [List.getElem?_set_ne hj]; exact h1, h2⟩
/-- only the slots ws differ -/
def Off (ws : List Nat) (σ σ' : L2.St) : Prop := σ'.length = σ.length ∧ ∀ i, i ∉ ws → σ'[i]? = σ[i]?
theorem Off.refl {ws : List Nat} {σ : L2.St} : Off ws σ σ := ⟨rfl, fun _ _ => rfl⟩
theorem Off.trans {ws : List Nat} {σ σ1 σ2 : L2.St} (a : Off ws σ σ1) (b : Off ws σ1 σ2) : Off ws σ σ2 := ⟨b.1.trans a.1, fun i h => (b.2 i h).trans (a.2 i h)⟩
theorem wipe_get {σ : L2.St} {i : Nat} : ∀ {vs : List Nat}, (wipe σ vs)[i]? = if i ∈ vs ∧ i < σ.length then some none else σ[i]?
  | [] => by simp [wipe]
  | v :: vs => by
    unfold wipe
    have ih := wipe_get (σ := σ) (i := i) (vs := vs)
    by_cases hv : v = i
    · subst hv
      by_cases hl : v < σ.length
      · rw [List.getElem?_set_self (by rw [wipe_length]; exact hl), if_pos ⟨by simp, hl⟩]
      · rw [List.getElem?_eq_none (by simp [wipe_length]; omega), if_neg (fun h => hl h.2), List.getElem?_eq_none (by omega)]
    · rw [List.getElem?_set_ne hv, ih]
      have hm : (i ∈ v :: vs) ↔ i ∈ vs := by simp [Ne.symm hv]
      simp only [hm]
theorem Off.wipe {ws : List Nat} {σ σ' : L2.St} (h : Off ws (L2.wipe σ ws) σ') : L2.wipe σ' ws = L2.wipe σ ws := by
  refine List.ext_getElem? fun i => ?_
  rw [wipe_get, wipe_get, h.1, wipe_length]
  by_cases hi : i ∈ ws
  · by_cases hl : i < σ.length
    · rw [if_pos ⟨hi, hl⟩, if_pos ⟨hi, hl⟩]
    · rw [if_neg (fun z => hl z.2), if_neg (fun z => hl z.2), List.getElem?_eq_none (by rw [h.1, wipe_length]; omega), List.getElem?_eq_none (by omega)]
  · rw [if_neg (fun z => hi z.1), if_neg (fun z => hi z.1), h.2 i hi, wipe_get, if_neg (fun z => hi z.1)]

/-- a target -/
def tT (T : TPr) (ws : List Nat) (g : D → Sx → Option Sx) : TG := fun v σ H Q => ∃ d s α N s', StR T N H σ s α ∧ Rel H N α d v ∧ g d s = some s' ∧
  ∀ σ' H' α' N', StR T N' H' σ' s' α' → Ext α N H α' N' H' → Off ws σ σ' → Q σ' H'
def tTs (T : TPr) (ws : List Nat) (g : List D → Sx → Option Sx) : TGs := fun vs σ H Q => ∃ ds s α N s', StR T N H σ s α ∧ Rels H N α ds vs ∧ g ds s = some s' ∧
  ∀ σ' H' α' N', StR T N' H' σ' s' α' → Ext α N H α' N' H' → Off ws σ σ' → Q σ' H'
def bName (i : Nat) : D → Sx → Option Sx := fun d s => some ⟨s.ρ.set i (some d), s.M⟩
def bNil : List D → Sx → Option Sx := fun l s => match l with
  | [] => some s
  | _ => none
def bCons (g : D → Sx → Option Sx) (h : List D → Sx → Option Sx) : List D → Sx → Option Sx := fun l s => match l with
  | d :: r => (g d s).bind fun s1 => h r s1
  | _ => none
def bTup (n : Nat) (h : List D → Sx → Option Sx) : D → Sx → Option Sx := fun d s => match d with
  | .tup l => if l.length = n then h l s else none
  | _ => none
def bLst (n : Nat) (h : List D → Sx → Option Sx) : D → Sx → Option Sx := fun d s => match d with
  | .lst l => if l.length = n then h l s else none
  | _ => none
theorem off_set {ws : List Nat} {σ : L2.St} {i : Nat} {v : Option V} (h : i ∈ ws) : Off ws σ (σ.set i v) := ⟨by simp, fun j hj => List.getElem?_set_ne (fun e => hj (by rw [← e]; exact h))⟩
theorem bName_imp {ws : List Nat} {i : Nat} (hi : i ∈ ws) {v : V} {Q : L2.St → Hp → Prop} (h : tT T ws (bName i) v σ H Q) : gName i v σ H Q := by
  obtain ⟨d, s, α, N, s', hs, r, e, k⟩ := h
  cases e
  exact k _ H α N (StR.set hs r) Ext.refl (off_set hi)
theorem bNil_imp {ws : List Nat} {vs : List V} {Q : L2.St → Hp → Prop} (h : tTs T ws bNil vs σ H Q) : gNil vs σ H Q := by
  obtain ⟨ds, s, α, N, s', hs, r, e, k⟩ := h
  cases ds with
  | nil => cases e; unfold Rels at r; exact ⟨r, k σ H α N hs Ext.refl Off.refl⟩
  | cons _ _ => cases e
theorem bCons_imp {ws : List Nat} {g : D → Sx → Option Sx} {gs : List D → Sx → Option Sx} {vs : List V} {Q : L2.St → Hp → Prop} (h : tTs T ws (bCons g gs) vs σ H Q) : gCons (tT T ws g) (tTs T ws gs) vs σ H Q := by
  obtain ⟨ds, s, α, N, s', hs, r, e, k⟩ := h
  cases ds with
  | nil => cases e
  | cons d l =>
    unfold Rels at r
    obtain ⟨v, vr, ev, r1, r2⟩ := r
    unfold bCons at e
    cases q : g d s with
    | none => simp [q] at e
    | some s1 =>
      simp only [q, Option.bind_some] at e
      exact ⟨v, vr, ev, d, s, α, N, s1, hs, r1, q, fun σ1 H1 α1 N1 t1 e1 o1 => ⟨l, s1, α1, N1, s', t1, Rels.mono hs.c.sub e1 r2, e, fun σ2 H2 α2 N2 t2 e2 o2 => k σ2 H2 α2 N2 t2 (e1.trans e2) (o1.trans o2)⟩⟩
theorem rd_sqT {K : PySem.W.Frag} {H : Hp} {a : Addr} {vs : List V} (h : H a = some (.tup vs)) : SqT K H a vs := .inl (.inl h)
theorem rd_sqL {K : PySem.W.Frag} {H : Hp} {a : Addr} {vs : List V} (h : H a = some (.lst vs)) : SqL K H a vs := .inl (.inl h)
theorem bTup_imp {K : PySem.W.Frag} {ws : List Nat} {n : Nat} {gs : List D → Sx → Option Sx} {v : V} {Q : L2.St → Hp → Prop} (h : tT T ws (bTup n gs) v σ H Q) : gTup K n (tTs T ws gs) v σ H Q := by
  obtain ⟨d, s, α, N, s', hs, r, e, k⟩ := h
  cases d with
  | tup l =>
    unfold Rel at r
    obtain ⟨a, vs, h1, h2, h3⟩ := r
    unfold bTup at e
    by_cases hl : l.length = n
    · simp only [hl, if_true] at e
      exact ⟨a, vs, h1, rd_sqT h2, by rw [← Rels.length h3]; exact hl, l, s, α, N, s', hs, h3, e, k⟩
    · simp [hl] at e
  | _ => cases e
theorem bLst_imp {K : PySem.W.Frag} {ws : List Nat} {n : Nat} {gs : List D → Sx → Option Sx} {v : V} {Q : L2.St → Hp → Prop} (h : tT T ws (bLst n gs) v σ H Q) : gLst K n (tTs T ws gs) v σ H Q := by
  obtain ⟨d, s, α, N, s', hs, r, e, k⟩ := h
  cases d with
  | lst l =>
    unfold Rel at r
    obtain ⟨a, vs, h1, h0, h2, h3⟩ := r
    unfold bLst at e
    by_cases hl : l.length = n
    · simp only [hl, if_true] at e
      exact ⟨a, vs, h1, rd_sqL h2, by rw [← Rels.length h3]; exact hl, l, s, α, N, s', hs, h3, e, k⟩
    · simp [hl] at e
  | _ => cases e
def fAsg (f : Sx → R D) (g : D → Sx → Option Sx) : Sx → RS := fun s => (f s).toS s.ρ fun d M => match g d ⟨s.ρ, M⟩ with
  | some s' => .nx s'
  | none => .no
theorem asg_imp {ws : List Nat} {f : Sx → R D} {g : D → Sx → Option Sx} (h : tS T mg W (fAsg f g) Dn σ H) : tAsg (tD T mg W f) (tT T ws g) Dn σ H := by
  obtain ⟨s, α, N, hs, p⟩ := h
  refine ⟨s, α, N, hs, Post.mono (fun v H1 h1 => ?_) (PostS.bind (G := RelD) p)⟩
  obtain ⟨M1, α1, N1, d, s1, e1, g1, p1⟩ := h1
  cases q : g d ⟨s.ρ, M1⟩ with
  | none => rw [q] at p1; exact p1.elim
  | some s' =>
    rw [q] at p1
    exact ⟨d, _, α1, N1, s', s1, g1, q, fun σ' H' α' N' t e _ => p1 σ' H' α' N' t e⟩
/-- name = value -/
theorem set_imp {i : Nat} {f : Sx → R D} (h : tS T mg W (fAsg f (bName i)) Dn σ H) : tAsg (tD T mg W f) (gName i) Dn σ H := by
  obtain ⟨s, α, N, hs, p⟩ := asg_imp (ws := [i]) h
  exact ⟨s, α, N, hs, Post.mono (fun v H1 h1 => bName_imp (by simp) h1) p⟩
/-- a, b = x, y -/
def fPar (i j : Nat) (f : Sx → R (List D)) : Sx → RS := fun s => (f s).toS s.ρ fun l M => match l with
  | [d, e] => .nx ⟨(s.ρ.set i (some d)).set j (some e), M⟩
  | _ => .no
theorem par_imp {i j : Nat} {f : Sx → R (List D)} (h : tS T mg W (fPar i j f) Dn σ H) : tPar i j (tL T mg W f) Dn σ H := by
  obtain ⟨s, α, N, hs, p⟩ := h
  refine ⟨s, α, N, hs, Post.mono (fun v H1 h1 => ?_) (PostS.bind (G := RelL) p)⟩
  obtain ⟨M1, α1, N1, l, s1, e1, g1, p1⟩ := h1
  match l, p1, g1 with
  | [d, e], p1, g1 =>
    unfold RelL Rels at g1
    obtain ⟨v1, r1, rfl, q1, q2⟩ := g1
    unfold Rels at q2
    obtain ⟨v2, r2, rfl, q3, q4⟩ := q2
    unfold Rels at q4
    subst q4
    exact ⟨v1, v2, rfl, p1.nxNow ((StR.set s1 q1).set q3)⟩
  | [], p1, _ => exact p1.elim
  | [_], p1, _ => exact p1.elim
  | _ :: _ :: _ :: _, p1, _ => exact p1.elim
/-- name op= e -/
def fAug (g : Cells → D → D → Option D) (i : Nat) (f : Sx → R D) : Sx → RS := fun s => match s.ρ[i]? with
  | some (some d) => (f s).toS s.ρ fun e M => match g M d e with
    | some z => .nx ⟨s.ρ.set i (some z), M⟩
    | none => .no
  | _ => .no
theorem aug_imp {r : TIp} {g : Cells → D → D → Option D} {i : Nat} {f : Sx → R D} (ho : OpD T r g) (h : tS T mg W (fAug g i f) Dn σ H) : tAug i (tD T mg W f) r Dn σ H := by
  obtain ⟨s, α, N, hs, p⟩ := h
  unfold fAug at p
  cases q : s.ρ[i]? with
  | none => rw [q] at p; exact p.elim
  | some o =>
    cases o with
    | none => rw [q] at p; exact p.elim
    | some d =>
      rw [q] at p
      obtain ⟨v, h1, h2⟩ := hs.slt i d q
      refine ⟨v, h1, s, α, N, hs, Post.mono (fun y H1 hh => ?_) (PostS.bind (G := RelD) p)⟩
      obtain ⟨M1, α1, N1, e, s1, e1, g1, p1⟩ := hh
      cases qz : g M1 d e with
      | none => rw [qz] at p1; exact p1.elim
      | some z =>
        rw [qz] at p1
        exact ho s1.c (Rel.mono hs.c.sub e1 h2) g1 qz fun w H' c ex rz => p1 _ H' α1 N1 ((StC.keep s1 c ex).set rz) ex

/-! ### while -/
def fWhile (c : Sx → R Bool) (b : Sx → RS) : Nat → Sx → RS
  | 0, _ => .no
  | n + 1, s => (c s).toS s.ρ fun t M => if t = true then (match b ⟨s.ρ, M⟩ with
    | .nx s1 => fWhile c b n s1
    | .ct s1 => fWhile c b n s1
    | .bk s1 => .nx s1
    | r => r) else .nx ⟨s.ρ, M⟩
theorem while_imp {c : Sx → R Bool} {b : Sx → RS} (n : Nat) (h : tS T mg W (fWhile c b n) Dn σ H) : tWhile (tB' T mg W c) (tS T mg W b) Dn σ H := by
  refine ⟨fun m σ H => tS T mg W (fWhile c b m) Dn σ H, ⟨n, h⟩, ?_⟩
  intro m σ H h
  obtain ⟨s, α, N, hs, p⟩ := h
  cases m with
  | zero => exact p.elim
  | succ m =>
    refine ⟨s, α, N, hs, Post.mono (fun t H1 h1 => ?_) (PostS.bind (G := RelB) p)⟩
    obtain ⟨M1, α1, N1, b', s1, e1, g1, p1⟩ := h1
    cases g1
    cases t with
    | false => exact p1.nxNow s1
    | true =>
      rw [if_pos rfl] at p1 ⊢
      refine ⟨fun σ' H' => tS T mg W (fWhile c b m) Dn σ' H', fun σ' H' h' => ⟨m, Nat.lt_succ_self _, h'⟩, ⟨s.ρ, M1⟩, α1, N1, s1, ?_⟩
      cases q : b ⟨s.ρ, M1⟩ with
      | nx s2 => rw [q] at p1; exact fun σ' H' α' N' t e => ⟨s2, α', N', t, PostS.later e p1⟩
      | ct s2 => rw [q] at p1; exact fun σ' H' α' N' t e => ⟨s2, α', N', t, PostS.later e p1⟩
      | bk s2 => rw [q] at p1; exact p1
      | rt d s2 => rw [q] at p1; exact p1
      | ex d s2 => rw [q] at p1; exact p1
      | no => rw [q] at p1; exact p1

/-! ### for -/
/-- as Ext, but the places of our own new lists (N) may change at will -/
structure Wxt (α : List Addr) (N : Addr → Prop) (H : Hp) (α' : List Addr) (N' : Addr → Prop) (H' : Hp) : Prop where
  pre : ∃ β, α' = α ++ β ∧ ∀ b ∈ β, Fz H b
  nn : ∀ a, N a → N' a
  nb : ∀ a, N' a → N a ∨ Fz H a
  keep : ∀ b o, H b = some o → (Chg o → b ∉ α) → (Chg o → ¬ N b) → (∀ ps, o ≠ .tbl ps) → H' b = some o
  there : ∀ b, ¬ Fz H b → ¬ Fz H' b
theorem Ext.toW {α α' : List Addr} {N N' : Addr → Prop} {H H' : Hp} (e : Ext α N H α' N' H') : Wxt α N H α' N' H' := ⟨e.pre, e.nn, e.nb, fun b o h1 h2 _ h3 => e.keep b o h1 h2 h3, e.there⟩
theorem Wxt.trans {α α1 α2 : List Addr} {N N1 N2 : Addr → Prop} {H H1 H2 : Hp} (a : Wxt α N H α1 N1 H1) (b : Wxt α1 N1 H1 α2 N2 H2) : Wxt α N H α2 N2 H2 := by
  obtain ⟨β, e1, f1⟩ := a.pre
  obtain ⟨γ, e2, f2⟩ := b.pre
  have back : ∀ x, Fz H1 x → Fz H x := fun x h => Classical.byContradiction fun q => a.there x q h
  refine ⟨⟨β ++ γ, by rw [e2, e1, List.append_assoc], fun x hx => ?_⟩, fun x h => b.nn x (a.nn x h), fun x h => ?_, fun x o h1 h2 h4 h3 => ?_, fun x h => b.there x (a.there x h)⟩
  · rcases List.mem_append.mp hx with h | h
    · exact f1 x h
    · exact back x (f2 x h)
  · rcases b.nb x h with h | h
    · exact a.nb x h
    · exact .inr (back x h)
  · refine b.keep x o (a.keep x o h1 h2 h4 h3) (fun hl hm => ?_) (fun hl hm => ?_) h3
    · rw [e1] at hm
      rcases List.mem_append.mp hm with z | z
      · exact h2 hl z
      · obtain ⟨ps, e⟩ := f1 x z o h1; exact h3 ps e
    · rcases a.nb x hm with z | z
      · exact h4 hl z
      · obtain ⟨ps, e⟩ := z o h1; exact h3 ps e
theorem Wxt.wr {α α1 : List Addr} {N N1 : Addr → Prop} {H H1 : Hp} {p : Addr} {us : List V} {o : HO} (e : Wxt α N H α1 N1 H1) (hp : N p) (h : H p = some (.lst us)) (hno : ∀ ps, o ≠ .tbl ps) : Wxt α N H α1 N1 (upd H1 p o) :=
  ⟨e.pre, e.nn, e.nb, fun b u h1 h2 h4 h3 => by
    by_cases q : b = p
    · subst q
      rw [h] at h1
      cases h1
      exact absurd hp (h4 trivial)
    · rw [upd_ne q]; exact e.keep b u h1 h2 h4 h3, fun b h z => by
    by_cases q : b = p
    · obtain ⟨ps, w⟩ := z o (by rw [q]; exact upd_same); exact hno ps w
    · exact e.there b h fun u hu => z u (by rw [upd_ne q]; exact hu)⟩
theorem keepTW {α : List Addr} {N N' : Addr → Prop} {H H' : Hp} {α' : List Addr} {a : Addr} {vs : List V} (e : Wxt α N H α' N' H') (h : H a = some (.tup vs)) : H' a = some (.tup vs) :=
  e.keep a _ h (fun z => z.elim) (fun z => z.elim) (fun _ z => by cases z)
theorem keepFW {α : List Addr} {N N' : Addr → Prop} {H H' : Hp} {α' : List Addr} {a : Addr} {o : Obj} {vs : HO} (e : Wxt α N H α' N' H') (h : H a = some (.frz o vs)) : H' a = some (.frz o vs) :=
  e.keep a _ h (fun z => z.elim) (fun z => z.elim) (fun _ z => by cases z)
theorem keepLW {α : List Addr} {N N' : Addr → Prop} {H H' : Hp} {α' : List Addr} {a : Addr} {vs : List V} (e : Wxt α N H α' N' H') (ha : a ∉ α) (hn : ¬ N a) (h : H a = some (.lst vs)) : H' a = some (.lst vs) :=
  e.keep a _ h (fun _ => ha) (fun _ => hn) (fun _ z => by cases z)
theorem keepXW {α : List Addr} {N N' : Addr → Prop} {H H' : Hp} {α' : List Addr} {a : Addr} {φ : Heap → Prop} (e : Wxt α N H α' N' H') (h : H a = some (.ext φ)) : H' a = some (.ext φ) :=
  e.keep a _ h (fun z => z.elim) (fun z => z.elim) (fun _ z => by cases z)
mutual
theorem Rel.monoW {α α' : List Addr} {N N' : Addr → Prop} {H H' : Hp} (sub : ∀ a ∈ α, N a) (e : Wxt α N H α' N' H') : ∀ {d : D} {v : V}, Rel H N α d v → Rel H' N' α' d v
  | .non, _, h => by unfold Rel at h ⊢; exact h
  | .bl _, _, h => by unfold Rel at h ⊢; exact h
  | .int _, _, h => by unfold Rel at h ⊢; exact h
  | .str _, _, h => by unfold Rel at h ⊢; exact h
  | .tup l, _, h => by
    unfold Rel at h ⊢
    obtain ⟨a, vs, h1, h2, h3⟩ := h
    exact ⟨a, vs, h1, keepTW e h2, Rels.monoW sub e h3⟩
  | .lst l, _, h => by
    unfold Rel at h ⊢
    obtain ⟨a, vs, h1, h0, h2, h3⟩ := h
    refine ⟨a, vs, h1, fun z => ?_, keepLW e (fun z => h0 (sub a z)) h0 h2, Rels.monoW sub e h3⟩
    rcases e.nb a z with z | z
    · exact h0 z
    · exact nf_of (fun _ e => by cases e) h2 z
  | .loc n, _, h => by
    unfold Rel at h ⊢
    obtain ⟨a, h1, h2⟩ := h
    obtain ⟨β, e1, _⟩ := e.pre
    exact ⟨a, h1, pre_get h2 ⟨β, e1, trivial⟩⟩
  | .adr _, _, h => by unfold Rel at h ⊢; exact h
  | .ty _, _, h => by unfold Rel at h ⊢; exact h
  | .scr l, _, h => by
    unfold Rel at h ⊢
    obtain ⟨a, o, vs, h1, h2, h3⟩ := h
    exact ⟨a, o, vs, h1, keepFW e h2, Rels.monoW sub e h3⟩
  | .fnv i o o', _, h => by
    unfold Rel at h ⊢
    obtain ⟨f, c, φ, φ', h1, h2, h3, h4, h5⟩ := h
    exact ⟨f, c, φ, φ', h1, h2, h3, by rw [h2] at h4 ⊢; exact keepXW e h4, by rw [h3] at h5 ⊢; exact keepXW e h5⟩
  | .tag _, _, h => by unfold Rel at h; exact h.elim
theorem Rels.monoW {α α' : List Addr} {N N' : Addr → Prop} {H H' : Hp} (sub : ∀ a ∈ α, N a) (e : Wxt α N H α' N' H') : ∀ {l : List D} {vs : List V}, Rels H N α l vs → Rels H' N' α' l vs
  | [], _, h => by unfold Rels at h ⊢; exact h
  | d :: l, _, h => by
    unfold Rels at h ⊢
    obtain ⟨v, r, h1, h2, h3⟩ := h
    exact ⟨v, r, h1, Rel.monoW sub e h2, Rels.monoW sub e h3⟩
end
/-- a walk of the items ds: from here on, whatever is done with the cells -/
def ItD (T : TPr) (J : It) (ds : List D) (α : List Addr) (N : Addr → Prop) (H : Hp) : Prop :=
  ∀ (i : Nat) (α2 : List Addr) (N2 : Addr → Prop) (H2 : Hp), Wxt α N H α2 N2 H2 → (∀ a ∈ α2, N2 a) →
    (i = ds.length → J.stop i H2) ∧ ∀ d, ds[i]? = some d → J.go i H2 ∧ ∀ x H3, J.yld i H2 x H3 → (∀ b o, H2 b = some o → H3 b = some o) ∧ Rel H3 N2 α2 d x
def PostI (T : TPr) (mg : Str → Option Value) (N : Addr → Prop) (α : List Addr) (H : Hp) (σ : L2.St) (ρ : List (Option D)) (W : WX) (Q : It → Hp → Prop) : R (List D) → Prop
  | .ok ds M => ∀ J H' α' N', StR T N' H' σ ⟨ρ, M⟩ α' → Ext α N H α' N' H' → ItD T J ds α' N' H' → Q J H'
  | .ex e M => ∀ cls dd H' α' N', StR T N' H' σ ⟨ρ, M⟩ α' → Ext α N H α' N' H' → XR mg e cls dd H' N' α' → W cls dd σ H'
  | .no => False
def tI (T : TPr) (mg : Str → Option Value) (W : WX) (f : Sx → R (List D)) : TI := fun σ H Q => ∃ s α N, StR T N H σ s α ∧ PostI T mg N α H σ s.ρ W Q (f s)
def fForL (g : D → Sx → Option Sx) (b : Sx → RS) : List D → Sx → RS
  | [], s => .nx s
  | d :: r, s => match g d s with
    | none => .no
    | some s1 => match b s1 with
      | .nx s2 => fForL g b r s2
      | .ct s2 => fForL g b r s2
      | .bk s2 => .nx s2
      | x => x
def fFor (fi : Sx → R (List D)) (g : D → Sx → Option Sx) (b : Sx → RS) : Sx → RS := fun s => (fi s).toS s.ρ fun ds M => fForL g b ds ⟨s.ρ, M⟩
theorem StR.grow {s : Sx} {H' : Hp} (h : StR T N H σ s α) (k : ∀ b o, H b = some o → H' b = some o) : StR T N H' σ s α :=
  ⟨h.c.grow k, fun i d e => by obtain ⟨v, h1, h2⟩ := h.slt i d e; exact ⟨v, h1, Rel.mono h.c.sub (Ext.grow k) h2⟩, h.lnr⟩
theorem ItD.later {J : It} {ds : List D} {α1 : List Addr} {N1 : Addr → Prop} {H1 : Hp} (e : Ext α N H α1 N1 H1) (h : ItD T J ds α N H) : ItD T J ds α1 N1 H1 := fun i α2 N2 H2 e2 s2 => h i α2 N2 H2 (e.toW.trans e2) s2
theorem for_imp {ws : List Nat} {fi : Sx → R (List D)} {g : D → Sx → Option Sx} {b : Sx → RS} (h : tS T mg W (fFor fi g b) Dn σ H) : tFor (tI T mg W fi) (tT T ws g) (tS T mg W b) Dn σ H := by
  obtain ⟨s, α, N, hs, p⟩ := h
  refine ⟨s, α, N, hs, ?_⟩
  unfold fFor at p
  cases q : fi s with
  | no => rw [q] at p; exact p
  | ex e M => rw [q] at p; exact fun cls dd H' α' N' s2 e2 x => p cls dd σ H' α' N' s2 e2 x
  | ok ds M =>
    rw [q] at p
    intro J H1 α1 N1 s1 e1 it
    have p1 : PostS T mg N1 α1 H1 W Dn (fForL g b ds ⟨s.ρ, M⟩) := PostS.later e1 p
    refine ⟨fun i m σ H => m = ds.length - i ∧ i ≤ ds.length ∧ ∃ s α N, StR T N H σ s α ∧ Ext α1 N1 H1 α N H ∧ PostS T mg N α H W Dn (fForL g b (ds.drop i) s), ⟨ds.length, by simp, Nat.zero_le _, _, α1, N1, s1, Ext.refl, p1⟩, ?_⟩
    rintro i m σ2 H2 ⟨rfl, hi, s2, α2, N2, t2, e2, p2⟩
    obtain ⟨hstop, hgo⟩ := it i α2 N2 H2 e2.toW t2.c.sub
    by_cases hlt : i < ds.length
    · have hd : ds[i]? = some ds[i] := by simp [hlt]
      obtain ⟨go, yl⟩ := hgo _ hd
      have hdr : ds.drop i = ds[i] :: ds.drop (i + 1) := List.drop_eq_getElem_cons hlt
      rw [hdr] at p2
      refine .inr ⟨go, fun σ' H' => ∃ s α N, StR T N H' σ' s α ∧ Ext α1 N1 H1 α N H' ∧ PostS T mg N α H' W Dn (fForL g b (ds.drop (i + 1)) s), fun σ' H' ⟨s3, α3, N3, t3, e3, p3⟩ => ⟨ds.length - (i + 1), by omega, rfl, hlt, s3, α3, N3, t3, e3, p3⟩, fun x H3 hy => ?_⟩
      obtain ⟨k3, r3⟩ := yl x H3 hy
      unfold fForL at p2
      cases qg : g ds[i] s2 with
      | none => rw [qg] at p2; exact p2.elim
      | some s3 =>
        rw [qg] at p2
        dsimp only at p2
        refine ⟨ds[i], s2, α2, N2, s3, t2.grow k3, r3, qg, fun σ4 H4 α4 N4 t4 e4 _ => ⟨s3, α4, N4, t4, ?_⟩⟩
        have e4' : Ext α2 N2 H2 α4 N4 H4 := (Ext.grow k3).trans e4
        have p4 := PostS.later e4' p2
        cases qb : b s3 with
        | nx s5 => rw [qb] at p4; exact fun σ' H' α' N' t e => ⟨s5, α', N', t, (e2.trans e4').trans e, PostS.later e p4⟩
        | ct s5 => rw [qb] at p4; exact fun σ' H' α' N' t e => ⟨s5, α', N', t, (e2.trans e4').trans e, PostS.later e p4⟩
        | bk s5 => rw [qb] at p4; exact p4
        | rt d s5 => rw [qb] at p4; exact p4
        | ex d s5 => rw [qb] at p4; exact p4
        | no => rw [qb] at p4; exact p4
    · have e : i = ds.length := by omega
      refine .inl ⟨hstop e, ?_⟩
      rw [e, List.drop_length] at p2
      exact p2.nxNow t2
end
end DL

namespace DL
open PySem PySem.Spec L2
open PyProof.Rows hiding St

section
variable {T : TPr} {mg : Str → Option Value} {W : WX} {σ : L2.St} {H : Hp} {N : Addr → Prop} {α : List Addr} {Dn : Ends}
theorem Ext.growN {N' : Addr → Prop} {H' : Hp} (k : ∀ b o, H b = some o → H' b = some o) (nn : ∀ a, N a → N' a) (nb : ∀ a, N' a → N a ∨ Fz H a) : Ext α N H α N' H' :=
  ⟨⟨[], by simp, by simp⟩, nn, nb, fun b o h _ _ => k b o h, fun b h z => h fun o e => z o (k b o e)⟩
theorem StR.growN {s : Sx} {N' : Addr → Prop} {H' : Hp} (h : StR T N H σ s α) (k : ∀ b o, H b = some o → H' b = some o) (nn : ∀ a, N a → N' a) (nb : ∀ a, N' a → N a ∨ Fz H a) (som : ∀ a, N' a → ¬ Fz H' a) : StR T N' H' σ s α :=
  have e : Ext α N H α N' H' := Ext.growN k nn nb
  ⟨⟨h.c.nd, fun a ha => nn a (h.c.sub a ha), som, h.c.len, fun n l q => by
    obtain ⟨a, h1, h2⟩ := h.c.cel n l q
    exact ⟨a, h1, h2.all (fun o q _ _ => k _ o q) fun d v q => Rel.mono h.c.sub e q⟩, T.mono _ _ h.c.tab fun b o h _ => k b o h⟩,
   fun i d q => by obtain ⟨v, h1, h2⟩ := h.slt i d q; exact ⟨v, h1, Rel.mono h.c.sub e h2⟩, h.lnr⟩
mutual
/-- a forbidden list that is no cell changes -/
theorem Rel.wr {p : Addr} {vs ws : List V} (hN : N p) (hp : H p = some (.lst vs)) : ∀ {d : D} {v : V}, Rel H N α d v → Rel (upd H p (.lst ws)) N α d v
  | .non, _, h => by unfold Rel at h ⊢; exact h
  | .bl _, _, h => by unfold Rel at h ⊢; exact h
  | .int _, _, h => by unfold Rel at h ⊢; exact h
  | .str _, _, h => by unfold Rel at h ⊢; exact h
  | .tup l, _, h => by
    unfold Rel at h ⊢
    obtain ⟨a, us, h1, h2, h3⟩ := h
    refine ⟨a, us, h1, ?_, Rels.wr hN hp h3⟩
    have ne : a ≠ p := fun e => by subst e; rw [hp] at h2; cases h2
    rw [upd_ne ne]; exact h2
  | .lst l, _, h => by
    unfold Rel at h ⊢
    obtain ⟨a, us, h1, h0, h2, h3⟩ := h
    refine ⟨a, us, h1, h0, ?_, Rels.wr hN hp h3⟩
    have ne : a ≠ p := fun e => h0 (by rw [e]; exact hN)
    rw [upd_ne ne]; exact h2
  | .loc n, _, h => by unfold Rel at h ⊢; exact h
  | .adr _, _, h => by unfold Rel at h ⊢; exact h
  | .ty _, _, h => by unfold Rel at h ⊢; exact h
  | .scr l, _, h => by
    unfold Rel at h ⊢
    obtain ⟨a, o, us, h1, h2, h3⟩ := h
    refine ⟨a, o, us, h1, ?_, Rels.wr hN hp h3⟩
    have ne : a ≠ p := fun e => by subst e; rw [hp] at h2; cases h2
    rw [upd_ne ne]; exact h2
  | .fnv i o o', _, h => by
    unfold Rel at h ⊢
    obtain ⟨f, c, φ, φ', h1, h2, h3, h4, h5⟩ := h
    exact ⟨f, c, φ, φ', h1, h2, h3, by rw [upd_ne (fun e => by subst e; rw [hp, h2] at h4; cases h4)]; exact h4, by rw [upd_ne (fun e => by subst e; rw [hp, h3] at h5; cases h5)]; exact h5⟩
  | .tag _, _, h => by unfold Rel at h; exact h.elim
theorem Rels.wr {p : Addr} {vs ws : List V} (hN : N p) (hp : H p = some (.lst vs)) : ∀ {l : List D} {us : List V}, Rels H N α l us → Rels (upd H p (.lst ws)) N α l us
  | [], _, h => by unfold Rels at h ⊢; exact h
  | d :: l, _, h => by
    unfold Rels at h ⊢
    obtain ⟨v, r, h1, h2, h3⟩ := h
    exact ⟨v, r, h1, Rel.wr hN hp h2, Rels.wr hN hp h3⟩
end
theorem tab_wr {p : Addr} {vs ws : List V} (hp : H p = some (.lst vs)) (h : T.p H) : T.p (upd H p (.lst ws)) := T.mono _ _ h fun b o e nl => by
  rw [upd_ne (fun z => by rw [z, hp] at e; cases e; rcases nl with ⟨_, q⟩ | ⟨_, q⟩ <;> cases q)]; exact e
/-- a forbidden list that is no cell changes -/
theorem StR.wr {s : Sx} {p : Addr} {vs ws : List V} (h : StR T N H σ s α) (hN : N p) (hn : p ∉ α) (hp : H p = some (.lst vs)) : StR T N (upd H p (.lst ws)) σ s α :=
  ⟨⟨h.c.nd, h.c.sub, fun a ha z => by
    by_cases e : a = p
    · obtain ⟨ps, w⟩ := z (.lst ws) (by rw [e]; exact upd_same); cases w
    · exact h.c.som a ha fun u hu => z u (by rw [upd_ne e]; exact hu), h.c.len, fun n l q => by
    obtain ⟨a, h1, h2⟩ := h.c.cel n l q
    have ne : a ≠ p := fun e => hn (by rw [← e]; exact List.mem_of_getElem? h1)
    exact ⟨a, h1, h2.all (fun o q _ _ => by rw [upd_ne ne]; exact q) fun d v q => Rel.wr hN hp q⟩, tab_wr hp h.c.tab⟩,
   fun i d q => by obtain ⟨v, h1, h2⟩ := h.slt i d q; exact ⟨v, h1, Rel.wr hN hp h2⟩, h.lnr⟩
theorem Ext.wr {α1 : List Addr} {N1 : Addr → Prop} {H1 : Hp} {p : Addr} {o : HO} (e : Ext α N H α1 N1 H1) (hp : Fz H p) (hno : ∀ ps, o ≠ .tbl ps) : Ext α N H α1 N1 (upd H1 p o) :=
  ⟨e.pre, e.nn, e.nb, fun b u h1 h2 h3 => by
    rw [upd_ne (fun z => by obtain ⟨ps, q⟩ := hp u (by rw [← z]; exact h1); exact h3 ps q)]
    exact e.keep b u h1 h2 h3, fun b h z => by
    by_cases q : b = p
    · obtain ⟨ps, w⟩ := z o (by rw [q]; exact upd_same); exact hno ps w
    · exact e.there b h fun u hu => z u (by rw [upd_ne q]; exact hu)⟩
theorem Ext.back {α1 : List Addr} {N1 : Addr → Prop} {H1 : Hp} (e : Ext α N H α1 N1 H1) {p : Addr} (h : Fz H1 p) : Fz H p := Classical.byContradiction fun q => e.there p q h
theorem Ext.notin {α1 : List Addr} {N1 : Addr → Prop} {H1 : Hp} (e : Ext α N H α1 N1 H1) {p : Addr} {xs : List V} (hp : p ∉ α) (h : H p = some (.lst xs)) : p ∉ α1 := by
  obtain ⟨β, e1, f⟩ := e.pre
  rw [e1]
  intro hm
  rcases List.mem_append.mp hm with z | z
  · exact hp z
  · obtain ⟨ps, q⟩ := f p z _ h; cases q
/-- what was laid is there -/
theorem nf_upd {p : Addr} {o : HO} (ho : ∀ ps, o ≠ .tbl ps) {a : Addr} (h : a ≠ p → ¬ Fz H a) : ¬ Fz (upd H p o) a := fun z => by
  by_cases q : a = p
  · obtain ⟨ps, w⟩ := z o (by rw [q]; exact upd_same); exact ho ps w
  · exact h q fun u hu => z u (by rw [upd_ne q]; exact hu)

/-! ### a new list -/
def PostL (T : TPr) (mg : Str → Option Value) (N : Addr → Prop) (α : List Addr) (H : Hp) (σ : L2.St) (ρ : List (Option D)) (W : WX) (Q : VK) : R (List D) → Prop
  | .ok l M => ∀ p vs H' α' N', StR T N' H' σ ⟨ρ, M⟩ α' → Ext α N H α' N' H' → N' p → p ∉ α' → Fz H p → H' p = some (.lst vs) → Rels H' N' α' l vs → Q (.ref p) H'
  | .ex e M => ∀ cls dd H' α' N', StR T N' H' σ ⟨ρ, M⟩ α' → Ext α N H α' N' H' → XR mg e cls dd H' N' α' → W cls dd σ H'
  | .no => False
def tFL (T : TPr) (mg : Str → Option Value) (W : WX) (f : Sx → R (List D)) : TE := fun σ H Q => ∃ s α N, StR T N H σ s α ∧ PostL T mg N α H σ s.ρ W Q (f s)
theorem PostL.later {ρ : List (Option D)} {Q : VK} {r : R (List D)} {N1 : Addr → Prop} {α1 : List Addr} {H1 : Hp} (e1 : Ext α N H α1 N1 H1) (h : PostL T mg N α H σ ρ W Q r) : PostL T mg N1 α1 H1 σ ρ W Q r := by
  cases r with
  | no => exact h
  | ex e M => exact fun cls dd H' α' N' s2 e2 x => h cls dd H' α' N' s2 (e1.trans e2) x
  | ok l M => exact fun p vs H' α' N' s2 e2 n1 n2 n3 n4 n5 => h p vs H' α' N' s2 (e1.trans e2) n1 n2 (e1.back n3) n4 n5
theorem StR.lessN {s : Sx} {N' : Addr → Prop} (h : StR T N H σ s α) (hn : ∀ a, N' a → N a) (hs : ∀ a ∈ α, N' a) : StR T N' H σ s α :=
  ⟨⟨h.c.nd, hs, fun a ha => h.c.som a (hn a ha), h.c.len, fun n l q => by
    obtain ⟨a, h1, h2⟩ := h.c.cel n l q
    exact ⟨a, h1, h2.all (fun o q _ _ => q) fun d v q => Rel.less hn q⟩, h.c.tab⟩, fun i d q => by obtain ⟨v, h1, h2⟩ := h.slt i d q; exact ⟨v, h1, Rel.less hn h2⟩, h.lnr⟩
/-- the new list, which no one changes -/
def fFz (f : Sx → R (List D)) : Sx → R D := fun s => (f s).bind fun l M => .ok (.lst l) M
theorem fz_imp {f : Sx → R (List D)} {Q : VK} (h : tD T mg W (fFz f) σ H Q) : tFL T mg W f σ H Q := by
  obtain ⟨s, α, N, hs, p⟩ := h
  refine ⟨s, α, N, hs, ?_⟩
  unfold fFz at p
  cases q : f s with
  | no => rw [q] at p; exact p
  | ex e M => rw [q] at p; exact p
  | ok l M =>
    rw [q] at p
    intro a vs H' α' N' s1 e1 n1 n2 n3 n4 n5
    have hn : ∀ b, (N' b ∧ b ≠ a) → N' b := fun b h => h.1
    have s2 : StR T (fun b => N' b ∧ b ≠ a) H' σ ⟨s.ρ, M⟩ α' := s1.lessN hn fun b hb => ⟨s1.c.sub b hb, fun z => n2 (by rw [← z]; exact hb)⟩
    refine p (.ref a) H' α' (fun b => N' b ∧ b ≠ a) s2 ⟨e1.pre, fun b h => ⟨e1.nn b h, fun z => ?_⟩, fun b h => e1.nb b h.1, e1.keep, e1.there⟩ ?_
    · rw [z] at h; exact hs.c.som a h n3
    · unfold RelD Rel
      exact ⟨a, vs, rfl, fun z => z.2 rfl, n4, Rels.less hn n5⟩
/-- a written list, new -/
def fNew (f : Sx → R (List D)) : Sx → R (List D) := fun s => (f s).bind fun l M => if l.length ≤ 100000 then .ok l M else .no
theorem PostL.bind {γ δ : Type} {G : RG γ δ} {ρ : List (Option D)} {Q : VK} {r : R γ} {k : γ → Cells → R (List D)} (h : PostL T mg N α H σ ρ W Q (r.bind k)) :
    Post T mg G N α H σ ρ W (fun v H1 => ∃ M α1 N1 c, StR T N1 H1 σ ⟨ρ, M⟩ α1 ∧ Ext α N H α1 N1 H1 ∧ G H1 N1 α1 c v ∧ PostL T mg N1 α1 H1 σ ρ W Q (k c M)) r := by
  cases r with
  | no => exact h
  | ex e M => exact h
  | ok c M => exact fun v H1 α1 N1 s1 e1 g1 => ⟨M, α1, N1, c, s1, e1, g1, PostL.later e1 h⟩
/-- a list is laid -/
theorem PostL.lay {ρ : List (Option D)} {Q : VK} {l : List D} {M : Cells} {p : Addr} {vs : List V} (h : PostL T mg N α H σ ρ W Q (.ok l M)) (s : StR T N H σ ⟨ρ, M⟩ α) (r : Rels H N α l vs) (hp : H p = none) : Q (.ref p) (upd H p (.lst vs)) := by
  have k := new_keep (o := .lst vs) hp
  have nn : ∀ a, N a → (N a ∨ a = p) := fun a h => .inl h
  have nb : ∀ a, (N a ∨ a = p) → N a ∨ Fz H a := fun a h => h.elim .inl fun z => .inr (by rw [z]; exact fz_of hp)
  have e : Ext α N H α (fun a => N a ∨ a = p) (upd H p (.lst vs)) := Ext.growN k nn nb
  refine h p vs _ α _ (s.growN k nn nb fun a ha => ?_) e (.inr rfl) (fun hm => s.c.som p (s.c.sub p hm) (fz_of hp)) (fz_of hp) upd_same (Rels.mono s.c.sub e r)
  exact nf_upd (fun _ z => by cases z) fun z => s.c.som a (ha.resolve_right z)
theorem new_imp {f : Sx → R (List D)} {Q : VK} (h : tFL T mg W (fNew f) σ H Q) : tLst (tL T mg W f) σ H Q := by
  obtain ⟨s, α, N, hs, p⟩ := h
  refine ⟨s, α, N, hs, Post.mono (fun x H1 h1 => ?_) (PostL.bind (G := RelL) p)⟩
  obtain ⟨M1, α1, N1, l, s1, e1, g1, p1⟩ := h1
  by_cases hl : l.length ≤ 100000
  · rw [if_pos hl] at p1
    have hl' := Rels.length g1
    exact ⟨sz_of (by omega), fun a ha => p1.lay s1 g1 ha⟩
  · rw [if_neg hl] at p1; exact p1.elim
/-- name = a new list of our own -/
def fOwn (i : Nat) (f : Sx → R (List D)) : Sx → RS := fun s => (f s).toS s.ρ fun l M => .nx ⟨s.ρ.set i (some (.loc M.length)), M ++ [l]⟩
mutual
theorem Rel.more {β : List Addr} : ∀ {d : D} {v : V}, Rel H N α d v → Rel H N (α ++ β) d v
  | .non, _, h => by unfold Rel at h ⊢; exact h
  | .bl _, _, h => by unfold Rel at h ⊢; exact h
  | .int _, _, h => by unfold Rel at h ⊢; exact h
  | .str _, _, h => by unfold Rel at h ⊢; exact h
  | .tup l, _, h => by
    unfold Rel at h ⊢
    obtain ⟨a, us, h1, h2, h3⟩ := h
    exact ⟨a, us, h1, h2, Rels.more h3⟩
  | .lst l, _, h => by
    unfold Rel at h ⊢
    obtain ⟨a, us, h1, h0, h2, h3⟩ := h
    exact ⟨a, us, h1, h0, h2, Rels.more h3⟩
  | .loc n, _, h => by
    unfold Rel at h ⊢
    obtain ⟨a, h1, h2⟩ := h
    exact ⟨a, h1, pre_get h2 ⟨β, rfl, trivial⟩⟩
  | .adr _, _, h => by unfold Rel at h ⊢; exact h
  | .ty _, _, h => by unfold Rel at h ⊢; exact h
  | .scr l, _, h => by
    unfold Rel at h ⊢
    obtain ⟨a, o, us, h1, h2, h3⟩ := h
    exact ⟨a, o, us, h1, h2, Rels.more h3⟩
  | .fnv i o o', _, h => by unfold Rel at h ⊢; exact h
  | .tag _, _, h => by unfold Rel at h; exact h.elim
theorem Rels.more {β : List Addr} : ∀ {l : List D} {us : List V}, Rels H N α l us → Rels H N (α ++ β) l us
  | [], _, h => by unfold Rels at h ⊢; exact h
  | d :: l, _, h => by
    unfold Rels at h ⊢
    obtain ⟨v, r, h1, h2, h3⟩ := h
    exact ⟨v, r, h1, Rel.more h2, Rels.more h3⟩
end
/-- a new list becomes a cell -/
theorem StR.cell {ρ : List (Option D)} {M : Cells} {p : Addr} {vs : List V} {l : List D} (s : StR T N H σ ⟨ρ, M⟩ α) (hN : N p) (hn : p ∉ α) (hp : H p = some (.lst vs)) (r : Rels H N α l vs) : StR T N H σ ⟨ρ, M ++ [l]⟩ (α ++ [p]) := by
  have hl := s.c.len
  refine ⟨⟨?_, fun a ha => ?_, s.c.som, by simp [hl], fun n l' q => ?_, s.c.tab⟩, fun i d q => by obtain ⟨v, h1, h2⟩ := s.slt i d q; exact ⟨v, h1, Rel.more h2⟩, s.lnr⟩
  · rw [List.nodup_append]
    refine ⟨s.c.nd, by simp, fun a ha b hb e => ?_⟩
    simp at hb
    exact hn (by rw [← hb, ← e]; exact ha)
  · rcases List.mem_append.mp ha with z | z
    · exact s.c.sub a z
    · simp at z; rw [z]; exact hN
  · have q' : (M ++ [l])[n]? = some l' := q
    by_cases hlt : n < M.length
    · rw [List.getElem?_append_left hlt] at q'
      obtain ⟨a, h1, h2⟩ := s.c.cel n l' q'
      exact ⟨a, pre_get h1 ⟨[p], rfl, trivial⟩, h2.all (fun o q _ _ => q) fun d v q => Rel.more q⟩
    · have e : n = M.length := by
        have := (List.getElem?_eq_some_iff.mp q').1
        simp at this; omega
      subst e
      rw [List.getElem?_append_right (Nat.le_refl _)] at q'
      simp at q'
      subst q'
      have hl' : α.length = M.length := hl
      exact ⟨p, by rw [List.getElem?_append_right (by omega)]; simp [hl'], .inl ⟨vs, hp, Rels.more r⟩⟩
theorem own_imp {i : Nat} {f : Sx → R (List D)} (h : tS T mg W (fOwn i f) Dn σ H) : tAsg (tFL T mg W f) (gName i) Dn σ H := by
  obtain ⟨s, α, N, hs, p⟩ := h
  refine ⟨s, α, N, hs, ?_⟩
  unfold fOwn at p
  cases q : f s with
  | no => rw [q] at p; exact p
  | ex e M => rw [q] at p; exact fun cls dd H' α' N' s2 e2 x => p cls dd σ H' α' N' s2 e2 x
  | ok l M =>
    rw [q] at p
    intro a vs H' α' N' s1 e1 n1 n2 n3 n4 n5
    have s2 := s1.cell n1 n2 n4 n5
    have hl : α'.length = M.length := s1.c.len
    obtain ⟨β, eβ, fβ⟩ := e1.pre
    refine p _ H' (α' ++ [a]) N' (s2.set (v := .ref a) ?_) ⟨⟨β ++ [a], by rw [eβ, List.append_assoc], fun b hb => ?_⟩, e1.nn, e1.nb, e1.keep, e1.there⟩
    · unfold Rel
      exact ⟨a, rfl, by rw [List.getElem?_append_right (by omega)]; simp [hl]⟩
    · rcases List.mem_append.mp hb with z | z
      · exact fβ b z
      · simp at z; rw [z]; exact n3

/-! ### list comprehensions -/
def wipeD (ρ : List (Option D)) : List Nat → List (Option D)
  | [] => ρ
  | v :: vs => (wipeD ρ vs).set v none
theorem wipeD_length (ρ : List (Option D)) : ∀ vs : List Nat, (wipeD ρ vs).length = ρ.length
  | [] => rfl
  | v :: vs => by unfold wipeD; rw [List.length_set, wipeD_length ρ vs]
theorem wipeD_get {ρ : List (Option D)} {i : Nat} : ∀ {vs : List Nat}, (wipeD ρ vs)[i]? = if i ∈ vs ∧ i < ρ.length then some none else ρ[i]?
  | [] => by simp [wipeD]
  | v :: vs => by
    unfold wipeD
    have ih := wipeD_get (ρ := ρ) (i := i) (vs := vs)
    by_cases hv : v = i
    · subst hv
      by_cases hl : v < ρ.length
      · rw [List.getElem?_set_self (by rw [wipeD_length]; exact hl), if_pos ⟨by simp, hl⟩]
      · rw [List.getElem?_eq_none (by simp [wipeD_length]; omega), if_neg (fun h => hl h.2), List.getElem?_eq_none (by omega)]
    · rw [List.getElem?_set_ne hv, ih]
      have hm : (i ∈ v :: vs) ↔ i ∈ vs := by simp [Ne.symm hv]
      simp only [hm]
theorem StR.wipe {ρ : List (Option D)} {M : Cells} {vs : List Nat} (s : StR T N H σ ⟨ρ, M⟩ α) : StR T N H (L2.wipe σ vs) ⟨wipeD ρ vs, M⟩ α := by
  refine ⟨s.c, fun i d h => ?_, by have := s.lnr; simpa [wipeD_length, wipe_length] using this⟩
  have h' : (wipeD ρ vs)[i]? = some (some d) := h
  rw [wipeD_get] at h'
  have hl : ρ.length = σ.length := s.lnr
  by_cases c : i ∈ vs ∧ i < ρ.length
  · rw [if_pos c] at h'; cases h'
  · rw [if_neg c] at h'
    obtain ⟨v, h1, h2⟩ := s.slt i d h'
    exact ⟨v, by rw [wipe_get, if_neg (by rw [← hl]; exact c)]; exact h1, h2⟩
def fLcGo (g : D → Sx → Option Sx) (t : Sx → R Bool) (e : Sx → R D) (ρ : List (Option D)) : List D → Cells → R (List D)
  | [], M => .ok [] M
  | d :: r, M => match g d ⟨ρ, M⟩ with
    | none => .no
    | some s1 => match t s1 with
      | .ok b M1 => if b = true then (match e ⟨s1.ρ, M1⟩ with
        | .ok y M2 => (fLcGo g t e ρ r M2).bind fun l M3 => .ok (y :: l) M3
        | _ => .no) else fLcGo g t e ρ r M1
      | _ => .no
def fLc (fi : Sx → R (List D)) (g : D → Sx → Option Sx) (t : Sx → R Bool) (e : Sx → R D) (vs : List Nat) : Sx → R (List D) := fun s =>
  (fi s).bind fun ds M => if ds.length ≤ 100000 then fLcGo g t e (wipeD s.ρ vs) ds M else .no
def fTrue : Sx → R Bool := fun s => .ok true s.M
theorem true_imp {Q : Bool → Hp → Prop} (h : tB' T mg W fTrue σ H Q) : tYes σ H Q := by
  obtain ⟨s, α, N, hs, p⟩ := h
  exact Post.now p hs rfl
abbrev W0 : WX := fun _ _ _ _ => False
def R.pre (acc : List D) (r : R (List D)) : R (List D) := r.bind fun l M => .ok (acc ++ l) M
theorem pre_cons {acc : List D} {y : D} {r : R (List D)} : R.pre acc (r.bind fun l M3 => .ok (y :: l) M3) = R.pre (acc ++ [y]) r := by
  cases r <;> simp [R.pre, R.bind]
theorem lc_imp {fi : Sx → R (List D)} {g : D → Sx → Option Sx} {t : Sx → R Bool} {e : Sx → R D} {vs : List Nat} {Q : VK} (h : tFL T mg W (fLc fi g t e vs) σ H Q) :
    tLc (tI T mg W fi) (tT T vs g) (tB' T mg W0 t) (tD T mg W0 e) vs σ H Q := by
  obtain ⟨s, α, N, hs, p⟩ := h
  refine ⟨s, α, N, hs, ?_⟩
  unfold fLc at p
  cases q : fi s with
  | no => rw [q] at p; exact p
  | ex e M => rw [q] at p; exact p
  | ok ds M =>
    rw [q] at p
    intro J H1 α1 N1 s1 e1 it L hL
    have p : PostL T mg N α H σ s.ρ W Q (if ds.length ≤ 100000 then fLcGo g t e (wipeD s.ρ vs) ds M else .no) := p
    by_cases hz : ds.length ≤ 100000
    case neg => rw [if_neg hz] at p; exact p.elim
    rw [if_pos hz] at p
    have hL0 : Fz H L := e1.back (fz_of hL)
    have k := new_keep (o := .lst []) hL
    have nn : ∀ a, N1 a → (N1 a ∨ a = L) := fun a h => .inl h
    have nb : ∀ a, (N1 a ∨ a = L) → N1 a ∨ Fz H1 a := fun a h => h.elim .inl fun z => .inr (by rw [z]; exact fz_of hL)
    have eL : Ext α1 N1 H1 α1 (fun a => N1 a ∨ a = L) (upd H1 L (.lst [])) := Ext.growN k nn nb
    have sL : StR T (fun a => N1 a ∨ a = L) (upd H1 L (.lst [])) σ ⟨s.ρ, M⟩ α1 := s1.growN k nn nb fun a ha => nf_upd (fun _ z => by cases z) fun z => s1.c.som a (ha.resolve_right z)
    have nL : L ∉ α1 := fun hm => s1.c.som L (s1.c.sub L hm) (fz_of hL)
    have pL : PostL T mg N1 α1 H1 σ s.ρ W Q (R.pre [] (fLcGo g t e (wipeD s.ρ vs) ds M)) := by
      have : R.pre [] (fLcGo g t e (wipeD s.ρ vs) ds M) = fLcGo g t e (wipeD s.ρ vs) ds M := by cases fLcGo g t e (wipeD s.ρ vs) ds M <;> simp [R.pre, R.bind]
      rw [this]; exact PostL.later e1 p
    refine ⟨fun i m H => m = ds.length - i ∧ i ≤ ds.length ∧ ∃ M α N acc us, StR T N H σ ⟨s.ρ, M⟩ α ∧ Ext α1 N1 H1 α N H ∧ H L = some (.lst us) ∧ N L ∧ L ∉ α ∧ Rels H N α acc us ∧ acc.length ≤ i ∧ PostL T mg N1 α1 H1 σ s.ρ W Q (R.pre acc (fLcGo g t e (wipeD s.ρ vs) (ds.drop i) M)),
      ⟨ds.length, by simp, Nat.zero_le _, M, α1, _, [], [], sL, eL, upd_same, .inr rfl, nL, by unfold Rels; rfl, by simp, pL⟩, ?_⟩
    rintro i m H2 ⟨rfl, hi, M2, α2, N2, acc, us, t2, e2, hu, n1, n2, ra, la, p2⟩
    obtain ⟨hstop, hgo⟩ := it i α2 N2 H2 e2.toW t2.c.sub
    by_cases hlt : i < ds.length
    · have hd : ds[i]? = some ds[i] := by simp [hlt]
      obtain ⟨go, yl⟩ := hgo _ hd
      have hdr : ds.drop i = ds[i] :: ds.drop (i + 1) := List.drop_eq_getElem_cons hlt
      rw [hdr] at p2
      refine .inr ⟨go, fun H' => ∃ M α N acc us, StR T N H' σ ⟨s.ρ, M⟩ α ∧ Ext α1 N1 H1 α N H' ∧ H' L = some (.lst us) ∧ N L ∧ L ∉ α ∧ Rels H' N α acc us ∧ acc.length ≤ i + 1 ∧ PostL T mg N1 α1 H1 σ s.ρ W Q (R.pre acc (fLcGo g t e (wipeD s.ρ vs) (ds.drop (i + 1)) M)),
        fun H' h' => ⟨ds.length - (i + 1), by omega, rfl, hlt, h'⟩, fun x H3 hy => ?_⟩
      obtain ⟨k3, r3⟩ := yl x H3 hy
      have t3 := t2.grow k3
      unfold fLcGo at p2
      cases qg : g ds[i] ⟨wipeD s.ρ vs, M2⟩ with
      | none => rw [qg] at p2; exact p2.elim
      | some sg =>
        rw [qg] at p2
        dsimp only at p2
        refine ⟨ds[i], ⟨wipeD s.ρ vs, M2⟩, α2, N2, sg, StR.wipe t3, r3, qg, fun σ4 H4 α4 N4 t4 e4 off => ⟨Off.wipe off, sg, α4, N4, t4, ?_⟩⟩
        have e24 : Ext α2 N2 H2 α4 N4 H4 := (Ext.grow k3).trans e4
        cases qt : t sg with
        | no => rw [qt] at p2; exact p2.elim
        | ex _ _ => rw [qt] at p2; exact p2.elim
        | ok b M5 =>
          rw [qt] at p2
          dsimp only at p2
          intro b' H5 α5 N5 t5 e5 hb
          cases hb
          have e25 := e24.trans e5
          cases b with
          | false =>
            rw [if_neg (by decide)] at p2 ⊢
            refine ⟨M5, α5, N5, acc, us, StC.keep t2 t5.c e25, e2.trans e25, e25.keep L _ hu (fun _ => n2) (fun _ z => by cases z), e25.nn L n1, e25.notin n2 hu, Rels.mono t2.c.sub e25 ra, by omega, p2⟩
          | true =>
            rw [if_pos rfl] at p2 ⊢
            refine ⟨⟨sg.ρ, M5⟩, α5, N5, t5, ?_⟩
            cases qe : e ⟨sg.ρ, M5⟩ with
            | no => rw [qe] at p2; exact p2.elim
            | ex _ _ => rw [qe] at p2; exact p2.elim
            | ok y M6 =>
              rw [qe] at p2
              dsimp only at p2
              rw [pre_cons] at p2
              intro y' H6 α6 N6 t6 e6 ry
              have e26 := e25.trans e6
              have hu6 := e26.keep L _ hu (fun _ => n2) (fun _ z => by cases z)
              have n16 := e26.nn L n1
              have n26 := e26.notin n2 hu
              have ra6 := Rels.mono t2.c.sub e26 ra
              have hl := Rels.length ra
              have s6 : StR T N6 H6 σ ⟨s.ρ, M6⟩ α6 := StC.keep t2 t6.c e26
              refine ⟨us, hu6, Nat.lt_of_lt_of_le (by omega : us.length < 100001) (by decide), M6, α6, N6, acc ++ [y], us ++ [y'], s6.wr n16 n26 hu6, (e2.trans e26).wr (fz_of hL) (fun _ z => by cases z), upd_same, n16, n26, Rels.wr n16 hu6 (Rels.append (Rels.one ry) ra6), by simp; omega, p2⟩
    · have ei : i = ds.length := by omega
      refine .inl ⟨hstop ei, ?_⟩
      rw [ei, List.drop_length] at p2
      have p3 : PostL T mg N1 α1 H1 σ s.ρ W Q (.ok (acc ++ []) M2) := p2
      rw [List.append_nil] at p3
      exact p3 L us H2 α2 N2 t2 e2 n1 n2 (fz_of hL) hu ra
end
end DL

namespace DL
open PySem PySem.Spec L2
open PyProof.Rows hiding St

section
variable {T : TPr} {mg : Str → Option Value} {W : WX} {σ : L2.St} {H : Hp} {N : Addr → Prop} {α : List Addr} {Dn : Ends}
/-! ### ints -/
def gI (f : Int → Int → D) : Cells → D → D → Option D := fun _ d e => match d, e with
  | .int i, .int j => some (f i j)
  | _, _ => none
def gIc (C : Int → Int → Bool) (f : Int → Int → D) : Cells → D → D → Option D := fun _ d e => match d, e with
  | .int i, .int j => if C i j = true then some (f i j) else none
  | _, _ => none
theorem rel_int {H : Hp} {N : Addr → Prop} {α : List Addr} {i : Int} : Rel H N α (.int i) (.int i) := by unfold Rel; rfl
theorem rel_bl {H : Hp} {N : Addr → Prop} {α : List Addr} {i : Bool} : Rel H N α (.bl i) (.bl i) := by unfold Rel; rfl
theorem rel_non {H : Hp} {N : Addr → Prop} {α : List Addr} : Rel H N α .non .non := by unfold Rel; rfl
theorem rel_str {H : Hp} {N : Addr → Prop} {α : List Addr} {i : Str} : Rel H N α (.str i) (.str i) := by unfold Rel; rfl
theorem od_I0 {f : Int → Int → V} {f' : Int → Int → D} (hf : ∀ i j H N α, Rel H N α (f' i j) (f i j)) : OpD T (rI0 f) (gI f') := by
  intro N H M α d e x y z Q c r1 r2 h k
  cases d <;> cases e <;> try (cases h; done)
  unfold Rel at r1 r2
  cases h
  exact ⟨_, _, r1, r2, k _ H c Ext.refl (hf _ _ _ _ _)⟩
theorem od_Ic {C : Int → Int → Prop} {C' : Int → Int → Bool} {f : Int → Int → V} {f' : Int → Int → D} (hC : ∀ i j, C' i j = true → C i j) (hf : ∀ i j H N α, Rel H N α (f' i j) (f i j)) : OpD T (rI C f) (gIc C' f') := by
  intro N H M α d e x y z Q c r1 r2 h k
  cases d <;> cases e <;> try (cases h; done)
  rename_i i j
  unfold Rel at r1 r2
  unfold gIc at h
  by_cases hc : C' i j = true
  · simp only [hc, if_true] at h
    cases h
    exact ⟨_, _, r1, r2, hC _ _ hc, k _ H c Ext.refl (hf _ _ _ _ _)⟩
  · simp [hc] at h
def mulOk (i j : Int) : Bool := (decide (-(2 ^ 64) < i) && decide (i < 2 ^ 64)) || (decide (-(2 ^ 64) < j) && decide (j < 2 ^ 64))
abbrev nAdd := gI fun i j => .int (i + j)
abbrev nSub := gI fun i j => .int (i - j)
abbrev nMul := gIc mulOk fun i j => .int (i * j)
abbrev nDiv := gIc (fun _ j => decide (0 < j) && decide (j < 1073741824)) fun i j => .int (i / j)
abbrev nMod := gIc (fun _ j => decide (0 < j)) fun i j => .int (i % j)
abbrev nLt := gI fun i j => .bl (decide (i < j))
abbrev nLe := gI fun i j => .bl (decide (i ≤ j))
abbrev nGt := gI fun i j => .bl (decide (j < i))
abbrev nGe := gI fun i j => .bl (decide (j ≤ i))
theorem mulOk_c (i j : Int) (h : mulOk i j = true) : CMul i j := by
  unfold mulOk at h
  simp only [Bool.or_eq_true, Bool.and_eq_true, decide_eq_true_eq] at h
  exact h
theorem od_add : OpD T (rI0 fun i j => .int (i + j)) nAdd := od_I0 fun _ _ _ _ _ => rel_int
theorem od_sub : OpD T (rI0 fun i j => .int (i - j)) nSub := od_I0 fun _ _ _ _ _ => rel_int
theorem od_mul : OpD T (rI CMul fun i j => .int (i * j)) nMul := od_Ic mulOk_c fun _ _ _ _ _ => rel_int
theorem od_div : OpD T (rI CDiv fun i j => .int (i / j)) nDiv := od_Ic (fun i j h => by simpa [CDiv] using h) fun _ _ _ _ _ => rel_int
theorem od_mod : OpD T (rI (fun _ j => 0 < j) fun i j => .int (i % j)) nMod := od_Ic (fun i j h => by simpa using h) fun _ _ _ _ _ => rel_int
theorem od_lt : OpD T (rI0 fun i j => .bl (decide (i < j))) nLt := od_I0 fun _ _ _ _ _ => rel_bl
theorem od_le : OpD T (rI0 fun i j => .bl (decide (i ≤ j))) nLe := od_I0 fun _ _ _ _ _ => rel_bl
theorem od_gt : OpD T (rI0 fun i j => .bl (decide (j < i))) nGt := od_I0 fun _ _ _ _ _ => rel_bl
theorem od_ge : OpD T (rI0 fun i j => .bl (decide (j ≤ i))) nGe := od_I0 fun _ _ _ _ _ => rel_bl
abbrev nNeg : Cells → D → Option D := fun _ d => match d with
  | .int i => some (.int (-i))
  | _ => none
theorem ud_neg : UnD T (rU fun i => .int (-i)) nNeg := by
  intro N H M α d x z Q c r1 h k
  cases d <;> try (cases h; done)
  unfold Rel at r1
  cases h
  exact ⟨_, r1, k _ H c Ext.refl rel_int⟩
/-- bools less bools -/
def rSubB : R2 := fun x y H Q => ∃ i j, x = .bl i ∧ y = .bl j ∧ Q (.int (b2i i - b2i j)) H
theorem op_subB {X : Cx} : OpR X (binaryOp .Sub) rSubB := by
  intro pins s σ H x y v u Q I rx ry h
  obtain ⟨i, k, rfl, rfl, q⟩ := h
  cases rx
  cases ry
  exact sub_bool ⟨.int _, H, I.tok _, ⟨_, rfl⟩, q⟩
abbrev nSubB : Cells → D → D → Option D := fun _ d e => match d, e with
  | .bl i, .bl j => some (.int (b2i i - b2i j))
  | _, _ => none
theorem od_subB : OpD T rSubB nSubB := by
  intro N H M α d e x y z Q c r1 r2 h k
  cases d <;> cases e <;> try (cases h; done)
  unfold Rel at r1 r2
  cases h
  exact ⟨_, _, r1, r2, k _ H c Ext.refl rel_int⟩

/-! ### sequences -/
def seqOf (M : Cells) : D → Option (Bool × List D)
  | .tup l => some (true, l)
  | .lst l => some (false, l)
  | .loc n => (lat M n).map fun l => (false, l)
  | .scr l => some (false, l)
  | _ => none
theorem seq_rel {M : Cells} {d : D} {x : V} {b : Bool} {l : List D} (c : StC T N H M α) (r : Rel H N α d x) (h : seqOf M d = some (b, l)) :
    ∃ a vs, x = .ref a ∧ (b = true → H a = some (.tup vs)) ∧ (b = false → Rd H a (.lst vs)) ∧ Rels H N α l vs := by
  cases d <;> try (cases h; done)
  · rename_i l'
    unfold Rel at r
    obtain ⟨a, vs, h1, h2, h3⟩ := r
    unfold seqOf at h
    cases h
    exact ⟨a, vs, h1, fun _ => h2, fun z => (by cases z), h3⟩
  · rename_i l'
    unfold Rel at r
    obtain ⟨a, vs, h1, h0, h2, h3⟩ := r
    unfold seqOf at h
    cases h
    exact ⟨a, vs, h1, fun z => (by cases z), fun _ => .inl h2, h3⟩
  · rename_i n
    unfold Rel at r
    obtain ⟨a, h1, h2⟩ := r
    unfold seqOf at h
    cases q : lat M n with
    | none => simp [q] at h
    | some l' =>
      simp only [q, Option.map_some] at h
      cases h
      obtain ⟨q0, qp⟩ := lat_some q
      obtain ⟨a', e1, e0⟩ := c.cel n l q0
      obtain ⟨vs, e2, e3⟩ := e0.lst qp
      rw [h2] at e1
      cases e1
      exact ⟨a, vs, h1, fun z => (by cases z), fun _ => .inl e2, e3⟩
  · rename_i l'
    unfold Rel at r
    obtain ⟨a, o, vs, h1, h2, h3⟩ := r
    unfold seqOf at h
    cases h
    exact ⟨a, vs, h1, fun z => (by cases z), fun _ => .inr ⟨o, h2⟩, h3⟩
theorem seq_sq {K : PySem.W.Frag} {a : Addr} {vs : List V} {b : Bool} (h1 : b = true → H a = some (.tup vs)) (h2 : b = false → Rd H a (.lst vs)) : SqL K H a vs ∨ SqT K H a vs := by
  cases b with
  | true => exact .inr (rd_sqT (h1 rfl))
  | false => exact .inl (.inl (h2 rfl))
theorem atI_rel {l : List D} {vs : List V} {i : Int} {d : D} (r : Rels H N α l vs) (h : atI l i = some d) : ∃ v, atI vs i = some v ∧ Rel H N α d v := by
  unfold atI at h ⊢
  rw [← Rels.length r]
  cases q : ixN l.length i with
  | none => rw [q] at h; cases h
  | some j =>
    rw [q] at h
    obtain ⟨v, h1, h2⟩ := Rels.get r (show l[j]? = some d from h)
    exact ⟨v, h1, h2⟩
/-- xs[i], t[i] -/
def gIx : Cells → D → D → Option D := fun M d e => match seqOf M d, e with
  | some (_, l), .int i => atI l i
  | _, _ => none
theorem od_ix {K : PySem.W.Frag} : OpD T (rIx K) gIx := by
  intro N H M α d e x y z Q c r1 r2 h k
  unfold gIx at h
  cases q : seqOf M d with
  | none => rw [q] at h; cases h
  | some p =>
    obtain ⟨b, l⟩ := p
    rw [q] at h
    cases e <;> try (cases h; done)
    obtain ⟨a, vs, h1, h2, h3, h4⟩ := seq_rel c r1 q
    obtain ⟨v, g1, g2⟩ := atI_rel h4 h
    unfold Rel at r2
    have kk := k v H c Ext.refl g2
    cases b with
    | true => exact .inr (.inl ⟨a, vs, _, v, h1, r2, rd_sqT (h2 rfl), g1, kk⟩)
    | false => exact .inl ⟨a, vs, _, v, h1, r2, .inl (h3 rfl), g1, kk⟩
/-- len(x) -/
def gLen : Cells → List D → Option D := fun M l => match l with
  | [d] => (seqOf M d).map fun p => .int p.2.length
  | _ => none
abbrev rLen (K : PySem.W.Frag) : List V → Hp → VK → Prop := fun xs H Q => ∃ p ys, xs = [.ref p] ∧ (SqL K H p ys ∨ SqT K H p ys) ∧ Q (.int ys.length) H
theorem rels1 {d : D} {xs : List V} (h : Rels H N α [d] xs) : ∃ x, xs = [x] ∧ Rel H N α d x := by
  unfold Rels at h
  obtain ⟨v, r, h1, h2, h3⟩ := h
  unfold Rels at h3
  subst h3
  exact ⟨v, h1, h2⟩
theorem rels2 {d e : D} {xs : List V} (h : Rels H N α [d, e] xs) : ∃ x y, xs = [x, y] ∧ Rel H N α d x ∧ Rel H N α e y := by
  unfold Rels at h
  obtain ⟨v, r, h1, h2, h3⟩ := h
  obtain ⟨y, h4, h5⟩ := rels1 h3
  subst h4
  exact ⟨v, y, h1, h2, h5⟩
theorem cd_len {K : PySem.W.Frag} : CbD T (rLen K) gLen := by
  intro N H M α l xs z Q c r h k
  match l, h, r with
  | [d], h, r =>
    obtain ⟨x, rfl, r1⟩ := rels1 r
    unfold gLen at h
    cases q : seqOf M d with
    | none => simp [q] at h
    | some p =>
      obtain ⟨b, l⟩ := p
      simp only [q, Option.map_some] at h
      cases h
      obtain ⟨a, vs, h1, h2, h3, h4⟩ := seq_rel c r1 q
      refine ⟨a, vs, by rw [h1], seq_sq h2 h3, k _ H c Ext.refl ?_⟩
      unfold Rel
      rw [Rels.length h4]
  | [], h, _ => cases h
  | _ :: _ :: _, h, _ => cases h
/-- tuple(x): of a list a new one, of a tuple itself -/
def gTupOf : Cells → List D → Option D := fun M l => match l with
  | [d] => (seqOf M d).map fun p => .tup p.2
  | _ => none
abbrev rTupOf (K : PySem.W.Frag) : List V → Hp → VK → Prop := fun xs H Q => ∃ p ys, xs = [.ref p] ∧ ((SqL K H p ys ∧ ∀ l, H l = none → Q (.ref l) (upd H l (.tup ys))) ∨ (SqT K H p ys ∧ Q (.ref p) H))
theorem cd_tupOf {K : PySem.W.Frag} : CbD T (rTupOf K) gTupOf := by
  intro N H M α l xs z Q c r h k
  match l, h, r with
  | [d], h, r =>
    obtain ⟨x, rfl, r1⟩ := rels1 r
    unfold gTupOf at h
    cases q : seqOf M d with
    | none => simp [q] at h
    | some p =>
      obtain ⟨b, l⟩ := p
      simp only [q, Option.map_some] at h
      cases h
      obtain ⟨a, vs, h1, h2, h3, h4⟩ := seq_rel c r1 q
      refine ⟨a, vs, by rw [h1], ?_⟩
      cases b with
      | true => exact .inr ⟨rd_sqT (h2 rfl), k _ H c Ext.refl (by unfold Rel; exact ⟨a, vs, rfl, h2 rfl, h4⟩)⟩
      | false => exact .inl ⟨.inl (h3 rfl), fun p hp => k _ _ (c.grow (new_keep hp)) (Ext.grow (new_keep hp)) (tup_new h4 c.sub hp)⟩
  | [], h, _ => cases h
  | _ :: _ :: _, h, _ => cases h
/-- abs, int(x), max, min of two -/
def gAbs : Cells → List D → Option D := fun _ l => match l with
  | [.int i] => some (.int (if i < 0 then -i else i))
  | _ => none
theorem cd_abs : CbD T (fun xs H Q => ∃ i, xs = [.int i] ∧ Q (.int (if i < 0 then -i else i)) H) gAbs := by
  intro N H M α l xs z Q c r h k
  match l, h, r with
  | [.int i], h, r =>
    obtain ⟨x, rfl, r1⟩ := rels1 r
    unfold Rel at r1
    cases h
    exact ⟨i, by rw [r1], k _ H c Ext.refl rel_int⟩
def gInt : Cells → List D → Option D := fun _ l => match l with
  | [.int i] => some (.int i)
  | [.bl b] => some (.int (if b then 1 else 0))
  | _ => none
theorem cd_int : CbD T (fun xs H Q => (∃ i, xs = [.int i] ∧ Q (.int i) H) ∨ ∃ k, xs = [.bl k] ∧ Q (.int (if k then 1 else 0)) H) gInt := by
  intro N H M α l xs z Q c r h k
  match l, h, r with
  | [.int i], h, r =>
    obtain ⟨x, rfl, r1⟩ := rels1 r
    unfold Rel at r1
    cases h
    exact .inl ⟨i, by rw [r1], k _ H c Ext.refl rel_int⟩
  | [.bl i], h, r =>
    obtain ⟨x, rfl, r1⟩ := rels1 r
    unfold Rel at r1
    cases h
    exact .inr ⟨i, by rw [r1], k _ H c Ext.refl rel_int⟩
def gMax2 : Cells → List D → Option D := fun _ l => match l with
  | [.int i, .int j] => some (.int (if j > i then j else i))
  | _ => none
def gMin2 : Cells → List D → Option D := fun _ l => match l with
  | [.int i, .int j] => some (.int (if j < i then j else i))
  | _ => none
theorem cd_max2 : CbD T (fun xs H Q => ∃ i j, xs = [.int i, .int j] ∧ Q (.int (if j > i then j else i)) H) gMax2 := by
  intro N H M α l xs z Q c r h k
  match l, h, r with
  | [.int i, .int j], h, r =>
    obtain ⟨x, y, rfl, r1, r2⟩ := rels2 r
    unfold Rel at r1 r2
    cases h
    exact ⟨i, j, by rw [r1, r2], k _ H c Ext.refl rel_int⟩
theorem cd_min2 : CbD T (fun xs H Q => ∃ i j, xs = [.int i, .int j] ∧ Q (.int (if j < i then j else i)) H) gMin2 := by
  intro N H M α l xs z Q c r h k
  match l, h, r with
  | [.int i, .int j], h, r =>
    obtain ⟨x, y, rfl, r1, r2⟩ := rels2 r
    unfold Rel at r1 r2
    cases h
    exact ⟨i, j, by rw [r1, r2], k _ H c Ext.refl rel_int⟩

/-! ### == of data -/
mutual
def pyOf : D → Option PyData
  | .non => some .none
  | .bl b => some (.bool b)
  | .int i => some (.int i)
  | .str x => some (.str x)
  | .tup l => (pysOf l).map .tuple
  | .lst l => (pysOf l).map .list
  | .loc _ => none
  | .adr _ => none
  | .ty _ => none
  | .scr _ => none
  | .fnv _ _ _ => none
  | .tag _ => none
def pysOf : List D → Option (List PyData)
  | [] => some []
  | d :: l => match pyOf d, pysOf l with
    | some p, some ps => some (p :: ps)
    | _, _ => none
end
mutual
theorem py_rel {K : PySem.W.Frag} : ∀ {d : D} {x : V} {p : PyData}, Rel H N α d x → pyOf d = some p → Dp K H x p
  | .non, _, _, r, h => by unfold Rel at r; unfold pyOf at h; cases h; rw [r]; exact .non
  | .bl b, _, _, r, h => by unfold Rel at r; unfold pyOf at h; cases h; rw [r]; exact .bl b
  | .int b, _, _, r, h => by unfold Rel at r; unfold pyOf at h; cases h; rw [r]; exact .int b
  | .str b, _, _, r, h => by unfold Rel at r; unfold pyOf at h; cases h; rw [r]; exact .str b
  | .tup l, _, _, r, h => by
    unfold Rel at r; unfold pyOf at h
    obtain ⟨a, vs, h1, h2, h3⟩ := r
    cases q : pysOf l with
    | none => rw [q] at h; cases h
    | some ps => rw [q] at h; cases h; rw [h1]; exact .tup (rd_sqT h2) (pys_rel h3 q)
  | .lst l, _, _, r, h => by
    unfold Rel at r; unfold pyOf at h
    obtain ⟨a, vs, h1, h0, h2, h3⟩ := r
    cases q : pysOf l with
    | none => rw [q] at h; cases h
    | some ps => rw [q] at h; cases h; rw [h1]; exact .lst (rd_sqL h2) (pys_rel h3 q)
  | .loc _, _, _, _, h => by unfold pyOf at h; cases h
  | .adr _, _, _, _, h => by unfold pyOf at h; cases h
  | .ty _, _, _, _, h => by unfold pyOf at h; cases h
  | .scr _, _, _, _, h => by unfold pyOf at h; cases h
  | .fnv _ _ _, _, _, _, h => by unfold pyOf at h; cases h
  | .tag _, _, _, _, h => by unfold pyOf at h; cases h
theorem pys_rel {K : PySem.W.Frag} : ∀ {l : List D} {xs : List V} {ps : List PyData}, Rels H N α l xs → pysOf l = some ps → DpAll K H xs ps
  | [], _, _, r, h => by unfold Rels at r; unfold pysOf at h; cases h; rw [r]; exact .nil
  | d :: l, _, _, r, h => by
    unfold Rels at r; unfold pysOf at h
    obtain ⟨v, vs, h1, h2, h3⟩ := r
    cases q1 : pyOf d with
    | none => rw [q1] at h; simp at h
    | some p =>
      cases q2 : pysOf l with
      | none => rw [q1, q2] at h; simp at h
      | some ps =>
        rw [q1, q2] at h; simp at h; subst h; rw [h1]
        exact .cons (py_rel h2 q1) (pys_rel h3 q2)
end
def pyAt (M : Cells) (d : D) : Option PyData := match d with
  | .loc n => match lat M n with
    | some l => (pysOf l).map .list
    | none => none
  | d => pyOf d
theorem pyAt_rel {K : PySem.W.Frag} {M : Cells} {d : D} {x : V} {p : PyData} (c : StC T N H M α) (r : Rel H N α d x) (h : pyAt M d = some p) : Dp K H x p := by
  cases d
  case loc n =>
    unfold pyAt at h
    unfold Rel at r
    obtain ⟨a, h1, h2⟩ := r
    dsimp only at h
    cases q : lat M n with
    | none => rw [q] at h; cases h
    | some l =>
      rw [q] at h
      dsimp only at h
      obtain ⟨q0, qp⟩ := lat_some q
      obtain ⟨a', e1, e0⟩ := c.cel n l q0
      obtain ⟨vs, e2, e3⟩ := e0.lst qp
      rw [h2] at e1
      cases e1
      cases q2 : pysOf l with
      | none => rw [q2] at h; cases h
      | some ps => rw [q2] at h; cases h; rw [h1]; exact .lst (rd_sqL e2) (pys_rel e3 q2)
  all_goals exact py_rel r h
def dEq (M : Cells) (d e : D) : Option Bool := match pyAt M d, pyAt M e with
  | some p, some q => if SeqAt.shaped p && SeqAt.shaped q then some (PyData.eqv p q) else none
  | _, _ => none
def gEq : Cells → D → D → Option D := fun M d e => (dEq M d e).map .bl
def gNe : Cells → D → D → Option D := fun M d e => (dEq M d e).map fun b => .bl (!b)
theorem dEq_some {M : Cells} {d e : D} {b : Bool} (h : dEq M d e = some b) : ∃ p q, pyAt M d = some p ∧ pyAt M e = some q ∧ SeqAt.shaped p = true ∧ SeqAt.shaped q = true ∧ b = PyData.eqv p q := by
  unfold dEq at h
  cases q1 : pyAt M d with
  | none => rw [q1] at h; simp at h
  | some p =>
    cases q2 : pyAt M e with
    | none => rw [q1, q2] at h; simp at h
    | some q =>
      rw [q1, q2] at h
      dsimp only at h
      by_cases hs : (SeqAt.shaped p && SeqAt.shaped q) = true
      · rw [if_pos hs] at h
        obtain ⟨s1, s2⟩ := Bool.and_eq_true_iff.mp hs
        exact ⟨p, q, rfl, rfl, s1, s2, (Option.some.inj h).symm⟩
      · rw [if_neg hs] at h; cases h
theorem od_eq {K : PySem.W.Frag} : OpD T (rEqD K) gEq := by
  intro N H M α d e x y z Q c r1 r2 h k
  unfold gEq at h
  cases q : dEq M d e with
  | none => rw [q] at h; cases h
  | some b =>
    rw [q] at h; cases h
    obtain ⟨p, p', h1, h2, s1, s2, rfl⟩ := dEq_some q
    exact ⟨p, p', pyAt_rel c r1 h1, pyAt_rel c r2 h2, s1, s2, k _ H c Ext.refl rel_bl⟩
theorem od_ne {K : PySem.W.Frag} : OpD T (rNeD K) gNe := by
  intro N H M α d e x y z Q c r1 r2 h k
  unfold gNe at h
  cases q : dEq M d e with
  | none => rw [q] at h; cases h
  | some b =>
    rw [q] at h; cases h
    obtain ⟨p, p', h1, h2, s1, s2, rfl⟩ := dEq_some q
    exact ⟨p, p', pyAt_rel c r1 h1, pyAt_rel c r2 h2, s1, s2, k _ H c Ext.refl rel_bl⟩
/-- is None, is not None -/
def D.isNon : D → Bool
  | .non => true
  | _ => false
def gIsN : Cells → D → D → Option D := fun _ d e => match e with
  | .non => some (.bl d.isNon)
  | _ => none
def gNotN : Cells → D → D → Option D := fun _ d e => match e with
  | .non => some (.bl (!d.isNon))
  | _ => none
theorem non_iff {d : D} {x : V} (r : Rel H N α d x) : decide (x = .non) = d.isNon := by
  cases d <;> unfold Rel at r
  · rw [r]; rfl
  · rw [r]; rfl
  · rw [r]; rfl
  · rw [r]; rfl
  · obtain ⟨a, _, h1, _⟩ := r; rw [h1]; rfl
  · obtain ⟨a, _, h1, _⟩ := r; rw [h1]; rfl
  · obtain ⟨a, h1, _⟩ := r; rw [h1]; rfl
  · rw [r]; rfl
  · rw [r]; rfl
  · obtain ⟨a, _, _, h1, _⟩ := r; rw [h1]; rfl
  · obtain ⟨f, _, _, _, h1, _⟩ := r; rw [h1]; rfl
  · exact r.elim
theorem od_isN : OpD T (fun x y H Q => y = .non ∧ Q (.bl (decide (x = .non))) H) gIsN := by
  intro N H M α d e x y z Q c r1 r2 h k
  cases e <;> try (cases h; done)
  unfold gIsN at h
  unfold Rel at r2
  refine ⟨r2, k _ H c Ext.refl ?_⟩
  rw [non_iff r1]
  cases h
  exact rel_bl
theorem od_notN : OpD T (fun x y H Q => y = .non ∧ Q (.bl (!decide (x = .non))) H) gNotN := by
  intro N H M α d e x y z Q c r1 r2 h k
  cases e <;> try (cases h; done)
  unfold gNotN at h
  unfold Rel at r2
  refine ⟨r2, k _ H c Ext.refl ?_⟩
  rw [non_iff r1]
  cases h
  exact rel_bl

/-! ### a def's promise by a function on data -/
inductive Pu where
  | ok (d : D)
  | ex (e : Ex)
  | no
def spD (T : TPr) (mg : Str → Option Value) (n : Nat) (fM : List D → Cells → R D) : Sp := fun vs H Q E => ∃ ds M α N, ds.length = n ∧ StC T N H M α ∧ Rels H N α ds vs ∧ match fM ds M with
  | .ok d M' => ∀ v H', StC T N H' M' α → Ext α N H α N H' → Rel H' N α d v → Q v H'
  | .ex e M' => ∀ cls dd H', StC T N H' M' α → Ext α N H α N H' → XR mg e cls dd H' N α → E cls dd H'
  | .no => False
/-- a function that has no list of ours in hand -/
def lift (p : List D → Pu) : List D → Cells → R D := fun ds M => match M with
  | [] => match p ds with
    | .ok d => .ok d []
    | .ex e => .ex e []
    | .no => .no
  | _ :: _ => .no
abbrev spP (T : TPr) (mg : Str → Option Value) (n : Nat) (p : List D → Pu) : Sp := spD T mg n (lift p)
def fCall (p : List D → Pu) (f : Sx → R (List D)) : Sx → R D := fun s => (f s).bind fun ds M => if lfs ds = true then (match p ds with
  | .ok d => .ok d M
  | .ex e => .ex e M
  | .no => .no) else .no
theorem Ext.ofNil {H' : Hp} (e : Ext [] N H [] N H') : Ext α N H α N H' := ⟨⟨[], by simp, by simp⟩, e.nn, e.nb, fun b o h _ t => e.keep b o h (fun _ => by simp) t, e.there⟩
theorem StC.ofNil {M : Cells} {H' : Hp} (c : StC T N H M α) (c' : StC T N H' [] []) (e : Ext [] N H [] N H') : StC T N H' M α :=
  ⟨c.nd, c.sub, c'.som, c.len, fun n l q => by
    obtain ⟨a, h1, h2⟩ := c.cel n l q
    exact ⟨a, h1, h2.all (fun o q _ t => e.keep a o q (fun _ => by simp) t) fun d v q => Rel.mono c.sub e.ofNil q⟩, c'.tab⟩
theorem XR.nil {e : Ex} {cls : Value} {dd : Option Addr} (h : XR mg e cls dd H N []) : XR mg e cls dd H N α := by
  obtain ⟨h1, h2⟩ := h
  refine ⟨h1, ?_⟩
  cases q : e.part with
  | none => rw [q] at h2; exact h2
  | some d =>
    rw [q] at h2
    obtain ⟨a, v, e1, e2, e3⟩ := h2
    exact ⟨a, v, e1, e2, Rel.nil e3⟩
theorem call_imp {n : Nat} {p : List D → Pu} {f : Sx → R (List D)} (hn : ∀ ds, p ds ≠ .no → ds.length = n) {Q : VK} (h : tD T mg W (fCall p f) σ H Q) : tCallS (spP T mg n p) (WE W) (tL T mg W f) σ H Q := by
  obtain ⟨s, α, N, hs, q⟩ := h
  refine ⟨s, α, N, hs, Post.mono (fun vs H1 h1 => ?_) (Post.bind (G := RelL) q)⟩
  obtain ⟨M1, α1, N1, ds, s1, e1, g1, p1⟩ := h1
  obtain ⟨hl, p2⟩ := p1.ite
  refine ⟨ds, [], [], N1, hn ds fun z => by rw [z] at p2; exact p2, ⟨by simp, by simp, s1.c.som, rfl, fun n l q => by simp at q, s1.c.tab⟩, Rels.lf hl g1, ?_⟩
  unfold lift
  cases hp : p ds with
  | no => rw [hp] at p2; exact p2
  | ok d =>
    rw [hp] at p2
    exact fun v H' c e r => p2 v H' α1 N1 (StC.keep s1 (s1.c.ofNil c e) e.ofNil) e.ofNil (Rel.nil r)
  | ex x =>
    rw [hp] at p2
    exact fun cls dd H' c e r => p2 cls dd H' α1 N1 (StC.keep s1 (s1.c.ofNil c e) e.ofNil) e.ofNil r.nil
/-- the first argument a list of ours, that the def may change -/
def fCallM (fM : List D → Cells → R D) (f : Sx → R (List D)) : Sx → R D := fun s => (f s).bind fun ds M => match ds with
  | .loc n :: r => match M[n]? with
    | some l => if (lfs r && lfs l) = true then (match fM (.loc 0 :: r) [l] with
      | .ok d [l'] => if (d.lf && lfs l') = true then .ok d (M.set n l') else .no
      | .ex e [l'] => if (lfs l' && e.part.isNone) = true then .ex e (M.set n l') else .no
      | _ => .no) else .no
    | none => .no
  | _ => .no
theorem StC.one {M : Cells} {n : Nat} {a : Addr} {l : List D} (c : StC T N H M α) (h1 : α[n]? = some a) (h2 : M[n]? = some l) (hl : lfs l = true) : StC T N H [l] [a] := by
  obtain ⟨a', e1, e2⟩ := c.cel n l h2
  rw [h1] at e1
  cases e1
  refine ⟨by simp, fun b hb => ?_, c.som, rfl, fun m l' q => ?_, c.tab⟩
  · simp at hb
    rw [hb]
    exact c.sub a (List.mem_of_getElem? h1)
  · match m, q with
    | 0, q =>
      simp at q
      subst q
      exact ⟨a, rfl, e2.lf hl⟩
    | m + 1, q => simp at q
theorem Ext.ofOne {H' : Hp} {a : Addr} (ha : a ∈ α) (e : Ext [a] N H [a] N H') : Ext α N H α N H' := ⟨⟨[], by simp, by simp⟩, e.nn, e.nb, fun b o h t u => e.keep b o h (fun z hm => by simp at hm; exact t z (by rw [hm]; exact ha)) u, e.there⟩
theorem StC.back {M : Cells} {n : Nat} {a : Addr} {l' : List D} {H' : Hp} (c : StC T N H M α) (h1 : α[n]? = some a) (hl : lfs l' = true) (c' : StC T N H' [l'] [a]) (e : Ext [a] N H [a] N H') : StC T N H' (M.set n l') α := by
  have ha : a ∈ α := List.mem_of_getElem? h1
  refine ⟨c.nd, c.sub, c'.som, by rw [List.length_set]; exact c.len, fun m l q => ?_, c'.tab⟩
  have q' : (M.set n l')[m]? = some l := q
  by_cases hm : n = m
  · subst hm
    have hlt : n < M.length := by have := (List.getElem?_eq_some_iff.mp h1).1; rw [c.len] at this; exact this
    rw [List.getElem?_set_self hlt] at q'
    cases q'
    obtain ⟨a', e1, e2⟩ := c'.cel 0 l' rfl
    cases e1
    exact ⟨a, h1, e2.lf hl⟩
  · rw [List.getElem?_set_ne hm] at q'
    obtain ⟨b, e1, e2⟩ := c.cel m l q'
    have ne : b ≠ a := fun z => by
      subst z
      obtain ⟨u1, v1⟩ := List.getElem?_eq_some_iff.mp h1
      obtain ⟨u2, v2⟩ := List.getElem?_eq_some_iff.mp e1
      exact hm ((List.getElem_inj c.nd).mp (v1.trans v2.symm))
    exact ⟨b, e1, e2.all (fun o q _ t => e.keep b o q (fun _ hb => by simp at hb; exact ne hb) t) fun d v q => Rel.mono c.sub (e.ofOne ha) q⟩
theorem Rel.lf' {d : D} {v : V} {a : Addr} (hd : d.lf = true) (h : Rel H N [a] d v) : Rel H N α d v := Rel.lf hd h
theorem callM_imp {n : Nat} {fM : List D → Cells → R D} {f : Sx → R (List D)} (hn : ∀ ds M, fM ds M ≠ .no → ds.length = n) {Q : VK} (h : tD T mg W (fCallM fM f) σ H Q) : tCallS (spD T mg n fM) (WE W) (tL T mg W f) σ H Q := by
  obtain ⟨s, α, N, hs, q⟩ := h
  refine ⟨s, α, N, hs, Post.mono (fun vs H1 h1 => ?_) (Post.bind (G := RelL) q)⟩
  obtain ⟨M1, α1, N1, ds, s1, e1, g1, p1⟩ := h1
  match ds, p1, g1 with
  | .loc j :: r, p1, g1 =>
    dsimp only at p1
    cases qj : M1[j]? with
    | none => rw [qj] at p1; exact p1.elim
    | some l =>
      rw [qj] at p1
      dsimp only at p1
      obtain ⟨hl, p2⟩ := p1.ite
      obtain ⟨hr, hl⟩ := Bool.and_eq_true_iff.mp hl
      unfold RelL Rels at g1
      obtain ⟨v, vr, rfl, g2, g3⟩ := g1
      unfold Rel at g2
      obtain ⟨a, rfl, ha⟩ := g2
      have hne : fM (.loc 0 :: r) [l] ≠ .no := fun z => by rw [z] at p2; exact p2
      refine ⟨.loc 0 :: r, [l], [a], N1, hn _ _ hne, s1.c.one ha qj hl, ?_, ?_⟩
      · exact Rels.cons (by unfold Rel; exact ⟨a, rfl, rfl⟩) (Rels.lf hr g3)
      · cases hp : fM (.loc 0 :: r) [l] with
        | no => exact (hne hp).elim
        | ok d M' =>
          rw [hp] at p2
          match M', p2 with
          | [l'], p2 =>
            dsimp only at p2
            obtain ⟨hd, p3⟩ := p2.ite
            obtain ⟨hd, hl'⟩ := Bool.and_eq_true_iff.mp hd
            exact fun w H' c e r' => p3 w H' α1 N1 (StC.keep s1 (s1.c.back ha hl' c e) (e.ofOne (List.mem_of_getElem? ha))) (e.ofOne (List.mem_of_getElem? ha)) (Rel.lf hd r')
          | [], p2 => exact p2.elim
          | _ :: _ :: _, p2 => exact p2.elim
        | ex x M' =>
          rw [hp] at p2
          match M', p2 with
          | [l'], p2 =>
            dsimp only at p2
            obtain ⟨hd, p3⟩ := p2.ite
            obtain ⟨hl', hx⟩ := Bool.and_eq_true_iff.mp hd
            intro cls dd H' c e r'
            refine p3 cls dd H' α1 N1 (StC.keep s1 (s1.c.back ha hl' c e) (e.ofOne (List.mem_of_getElem? ha))) (e.ofOne (List.mem_of_getElem? ha)) ⟨r'.1, ?_⟩
            have r2 := r'.2
            cases qx : x.part with
            | none => rw [qx] at r2; exact r2
            | some y => rw [qx] at hx; cases hx
          | [], p2 => exact p2.elim
          | _ :: _ :: _, p2 => exact p2.elim
  | [], p1, _ => exact p1.elim
  | .non :: _, p1, _ => exact p1.elim
  | .bl _ :: _, p1, _ => exact p1.elim
  | .int _ :: _, p1, _ => exact p1.elim
  | .str _ :: _, p1, _ => exact p1.elim
  | .tup _ :: _, p1, _ => exact p1.elim
  | .lst _ :: _, p1, _ => exact p1.elim
  | .adr _ :: _, p1, _ => exact p1.elim
  | .ty _ :: _, p1, _ => exact p1.elim
  | .scr _ :: _, p1, _ => exact p1.elim
  | .fnv _ _ _ :: _, p1, _ => exact p1.elim
  | .tag _ :: _, p1, _ => exact p1.elim
end
end DL

namespace DL
open PySem PySem.Spec L2
open PyProof.Rows hiding St

/-! ### what leaves a def -/
mutual
def fz (M : Cells) (m : Nat) : D → Option D
  | .non => some .non
  | .bl b => some (.bl b)
  | .int i => some (.int i)
  | .str x => some (.str x)
  | .tup l => (fzs M m l).map .tup
  | .lst l => (fzs M m l).map .lst
  | .loc n => if n < m then some (.loc n) else match lat M n with
    | some l => if lfs l = true then some (.lst l) else none
    | none => none
  | .adr a => some (.adr a)
  | .ty n => some (.ty n)
  | .scr _ => none
  | .fnv i o o' => some (.fnv i o o')
  | .tag _ => none
def fzs (M : Cells) (m : Nat) : List D → Option (List D)
  | [] => some []
  | d :: l => match fz M m d, fzs M m l with
    | some p, some ps => some (p :: ps)
    | _, _ => none
end
def cutM (M : Cells) (m : Nat) : Option Cells := if (M.take m).all lfs = true then some (M.take m) else none
def RS.out (m : Nat) : RS → R D
  | .nx s => match cutM s.M m with
    | some M => .ok .non M
    | none => .no
  | .rt d s => match cutM s.M m, fz s.M m d with
    | some M, some e => .ok e M
    | _, _ => .no
  | .ex e s => match cutM s.M m with
    | some M => match e.part with
      | none => .ex e M
      | some d => if d.lf = true then .ex e M else .no
    | none => .no
  | _ => .no
section
variable {T : TPr} {mg : Str → Option Value} {W : WX} {σ : L2.St} {H : Hp} {N : Addr → Prop} {α : List Addr} {Dn : Ends}
section
variable {α' : List Addr} {N' : Addr → Prop} {H' : Hp} {M' : Cells}
theorem cut_pre (e : Ext α N H α' N' H') {n : Nat} (h : n < α.length) : α'[n]? = α[n]? := by
  obtain ⟨β, e1, _⟩ := e.pre
  rw [e1, List.getElem?_append_left h]
mutual
theorem fz_rel (c : StC T N' H' M' α') (e : Ext α N H α' N' H') (som : ∀ a, N a → ¬ Fz H a) : ∀ {d d' : D} {v : V}, Rel H' N' α' d v → fz M' α.length d = some d' → Rel H' N α d' v
  | .non, _, _, h, q => by unfold fz at q; cases q; unfold Rel at h ⊢; exact h
  | .bl _, _, _, h, q => by unfold fz at q; cases q; unfold Rel at h ⊢; exact h
  | .int _, _, _, h, q => by unfold fz at q; cases q; unfold Rel at h ⊢; exact h
  | .str _, _, _, h, q => by unfold fz at q; cases q; unfold Rel at h ⊢; exact h
  | .adr _, _, _, h, q => by unfold fz at q; cases q; unfold Rel at h ⊢; exact h
  | .ty _, _, _, h, q => by unfold fz at q; cases q; unfold Rel at h ⊢; exact h
  | .scr _, _, _, h, q => by unfold fz at q; cases q
  | .fnv _ _ _, _, _, h, q => by unfold fz at q; cases q; unfold Rel at h ⊢; exact h
  | .tag _, _, _, h, q => by unfold fz at q; cases q
  | .tup l, _, _, h, q => by
    unfold fz at q
    cases q2 : fzs M' α.length l with
    | none => rw [q2] at q; cases q
    | some l' =>
      rw [q2] at q; cases q
      unfold Rel at h ⊢
      obtain ⟨a, vs, h1, h2, h3⟩ := h
      exact ⟨a, vs, h1, h2, fzs_rel c e som h3 q2⟩
  | .lst l, _, _, h, q => by
    unfold fz at q
    cases q2 : fzs M' α.length l with
    | none => rw [q2] at q; cases q
    | some l' =>
      rw [q2] at q; cases q
      unfold Rel at h ⊢
      obtain ⟨a, vs, h1, h0, h2, h3⟩ := h
      exact ⟨a, vs, h1, fun z => h0 (e.nn a z), h2, fzs_rel c e som h3 q2⟩
  | .loc n, _, _, h, q => by
    unfold Rel at h
    obtain ⟨a, h1, h2⟩ := h
    unfold fz at q
    by_cases hn : n < α.length
    · rw [if_pos hn] at q; cases q
      unfold Rel
      exact ⟨a, h1, by rw [← cut_pre e hn]; exact h2⟩
    · rw [if_neg hn] at q
      cases qm : lat M' n with
      | none => rw [qm] at q; cases q
      | some l =>
        rw [qm] at q
        dsimp only at q
        by_cases hl : lfs l = true
        · rw [if_pos hl] at q; cases q
          obtain ⟨q0, qp⟩ := lat_some qm
          obtain ⟨a', g1, g0⟩ := c.cel n l q0
          obtain ⟨vs, g2, g3⟩ := g0.lst qp
          rw [h2] at g1; cases g1
          unfold Rel
          refine ⟨a, vs, h1, fun z => ?_, g2, Rels.less e.nn (Rels.lf hl g3)⟩
          obtain ⟨β, e1, fβ⟩ := e.pre
          rw [e1, List.getElem?_append_right (by omega)] at h2
          exact som a z (fβ a (List.mem_of_getElem? h2))
        · rw [if_neg hl] at q; cases q
theorem fzs_rel (c : StC T N' H' M' α') (e : Ext α N H α' N' H') (som : ∀ a, N a → ¬ Fz H a) : ∀ {l l' : List D} {vs : List V}, Rels H' N' α' l vs → fzs M' α.length l = some l' → Rels H' N α l' vs
  | [], _, _, h, q => by unfold fzs at q; cases q; unfold Rels at h ⊢; exact h
  | d :: l, _, _, h, q => by
    unfold fzs at q
    unfold Rels at h
    obtain ⟨v, r, h1, h2, h3⟩ := h
    cases q1 : fz M' α.length d with
    | none => rw [q1] at q; simp at q
    | some p =>
      cases q2 : fzs M' α.length l with
      | none => rw [q1, q2] at q; simp at q
      | some ps =>
        rw [q1, q2] at q; simp at q; subst q; rw [h1]
        exact Rels.cons (fz_rel c e som h2 q1) (fzs_rel c e som h3 q2)
end
theorem Ext.cut (e : Ext α N H α' N' H') (sub : ∀ a ∈ α, N a) : Ext α N H α N H' := ⟨⟨[], by simp, by simp⟩, fun _ h => h, fun _ h => .inl h, e.keep, e.there⟩
theorem StC.cut {M1 : Cells} (c0 : StC T N H M α) (c : StC T N' H' M' α') (e : Ext α N H α' N' H') (q : cutM M' α.length = some M1) : StC T N H' M1 α := by
  unfold cutM at q
  by_cases hl : (M'.take α.length).all lfs = true
  · rw [if_pos hl] at q; cases q
    obtain ⟨β, e1, _⟩ := e.pre
    have hle : α.length ≤ M'.length := by rw [← c.len, e1]; simp
    refine ⟨c0.nd, c0.sub, fun a h => e.there a (c0.som a h), by rw [List.length_take]; omega, fun n l h => ?_, c.tab⟩
    have hn : n < α.length := by
      have := (List.getElem?_eq_some_iff.mp h).1
      rw [List.length_take] at this
      omega
    have hM : M'[n]? = some l := by rw [List.getElem?_take] at h; rw [if_pos hn] at h; exact h
    obtain ⟨a, g1, g2⟩ := c.cel n l hM
    have hll : lfs l = true := List.all_eq_true.mp hl l (List.mem_of_getElem? h)
    exact ⟨a, by rw [← cut_pre e hn]; exact g1, (g2.lf hll).all (fun o q _ _ => q) fun d v q => Rel.less e.nn q⟩
  · rw [if_neg hl] at q; cases q
end
end
def init0 (Nm : List Str) (ds : List D) : List (Option D) := ds.map some ++ List.replicate (Nm.length - ds.length) none
theorem init_slt {H : Hp} {N : Addr → Prop} {α : List Addr} {Nm : List Str} {ds : List D} {vs : List V} (r : Rels H N α ds vs) (i : Nat) (d : D) (h : (init0 Nm ds)[i]? = some (some d)) : ∃ v, (L2.start Nm vs)[i]? = some (some v) ∧ Rel H N α d v := by
  unfold init0 at h
  by_cases hi : i < ds.length
  · rw [List.getElem?_append_left (by simpa using hi)] at h
    rw [List.getElem?_map] at h
    cases q : ds[i]? with
    | none => rw [q] at h; cases h
    | some d' =>
      rw [q] at h
      have e : d' = d := by simpa using h
      subst e
      obtain ⟨v, h1, h2⟩ := Rels.get r q
      refine ⟨v, ?_, h2⟩
      unfold L2.start
      rw [List.getElem?_append_left (by rw [List.length_map, ← Rels.length r]; exact hi), List.getElem?_map, h1]
      rfl
  · rw [List.getElem?_append_right (by simpa using Nat.le_of_not_lt hi)] at h
    rw [List.getElem?_replicate] at h
    split at h
    · cases h
    · cases h
theorem _root_.L2.FunD.okC {P : Program} {w : World} {K : PySem.W.Frag} {mg : Str → Option Value} {base : Heap} {x qual : Str} {params : Arguments} {body : List Stmt} {scope : Scope} {dvs : List V} {kws : List (Str × V)} {f : Addr} {fd : FuncData} {CX : CXT} {N ps : List Str} {k : Nat} {sp : Sp} (F : FunD K x qual params body scope dvs kws f fd) (S : FnScope N ps scope) (len : ∀ vs H Q E, sp vs H Q E → vs.length = ps.length)
    (hbody : ∀ (cdv : Value), fd.code = cdv → ∀ (A : Around) (outer : List Env) (s : Shared) (H : Hp) (vs : List V) (Q : VK) (E : XK), Room k (A.deeper (envOfC qual scope s.heap.objs.size f cdv)) → sp vs H Q E →
      ∃ t, PSs (cxOf CX P w K mg base N qual scope f cdv A outer s H E) body t ∧ t { nx := fun _ H' => Q .non H', rt := Q } (L2.start N vs) H) : FnOk P w K mg base CX (k + 1) f fd ps sp := by
  obtain ⟨oc, od, dV, kV, doc, pm, an, cdv, ct, osl, rfl, lk, hcd, _, _⟩ := F.ex
  exact fn_of lk hcd S len fun A outer s H vs Q E hr hsp => hbody cdv rfl A outer s H vs Q E hr hsp
/-- THE RULE for a def: its body as a function on data -/
theorem fn_ok {T : TPr} {P : Program} {w : World} {K : PySem.W.Frag} {mg : Str → Option Value} {base : Heap} {x qual : Str} {st : Stmt} {f : Addr} {fd : FuncData} {Nm ps : List Str} {dvs : List V} {kws : List (Str × V)} {k : Nat} {fM : List D → Cells → R D}
    (F : FunD K x qual (defArgs st) (defBody st) (defScope st) dvs kws f fd) (S : FnScope Nm ps (defScope st))
    (hb : ∀ ds M, fM ds M ≠ .no → ds.length = ps.length → ∃ g : Sx → RS, (∀ (cdv : Value), fd.code = cdv → ∀ (A : Around) (outer : List Env) (s : Shared) (H : Hp) (E : XK), Room k (A.deeper (envOfC qual (defScope st) s.heap.objs.size f cdv)) →
      PSs (cxOf (L2.CX P w) P w K mg base Nm qual (defScope st) f cdv A outer s H E) (defBody st) (tS T mg (fun cls d _ H => E cls d H) g)) ∧ RS.out M.length (g ⟨init0 Nm ds, M⟩) = fM ds M) :
    FnOk P w K mg base (L2.CX P w) (k + 1) f fd ps (spD T mg ps.length fM) := by
  refine F.okC S (fun vs H Q E h => ?_) (fun cdv hcdv A outer s H vs Q E hr hsp => ?_)
  · obtain ⟨ds, M, α, N, h1, _, h2, _⟩ := h
    rw [← Rels.length h2]; exact h1
  · obtain ⟨ds, M, α, N, h1, c, r, post⟩ := hsp
    have hne : fM ds M ≠ .no := fun z => by rw [z] at post; exact post
    obtain ⟨g, hd, ho⟩ := hb ds M hne h1
    refine ⟨_, hd cdv hcdv A outer s H E hr, ⟨init0 Nm ds, M⟩, α, N, ⟨c, init_slt r, ?_⟩, ?_⟩
    · have := Rels.length r
      unfold init0 L2.start
      simp; omega
    · rw [← ho] at post
      rw [← c.len] at post
      cases q : g ⟨init0 Nm ds, M⟩ with
      | no => rw [q] at post; exact post
      | bk s1 => rw [q] at post; exact post.elim
      | ct s1 => rw [q] at post; exact post.elim
      | nx s1 =>
        rw [q] at post
        intro σ' H' α' N' s' e
        unfold RS.out at post
        dsimp only at post
        cases qc : cutM s1.M α.length with
        | none => rw [qc] at post; exact post.elim
        | some M1 =>
          rw [qc] at post
          exact post .non H' (c.cut s'.c e qc) (e.cut c.sub) rel_non
      | rt d s1 =>
        rw [q] at post
        intro v σ' H' α' N' s' e rv
        unfold RS.out at post
        dsimp only at post
        cases qc : cutM s1.M α.length with
        | none => rw [qc] at post; exact post.elim
        | some M1 =>
          cases qf : fz s1.M α.length d with
          | none => rw [qc, qf] at post; exact post.elim
          | some d' =>
            rw [qc, qf] at post
            exact post v H' (c.cut s'.c e qc) (e.cut c.sub) (fz_rel s'.c e c.som rv qf)
      | ex x s1 =>
        rw [q] at post
        intro cls dd σ' H' α' N' s' e xr
        unfold RS.out at post
        dsimp only at post
        cases qc : cutM s1.M α.length with
        | none => rw [qc] at post; exact post.elim
        | some M1 =>
          rw [qc] at post
          dsimp only at post
          obtain ⟨x1, x2⟩ := xr
          cases qp : x.part with
          | none =>
            rw [qp] at post
            exact post cls dd H' (c.cut s'.c e qc) (e.cut c.sub) ⟨x1, by rw [qp] at x2 ⊢; exact x2⟩
          | some d =>
            rw [qp] at post x2
            dsimp only at post
            by_cases hl : d.lf = true
            · rw [if_pos hl] at post
              obtain ⟨a, v, y1, y2, y3⟩ := x2
              exact post cls dd H' (c.cut s'.c e qc) (e.cut c.sub) ⟨x1, by rw [qp]; exact ⟨a, v, y1, y2, Rel.less e.nn (Rel.lf hl y3)⟩⟩
            · rw [if_neg hl] at post; exact post.elim
/-- the same for a def that has no list of ours in hand -/
theorem fn_okP {T : TPr} {P : Program} {w : World} {K : PySem.W.Frag} {mg : Str → Option Value} {base : Heap} {x qual : Str} {st : Stmt} {f : Addr} {fd : FuncData} {Nm ps : List Str} {dvs : List V} {kws : List (Str × V)} {k : Nat} {p : List D → Pu}
    (F : FunD K x qual (defArgs st) (defBody st) (defScope st) dvs kws f fd) (S : FnScope Nm ps (defScope st))
    (hb : ∀ ds, p ds ≠ .no → ds.length = ps.length → ∃ g : Sx → RS, (∀ (cdv : Value), fd.code = cdv → ∀ (A : Around) (outer : List Env) (s : Shared) (H : Hp) (E : XK), Room k (A.deeper (envOfC qual (defScope st) s.heap.objs.size f cdv)) →
      PSs (cxOf (L2.CX P w) P w K mg base Nm qual (defScope st) f cdv A outer s H E) (defBody st) (tS T mg (fun cls d _ H => E cls d H) g)) ∧ RS.out 0 (g ⟨init0 Nm ds, []⟩) = lift p ds []) :
    FnOk P w K mg base (L2.CX P w) (k + 1) f fd ps (spP T mg ps.length p) := by
  refine fn_ok F S fun ds M hne hl => ?_
  cases M with
  | cons _ _ => exact (hne rfl).elim
  | nil => exact hb ds (fun z => hne (by unfold lift; rw [z])) hl

section
variable {T : TPr} {mg : Str → Option Value} {W : WX} {σ : L2.St} {H : Hp} {N : Addr → Prop} {α : List Addr} {Dn : Ends}
/-! ### raise -/
def fRaise (x : Str) : Sx → RS := fun s => .ex ⟨x, none⟩ s
theorem raise_imp {x : Str} {cls : Value} (hm : mg x = some cls) (h : tS T mg W (fRaise x) Dn σ H) : W cls none σ H := by
  obtain ⟨s, α, N, hs, p⟩ := h
  exact p cls none σ H α N hs Ext.refl ⟨hm, rfl⟩

/-! ### walks -/
theorem PostI.of {G : RG D V} {ρ : List (Option D)} {Q : It → Hp → Prop} {r : R D} {k : D → Option (List D)} (h : PostI T mg N α H σ ρ W Q (r.bind fun d M => opt (k d) M)) :
    Post T mg G N α H σ ρ W (fun v H1 => ∃ M α1 N1 c ds, StR T N1 H1 σ ⟨ρ, M⟩ α1 ∧ Ext α N H α1 N1 H1 ∧ G H1 N1 α1 c v ∧ k c = some ds ∧ ∀ J, ItD T J ds α1 N1 H1 → Q J H1) r := by
  cases r with
  | no => exact h
  | ex e M => exact h
  | ok c M =>
    intro v H1 α1 N1 s1 e1 g1
    have h' : PostI T mg N α H σ ρ W Q (opt (k c) M) := h
    cases q : k c with
    | none => rw [q] at h'; exact h'.elim
    | some ds =>
      rw [q] at h'
      exact ⟨M, α1, N1, c, ds, s1, e1, g1, q, fun J it => h' J H1 α1 N1 s1 e1 it⟩
/-- over a list (not one of ours), over a tuple -/
def asLst : D → Option (List D)
  | .lst l => some l
  | _ => none
def asTup : D → Option (List D)
  | .tup l => some l
  | _ => none
def fIt (k : D → Option (List D)) (f : Sx → R D) : Sx → R (List D) := fun s => (f s).bind fun d M => opt (k d) M
theorem it_lst {K : PySem.W.Frag} {ds : List D} {vs : List V} {a : Addr} (sub : ∀ b ∈ α, N b) (hn : ¬ N a) (h : H a = some (.lst vs)) (r : Rels H N α ds vs) : ItD T (Itl K a) ds α N H := by
  intro i α2 N2 H2 e2 s2
  have h2 : SqL K H2 a vs := rd_sqL (keepLW e2 (fun z => hn (sub a z)) hn h)
  have r2 := Rels.monoW sub e2 r
  have hl := Rels.length r
  refine ⟨fun hi => ⟨vs, h2, by omega⟩, fun d hd => ?_⟩
  obtain ⟨v, g1, g2⟩ := Rels.get r2 hd
  refine ⟨⟨vs, v, h2, g1⟩, fun x H3 hy => ?_⟩
  obtain ⟨e, y⟩ := hy
  subst e
  refine ⟨fun _ _ q => q, ?_⟩
  have := y vs h2
  rw [g1] at this
  cases this
  exact g2
theorem it_tup {K : PySem.W.Frag} {ds : List D} {vs : List V} {a : Addr} (sub : ∀ b ∈ α, N b) (h : H a = some (.tup vs)) (r : Rels H N α ds vs) : ItD T (Itt K a) ds α N H := by
  intro i α2 N2 H2 e2 s2
  have h2 : SqT K H2 a vs := rd_sqT (keepTW e2 h)
  have r2 := Rels.monoW sub e2 r
  have hl := Rels.length r
  refine ⟨fun hi => ⟨vs, h2, by omega⟩, fun d hd => ?_⟩
  obtain ⟨v, g1, g2⟩ := Rels.get r2 hd
  refine ⟨⟨vs, v, h2, g1⟩, fun x H3 hy => ?_⟩
  obtain ⟨e, y⟩ := hy
  subst e
  refine ⟨fun _ _ q => q, ?_⟩
  have := y vs h2
  rw [g1] at this
  cases this
  exact g2
theorem itl_imp {K : PySem.W.Frag} {f : Sx → R D} {Q : It → Hp → Prop} (h : tI T mg W (fIt asLst f) σ H Q) : iList K (tD T mg W f) σ H Q := by
  obtain ⟨s, α, N, hs, p⟩ := h
  refine ⟨s, α, N, hs, Post.mono (fun v H1 h1 => ?_) (PostI.of (G := RelD) p)⟩
  obtain ⟨M1, α1, N1, d, ds, s1, e1, g1, k1, q⟩ := h1
  cases d <;> try (cases k1; done)
  rename_i l
  cases k1
  unfold RelD Rel at g1
  obtain ⟨a, vs, h1, h0, h2, h3⟩ := g1
  exact ⟨a, h1, ⟨vs, rd_sqL h2⟩, q _ (it_lst s1.c.sub h0 h2 h3)⟩
theorem itt_imp {K : PySem.W.Frag} {f : Sx → R D} {Q : It → Hp → Prop} (h : tI T mg W (fIt asTup f) σ H Q) : iTup K (tD T mg W f) σ H Q := by
  obtain ⟨s, α, N, hs, p⟩ := h
  refine ⟨s, α, N, hs, Post.mono (fun v H1 h1 => ?_) (PostI.of (G := RelD) p)⟩
  obtain ⟨M1, α1, N1, d, ds, s1, e1, g1, k1, q⟩ := h1
  cases d <;> try (cases k1; done)
  rename_i l
  cases k1
  unfold RelD Rel at g1
  obtain ⟨a, vs, h1, h2, h3⟩ := g1
  exact ⟨a, h1, ⟨vs, rd_sqT h2⟩, q _ (it_tup s1.c.sub h2 h3)⟩
/-- over range(..) -/
def rgList (lo : Int) (n : Nat) : List D := (List.range n).map fun (i : Nat) => D.int (lo + (i : Int))
theorem rg_get {lo : Int} {n i : Nat} : (rgList lo n)[i]? = if i < n then some (.int (lo + i)) else none := by
  unfold rgList
  rw [List.getElem?_map]
  by_cases h : i < n
  · rw [if_pos h, List.getElem?_range h]; rfl
  · rw [if_neg h, List.getElem?_eq_none (by simpa using Nat.le_of_not_lt h)]; rfl
end
end DL

namespace DL
open PySem PySem.Spec L2
open PyProof.Rows hiding St

section
variable {T : TPr} {mg : Str → Option Value} {W : WX} {σ : L2.St} {H : Hp} {N : Addr → Prop} {α : List Addr} {Dn : Ends}
/-! ### ranges -/
def rgOk (j : Int) : Bool := decide (-1000000000 ≤ j) && decide (j ≤ 1000000000)
def asRg1 : List D → Option (List D)
  | [.int j] => if rgOk j = true then some (rgList 0 j.toNat) else none
  | _ => none
def asRg2 : List D → Option (List D)
  | [.int i, .int j] => if (rgOk i && rgOk j) = true then some (rgList i (j - i).toNat) else none
  | _ => none
theorem PostI.of' {γ δ : Type} {G : RG γ δ} {ρ : List (Option D)} {Q : It → Hp → Prop} {r : R γ} {k : γ → Option (List D)} (h : PostI T mg N α H σ ρ W Q (r.bind fun d M => opt (k d) M)) :
    Post T mg G N α H σ ρ W (fun v H1 => ∃ M α1 N1 c ds, StR T N1 H1 σ ⟨ρ, M⟩ α1 ∧ Ext α N H α1 N1 H1 ∧ G H1 N1 α1 c v ∧ k c = some ds ∧ ∀ J, ItD T J ds α1 N1 H1 → Q J H1) r := by
  cases r with
  | no => exact h
  | ex e M => exact h
  | ok c M =>
    intro v H1 α1 N1 s1 e1 g1
    have h' : PostI T mg N α H σ ρ W Q (opt (k c) M) := h
    cases q : k c with
    | none => rw [q] at h'; exact h'.elim
    | some ds =>
      rw [q] at h'
      exact ⟨M, α1, N1, c, ds, s1, e1, g1, q, fun J it => h' J H1 α1 N1 s1 e1 it⟩
def fIts (k : List D → Option (List D)) (f : Sx → R (List D)) : Sx → R (List D) := fun s => (f s).bind fun d M => opt (k d) M
theorem it_rg {lo : Int} {n : Nat} : ItD T (Itr lo n) (rgList lo n) α N H := by
  intro i α2 N2 H2 e2 s2
  have hl : (rgList lo n).length = n := by unfold rgList; simp
  rw [hl]
  refine ⟨fun hi => Nat.le_of_eq hi.symm, fun d hd => ?_⟩
  rw [rg_get] at hd
  by_cases h : i < n
  · rw [if_pos h] at hd
    cases hd
    refine ⟨h, fun x H3 hy => ?_⟩
    obtain ⟨e, y⟩ := hy
    subst e y
    exact ⟨fun _ _ q => q, rel_int⟩
  · rw [if_neg h] at hd; cases hd
theorem rgOk_b {j : Int} (h : rgOk j = true) : -(2 ^ 62) ≤ j ∧ j < 2 ^ 62 := by
  unfold rgOk at h
  simp only [Bool.and_eq_true, decide_eq_true_eq] at h
  omega
theorem rg1_imp {f : Sx → R (List D)} {Q : It → Hp → Prop} (h : tI T mg W (fIts asRg1 f) σ H Q) : iRng1 (tL T mg W f) σ H Q := by
  obtain ⟨s, α, N, hs, p⟩ := h
  refine ⟨s, α, N, hs, Post.mono (fun v H1 h1 => ?_) (PostI.of' (G := RelL) p)⟩
  obtain ⟨M1, α1, N1, d, ds, s1, e1, g1, k1, q⟩ := h1
  match d, k1, g1 with
  | [.int j], k1, g1 =>
    obtain ⟨x, rfl, r1⟩ := rels1 g1
    unfold Rel at r1
    unfold asRg1 at k1
    dsimp only at k1
    by_cases hj : rgOk j = true
    · rw [if_pos hj] at k1; cases k1
      exact ⟨j, by rw [r1], (rgOk_b hj).1, (rgOk_b hj).2, q _ it_rg⟩
    · rw [if_neg hj] at k1; cases k1
theorem rg2_imp {f : Sx → R (List D)} {Q : It → Hp → Prop} (h : tI T mg W (fIts asRg2 f) σ H Q) : iRng2 (tL T mg W f) σ H Q := by
  obtain ⟨s, α, N, hs, p⟩ := h
  refine ⟨s, α, N, hs, Post.mono (fun v H1 h1 => ?_) (PostI.of' (G := RelL) p)⟩
  obtain ⟨M1, α1, N1, d, ds, s1, e1, g1, k1, q⟩ := h1
  match d, k1, g1 with
  | [.int i, .int j], k1, g1 =>
    obtain ⟨x, y, rfl, r1, r2⟩ := rels2 g1
    unfold Rel at r1 r2
    unfold asRg2 at k1
    dsimp only at k1
    by_cases hj : (rgOk i && rgOk j) = true
    · rw [if_pos hj] at k1; cases k1
      obtain ⟨a, b⟩ := Bool.and_eq_true_iff.mp hj
      exact ⟨i, j, by rw [r1, r2], ⟨(rgOk_b a).1, (rgOk_b a).2, (rgOk_b b).1, (rgOk_b b).2⟩, q _ it_rg⟩
    · rw [if_neg hj] at k1; cases k1

/-! ### methods of lists -/
def MtD (T : TPr) (r : V → List V → Hp → VK → Prop) (g : Cells → D → List D → Option (D × Cells)) : Prop := ∀ {N : Addr → Prop} {H : Hp} {M : Cells} {α : List Addr} {d : D} {l : List D} {x : V} {xs : List V} {z : D} {M' : Cells} {Q : VK}, StC T N H M α → Rel H N α d x → Rels H N α l xs → g M d l = some (z, M') →
  (∀ v H', StC T N H' M' α → Ext α N H α N H' → Rel H' N α z v → Q v H') → r x xs H Q
def isLst (M : Cells) : D → Bool
  | .loc n => (lat M n).isSome
  | .lst _ => true
  | _ => false
def fMt (g : Cells → D → List D → Option (D × Cells)) (fo : Sx → R D) (fa : Sx → R (List D)) : Sx → R D := fun s => (fo s).bind fun d M1 => if isLst M1 d = true then
  (fa ⟨s.ρ, M1⟩).bind fun l M2 => match g M2 d l with
    | some (z, M') => .ok z M'
    | none => .no
  else .no
theorem isLst_ty {K : PySem.W.Frag} {M : Cells} {d : D} {x : V} (c : StC T N H M α) (r : Rel H N α d x) (h : isLst M d = true) : tyV K "list" x H := by
  cases d <;> try (cases h; done)
  · unfold Rel at r
    obtain ⟨a, vs, h1, h0, h2, h3⟩ := r
    rw [h1]
    exact .inl ⟨rfl, vs, rd_sqL h2⟩
  · rename_i n
    unfold Rel at r
    obtain ⟨a, h1, h2⟩ := r
    unfold isLst at h
    dsimp only at h
    cases q : lat M n with
    | none => rw [q] at h; cases h
    | some l =>
      obtain ⟨q0, qp⟩ := lat_some q
      obtain ⟨a', e1, e0⟩ := c.cel n l q0
      obtain ⟨vs, e2, e3⟩ := e0.lst qp
      rw [h2] at e1; cases e1
      rw [h1]
      exact .inl ⟨rfl, vs, rd_sqL e2⟩
theorem mt_imp {K : PySem.W.Frag} {r : V → List V → Hp → VK → Prop} {g : Cells → D → List D → Option (D × Cells)} {fo : Sx → R D} {fa : Sx → R (List D)} (ho : MtD T r g) {Q : VK} (h : tD T mg W (fMt g fo fa) σ H Q) : tBM K "list" r (tD T mg W fo) (tL T mg W fa) σ H Q := by
  obtain ⟨s, α, N, hs, p⟩ := h
  refine ⟨s, α, N, hs, Post.mono (fun x H1 h1 => ?_) (Post.bind (G := RelD) p)⟩
  obtain ⟨M1, α1, N1, d, s1, e1, g1, p1⟩ := h1
  obtain ⟨hl, p2⟩ := p1.ite
  refine ⟨isLst_ty s1.c g1 hl, _, α1, N1, s1, Post.mono (fun xs H2 h2 => ?_) (Post.bind (G := RelL) p2)⟩
  obtain ⟨M2, α2, N2, l, s2, e2, g2, p3⟩ := h2
  cases q : g M2 d l with
  | none => rw [q] at p3; exact p3.elim
  | some zz =>
    obtain ⟨z, M'⟩ := zz
    rw [q] at p3
    exact ho s2.c (Rel.mono s1.c.sub e2 g1) g2 q fun v H' c e rz => p3 v H' α2 N2 (StC.keep s2 c e) e rz
theorem mt0_imp {K : PySem.W.Frag} {r : V → List V → Hp → VK → Prop} {g : Cells → D → List D → Option (D × Cells)} {fo : Sx → R D} (ho : MtD T r g) {Q : VK} (h : tD T mg W (fMt g fo fNil) σ H Q) : tBM0 K "list" r (tD T mg W fo) σ H Q := by
  obtain ⟨s, α, N, hs, p⟩ := h
  refine ⟨s, α, N, hs, Post.mono (fun x H1 h1 => ?_) (Post.bind (G := RelD) p)⟩
  obtain ⟨M1, α1, N1, d, s1, e1, g1, p1⟩ := h1
  obtain ⟨hl, p2⟩ := p1.ite
  refine ⟨isLst_ty s1.c g1 hl, ?_⟩
  have p3 : Post T mg RelD N1 α1 H1 σ s.ρ W Q (match g M1 d [] with
    | some (z, M') => .ok z M'
    | none => .no) := p2
  cases q : g M1 d [] with
  | none => rw [q] at p3; exact p3.elim
  | some zz =>
    obtain ⟨z, M'⟩ := zz
    rw [q] at p3
    exact ho s1.c g1 (by unfold Rels; rfl) q fun v H' c e rz => p3 v H' α1 N1 (StC.keep s1 c e) e rz
/-- a cell is written -/
theorem StC.put {M : Cells} {n : Nat} {a : Addr} {l l' : List D} {ws : List V} (c : StC T N H M α) (h1 : α[n]? = some a) (h2' : lat M n = some l) (r : Rels H N α l' ws) : StC T N (upd H a (.lst ws)) (M.set n l') α ∧ Ext α N H α N (upd H a (.lst ws)) := by
  obtain ⟨h2, hpl⟩ := lat_some h2'
  obtain ⟨a', e1, e0⟩ := c.cel n l h2
  obtain ⟨vs, e2, e3⟩ := e0.lst hpl
  rw [h1] at e1; cases e1
  have ha : a ∈ α := List.mem_of_getElem? h1
  have hN : N a := c.sub a ha
  have hnf : ∀ b, ¬ Fz H b → ¬ Fz (upd H a (.lst ws)) b := fun b h => nf_upd (fun _ z => by cases z) fun _ => h
  refine ⟨⟨c.nd, c.sub, fun b h => hnf b (c.som b h), by rw [List.length_set]; exact c.len, fun m q hq => ?_, tab_wr e2 c.tab⟩, ⟨⟨[], by simp, by simp⟩, fun _ h => h, fun _ h => .inl h, fun b o hb t u => ?_, hnf⟩⟩
  · have hq' : (M.set n l')[m]? = some q := hq
    by_cases hm : n = m
    · subst hm
      have hlt : n < M.length := (List.getElem?_eq_some_iff.mp h2).1
      rw [List.getElem?_set_self hlt] at hq'
      cases hq'
      exact ⟨a, h1, .inl ⟨ws, upd_same, Rels.wr hN e2 r⟩⟩
    · rw [List.getElem?_set_ne hm] at hq'
      obtain ⟨b, f1, f2⟩ := c.cel m q hq'
      have ne : b ≠ a := fun z => by
        subst z
        obtain ⟨u1, v1⟩ := List.getElem?_eq_some_iff.mp h1
        obtain ⟨u2, v2⟩ := List.getElem?_eq_some_iff.mp f1
        exact hm ((List.getElem_inj c.nd).mp (v1.trans v2.symm))
      exact ⟨b, f1, f2.all (fun o q _ _ => by rw [upd_ne ne]; exact q) fun d v q => Rel.wr hN e2 q⟩
  · rw [upd_ne (fun z => t (by rw [z, e2] at hb; rw [← Option.some.inj hb]; trivial) (by rw [z]; exact ha))]
    exact hb
theorem loc_rel {M : Cells} {n : Nat} {x : V} {l : List D} (c : StC T N H M α) (r : Rel H N α (.loc n) x) (h' : lat M n = some l) : ∃ a vs, x = .ref a ∧ α[n]? = some a ∧ H a = some (.lst vs) ∧ Rels H N α l vs := by
  unfold Rel at r
  obtain ⟨a, h1, h2⟩ := r
  obtain ⟨h, hpl⟩ := lat_some h'
  obtain ⟨a', e1, e0⟩ := c.cel n l h
  obtain ⟨vs, e2, e3⟩ := e0.lst hpl
  rw [h2] at e1; cases e1
  exact ⟨a, vs, h1, h2, e2, e3⟩
def gAppend : Cells → D → List D → Option (D × Cells) := fun M d l => match d, l with
  | .loc n, [e] => match lat M n with
    | some xs => if xs.length < 100000 then some (.non, M.set n (xs ++ [e])) else none
    | none => none
  | _, _ => none
theorem sz_lt {n : Nat} (h : n < 100000) : n < sizeLine := Nat.lt_of_lt_of_le h (by decide)
theorem md_append : MtD T rAppend gAppend := by
  intro N H M α d l x xs z M' Q c r1 r2 h k
  match d, l, h, r1, r2 with
  | .loc n, [e], h, r1, r2 =>
    unfold gAppend at h
    dsimp only at h
    cases q : lat M n with
    | none => rw [q] at h; cases h
    | some ys =>
      rw [q] at h
      dsimp only at h
      by_cases hz : ys.length < 100000
      · rw [if_pos hz] at h; cases h
        obtain ⟨a, vs, h1, h2, h3, h4⟩ := loc_rel c r1 q
        obtain ⟨y, rfl, r3⟩ := rels1 r2
        have hl := Rels.length h4
        obtain ⟨c', e'⟩ := c.put h2 q (Rels.append (Rels.one r3) h4)
        exact ⟨a, vs, y, h1, rfl, h3, sz_lt (by omega), k _ _ c' e' rel_non⟩
      · rw [if_neg hz] at h; cases h
def gInsert : Cells → D → List D → Option (D × Cells) := fun M d l => match d, l with
  | .loc n, [.int i, e] => match lat M n with
    | some xs => if xs.length < 100000 ∧ 0 ≤ i ∧ i ≤ 100000 then some (.non, M.set n (xs.take i.toNat ++ [e] ++ xs.drop i.toNat)) else none
    | none => none
  | _, _ => none
def rInsert : V → List V → Hp → VK → Prop := fun x vs H Q => ∃ (l : Addr) (xs : List V) (i : Int) (y : V), x = .ref l ∧ vs = [.int i, y] ∧ H l = some (.lst xs) ∧ xs.length < sizeLine ∧ 0 ≤ i ∧ i < 2 ^ 63 ∧
    Q .non (upd H l (.lst (xs.take i.toNat ++ [y] ++ xs.drop i.toNat)))
theorem md_insert : MtD T rInsert gInsert := by
  intro N H M α d l x xs z M' Q c r1 r2 h k
  match d, l, h, r1, r2 with
  | .loc n, [.int i, e], h, r1, r2 =>
    unfold gInsert at h
    dsimp only at h
    cases q : lat M n with
    | none => rw [q] at h; cases h
    | some ys =>
      rw [q] at h
      dsimp only at h
      by_cases hz : ys.length < 100000 ∧ 0 ≤ i ∧ i ≤ 100000
      · rw [if_pos hz] at h; cases h
        obtain ⟨a, vs, h1, h2, h3, h4⟩ := loc_rel c r1 q
        obtain ⟨y0, y, rfl, r0, r3⟩ := rels2 r2
        unfold Rel at r0
        subst r0
        have hl := Rels.length h4
        obtain ⟨c', e'⟩ := c.put h2 q (Rels.append (Rels.drop i.toNat h4) (Rels.append (Rels.one r3) (Rels.take i.toNat h4)))
        exact ⟨a, vs, i, y, h1, rfl, h3, sz_lt (by omega), hz.2.1, by omega, k _ _ c' e' rel_non⟩
      · rw [if_neg hz] at h; cases h
def gPop : Cells → D → List D → Option (D × Cells) := fun M d l => match d, l with
  | .loc n, [] => match lat M n with
    | some xs => match xs[xs.length - 1]? with
      | some y => some (y, M.set n xs.dropLast)
      | none => none
    | none => none
  | _, _ => none
theorem Rels.dropLast {H : Hp} {N : Addr → Prop} {α : List Addr} {l : List D} {vs : List V} (h : Rels H N α l vs) : Rels H N α l.dropLast vs.dropLast := by
  rw [List.dropLast_eq_take, List.dropLast_eq_take, Rels.length h]
  exact Rels.take _ h
theorem md_pop : MtD T rPop gPop := by
  intro N H M α d l x xs z M' Q c r1 r2 h k
  match d, l, h, r1, r2 with
  | .loc n, [], h, r1, r2 =>
    unfold gPop at h
    dsimp only at h
    cases q : lat M n with
    | none => rw [q] at h; cases h
    | some ys =>
      rw [q] at h
      dsimp only at h
      cases q2 : ys[ys.length - 1]? with
      | none => rw [q2] at h; cases h
      | some y =>
        rw [q2] at h; cases h
        obtain ⟨a, vs, h1, h2, h3, h4⟩ := loc_rel c r1 q
        unfold Rels at r2
        subst r2
        obtain ⟨v, g1, g2⟩ := Rels.get h4 q2
        obtain ⟨c', e'⟩ := c.put h2 q (Rels.dropLast h4)
        exact ⟨a, vs, v, h1, rfl, h3, by rw [← Rels.length h4]; exact g1, k _ _ c' e' (Rel.mono c.sub e' g2)⟩
def gPopAt : Cells → D → List D → Option (D × Cells) := fun M d l => match d, l with
  | .loc n, [.int i] => match lat M n with
    | some xs => if -1000000 ≤ i ∧ i ≤ 1000000 then match seqIndex? i xs.length with
      | some j => match xs[j]? with
        | some y => some (y, M.set n (xs.eraseIdx j))
        | none => none
      | none => none
      else none
    | none => none
  | _, _ => none
theorem md_popAt : MtD T rPopAt gPopAt := by
  intro N H M α d l x xs z M' Q c r1 r2 h k
  match d, l, h, r1, r2 with
  | .loc n, [.int i], h, r1, r2 =>
    unfold gPopAt at h
    dsimp only at h
    cases q : lat M n with
    | none => rw [q] at h; cases h
    | some ys =>
      rw [q] at h
      dsimp only at h
      by_cases hi : -1000000 ≤ i ∧ i ≤ 1000000
      case neg => rw [if_neg hi] at h; cases h
      rw [if_pos hi] at h
      cases q3 : seqIndex? i ys.length with
      | none => rw [q3] at h; cases h
      | some j =>
        rw [q3] at h
        dsimp only at h
        cases q2 : ys[j]? with
        | none => rw [q2] at h; cases h
        | some y =>
          rw [q2] at h; cases h
          obtain ⟨a, vs, h1, h2, h3, h4⟩ := loc_rel c r1 q
          obtain ⟨y0, rfl, r0⟩ := rels1 r2
          unfold Rel at r0
          subst r0
          obtain ⟨v, g1, g2⟩ := Rels.get h4 q2
          obtain ⟨c', e'⟩ := c.put h2 q (Rels.eraseIdx j h4)
          exact ⟨a, vs, i, j, v, h1, rfl, h3, by omega, by omega, by rw [← Rels.length h4]; exact q3, g1, k _ _ c' e' (Rel.mono c.sub e' g2)⟩
/-- xs[i] = e -/
def fSetIx (fe fo fi : Sx → R D) : Sx → RS := fun s => (fe s).toS s.ρ fun d M1 => (fo ⟨s.ρ, M1⟩).toS s.ρ fun o M2 => (fi ⟨s.ρ, M2⟩).toS s.ρ fun i M3 => match o, i with
  | .loc n, .int j => match lat M3 n with
    | some xs => match ixN xs.length j with
      | some k => .nx ⟨s.ρ, M3.set n (xs.set k d)⟩
      | none => .no
    | none => .no
  | _, _ => .no
theorem setIx_imp {fe fo fi : Sx → R D} (h : tS T mg W (fSetIx fe fo fi) Dn σ H) : tAsg (tD T mg W fe) (L2.gSub (tD T mg W fo) (tD T mg W fi) rSetL) Dn σ H := by
  obtain ⟨s, α, N, hs, p⟩ := h
  refine ⟨s, α, N, hs, Post.mono (fun v H1 h1 => ?_) (PostS.bind (G := RelD) p)⟩
  obtain ⟨M1, α1, N1, d, s1, e1, g1, p1⟩ := h1
  refine ⟨_, α1, N1, s1, Post.mono (fun o H2 h2 => ?_) (PostS.bind (G := RelD) p1)⟩
  obtain ⟨M2, α2, N2, od, s2, e2, g2, p2⟩ := h2
  refine ⟨_, α2, N2, s2, Post.mono (fun i H3 h3 => ?_) (PostS.bind (G := RelD) p2)⟩
  obtain ⟨M3, α3, N3, id', s3, e3, g3, p3⟩ := h3
  match od, id', p3, g2, g3 with
  | .loc n, .int j, p3, g2, g3 =>
    dsimp only at p3
    cases q : lat M3 n with
    | none => rw [q] at p3; exact p3.elim
    | some xs =>
      rw [q] at p3
      dsimp only at p3
      cases qk : ixN xs.length j with
      | none => rw [qk] at p3; exact p3.elim
      | some k =>
        rw [qk] at p3
        obtain ⟨a, vs, h1, h2, h3, h4⟩ := loc_rel s3.c (Rel.mono s2.c.sub e3 g2) q
        unfold RelD Rel at g3
        have rd : Rel H3 N3 α3 d v := Rel.mono s2.c.sub e3 (Rel.mono s1.c.sub e2 g1)
        obtain ⟨c', e'⟩ := s3.c.put h2 q (Rels.set rd k h4)
        exact ⟨a, vs, j, k, h1, g3, h3, by rw [← Rels.length h4]; exact qk, p3 _ _ α3 N3 (StC.keep s3 c' e') e'⟩

/-! ### slices, + of tuples and lists -/
def dcut (l : List D) (lo hi : Option Int) : List D := (l.drop (HT.sIx l.length 0 lo)).take (HT.sIx l.length l.length hi - HT.sIx l.length 0 lo)
theorem dcut_rel {l : List D} {vs : List V} {lo hi : Option Int} (r : Rels H N α l vs) : Rels H N α (dcut l lo hi) (cutV vs lo hi) := by
  unfold dcut cutV
  rw [Rels.length r]
  exact Rels.take _ (Rels.drop _ r)
def fNoPart : Sx → R (Option Int) := fun s => .ok none s.M
def fPart (f : Sx → R D) : Sx → R (Option Int) := fun s => (f s).bind fun d M => match d with
  | .int i => .ok (some i) M
  | _ => .no
abbrev tO' (T : TPr) (mg : Str → Option Value) (W : WX) (f : Sx → R (Option Int)) : TO := tG T mg RelO W f
theorem noPart_imp {Q : Option Int → Hp → Prop} (h : tO' T mg W fNoPart σ H Q) : tNoPart σ H Q := by
  obtain ⟨s, α, N, hs, p⟩ := h
  exact Post.now p hs rfl
theorem part_imp {f : Sx → R D} {Q : Option Int → Hp → Prop} (h : tO' T mg W (fPart f) σ H Q) : tPart (tD T mg W f) σ H Q := by
  obtain ⟨s, α, N, hs, p⟩ := h
  refine ⟨s, α, N, hs, Post.mono (fun x H1 h1 => ?_) (Post.bind (G := RelD) p)⟩
  obtain ⟨M1, α1, N1, d, s1, e1, g1, p1⟩ := h1
  cases d with
  | int i =>
    unfold RelD Rel at g1
    exact ⟨i, g1, Post.now p1 s1 rfl⟩
  | _ => exact p1.elim
def gCut : Cells → D → Option Int → Option Int → Option D := fun M d lo hi => match seqOf M d with
  | some (true, l) => some (.tup (dcut l lo hi))
  | some (false, l) => some (.lst (dcut l lo hi))
  | none => none
def fSl (fo : Sx → R D) (fl fh : Sx → R (Option Int)) : Sx → R D := fun s => (fo s).bind fun d M1 => (fl ⟨s.ρ, M1⟩).bind fun lo M2 => (fh ⟨s.ρ, M2⟩).bind fun hi M3 => opt (gCut M3 d lo hi) M3
def rSl (K : PySem.W.Frag) : V → Option Int → Option Int → Hp → VK → Prop := fun x lo hi H Q => rSlA K x lo hi H Q ∨ rSlL K x lo hi H Q
theorem whole_cut {vs : List V} {lo hi : Option Int} (h : HT.sIx vs.length 0 lo = 0 ∧ HT.sIx vs.length vs.length hi = vs.length) : cutV vs lo hi = vs := by
  unfold cutV
  rw [h.1, h.2]
  simp
theorem sl_imp {K : PySem.W.Frag} {fo : Sx → R D} {fl fh : Sx → R (Option Int)} {Q : VK} (h : tD T mg W (fSl fo fl fh) σ H Q) : tSl (rSl K) (tD T mg W fo) (tO' T mg W fl) (tO' T mg W fh) σ H Q := by
  obtain ⟨s, α, N, hs, p⟩ := h
  refine ⟨s, α, N, hs, Post.mono (fun x H1 h1 => ?_) (Post.bind (G := RelD) p)⟩
  obtain ⟨M1, α1, N1, d, s1, e1, g1, p1⟩ := h1
  refine ⟨_, α1, N1, s1, Post.mono (fun lo H2 h2 => ?_) (Post.bind (G := RelO) p1)⟩
  obtain ⟨M2, α2, N2, lo', s2, e2, g2, p2⟩ := h2
  refine ⟨_, α2, N2, s2, Post.mono (fun hi H3 h3 => ?_) (Post.bind (G := RelO) p2)⟩
  obtain ⟨M3, α3, N3, hi', s3, e3, g3, p3⟩ := h3
  cases g2
  cases g3
  obtain ⟨z, hz, p4⟩ := p3.opt
  have rd := Rel.mono s2.c.sub e3 (Rel.mono s1.c.sub e2 g1)
  unfold gCut at hz
  cases q : seqOf M3 d with
  | none => rw [q] at hz; cases hz
  | some bl =>
    obtain ⟨b, l⟩ := bl
    rw [q] at hz
    obtain ⟨a, vs, h1, h2, h3, h4⟩ := seq_rel s3.c rd q
    have fin : ∀ o p, H3 p = none → (∀ ps, o ≠ .tbl ps) → Rel (upd H3 p o) N3 α3 z (.ref p) → Q (.ref p) (upd H3 p o) := fun o p hp _ r => p4 _ _ α3 N3 (StC.keep s3 (s3.c.grow (new_keep hp)) (Ext.grow (new_keep hp))) (Ext.grow (new_keep hp)) r
    cases b with
    | true =>
      cases hz
      refine .inl ⟨a, vs, h1, rd_sqT (h2 rfl), fun hw => ?_, fun hw p hp => fin _ p hp (fun _ z => by cases z) (tup_new (dcut_rel h4) s3.c.sub hp)⟩
      refine p4 _ _ α3 N3 s3 Ext.refl ?_
      unfold RelD Rel
      exact ⟨a, vs, rfl, h2 rfl, by rw [← whole_cut hw]; exact dcut_rel h4⟩
    | false =>
      cases hz
      exact .inr ⟨a, vs, h1, .inl (h3 rfl), fun p hp => fin _ p hp (fun _ z => by cases z) (lst_new (dcut_rel h4) s3.c.sub s3.c.som hp)⟩
def gCat : Cells → D → D → Option D := fun M d e => match seqOf M d, seqOf M e with
  | some (true, l), some (true, m) => if l.length + m.length ≤ 100000 then some (.tup (l ++ m)) else none
  | _, _ => none
theorem od_catT {K : PySem.W.Frag} : OpD T (rCatA K) gCat := by
  intro N H M α d e x y z Q c r1 r2 h k
  unfold gCat at h
  split at h
  · rename_i l m q1 q2
    by_cases hl : l.length + m.length ≤ 100000
    · rw [if_pos hl] at h; cases h
      obtain ⟨a, vs, h1, h2, h3, h4⟩ := seq_rel c r1 q1
      obtain ⟨b, ws, i1, i2, i3, i4⟩ := seq_rel c r2 q2
      have l1 := Rels.length h4
      have l2 := Rels.length i4
      refine ⟨a, b, vs, ws, h1, i1, rd_sqT (h2 rfl), rd_sqT (i2 rfl), sz_of (by omega), fun hx => ?_, fun hx hy => ?_, fun hx hy p hp => ?_⟩
      · subst hx
        have e : l = [] := List.eq_nil_of_length_eq_zero l1
        subst e
        exact k _ H c Ext.refl (by unfold Rel; exact ⟨b, ws, rfl, i2 rfl, i4⟩)
      · subst hy
        have e : m = [] := List.eq_nil_of_length_eq_zero l2
        subst e
        exact k _ H c Ext.refl (by unfold Rel; exact ⟨a, vs, rfl, h2 rfl, by rw [List.append_nil]; exact h4⟩)
      · exact k _ _ (c.grow (new_keep hp)) (Ext.grow (new_keep hp)) (tup_new (Rels.append i4 h4) c.sub hp)
    · rw [if_neg hl] at h; cases h
  · cases h
/-- lists that are no locked ones -/
def lstOf (M : Cells) : D → Option (List D)
  | .lst l => some l
  | .loc n => lat M n
  | _ => none
theorem lst_rel {M : Cells} {d : D} {x : V} {l : List D} (c : StC T N H M α) (r : Rel H N α d x) (h : lstOf M d = some l) : ∃ a vs, x = .ref a ∧ H a = some (.lst vs) ∧ Rels H N α l vs := by
  cases d <;> try (cases h; done)
  · cases h
    unfold Rel at r
    obtain ⟨a, vs, h1, h0, h2, h3⟩ := r
    exact ⟨a, vs, h1, h2, h3⟩
  · obtain ⟨a, vs, h1, _, h3, h4⟩ := loc_rel c r h
    exact ⟨a, vs, h1, h3, h4⟩
def gCatL : Cells → D → D → Option D := fun M d e => match lstOf M d, lstOf M e with
  | some l, some m => if l.length + m.length ≤ 100000 then some (.lst (l ++ m)) else none
  | _, _ => none
theorem od_catL : OpD T rCat gCatL := by
  intro N H M α d e x y z Q c r1 r2 h k
  unfold gCatL at h
  split at h
  · rename_i l m q1 q2
    by_cases hl : l.length + m.length ≤ 100000
    · rw [if_pos hl] at h; cases h
      obtain ⟨a, vs, h1, h2, h3⟩ := lst_rel c r1 q1
      obtain ⟨b, ws, i1, i2, i3⟩ := lst_rel c r2 q2
      have l1 := Rels.length h3
      have l2 := Rels.length i3
      exact ⟨a, b, vs, ws, h1, i1, h2, i2, sz_of (by omega), fun p hp => k _ _ (c.grow (new_keep hp)) (Ext.grow (new_keep hp)) (lst_new (Rels.append i3 h3) c.sub c.som hp)⟩
    · rw [if_neg hl] at h; cases h
  · cases h
end
end DL

namespace DL
open PySem PySem.Spec L2
open PyProof.Rows hiding St

section
variable {X : Cx} {T : TPr} {W : WX} {pos : Pos}
/-! ### the rules, from a piece of syntax to its function on data -/
theorem e_var (i : Nat) {x : Str} (hN : X.N[i]? = some x := by rfl) (hv : Vis X.env.scope x := by first | exact Or.inl rfl | exact Or.inr (Or.inl rfl) | exact Or.inr (Or.inr rfl)) (hd : (x == ("__debug__" : Str)) = false := by decide)
    (hcd : (x == ("__classdict__" : Str)) = false := by decide) : PE X (.Name x pos) (tD T X.mg W (fVar i)) := (pv i hN hv hd hcd).imp fun _ _ _ => var_imp
theorem e_int {i j} : PE X (.Constant (.int i) j pos) (tD T X.mg W (fC (.int i))) := pe_int.imp fun _ _ _ => c_imp fun _ _ _ => rel_int
theorem e_bl {i j} : PE X (.Constant (.bool i) j pos) (tD T X.mg W (fC (.bl i))) := pe_bl.imp fun _ _ _ => c_imp fun _ _ _ => rel_bl
theorem e_str {i j} : PE X (.Constant (.str i) j pos) (tD T X.mg W (fC (.str i))) := pe_str.imp fun _ _ _ => c_imp fun _ _ _ => rel_str
theorem e_non {j} : PE X (.Constant .none j pos) (tD T X.mg W (fC .non)) := pe_non.imp fun _ _ _ => c_imp fun _ _ _ => rel_non
/-- a built-in class as a value, an own class, a def -/
theorem e_ty {x : Str} {n : String} (hg : Gl X x) (hm : X.mg x = none) (hv : bootBuiltins x = some (.type n)) (hn : x ≠ "__name__" := by decide) (hd : (x == ("__debug__" : Str)) = false := by decide) : PE X (.Name x pos) (tD T X.mg W (fC (.ty n))) :=
  (pe_bltn (v := .ty n) hg hm hv rfl hn hd).imp fun _ _ _ => c_imp fun _ _ _ => by unfold Rel; rfl
theorem e_own {x : Str} {a : Addr} (hg : Gl X x) (hm : X.mg x = some (.ref a)) (hd : (x == ("__debug__" : Str)) = false := by decide) : PE X (.Name x pos) (tD T X.mg W (fC (.adr a))) :=
  (pe_glob (v := .ref a) hg hm rfl hd).imp fun _ _ _ => c_imp fun _ _ _ => by unfold Rel; rfl
variable {a b c e : Expr} {es rest : List Expr} {fa fb fc : Sx → R D} {fl : Sx → R (List D)} {ta tb tc : Sx → R Bool}
theorem e_op {op : Operator} {r : R2} {g : Cells → D → D → Option D} (ho : OpR X (binaryOp op) r) (hd : OpD T r g) (ha : PE X a (tD T X.mg W fa)) (hb : PE X b (tD T X.mg W fb)) : PE X (.BinOp a op b pos) (tD T X.mg W (fOp g fa fb)) := (pe_op ho ha hb).imp fun _ _ _ => op_imp hd
theorem e_un {op : UnaryOp} {r : V → Hp → VK → Prop} {g : Cells → D → Option D} (ho : UnR X (unaryOp op) r) (hd : UnD T r g) (ha : PE X a (tD T X.mg W fa)) : PE X (.UnaryOp op a pos) (tD T X.mg W (fUn g fa)) := (pe_un ho ha).imp fun _ _ _ => un_imp hd
theorem e_cmp {op : CmpOp} {r : R2} {g : Cells → D → D → Option D} (ho : OpR X (compareOp op) r) (hd : OpD T r g) (ha : PE X a (tD T X.mg W fa)) (hb : PE X b (tD T X.mg W fb)) (hm : behindInMarks op b = false := by first | exact nomark _ (by decide) (by decide) | rfl) : PE X (.Compare a [op] [b] pos) (tD T X.mg W (fOp g fa fb)) := (pe_cmpR ho ha hb hm).imp fun _ _ _ => op_imp hd
theorem t_cmp {op : CmpOp} {r : R2} {g : Cells → D → D → Option D} (ho : OpR X (compareOp op) r) (hd : OpD T r g) (ha : PE X a (tD T X.mg W fa)) (hb : PE X b (tD T X.mg W fb)) (hm : behindInMarks op b = false := by first | exact nomark _ (by decide) (by decide) | rfl) : PT X (.Compare a [op] [b] pos) (tB' T X.mg W (fTst (fOp g fa fb))) :=
  (pt_cmpR ho ha hb hm).imp fun _ _ _ h => op_imp hd (Q := fun x H' => ∃ k, x = .bl k ∧ _) (tst_imp h)
theorem e_chain {op op' : CmpOp} {r r' : R2} {g g' : Cells → D → D → Option D} (ho : OpR X (compareOp op) r) (hd : OpD T r g) (ho' : OpR X (compareOp op') r') (hd' : OpD T r' g') (ha : PE X a (tD T X.mg W fa)) (hb : PE X b (tD T X.mg W fb)) (hc : PE X c (tD T X.mg W fc)) (hm : lastMarks [op, op'] [b, c] = false := by rfl) :
    PE X (.Compare a [op, op'] [b, c] pos) (tD T X.mg W (fChain g g' fa fb fc)) := (pe_chain ho ho' ha hb hc hm).imp fun _ _ _ => chain_imp hd hd'
theorem t_chain {op op' : CmpOp} {r r' : R2} {g g' : Cells → D → D → Option D} (ho : OpR X (compareOp op) r) (hd : OpD T r g) (ho' : OpR X (compareOp op') r') (hd' : OpD T r' g') (ha : PE X a (tD T X.mg W fa)) (hb : PE X b (tD T X.mg W fb)) (hc : PE X c (tD T X.mg W fc)) (hm : lastMarks [op, op'] [b, c] = false := by rfl) :
    PT X (.Compare a [op, op'] [b, c] pos) (tB' T X.mg W (fTst (fChain g g' fa fb fc))) := (pt_chain ho ho' ha hb hc hm).imp fun _ _ _ h => chain_imp hd hd' (Q := fun x H' => ∃ k, x = .bl k ∧ _) (tst_imp h)
theorem e_and (ha : PE X a (tD T X.mg W fa)) (hb : PE X (.BoolOp .And (b :: rest) pos) (tD T X.mg W fb)) : PE X (.BoolOp .And (a :: b :: rest) pos) (tD T X.mg W (fAndV fa fb)) := (pe_and ha hb).imp fun _ _ _ => andV_imp
theorem e_or (ha : PE X a (tD T X.mg W fa)) (hb : PE X (.BoolOp .Or (b :: rest) pos) (tD T X.mg W fb)) : PE X (.BoolOp .Or (a :: b :: rest) pos) (tD T X.mg W (fOrV fa fb)) := (pe_or ha hb).imp fun _ _ _ => orV_imp
theorem e_one {op} (ha : PE X a (tD T X.mg W fa)) : PE X (.BoolOp op [a] pos) (tD T X.mg W fa) := pe_one ha
theorem e_not (ha : PE X a (tD T X.mg W fa)) : PE X (.UnaryOp .Not a pos) (tD T X.mg W (fNotV fa)) := (pe_not ha).imp fun _ _ _ => notV_imp
theorem e_if (hc : PT X c (tB' T X.mg W tc)) (ha : PE X a (tD T X.mg W fa)) (hb : PE X b (tD T X.mg W fb)) : PE X (.IfExp c a b pos) (tD T X.mg W (fIf tc fa fb)) := (pe_ifExp hc ha hb).imp fun _ _ _ => if_imp
/-- tests -/
theorem t_val (ha : PE X a (tD T X.mg W fa)) (he : ∀ whole, isTrue a X.env whole = (do let v ← whole; standAt a.pos; holding [v] (truthy v)) := by intro _; rfl) : PT X a (tB' T X.mg W (fTst fa)) := (pt_val ha he).imp fun _ _ _ h => tst_imp h
theorem t_not (ha : PT X a (tB' T X.mg W ta)) : PT X (.UnaryOp .Not a pos) (tB' T X.mg W (fNot ta)) := (pt_not ha).imp fun _ _ _ => not_imp
theorem w_and (ha : PT X a (tB' T X.mg W ta)) (hb : PW X (.BoolOp .And (b :: rest) pos) (tB' T X.mg W tb)) : PW X (.BoolOp .And (a :: b :: rest) pos) (tB' T X.mg W (fAnd ta tb)) := L2.PW.imp (pw_and ha hb) fun _ _ _ => and_imp
theorem w_or (ha : PT X a (tB' T X.mg W ta)) (hb : PW X (.BoolOp .Or (b :: rest) pos) (tB' T X.mg W tb)) : PW X (.BoolOp .Or (a :: b :: rest) pos) (tB' T X.mg W (fOr ta tb)) := L2.PW.imp (pw_or ha hb) fun _ _ _ => or_imp
theorem w_and1 (ha : PT X a (tB' T X.mg W ta)) : PW X (.BoolOp .And [a] pos) (tB' T X.mg W ta) := pw_and1 ha
theorem w_or1 (ha : PT X a (tB' T X.mg W ta)) : PW X (.BoolOp .Or [a] pos) (tB' T X.mg W ta) := pw_or1 ha
/-- argument lists, displays -/
theorem a_nil : PA X [] (tL T X.mg W fNil) := pa_nil.imp fun _ _ _ => nil_imp
theorem a_cons (ha : PE X e (tD T X.mg W fa)) (hr : PA X es (tL T X.mg W fl)) (hs : starEach (e :: es) X.env = (false, eval e X.env) :: starEach es X.env := by rfl) : PA X (e :: es) (tL T X.mg W (fCons fa fl)) := (pa_cons ha hr hs).imp fun _ _ _ => cons_imp
theorem e_tup {x1} (h : PA X es (tL T X.mg W fl)) : PE X (.Tuple es x1 pos) (tD T X.mg W (fTup fl)) := (pe_tup h).imp fun _ _ _ => tup_imp
theorem e_lst (h : PA X es (tL T X.mg W fl)) : PE X (.List es pos) (tD T X.mg W (fLst fl)) := (pe_lst h).imp fun _ _ _ => lst_imp
theorem f_lst (h : PA X es (tL T X.mg W fl)) : PE X (.List es pos) (tFL T X.mg W (fNew fl)) := (pe_lst h).imp fun _ _ _ => new_imp
theorem e_fz {f : Sx → R (List D)} (h : PE X e (tFL T X.mg W f)) : PE X e (tD T X.mg W (fFz f)) := h.imp fun _ _ _ => fz_imp
/-- subscripts, slices -/
theorem e_ix (ha : PE X a (tD T X.mg W fa)) (hb : PE X b (tD T X.mg W fb)) (hs : PlainIx b := by exact fun _ _ => rfl) : PE X (.Subscript a b pos) (tD T X.mg W (fOp gIx fa fb)) := (pe_ix ix_seq ha hb hs).imp fun _ _ _ => op_imp od_ix
theorem o_no : PO X none (tO' T X.mg W fNoPart) := ⟨fun pins s σ H Q I h => po_none.run pins s σ H Q I (noPart_imp h)⟩
theorem o_some (ha : PE X a (tD T X.mg W fa)) : PO X (some a) (tO' T X.mg W (fPart fa)) := ⟨fun pins s σ H Q I h => (po_some ha).run pins s σ H Q I (part_imp h)⟩
theorem e_sl {lo hi : Option Expr} {p2 : Pos} {f1 f2 : Sx → R (Option Int)} (ha : PE X a (tD T X.mg W fa)) (hl : PO X lo (tO' T X.mg W f1)) (hh : PO X hi (tO' T X.mg W f2)) : PE X (.Subscript a (.Slice lo hi none p2) pos) (tD T X.mg W (fSl fa f1 f2)) :=
  (pe_slice (sl_tupA.or sl_list) ha hl hh).imp fun _ _ _ => sl_imp
/-- calls of built-ins, of built-in classes -/
theorem e_cb {id : String} {x : Str} {p : Pos} {r : List V → Hp → VK → Prop} {g : Cells → List D → Option D} (hc : CallR X (.builtin id) r) (hd : CbD T r g) (hg : Gl X x) (hm : X.mg x = none) (hv : bootBuiltins x = some (.builtin id)) (ha : PA X (e :: es) (tL T X.mg W fl)) (hn : x ≠ "__name__" := by decide) (hdb : (x == ("__debug__" : Str)) = false := by decide)
    (he : starEach (e :: es) X.env = (false, eval e X.env) :: starEach es X.env := by rfl) (hpl : (backTo pos (starEach es X.env)).any (·.1) = false := by rfl) : PE X (.Call (.Name x p) (e :: es) [] pos) (tD T X.mg W (fCB g fl)) :=
  (pe_callB hc hg hm hv ha hn hdb he hpl).imp fun _ _ _ => cb_imp hd
theorem e_ct {n : String} {x : Str} {p : Pos} {r : List V → Hp → VK → Prop} {g : Cells → List D → Option D} (hc : CallR X (.type n) r) (hd : CbD T r g) (hg : Gl X x) (hm : X.mg x = none) (hv : bootBuiltins x = some (.type n)) (ha : PA X (e :: es) (tL T X.mg W fl)) (hn : x ≠ "__name__" := by decide) (hdb : (x == ("__debug__" : Str)) = false := by decide)
    (he : starEach (e :: es) X.env = (false, eval e X.env) :: starEach es X.env := by rfl) (hpl : (backTo pos (starEach es X.env)).any (·.1) = false := by rfl) : PE X (.Call (.Name x p) (e :: es) [] pos) (tD T X.mg W (fCB g fl)) :=
  (pe_callTy hc hg hm hv ha hn hdb he hpl).imp fun _ _ _ => cb_imp hd
end
/-! ### a def of the text, callable: where it stands and what it promises -/
structure Cal (T : TPr) (P : Program) (w : World) (K : PySem.W.Frag) (mg : Str → Option Value) (base : Heap) (k : Nat) (x : Str) (n : Nat) (fM : List D → Cells → R D) : Prop where
  ex : ∃ (f : Addr) (fd : FuncData) (ps : List Str), mg x = some (.ref f) ∧ PySem.W.keepIn K (.ref f) = true ∧ Binds K fd ps [] ∧ FnOk P w K mg base (L2.CX P w) k f fd ps (spD T mg n fM)
theorem Cal.mono {T : TPr} {P : Program} {w : World} {K : PySem.W.Frag} {mg : Str → Option Value} {base : Heap} {j k : Nat} {x : Str} {n : Nat} {fM : List D → Cells → R D} (c : Cal T P w K mg base j x n fM) (h : j ≤ k) : Cal T P w K mg base k x n fM := by
  obtain ⟨f, fd, ps, h1, h2, h3, h4⟩ := c.ex
  exact ⟨f, fd, ps, h1, h2, h3, h4.mono h⟩
section
variable {X : Cx} {T : TPr} {W : WX} {pos p : Pos} {k n : Nat} {x : Str} {e : Expr} {es : List Expr} {fl : Sx → R (List D)}
/-- what holds around a piece of a def's body -/
structure Bd (X : Cx) (W : WX) (k : Nat) : Prop where
  tk : Takes X W
  rm : Room k X.A
theorem callS_imp {T : TPr} {mg : Str → Option Value} {W : WX} {σ : L2.St} {H : Hp} {n : Nat} {p : List D → Pu} {f : Sx → R (List D)} {Q : VK} (h : tD T mg W (fCall (fun ds => if ds.length = n then p ds else .no) f) σ H Q) : tCallS (spP T mg n p) (WE W) (tL T mg W f) σ H Q := by
  have h2 := call_imp (n := n) (fun ds hd => by by_cases hl : ds.length = n; exact hl; rw [if_neg hl] at hd; exact (hd rfl).elim) h
  obtain ⟨s, α, N, hs, q⟩ := h2
  refine ⟨s, α, N, hs, Post.mono (fun vs H1 h1 => ?_) q⟩
  obtain ⟨ds, M, α1, N1, e1, e2, e3, e4⟩ := h1
  refine ⟨ds, M, α1, N1, e1, e2, e3, ?_⟩
  have : lift (fun ds => if ds.length = n then p ds else .no) ds M = lift p ds M := by unfold lift; cases M <;> simp [e1]
  rw [this] at e4
  exact e4
/-- f(e, ..), a def that has no list of ours in hand -/
theorem e_call {pu : List D → Pu} (B : Bd X W k) (F : Cal T X.prog X.w X.K X.mg X.base k x n (lift pu)) (hn : ∀ ds, pu ds ≠ .no → ds.length = n) (hg : Gl X x) (ha : PA X (e :: es) (tL T X.mg W fl)) (hdb : (x == ("__debug__" : Str)) = false := by decide)
    (he : starEach (e :: es) X.env = (false, eval e X.env) :: starEach es X.env := by rfl) (hpl : (backTo pos (starEach es X.env)).any (·.1) = false := by rfl) : PE X (.Call (.Name x p) (e :: es) [] pos) (tD T X.mg W (fCall pu fl)) := by
  obtain ⟨f, fd, ps, h1, h2, h3, h4⟩ := F.ex
  exact (pe_callS h4 B.rm hg h1 h2 h3 (fun σ => passAt B.tk σ) ha hdb he hpl).imp fun _ _ _ => call_imp hn
/-- f(e, ..), the first argument a list of ours -/
theorem e_callM {fM : List D → Cells → R D} (B : Bd X W k) (F : Cal T X.prog X.w X.K X.mg X.base k x n fM) (hn : ∀ ds M, fM ds M ≠ .no → ds.length = n) (hg : Gl X x) (ha : PA X (e :: es) (tL T X.mg W fl)) (hdb : (x == ("__debug__" : Str)) = false := by decide)
    (he : starEach (e :: es) X.env = (false, eval e X.env) :: starEach es X.env := by rfl) (hpl : (backTo pos (starEach es X.env)).any (·.1) = false := by rfl) : PE X (.Call (.Name x p) (e :: es) [] pos) (tD T X.mg W (fCallM fM fl)) := by
  obtain ⟨f, fd, ps, h1, h2, h3, h4⟩ := F.ex
  exact (pe_callS h4 B.rm hg h1 h2 h3 (fun σ => passAt B.tk σ) ha hdb he hpl).imp fun _ _ _ => callM_imp hn
end
section
variable {X : Cx} {T : TPr} {W : WX} {pos pos' : Pos} {e : Expr} {st : Stmt} {rest sts : List Stmt} {f : Sx → R D} {g h : Sx → RS} {c : Expr} {tc : Sx → R Bool} {body : List Stmt}
/-! ### statements -/
theorem s_nil : PSs X [] (tS T X.mg W fSkip) := pss_nil.imp fun _ _ _ => skip_imp
theorem s_cons (h1 : PS X st (tS T X.mg W g)) (h2 : PSs X rest (tS T X.mg W h)) : PSs X (st :: rest) (tS T X.mg W (fSeq g h)) := (pss_cons h1 h2).imp fun _ _ _ => seq_imp
theorem s_one (h1 : PS X st (tS T X.mg W g)) : PSs X [st] (tS T X.mg W g) := pss_one h1
theorem s_ret (he : PE X e (tD T X.mg W f)) : PS X (.Return (some e) pos) (tS T X.mg W (fRet f)) := (ps_ret he).imp fun _ _ _ => ret_imp
theorem s_retN : PS X (.Return none pos) (tS T X.mg W fRetN) := ps_retN.imp fun _ _ _ => retN_imp
theorem s_expr (he : PE X e (tD T X.mg W f)) (hs : swapsWith e none pos.line X.env = pure false := by rfl) : PS X (.Expr e pos) (tS T X.mg W (fDrop f)) := (ps_expr he hs).imp fun _ _ _ => drop_imp
theorem s_if (hc : PT X c (tB' T X.mg W tc)) (ha : PSs X body (tS T X.mg W g)) (hb : PSs X sts (tS T X.mg W h)) : PS X (.If c body sts pos) (tS T X.mg W (fIfS tc g h)) := (ps_if hc ha hb).imp fun _ _ _ => ifS_imp
theorem s_break : PS X (.Break pos) (tS T X.mg W fBrk) := ps_break.imp fun _ _ _ => brk_imp
theorem s_cont : PS X (.Continue pos) (tS T X.mg W fCnt) := ps_continue.imp fun _ _ _ => cnt_imp
theorem s_pass : PS X (.Pass pos) (tS T X.mg W fSkip) := ps_pass.imp fun _ _ _ => skip_imp
/-- name = value -/
theorem s_set (i : Nat) {x : Str} (hN : X.N.Nodup) (he : PE X e (tD T X.mg W f)) (hi : X.N[i]? = some x := by rfl) (hx : Loc X.env.scope x := by first | exact Or.inl rfl | exact Or.inr rfl) (hs : swapsWith e (some (.Name x pos')) pos.line X.env = pure false := by rfl) (hf : X.fn x = true ∨ X.env.scope.names.lookup x = some .local := by first | exact .inl rfl | exact .inr rfl) :
    PS X (.Assign [.Name x pos'] e pos) (tS T X.mg W (fAsg f (bName i))) := (ps_set hN hi hx he hs hf).imp fun _ _ _ => set_imp
/-- name = a new list of our own -/
theorem s_own (i : Nat) {x : Str} {fl : Sx → R (List D)} (hN : X.N.Nodup) (he : PE X e (tFL T X.mg W fl)) (hi : X.N[i]? = some x := by rfl) (hx : Loc X.env.scope x := by first | exact Or.inl rfl | exact Or.inr rfl) (hs : swapsWith e (some (.Name x pos')) pos.line X.env = pure false := by rfl) (hf : X.fn x = true ∨ X.env.scope.names.lookup x = some .local := by first | exact .inl rfl | exact .inr rfl) :
    PS X (.Assign [.Name x pos'] e pos) (tS T X.mg W (fOwn i fl)) := (ps_set hN hi hx he hs hf).imp fun _ _ _ => own_imp
/-- targets -/
theorem g_name {ws : List Nat} (i : Nat) {x : Str} (hN : X.N.Nodup) (hi : X.N[i]? = some x := by rfl) (hx : Loc X.env.scope x := by first | exact Or.inl rfl | exact Or.inr rfl) (hw : i ∈ ws := by decide) (hf : X.fn x = true ∨ X.env.scope.names.lookup x = some .local := by first | exact .inl rfl | exact .inr rfl) :
    PG X (.Name x pos) (tT T ws (bName i)) := ⟨fun pins s σ H v u Q I r q => (pg_name hN hi hx hf).run pins s σ H v u Q I r (bName_imp hw q)⟩
theorem gs_nil {ws : List Nat} : PGs X [] (tTs T ws bNil) := ⟨fun pins s σ H v u Q I r q => pgs_nil.run pins s σ H v u Q I r (bNil_imp q)⟩
theorem gs_cons {ws : List Nat} {es : List Expr} {g1 : D → Sx → Option Sx} {g2 : List D → Sx → Option Sx} (h1 : PG X e (tT T ws g1)) (h2 : PGs X es (tTs T ws g2)) (hs : (assignEach (e :: es) X.env).map (·.2) = assign e X.env :: (assignEach es X.env).map (·.2) := by rfl) :
    PGs X (e :: es) (tTs T ws (bCons g1 g2)) := ⟨fun pins s σ H v u Q I r q => (pgs_cons h1 h2 hs).run pins s σ H v u Q I r (bCons_imp q)⟩
theorem g_tup {ws : List Nat} {es : List Expr} {k n : Nat} {g2 : List D → Sx → Option Sx} (hc : X.calm = true) (h : PGs X es (tTs T ws g2)) (hn : (assignEach es X.env).length = n := by rfl) (hst : (assignEach es X.env).findIdx? (·.1) = none := by rfl) :
    PG X (.Tuple es k pos) (tT T ws (bTup n g2)) := ⟨fun pins s σ H v u Q I r q => (pg_tup hc h hn hst).run pins s σ H v u Q I r (bTup_imp q)⟩
theorem g_lst {ws : List Nat} {es : List Expr} {k n : Nat} {g2 : List D → Sx → Option Sx} (hc : X.calm = true) (h : PGs X es (tTs T ws g2)) (hn : (assignEach es X.env).length = n := by rfl) (hst : (assignEach es X.env).findIdx? (·.1) = none := by rfl) :
    PG X (.Tuple es k pos) (tT T ws (bLst n g2)) := ⟨fun pins s σ H v u Q I r q => (pg_lst hc h hn hst).run pins s σ H v u Q I r (bLst_imp q)⟩
theorem s_asg {ws : List Nat} {tg : Expr} {g1 : D → Sx → Option Sx} (he : PE X e (tD T X.mg W f)) (hg : PG X tg (tT T ws g1)) (hs : swapsWithSole [tg] e pos.line X.env = pure false := by rfl) (hw : swappedStores [tg] e X.env = pure none := by rfl)
    (h1 : (assignEach [tg] X.env).map (·.2) = [assign tg X.env] := by rfl) : PS X (.Assign [tg] e pos) (tS T X.mg W (fAsg f g1)) := (ps_asg he hg hs hw h1).imp fun _ _ _ => asg_imp
theorem s_par (i j : Nat) {x y : Str} {a b : Expr} {fl : Sx → R (List D)} {px py pt : Pos} {kt k2 pt2} (hc : X.calm = true) (hN : X.N.Nodup) (ha : PA X [a, b] (tL T X.mg W fl)) (hi : X.N[i]? = some x := by rfl) (hj : X.N[j]? = some y := by rfl) (hij : i ≠ j := by decide)
    (hx : X.env.scope.names.lookup x = some .local := by rfl) (hy : X.env.scope.names.lookup y = some .local := by rfl)
    (hw : swappedStores [.Tuple [.Name x px, .Name y py] kt pt] (.Tuple [a, b] k2 pt2) X.env = pure (some [x, y]) := by rfl)
    (hs : swapsWithSole [.Tuple [.Name x px, .Name y py] kt pt] (.Tuple [a, b] k2 pt2) pos.line X.env = pure false := by rfl) :
    PS X (.Assign [.Tuple [.Name x px, .Name y py] kt pt] (.Tuple [a, b] k2 pt2) pos) (tS T X.mg W (fPar i j fl)) := (ps_par hc hN hi hj hij hx hy ha hw hs).imp fun _ _ _ => par_imp
theorem s_aug (i : Nat) {x : Str} {op : Operator} {r : TIp} {gg : Cells → D → D → Option D} (hN : X.N.Nodup) (he : PE X e (tD T X.mg W f)) (ho : PIp X op r) (hd : OpD T r gg) (hi : X.N[i]? = some x := by rfl) (hx : Loc X.env.scope x := by first | exact Or.inl rfl | exact Or.inr rfl) (hf : X.fn x = true ∨ X.env.scope.names.lookup x = some .local := by first | exact .inl rfl | exact .inr rfl) :
    PS X (.AugAssign (.Name x pos') op e pos) (tS T X.mg W (fAug gg i f)) := (ps_aug hN hi hx he ho hf).imp fun _ _ _ => aug_imp hd
theorem s_while (n : Nat) (hp : PassesOwn (model X.prog X.w) X.A X.env X.xe) (hc : PT X c (tB' T X.mg W tc)) (hb : PSs X body (tS T X.mg W g)) : PS X (.While c body [] pos) (tS T X.mg W (fWhile tc g n)) := (ps_while hp hc hb).imp fun _ _ _ => while_imp n
theorem s_for {ws : List Nat} {tg iter : Expr} {fi : Sx → R (List D)} {g1 : D → Sx → Option Sx} (hp : PassesOwn (model X.prog X.w) X.A X.env X.xe) (hc : X.calm = true) (hi : PI X tg iter (tI T X.mg W fi)) (hg : PG X tg (tT T ws g1)) (hb : PSs X body (tS T X.mg W g))
    (hs : ∀ x, foldedSetIterable iter X.env x = pure x := by intro _; rfl) : PS X (.For tg iter body [] pos) (tS T X.mg W (fFor fi g1 g)) := (ps_for hp hc hi hg hb hs).imp fun _ _ _ => for_imp
/-- what a loop walks -/
theorem i_lst {tg : Expr} (h : PE X e (tD T X.mg W f)) : PI X tg e (tI T X.mg W (fIt asLst f)) := ⟨fun pins s σ H R I q => (pi_list h).run pins s σ H R I (itl_imp q)⟩
theorem i_tup {tg : Expr} (h : PE X e (tD T X.mg W f)) : PI X tg e (tI T X.mg W (fIt asTup f)) := ⟨fun pins s σ H R I q => (pi_tup h).run pins s σ H R I (itt_imp q)⟩
theorem i_rg1 {tg a : Expr} {p : Pos} {fl : Sx → R (List D)} (hg : Gl X "range") (hm : X.mg "range" = none) (ha : PA X [a] (tL T X.mg W fl)) (hs : starEach [a] X.env = [(false, eval a X.env)] := by rfl) : PI X tg (.Call (.Name "range" p) [a] [] pos) (tI T X.mg W (fIts asRg1 fl)) :=
  ⟨fun pins s σ H R I q => (pi_range1 hg hm ha hs).run pins s σ H R I (rg1_imp q)⟩
theorem i_rg2 {tg a b : Expr} {p : Pos} {fl : Sx → R (List D)} (hg : Gl X "range") (hm : X.mg "range" = none) (ha : PA X [a, b] (tL T X.mg W fl)) (hs : starEach [a, b] X.env = [(false, eval a X.env), (false, eval b X.env)] := by rfl) (hs2 : starEach [b] X.env = [(false, eval b X.env)] := by rfl) : PI X tg (.Call (.Name "range" p) [a, b] [] pos) (tI T X.mg W (fIts asRg2 fl)) :=
  ⟨fun pins s σ H R I q => (pi_range2 hg hm ha hs hs2).run pins s σ H R I (rg2_imp q)⟩
/-- raise X('..') -/
theorem s_raise {x m : Str} {C : Addr} {j : Nat} {p p2 p3 : Pos} (hc : X.calm = true) (tk : Takes X W) (q : PySem.W.excIn X.K C [.type "ValueError", .type "Exception", .type "BaseException", .type "object"] "ValueError.__new__" = true) (gC : X.mg x = some (.ref C)) (kC : PySem.W.keepIn X.K (.ref C) = true) (r : Raises X (.ref C)) (hg : Gl X x)
    (hdb : (x == ("__debug__" : Str)) = false := by decide) : PS X (.Raise (some (.Call (.Name x p) [.Constant (.str m) j p2] [] p3)) none pos) (tS T X.mg W (fRaise x)) :=
  (ps_raise hc tk (pmk_own PySem.F.excBase_ValueError q gC kC r hg hdb)).imp fun _ _ _ => raise_imp gC
/-- o[i] = e -/
theorem s_setIx {o i : Expr} {fo fi : Sx → R D} {p2 : Pos} (he : PE X e (tD T X.mg W f)) (ho : PE X o (tD T X.mg W fo)) (hi : PE X i (tD T X.mg W fi))
    (ha : ∀ v, assign (.Subscript o i p2) X.env v = (do
      let ov ← holding [v] (eval o X.env)
      let iv ← holding [v, ov] (eval i X.env)
      standAt p2
      holding [v, ov, iv] (setItem ov iv v)
      release [v, ov, iv] []) := by intro _; rfl) (hs : swapsWithSole [.Subscript o i p2] e pos.line X.env = pure false := by rfl) (hw : swappedStores [.Subscript o i p2] e X.env = pure none := by rfl)
    (h1 : (assignEach [.Subscript o i p2] X.env).map (·.2) = [assign (.Subscript o i p2) X.env] := by rfl) : PS X (.Assign [.Subscript o i p2] e pos) (tS T X.mg W (fSetIx f fo fi)) :=
  (ps_asg he (pg_sub ho hi set_list ha) hs hw h1).imp fun _ _ _ => setIx_imp
/-- methods of lists -/
theorem e_mt {id : String} {name : Str} {o a : Expr} {es : List Expr} {apos : Pos} {r : V → List V → Hp → VK → Prop} {gm : Cells → D → List D → Option (D × Cells)} {fo : Sx → R D} {fl : Sx → R (List D)} (slot : Slot "list" name id) (hty : typeOf (.builtin id) = pure (.type "method_descriptor")) (hm : MtR X id r) (hd : MtD T r gm) (ho : PE X o (tD T X.mg W fo)) (ha : PA X (a :: es) (tL T X.mg W fl))
    (hbase : attributeBase o name X.env (eval o X.env) = eval o X.env := by rfl)
    (hfew : ((backTo pos (starEach (a :: es) X.env)).all (fun x => !x.1) && (backToKw pos (keywordEach [] X.env)).all (fun x => x.1.isSome)
      && decide ((a :: es).length + ([] : List Keyword).length + (if ([] : List Keyword).isEmpty then 0 else 1) < 30)) = true := by rfl)
    (hline : (apos.endLine == pos.line) = true := by rfl) (hs : starEach (a :: es) X.env = (false, eval a X.env) :: starEach es X.env := by rfl) (hplain : (backTo pos (starEach es X.env)).any (·.1) = false := by rfl) :
    PE X (.Call (.Attribute o name apos) (a :: es) [] pos) (tD T X.mg W (fMt gm fo fl)) := (pe_bm PySem.F.plainAttrs_list slot hty hm ho ha hbase hfew hline hs hplain).imp fun _ _ _ => mt_imp hd
theorem e_mt0 {id : String} {name : Str} {o : Expr} {apos : Pos} {r : V → List V → Hp → VK → Prop} {gm : Cells → D → List D → Option (D × Cells)} {fo : Sx → R D} (slot : Slot "list" name id) (hty : typeOf (.builtin id) = pure (.type "method_descriptor")) (hm : MtR X id r) (hd : MtD T r gm) (ho : PE X o (tD T X.mg W fo))
    (hbase : attributeBase o name X.env (eval o X.env) = eval o X.env := by rfl) (hline : (apos.endLine == pos.line) = true := by rfl) :
    PE X (.Call (.Attribute o name apos) [] [] pos) (tD T X.mg W (fMt gm fo fNil)) := (pe_bm0 PySem.F.plainAttrs_list slot hty hm ho hbase hline).imp fun _ _ _ => mt0_imp hd
/-- list comprehensions -/
theorem f_lc {elt tg iter : Expr} {ifs : List Expr} {scope : Scope} {own : List (Str × Nat)} {fi : Sx → R (List D)} {g1 : D → Sx → Option Sx} {ft : Sx → R Bool} {fe : Sx → R D} (hc : X.calm = true) (hN : X.N.Nodup) (hi : PI X tg iter (tI T X.mg W fi)) (ok : BlkOk X.N X.env.scope scope own)
    (hg : ∀ (s : Shared) (H : Hp) (C : Addr) (cl : List (Str × Addr)) (fp : List Addr), PG (X.blk s H scope (compEnvC scope cl C X.env) fp) tg (tT T (own.map (·.2)) g1)) (ht : ∀ (s : Shared) (H : Hp) (C : Addr) (cl : List (Str × Addr)) (fp : List Addr), PTs (X.blk s H scope (compEnvC scope cl C X.env) fp) ifs (tB' T X.mg W0 ft))
    (he : ∀ (s : Shared) (H : Hp) (C : Addr) (cl : List (Str × Addr)) (fp : List Addr), PE (X.blk s H scope (compEnvC scope cl C X.env) fp) elt (tD T X.mg W0 fe)) (hs : ∀ x, foldedSetIterable iter X.env x = pure x := by intro _; rfl) :
    PE X (.ListComp elt [⟨tg, iter, ifs, 0⟩] scope pos) (tFL T X.mg W (fLc fi g1 ft fe (own.map (·.2)))) := (pe_lc hc hN hi ok hg ht he hs).imp fun _ _ _ => lc_imp
theorem ts_nil : PTs X [] (tB' T X.mg W fTrue) := ⟨fun pins s σ H Q I h => pts_nil.run pins s σ H Q I (true_imp h)⟩
theorem ts_one {c : Expr} {ft : Sx → R Bool} (h : PT X c (tB' T X.mg W ft)) : PTs X [c] (tB' T X.mg W ft) := pts_one h
end
end DL

namespace DL
open PySem PySem.Spec L2
open PyProof.Rows hiding St

/-! ### around a body -/
theorem Bd.hu {X : Cx} {W : WX} {k : Nat} (B : Bd X W k) : X.A.units + 64 < cLine := B.rm.units
theorem Bd.hu5 {X : Cx} {W : WX} {k : Nat} (B : Bd X W k) : X.A.units + 65 < cLine := by have := B.rm.un; omega
theorem Bd.blk {X : Cx} {W : WX} {k : Nat} (B : Bd X W k) {s : Shared} {H : Hp} {scope : Scope} {cenv : Env} {fp : List Addr} : Bd (X.blk s H scope cenv fp) W0 k :=
  ⟨fun _ _ x => by obtain ⟨_, _, _, _, _, _, _, _, _, _, _, _, _, _, _, _, z⟩ := x; exact z.elim, B.rm⟩
/-- an own error's class without an own __init__ -/
structure ExC (K : PySem.W.Frag) (mg : Str → Option Value) (x : Str) : Prop where
  ex : ∃ C, mg x = some (.ref C) ∧ PySem.W.excIn K C [.type "ValueError", .type "Exception", .type "BaseException", .type "object"] "ValueError.__new__" = true ∧ PySem.W.keepIn K (.ref C) = true ∧ PySem.W.subIn K (.ref C) (.type "BaseException") = some true ∧ PySem.W.typeIn K (.ref C) = some (.type "type")
theorem s_raiseE {X : Cx} {T : TPr} {W : WX} {k : Nat} {x m : Str} {j : Nat} {pos p p2 p3 : Pos} (B : Bd X W k) (Z : ExC X.K X.mg x) (hg : Gl X x) (hc : X.calm = true := by rfl) (hdb : (x == ("__debug__" : Str)) = false := by decide) :
    PS X (.Raise (some (.Call (.Name x p) [.Constant (.str m) j p2] [] p3)) none pos) (tS T X.mg W (fRaise x)) := by
  obtain ⟨C, h1, h2, h3, h4, h5⟩ := Z.ex
  exact s_raise hc B.tk h2 h1 h3 (raises_own h4 h5) hg hdb
section
variable {T : TPr} {mg : Str → Option Value} {W : WX} {σ : L2.St} {H : Hp} {N : Addr → Prop} {α : List Addr} {Dn : Ends}
/-! ### isinstance -/
def isiD (d : D) (n : String) : Option Bool := match d with
  | .adr _ => none
  | .ty _ => none
  | .loc _ => none
  | .fnv _ _ _ => none
  | .tag _ => none
  | .tup _ => if n = "tuple" then some true else if n = "int" then some false else if n = "bool" then some false else none
  | .int _ => if n = "tuple" then some false else if n = "int" then some true else if n = "bool" then some false else none
  | .bl _ => if n = "tuple" then some false else if n = "int" then some true else if n = "bool" then some true else none
  | _ => if n = "tuple" then some false else if n = "int" then some false else if n = "bool" then some false else none
def gIsi : Cells → List D → Option D := fun _ l => match l with
  | [d, .ty n] => (isiD d n).map .bl
  | _ => none
def tyName : D → String
  | .non => "NoneType"
  | .bl _ => "bool"
  | .int _ => "int"
  | .str _ => "str"
  | .tup _ => "tuple"
  | _ => "list"
theorem isi_kit {d : D} {n : String} {b : Bool} (h : isiD d n = some b) : kitB (tyName d) n = some b := by
  have k : ∀ a, a = "NoneType" ∨ a = "bool" ∨ a = "int" ∨ a = "str" ∨ a = "tuple" ∨ a = "list" → (kitB a "tuple" = some (decide (a = "tuple")) ∧ kitB a "int" = some (decide (a = "int" ∨ a = "bool")) ∧ kitB a "bool" = some (decide (a = "bool"))) := by
    intro a h
    rcases h with rfl | rfl | rfl | rfl | rfl | rfl <;> decide +kernel
  have go : ∀ a (x y z : Bool), (a = "NoneType" ∨ a = "bool" ∨ a = "int" ∨ a = "str" ∨ a = "tuple" ∨ a = "list") → decide (a = "tuple") = x → decide (a = "int" ∨ a = "bool") = y → decide (a = "bool") = z → (if n = "tuple" then some x else if n = "int" then some y else if n = "bool" then some z else none) = some b → kitB a n = some b := by
    intro a x y z ha h1 h2 h3 h
    obtain ⟨k1, k2, k3⟩ := k a ha
    by_cases n1 : n = "tuple"
    · rw [if_pos n1] at h; rw [n1, k1, h1]; exact h
    · rw [if_neg n1] at h
      by_cases n2 : n = "int"
      · rw [if_pos n2] at h; rw [n2, k2, h2]; exact h
      · rw [if_neg n2] at h
        by_cases n3 : n = "bool"
        · rw [if_pos n3] at h; rw [n3, k3, h3]; exact h
        · rw [if_neg n3] at h; cases h
  cases d
  case adr => cases h
  case ty => cases h
  case loc => cases h
  case fnv => cases h
  case tag => cases h
  case non => exact go "NoneType" false false false (by decide) (by decide) (by decide) (by decide) h
  case bl => exact go "bool" false true true (by decide) (by decide) (by decide) (by decide) h
  case int => exact go "int" false true false (by decide) (by decide) (by decide) (by decide) h
  case str => exact go "str" false false false (by decide) (by decide) (by decide) (by decide) h
  case tup => exact go "tuple" true false false (by decide) (by decide) (by decide) (by decide) h
  all_goals exact go "list" false false false (by decide) (by decide) (by decide) (by decide) h
theorem isi_ty {K : PySem.W.Frag} {M : Cells} {d : D} {x : V} {n : String} {b : Bool} (c : StC T N H M α) (r : Rel H N α d x) (h : isiD d n = some b) : TyX K H x (.type (tyName d)) := by
  cases d
  case adr => cases h
  case ty => cases h
  case loc => cases h
  case fnv => cases h
  case tag => cases h
  case non => unfold Rel at r; rw [r]; exact .base .non
  case bl => unfold Rel at r; rw [r]; exact .base (.bl _)
  case int => unfold Rel at r; rw [r]; exact .base (.int _)
  case str => unfold Rel at r; rw [r]; exact .base (.str _)
  case tup => unfold Rel at r; obtain ⟨a, vs, h1, h2, h3⟩ := r; rw [h1]; exact .base (.tup h2)
  case lst => unfold Rel at r; obtain ⟨a, vs, h1, h0, h2, h3⟩ := r; rw [h1]; exact .base (.lst h2)
  case scr => unfold Rel at r; obtain ⟨a, o, vs, h1, h2, h3⟩ := r; rw [h1]; exact .base (.frz h2)
theorem cd_isi {K : PySem.W.Frag} : CbD T (rIsi K) gIsi := by
  intro N H M α l xs z Q c r h k
  match l, h, r with
  | [d, .ty n], h, r =>
    obtain ⟨x, y, rfl, r1, r2⟩ := rels2 r
    unfold Rel at r2
    unfold gIsi at h
    dsimp only at h
    cases q : isiD d n with
    | none => rw [q] at h; cases h
    | some b =>
      rw [q] at h; cases h
      exact ⟨x, y, .type (tyName d), .type n, b, rfl, by rw [r2]; exact .ty n, isi_ty c r1 q, kit_ty (isi_kit q), k _ H c Ext.refl rel_bl⟩
/-! ### is, is not of bools -/
def gIsB : Cells → D → D → Option D := fun _ d e => match d, e with
  | .bl a, .bl b => some (.bl (decide (a = b)))
  | _, _ => none
def gNotB : Cells → D → D → Option D := fun _ d e => match d, e with
  | .bl a, .bl b => some (.bl (!decide (a = b)))
  | _, _ => none
theorem od_isB : OpD T rIsB gIsB := by
  intro N H M α d e x y z Q c r1 r2 h k
  cases d <;> cases e <;> try (cases h; done)
  unfold Rel at r1 r2
  cases h
  exact ⟨_, _, r1, r2, k _ H c Ext.refl rel_bl⟩
theorem od_notB : OpD T rNotB gNotB := by
  intro N H M α d e x y z Q c r1 r2 h k
  cases d <;> cases e <;> try (cases h; done)
  unfold Rel at r1 r2
  cases h
  exact ⟨_, _, r1, r2, k _ H c Ext.refl rel_bl⟩
/-! ### powers, op= -/
abbrev nPow := gIc (fun i j => decide (0 ≤ j) && decide (j ≤ 1000000) && decide (i.natAbs < 2 ^ 64)) fun i j => .int (i ^ j.toNat)
theorem od_pow : OpD T (rI CPow fun i j => .int (i ^ j.toNat)) nPow := od_Ic (fun i j h => by
  simp only [Bool.and_eq_true, decide_eq_true_eq] at h
  exact ⟨h.1.1, h.1.2, h.2⟩) fun _ _ _ _ _ => rel_int
theorem od_ipadd : OpD T (ipI fun i j => i + j) nAdd := by
  intro N H M α d e x y z Q c r1 r2 h k
  cases d <;> cases e <;> try (cases h; done)
  unfold Rel at r1 r2
  cases h
  exact ⟨_, _, r1, r2, k _ H c Ext.refl rel_int⟩
theorem od_ipsub : OpD T (ipI fun i j => i - j) nSub := by
  intro N H M α d e x y z Q c r1 r2 h k
  cases d <;> cases e <;> try (cases h; done)
  unfold Rel at r1 r2
  cases h
  exact ⟨_, _, r1, r2, k _ H c Ext.refl rel_int⟩
/-! ### in, not in a list -/
def dIn (M : Cells) (d e : D) : Option Bool := match pyAt M d, pyAt M e with
  | some p, some (.list qs) => if SeqAt.shaped p && SeqAt.shaped (.list qs) then some (qs.any fun z => PyData.eqv z p) else none
  | _, _ => none
def gIn : Cells → D → D → Option D := fun M d e => (dIn M d e).map .bl
def gNotIn : Cells → D → D → Option D := fun M d e => (dIn M d e).map fun b => .bl (!b)
theorem dIn_some {M : Cells} {d e : D} {b : Bool} (h : dIn M d e = some b) : ∃ p qs, pyAt M d = some p ∧ pyAt M e = some (.list qs) ∧ SeqAt.shaped p = true ∧ SeqAt.shaped (.list qs) = true ∧ b = qs.any fun z => PyData.eqv z p := by
  unfold dIn at h
  split at h
  · rename_i p qs q1 q2
    by_cases hs : (SeqAt.shaped p && SeqAt.shaped (.list qs)) = true
    · rw [if_pos hs] at h
      obtain ⟨s1, s2⟩ := Bool.and_eq_true_iff.mp hs
      exact ⟨p, qs, q1, q2, s1, s2, (Option.some.inj h).symm⟩
    · rw [if_neg hs] at h; cases h
  · cases h
theorem od_in {K : PySem.W.Frag} : OpD T (rInD K) gIn := by
  intro N H M α d e x y z Q c r1 r2 h k
  unfold gIn at h
  cases q : dIn M d e with
  | none => rw [q] at h; cases h
  | some b =>
    rw [q] at h; cases h
    obtain ⟨p, qs, h1, h2, s1, s2, rfl⟩ := dIn_some q
    exact ⟨p, qs, pyAt_rel c r1 h1, pyAt_rel c r2 h2, s1, s2, k _ H c Ext.refl rel_bl⟩
theorem od_notIn {K : PySem.W.Frag} : OpD T (rNotInD K) gNotIn := by
  intro N H M α d e x y z Q c r1 r2 h k
  unfold gNotIn at h
  cases q : dIn M d e with
  | none => rw [q] at h; cases h
  | some b =>
    rw [q] at h; cases h
    obtain ⟨p, qs, h1, h2, s1, s2, rfl⟩ := dIn_some q
    exact ⟨p, qs, pyAt_rel c r1 h1, pyAt_rel c r2 h2, s1, s2, k _ H c Ext.refl rel_bl⟩
/-- list(x) -/
def gListOf : Cells → List D → Option D := fun M l => match l with
  | [d] => (seqOf M d).map fun p => .lst p.2
  | _ => none
theorem cd_listOf {K : PySem.W.Frag} : CbD T (fun xs H Q => ∃ p ys, xs = [.ref p] ∧ (SqL K H p ys ∨ SqT K H p ys) ∧ ∀ l, H l = none → Q (.ref l) (upd H l (.lst ys))) gListOf := by
  intro N H M α l xs z Q c r h k
  match l, h, r with
  | [d], h, r =>
    obtain ⟨x, rfl, r1⟩ := rels1 r
    unfold gListOf at h
    cases q : seqOf M d with
    | none => simp [q] at h
    | some p =>
      obtain ⟨b, l⟩ := p
      simp only [q, Option.map_some] at h
      cases h
      obtain ⟨a, vs, h1, h2, h3, h4⟩ := seq_rel c r1 q
      exact ⟨a, vs, by rw [h1], seq_sq h2 h3, fun p hp => k _ _ (c.grow (new_keep hp)) (Ext.grow (new_keep hp)) (lst_new h4 c.sub c.som hp)⟩
  | [], h, _ => cases h
  | _ :: _ :: _, h, _ => cases h
end
/-- a, b, c = x, y, z -/
def fPar3 (i j m : Nat) (f : Sx → R (List D)) : Sx → RS := fun s => (f s).toS s.ρ fun l M => match l with
  | [d, e, g] => .nx ⟨((s.ρ.set i (some d)).set j (some e)).set m (some g), M⟩
  | _ => .no
/-- name = [..] on one line -/
theorem s_setLc {X : Cx} {T : TPr} {W : WX} (i : Nat) {y : Str} {py pos spos : Pos} {elt tg iter : Expr} {ifs : List Expr} {scope : Scope} {own : List (Str × Nat)} {fi : Sx → R (List D)} {g1 : D → Sx → Option Sx} {ft : Sx → R Bool} {fe : Sx → R D} (hc : X.calm = true) (hN : X.N.Nodup) (hi : PI X tg iter (tI T X.mg W fi)) (ok : BlkOk X.N X.env.scope scope own)
    (hg : ∀ (s : Shared) (H : Hp) (C : Addr) (cl : List (Str × Addr)) (fp : List Addr), PG (X.blk s H scope (compEnvC scope cl C X.env) fp) tg (tT T (own.map (·.2)) g1)) (ht : ∀ (s : Shared) (H : Hp) (C : Addr) (cl : List (Str × Addr)) (fp : List Addr), PTs (X.blk s H scope (compEnvC scope cl C X.env) fp) ifs (tB' T X.mg W0 ft))
    (he : ∀ (s : Shared) (H : Hp) (C : Addr) (cl : List (Str × Addr)) (fp : List Addr), PE (X.blk s H scope (compEnvC scope cl C X.env) fp) elt (tD T X.mg W0 fe)) (hy : X.N[i]? = some y := by rfl) (hyl : X.env.scope.names.lookup y = some .local := by rfl)
    (hsw : swapsWith (.ListComp elt [⟨tg, iter, ifs, 0⟩] scope pos) (some (.Name y py)) spos.line X.env = pure true := by exact sw_true rfl rfl rfl (by decide +kernel)) (hs : ∀ x, foldedSetIterable iter X.env x = pure x := by intro _; rfl) :
    PS X (.Assign [.Name y py] (.ListComp elt [⟨tg, iter, ifs, 0⟩] scope pos) spos) (tS T X.mg W (fAsg (fFz (fLc fi g1 ft fe (own.map (·.2)))) (bName i))) :=
  (ps_setLc hc hN hy hyl hsw hi ok hg ht he hs).imp fun D σ H h => by
    have h2 := set_imp h
    exact lc_imp (fz_imp h2)

/-! ### sorted -/
section
variable {prog : Program} {w : World} {A : Around} {E : Value → Shared → Prop} {s : Shared}
theorem collectT {t : Addr} {us : List Value} {Q : List Value → Shared → Prop} (ht : IsTup s.heap t us.toArray) (hsz : us.length ≤ sizeLine)
    (h : Q us { s with heap := (s.heap.push (PyProof.Rows.seqObj "list" #[] 0)).update s.heap.objs.size (Obj.mapSeq (· ++ us.toArray)) }) : wpAny (model prog w) A (collect (.ref t)) Q E s := by
  obtain ⟨ob, hob, hcl, m, hdt⟩ := id ht
  have hob2 : (s.heap.push (PyProof.Rows.seqObj "list" #[] 0)).get? t = some ob := Heap.get?_push_of_some _ hob
  have hnew : (s.heap.push (PyProof.Rows.seqObj "list" #[] 0)).get? s.heap.objs.size = some (PyProof.Rows.seqObj "list" #[] 0) := Heap.get?_push_size _ rfl
  unfold collect
  refine wpAny_bind (wpAny_runValue (codeAny_builtin PyProof.Rows.entry_proto_collect' ?_))
  show wpAny (model prog w) _ (do again (.builtin "list.__iadd__" ⟨[← newList [], .ref t], []⟩)) _ _ s
  refine wpAny_bind (wpAny_newList (wpAny_pure ⟨Code.quiet_builtin _ (by decide +kernel), codeAny_builtin PyProof.Rows.entry_list_iadd' ?_⟩))
  show wpAny (model prog w) _ (Builtin.List.listExtendWith (.ref s.heap.objs.size) (.ref t) (.ref s.heap.objs.size)) _ _ { s with heap := s.heap.push (PyProof.Rows.seqObj "list" #[] 0) }
  unfold Builtin.List.listExtendWith
  refine wpAny_bind (wpAny_typeOf (T := "tuple") ⟨ob, hob2, hcl⟩ ?_)
  have h2 : (Value.type "tuple" == Value.type "tuple") = true := by rfl
  rw [if_pos (by rw [h2]; simp)]
  refine wpAny_bind (PyProof.Rows.listItems_at hob2 hdt (wpAny_bind (PyProof.Rows.listItems_at (xs := #[]) (n := 0) hnew rfl ?_)))
  rw [if_neg (by simp)]
  refine wpAny_bind (PyProof.Rows.listUpdate_at (xs := #[]) (n := 0) hnew rfl (wpAny_pure ?_) (Nat.zero_le _) (by simp only [Array.size_append, List.size_toArray, List.length_nil]; omega))
  show wpAny (model prog w) A (do
      let u ← load s.heap.objs.size
      match u.data with
      | .seq zs _ => pure zs.toList
      | _ => unsupported "internal:collect") Q E { s with heap := (s.heap.push (PyProof.Rows.seqObj "list" #[] 0)).update s.heap.objs.size (Obj.mapSeq (· ++ us.toArray)) }
  refine wpAny_bind (wpAny_load (PyProof.Rows.get?_update_seq hnew _) ?_)
  show wpAny (model prog w) _ (pure ((#[] : Array Value) ++ us.toArray).toList) Q E _
  rw [show ((#[] : Array Value) ++ us.toArray).toList = us by simp]
  exact wpAny_pure h
theorem sortedT {t : Addr} {vs : List Value} {β : Type} {bs : List β} {enc : β → PyData} {R : Value → β → Prop} {Q : Value → Shared → Prop} (ht : IsTup s.heap t vs.toArray) (e : PySem.W.EachIs R vs bs) (er : PySem.W.EachIs (fun v b => ∃ as, Reads s.heap v (enc b) as) vs bs) (hal : PySem.W.AllAlike (bs.map enc)) (hk : PySem.W.Sortable (bs.map enc))
    (hL : bs.length ≤ sizeLine) (hu : ∀ b, b ∈ bs → A.units + 2 + (enc b).depth < cLine) (h : ∀ out, out.length = bs.length → PySem.W.EachIs R out (bs.mergeSort (PySem.W.dataLe false enc)) → Q (.ref (s.heap.objs.size + 1)) { s with heap := PyProof.Rows.sortedAll s.heap vs (List.toArray out) }) :
    wpAny (model prog w) A (call (.builtin "sorted") [.ref t]) Q E s := by
  have hL2 : vs.length ≤ sizeLine := by rw [e.length]; exact hL
  have er' : PySem.W.EachIs (fun v b => ∃ as, Reads (PySem.W.sortingHeap (PySem.W.copyHeap s.heap vs) (s.heap.objs.size + 1) vs) v (enc b) as) vs bs := er.mono fun _ _ ⟨as, r⟩ => ⟨as, PyProof.Rows.Reads.keeps (fun _ _ => PySem.W.sorting_copy_old) r⟩
  have S := PySem.W.SortsAt.data (prog := prog) (w := w) (A := A.in1.in1) (s := { s with heap := PySem.W.sortingHeap (PySem.W.copyHeap s.heap vs) (s.heap.objs.size + 1) vs }) (PySem.W.each_map (R := fun v d => ∃ as, Reads (PySem.W.sortingHeap (PySem.W.copyHeap s.heap vs) (s.heap.objs.size + 1) vs) v d as) enc er') hal hk (PySem.W.bound_map hu)
  have fin := h _ (by rw [PySem.W.sortVals_length false rfl]; exact e.length) (PySem.W.sortVals_data false e er' hal)
  refine PyProof.Rows.call_function_entry_kw PyProof.Rows.kind_sorted PyProof.Rows.plain_sorted PyProof.Rows.entry_sorted (PyProof.Rows.args_sorted1 _) ?_
  unfold Builtin.«sorted»
  refine wpAny_bind (m := checkCount "sorted" 1 1 _) (wpAny_pure (wpAny_bind (collectT ht hL2 (wpAny_bind (wpAny_newList ?_ hL2)))))
  have hsz : ((s.heap.push (PyProof.Rows.seqObj "list" #[] 0)).update s.heap.objs.size (Obj.mapSeq (· ++ vs.toArray))).objs.size = s.heap.objs.size + 1 := by rw [Heap.size_update, PyProof.Rows.size_push']
  show wpAny (model prog w) _ _ _ _ { s with heap := PySem.W.copyHeap s.heap vs }
  rw [hsz]
  refine wpAny_bind (wpAny_holding (PyProof.Rows.wpAny_call_entry_kw PyProof.Rows.slot_list_sort ⟨_, PySem.W.copyHeap_at s.heap vs, rfl⟩ PyProof.Rows.entry_list_sort ?body (PyProof.Rows.args_list_sort _)))
  case body =>
    show wpAny (model prog w) A.in1.in1 (Builtin.«list.sort» ⟨[.ref (s.heap.objs.size + 1)], []⟩) _ _ _
    exact PySem.W.list_sort_vals (s := { s with heap := PySem.W.copyHeap s.heap vs }) (PySem.W.copyHeap_at s.heap vs) S hL2 ⟨_, rfl, wpAny_pure ⟨_, rfl, fin⟩⟩
end
end DL

namespace DL
open PySem PySem.Spec L2
open PyProof.Rows hiding St

theorem each_of_paired {β : Type} : ∀ {zs : List (V × β)} {us : List Value}, Vals (zs.map (·.1)) us → PySem.W.EachIs (fun u (z : V × β) => RelV z.1 u) us zs
  | [], _, h => by cases h; exact .nil
  | z :: zs, _, h => by
    cases h with
    | cons a t => exact .cons a (each_of_paired t)
theorem paired_of_each {β : Type} : ∀ {zs : List (V × β)} {us : List Value}, PySem.W.EachIs (fun u (z : V × β) => RelV z.1 u) us zs → Vals (zs.map (·.1)) us
  | [], _, h => by cases h; exact .nil
  | z :: zs, _, h => by
    cases h with
    | cons a t => exact .cons a (paired_of_each t)
/-- sorted(xs), sorted(t): the items read as data -/
def rSortedD (K : PySem.W.Frag) : List V → Hp → VK → Prop := fun vs H Q => ∃ (a : Addr) (β : Type) (zs : List (V × β)) (enc : β → PyData), vs = [V.ref a] ∧ (SqL K H a (zs.map (·.1)) ∨ SqT K H a (zs.map (·.1))) ∧
  DpAll K H (zs.map (·.1)) (zs.map fun z => enc z.2) ∧ PySem.W.AllAlike (zs.map fun z => enc z.2) ∧ PySem.W.Sortable (zs.map fun z => enc z.2) ∧ (∀ z ∈ zs, (enc z.2).depth ≤ 60) ∧
  ∀ p, H p = none → Q (.ref p) (upd H p (.lst ((zs.mergeSort (PySem.W.dataLe false fun z => enc z.2)).map (·.1))))
theorem cr_sortedD {X : Cx} (hu : X.A.units + 64 < cLine) : CallR X (.builtin "sorted") (rSortedD X.K) := by
  intro pins s σ H vs us Q I r h
  obtain ⟨a, β, zs, enc, rfl, hs, hd, hal, hk, hdep, q⟩ := h
  rw [Vals.ref1 r]
  have fin : ∀ (its : List Value), Vals (zs.map (·.1)) its → zs.length ≤ sizeLine → ∀ out : List Value, out.length = zs.length → PySem.W.EachIs (fun u (z : V × β) => RelV z.1 u) out (zs.mergeSort (PySem.W.dataLe false fun z => enc z.2)) →
      EP X pins σ Q (.ref (s.heap.objs.size + 1)) { s with heap := PyProof.Rows.sortedAll s.heap its (List.toArray out) } := by
    intro its rv hz out hl ho
    obtain ⟨ep, he'⟩ := PyProof.Rows.sortedAll_at s.heap its out.toArray
    have hlen : ((zs.mergeSort (PySem.W.dataLe false fun z => enc z.2)).map (·.1)).length ≤ sizeLine := by
      rw [List.length_map, List.length_mergeSort]; exact hz
    exact ⟨.ref _, upd H (s.heap.objs.size + 1) (.lst _), I.laid (t' := s.toks) (fun _ _ => PyProof.Rows.sortedAll_old) (Nat.le_succ _) ⟨hlen, out, ep, paired_of_each ho, he'⟩, rfl, q _ (I.hok.fresh (Nat.le_succ _))⟩
  have dep : ∀ z, z ∈ zs → X.A.units + 2 + (enc z.2).depth < cLine := fun z hz => by have := hdep z hz; omega
  rcases hs with hs | hs
  · obtain ⟨its, rv, hl, hz⟩ := I.list hs
    obtain ⟨as, hr⟩ := Dp.readsAll I _ _ its hd rv
    have hz' : zs.length ≤ sizeLine := by rw [List.length_map] at hz; exact hz
    exact PySem.W.sorted_data (R := fun u (z : V × β) => RelV z.1 u) (enc := fun z => enc z.2) hl.isList (each_of_paired rv) (PySem.W.readsAll_each (fun z : V × β => enc z.2) hr) hal hk hz' dep fun out hlo ho => fin its rv hz' out hlo ho
  · obtain ⟨its, rv, hl, hz⟩ := I.tuple hs
    obtain ⟨as, hr⟩ := Dp.readsAll I _ _ its hd rv
    have hz' : zs.length ≤ sizeLine := by rw [List.length_map] at hz; exact hz
    exact sortedT (R := fun u (z : V × β) => RelV z.1 u) (enc := fun z => enc z.2) hl (each_of_paired rv) (PySem.W.readsAll_each (fun z : V × β => enc z.2) hr) hal hk hz' dep fun out hlo ho => fin its rv hz' out hlo ho

/-! ### points, ints -/
abbrev Pt := Int × Int
def pt (p : Pt) : D := .tup [.int p.1, .int p.2]
def unPt : D → Option Pt
  | .tup [.int x, .int y] => some (x, y)
  | _ => none
def unPts : List D → Option (List Pt)
  | [] => some []
  | d :: l => match unPt d, unPts l with
    | some p, some ps => some (p :: ps)
    | _, _ => none
theorem unPt_some {d : D} {p : Pt} (h : unPt d = some p) : d = pt p := by
  unfold unPt at h
  split at h
  · cases h; rfl
  · cases h
theorem unPts_some : ∀ {l : List D} {ps : List Pt}, unPts l = some ps → l = ps.map pt
  | [], _, h => by unfold unPts at h; cases h; rfl
  | d :: l, ps, h => by
    unfold unPts at h
    cases q1 : unPt d with
    | none => rw [q1] at h; simp at h
    | some p =>
      cases q2 : unPts l with
      | none => rw [q1, q2] at h; simp at h
      | some qs =>
        rw [q1, q2] at h; simp at h; subst h
        rw [unPt_some q1, unPts_some q2]; rfl
theorem unPts_map : ∀ ps : List Pt, unPts (ps.map pt) = some ps
  | [] => rfl
  | p :: ps => by
    show unPts (pt p :: ps.map pt) = _
    unfold unPts
    rw [unPts_map ps]
    rfl
def lePt (p q : Pt) : Bool := decide (p.1 < q.1 ∨ (p.1 = q.1 ∧ p.2 ≤ q.2))
def unInts : List D → Option (List Int)
  | [] => some []
  | .int i :: l => match unInts l with
    | some is => some (i :: is)
    | none => none
  | _ :: _ => none
theorem unInts_some : ∀ {l : List D} {ps : List Int}, unInts l = some ps → l = ps.map D.int
  | [], _, h => by unfold unInts at h; cases h; rfl
  | .int i :: l, ps, h => by
    unfold unInts at h
    cases q2 : unInts l with
    | none => rw [q2] at h; simp at h
    | some qs => rw [q2] at h; simp at h; subst h; rw [unInts_some q2]; rfl
  | .non :: _, _, h => by unfold unInts at h; cases h
  | .bl _ :: _, _, h => by unfold unInts at h; cases h
  | .str _ :: _, _, h => by unfold unInts at h; cases h
  | .tup _ :: _, _, h => by unfold unInts at h; cases h
  | .lst _ :: _, _, h => by unfold unInts at h; cases h
  | .loc _ :: _, _, h => by unfold unInts at h; cases h
  | .adr _ :: _, _, h => by unfold unInts at h; cases h
  | .ty _ :: _, _, h => by unfold unInts at h; cases h
  | .scr _ :: _, _, h => by unfold unInts at h; cases h
  | .fnv _ _ _ :: _, _, h => by unfold unInts at h; cases h
  | .tag _ :: _, _, h => by unfold unInts at h; cases h
theorem unInts_map : ∀ ps : List Int, unInts (ps.map D.int) = some ps
  | [] => rfl
  | p :: ps => by
    show unInts (D.int p :: ps.map D.int) = _
    unfold unInts
    rw [unInts_map ps]
/-- sorted of points, of ints -/
def gSorted : Cells → List D → Option D := fun M l => match l with
  | [d] => match seqOf M d with
    | some (_, l) => match unPts l with
      | some ps => some (.lst ((ps.mergeSort lePt).map pt))
      | none => match unInts l with
        | some is => some (.lst ((is.mergeSort fun a b => decide (a ≤ b)).map D.int))
        | none => none
    | none => none
  | _ => none
section
variable {T : TPr} {H : Hp} {N : Addr → Prop} {α : List Addr}
theorem Rels.zip {β : Type} {f : β → D} : ∀ {bs : List β} {vs : List V}, Rels H N α (bs.map f) vs → ∃ zs : List (V × β), zs.map (·.1) = vs ∧ zs.map (·.2) = bs ∧ ∀ z ∈ zs, Rel H N α (f z.2) z.1
  | [], _, h => by
    have h' : Rels H N α [] _ := h
    unfold Rels at h'
    exact ⟨[], by rw [h']; rfl, rfl, by simp⟩
  | b :: bs, _, h => by
    have h' : Rels H N α (f b :: bs.map f) _ := h
    unfold Rels at h'
    obtain ⟨v, r, h1, h2, h3⟩ := h'
    obtain ⟨zs, e1, e2, e3⟩ := Rels.zip h3
    refine ⟨(v, b) :: zs, by rw [h1, List.map_cons, e1], by rw [List.map_cons, e2], fun z hz => ?_⟩
    rcases List.mem_cons.mp hz with e | hz
    · rw [e]; exact h2
    · exact e3 z hz
theorem Rels.unzip {β : Type} {f : β → D} : ∀ {zs : List (V × β)}, (∀ z ∈ zs, Rel H N α (f z.2) z.1) → Rels H N α (zs.map fun z => f z.2) (zs.map (·.1))
  | [], _ => by simp [Rels]
  | z :: zs, h => Rels.cons (h z (by simp)) (Rels.unzip fun y hy => h y (by simp [hy]))
theorem sorted_go {K : PySem.W.Frag} {β : Type} {M : Cells} {f : β → D} {enc : β → PyData} {le : β → β → Bool} {a : Addr} {vs : List V} {bs : List β} {Q : VK} (c : StC T N H M α) (hs : SqL K H a vs ∨ SqT K H a vs) (r : Rels H N α (bs.map f) vs)
    (hp : ∀ b, pyOf (f b) = some (enc b)) (hal : ∀ b b', PySem.W.alike (enc b) (enc b') = true) (hk : (∀ b, ∃ x r, enc b = .tuple (x :: r)) ∨ ∀ b, enc b ≠ .none ∧ ∀ xs, enc b ≠ .tuple xs) (hd : ∀ b, (enc b).depth ≤ 60)
    (hle : ∀ b b', le b b' = PySem.W.dataLe false enc b b') (k : ∀ v H', StC T N H' M α → Ext α N H α N H' → Rel H' N α (.lst ((bs.mergeSort le).map f)) v → Q v H') : rSortedD K [V.ref a] H Q := by
  obtain ⟨zs, e1, e2, e3⟩ := Rels.zip r
  have hpy : ∀ zs : List (V × β), (∀ z ∈ zs, Rel H N α (f z.2) z.1) → DpAll K H (zs.map (·.1)) (zs.map fun z => enc z.2) := by
    intro zs
    induction zs with
    | nil => intro _; exact .nil
    | cons z zs ih => intro h; exact .cons (py_rel (h z (by simp)) (hp _)) (ih fun y hy => h y (by simp [hy]))
  refine ⟨a, β, zs, enc, rfl, by rw [e1]; exact hs, hpy zs e3, PySem.W.AllAlike.of fun z z' => hal _ _, ?_, fun z _ => hd _, fun p hp => ?_⟩
  · rcases hk with hk | hk
    · exact PySem.W.Sortable.tuples fun z => hk _
    · exact PySem.W.Sortable.others fun z => hk _
  · have hm : (zs.mergeSort (PySem.W.dataLe false fun z => enc z.2)).map (·.2) = bs.mergeSort le := by
      rw [← e2]
      exact PySem.W.sort_maps (fun z : V × β => z.2) fun z _ y _ => (hle z.2 y.2).symm
    have hr : Rels H N α ((zs.mergeSort (PySem.W.dataLe false fun z => enc z.2)).map fun z => f z.2) ((zs.mergeSort (PySem.W.dataLe false fun z => enc z.2)).map (·.1)) := Rels.unzip fun z hz => e3 z (List.mem_mergeSort.mp hz)
    have hr2 : Rels H N α ((bs.mergeSort le).map f) ((zs.mergeSort (PySem.W.dataLe false fun z => enc z.2)).map (·.1)) := by
      rw [← hm, List.map_map]; exact hr
    exact k _ _ (c.grow (new_keep hp)) (Ext.grow (new_keep hp)) (lst_new hr2 c.sub c.som hp)
theorem cd_sorted {K : PySem.W.Frag} : CbD T (rSortedD K) gSorted := by
  intro N H M α l xs z Q c r h k
  match l, h, r with
  | [d], h, r =>
    obtain ⟨x, rfl, r1⟩ := rels1 r
    unfold gSorted at h
    dsimp only at h
    cases q : seqOf M d with
    | none => rw [q] at h; cases h
    | some bl =>
      obtain ⟨b, l⟩ := bl
      rw [q] at h
      dsimp only at h
      obtain ⟨a, vs, h1, h2, h3, h4⟩ := seq_rel c r1 q
      rw [h1]
      cases qp : unPts l with
      | some ps =>
        rw [qp] at h; cases h
        rw [unPts_some qp] at h4
        refine sorted_go c (seq_sq h2 h3) h4 (enc := fun p => .tuple [.int p.1, .int p.2]) (fun p => rfl) (fun p p' => rfl) (.inl fun p => ⟨_, _, rfl⟩) (fun p => by simp [PyData.depth, PyData.depthAll]) (fun p p' => ?_) k
        exact (congrFun (congrFun (PySem.W.dataLe_ii (β := Pt) (·.1) (·.2)) p) p').symm
      | none =>
        rw [qp] at h
        dsimp only at h
        cases qi : unInts l with
        | none => rw [qi] at h; cases h
        | some is =>
          rw [qi] at h; cases h
          rw [unInts_some qi] at h4
          refine sorted_go c (seq_sq h2 h3) h4 (enc := fun p => .int p) (fun p => rfl) (fun p p' => rfl) (.inr fun p => ⟨by simp, by simp⟩) (fun p => by simp [PyData.depth]) (fun p p' => ?_) k
          exact (congrFun (congrFun (PySem.W.dataLe_int (β := Int) id) p) p').symm
  | [], h, _ => cases h
  | _ :: _ :: _, h, _ => cases h
end
end DL

namespace DL
open PySem PySem.Spec L2
open PyProof.Rows hiding St

/-! ### a def's promise, read off its own function on data -/
def RS.pu (r : RS) : Pu := match RS.out 0 r with
  | .ok d [] => .ok d
  | .ex e [] => .ex e
  | _ => .no
/-- a def without a list of ours in hand -/
def aut (n : Nat) (Nm : List Str) (g : Sx → RS) : List D → Pu := fun ds => if ds.length = n then (g ⟨init0 Nm ds, []⟩).pu else .no
theorem aut_len {n : Nat} {Nm : List Str} {g : Sx → RS} (ds : List D) (h : aut n Nm g ds ≠ .no) : ds.length = n := by
  unfold aut at h
  by_cases hl : ds.length = n
  · exact hl
  · rw [if_neg hl] at h; exact (h rfl).elim
theorem cut0 {M : Cells} : cutM M 0 = some [] := by unfold cutM; simp
theorem pu_lift {r : RS} {p : List D → Pu} {ds : List D} (h : p ds = r.pu) (hn : p ds ≠ .no) : RS.out 0 r = lift p ds [] := by
  have q : ∀ x : R D, (match x with | .ok d [] => Pu.ok d | .ex e [] => Pu.ex e | _ => Pu.no) ≠ .no → x = match (match x with | .ok d [] => Pu.ok d | .ex e [] => Pu.ex e | _ => Pu.no) with
      | .ok d => .ok d []
      | .ex e => .ex e []
      | .no => .no := by
    intro x hx
    match x, hx with
    | .ok d [], _ => rfl
    | .ex e [], _ => rfl
    | .ok d (_ :: _), hx => exact (hx rfl).elim
    | .ex d (_ :: _), hx => exact (hx rfl).elim
    | .no, hx => exact (hx rfl).elim
  unfold lift
  rw [h] at hn ⊢
  exact q _ hn
theorem fn_aut {T : TPr} {P : Program} {w : World} {K : PySem.W.Frag} {mg : Str → Option Value} {base : Heap} {x qual : Str} {st : Stmt} {f : Addr} {fd : FuncData} {Nm ps : List Str} {dvs : List V} {kws : List (Str × V)} {k : Nat} {g : Sx → RS}
    (F : FunD K x qual (defArgs st) (defBody st) (defScope st) dvs kws f fd) (S : FnScope Nm ps (defScope st))
    (hb : ∀ (cdv : Value), fd.code = cdv → ∀ (A : Around) (outer : List Env) (s : Shared) (H : Hp) (E : XK), Room k (A.deeper (envOfC qual (defScope st) s.heap.objs.size f cdv)) →
      PSs (cxOf (L2.CX P w) P w K mg base Nm qual (defScope st) f cdv A outer s H E) (defBody st) (tS T mg (fun cls d _ H => E cls d H) g)) :
    FnOk P w K mg base (L2.CX P w) (k + 1) f fd ps (spP T mg ps.length (aut ps.length Nm g)) :=
  fn_okP F S fun ds hn hl => ⟨g, hb, pu_lift (by unfold aut; rw [if_pos hl]) hn⟩
/-- a def with lists of ours in hand -/
def autM (n : Nat) (Nm : List Str) (g : Sx → RS) : List D → Cells → R D := fun ds M => if ds.length = n then RS.out M.length (g ⟨init0 Nm ds, M⟩) else .no
theorem autM_len {n : Nat} {Nm : List Str} {g : Sx → RS} (ds : List D) (M : Cells) (h : autM n Nm g ds M ≠ .no) : ds.length = n := by
  unfold autM at h
  by_cases hl : ds.length = n
  · exact hl
  · rw [if_neg hl] at h; exact (h rfl).elim
theorem fn_autM {T : TPr} {P : Program} {w : World} {K : PySem.W.Frag} {mg : Str → Option Value} {base : Heap} {x qual : Str} {st : Stmt} {f : Addr} {fd : FuncData} {Nm ps : List Str} {dvs : List V} {kws : List (Str × V)} {k : Nat} {g : Sx → RS}
    (F : FunD K x qual (defArgs st) (defBody st) (defScope st) dvs kws f fd) (S : FnScope Nm ps (defScope st))
    (hb : ∀ (cdv : Value), fd.code = cdv → ∀ (A : Around) (outer : List Env) (s : Shared) (H : Hp) (E : XK), Room k (A.deeper (envOfC qual (defScope st) s.heap.objs.size f cdv)) →
      PSs (cxOf (L2.CX P w) P w K mg base Nm qual (defScope st) f cdv A outer s H E) (defBody st) (tS T mg (fun cls d _ H => E cls d H) g)) :
    FnOk P w K mg base (L2.CX P w) (k + 1) f fd ps (spD T mg ps.length (autM ps.length Nm g)) :=
  fn_ok F S fun ds M hn hl => ⟨g, hb, by unfold autM; rw [if_pos hl]⟩

/-! ### a def whose answer is all its caller's own -/
mutual
def D.sh (m : Nat) : D → D
  | .tup l => .tup (shs m l)
  | .lst l => .lst (shs m l)
  | .scr l => .scr (shs m l)
  | .loc n => .loc (m + n)
  | d => d
def shs (m : Nat) : List D → List D
  | [] => []
  | d :: l => d.sh m :: shs m l
end
mutual
theorem Rel.sh {H : Hp} {N : Addr → Prop} {α β : List Addr} : ∀ {d : D} {v : V}, Rel H N β d v → Rel H N (α ++ β) (d.sh α.length) v
  | .non, _, h => by unfold D.sh; unfold Rel at h ⊢; exact h
  | .bl _, _, h => by unfold D.sh; unfold Rel at h ⊢; exact h
  | .int _, _, h => by unfold D.sh; unfold Rel at h ⊢; exact h
  | .str _, _, h => by unfold D.sh; unfold Rel at h ⊢; exact h
  | .tup l, _, h => by
    unfold D.sh
    unfold Rel at h ⊢
    obtain ⟨a, vs, h1, h2, h3⟩ := h
    exact ⟨a, vs, h1, h2, Rels.sh h3⟩
  | .lst l, _, h => by
    unfold D.sh
    unfold Rel at h ⊢
    obtain ⟨a, vs, h1, h0, h2, h3⟩ := h
    exact ⟨a, vs, h1, h0, h2, Rels.sh h3⟩
  | .loc n, _, h => by
    unfold D.sh
    unfold Rel at h ⊢
    obtain ⟨a, h1, h2⟩ := h
    exact ⟨a, h1, by rw [List.getElem?_append_right (by omega)]; rw [show α.length + n - α.length = n by omega]; exact h2⟩
  | .adr _, _, h => by unfold D.sh; unfold Rel at h ⊢; exact h
  | .ty _, _, h => by unfold D.sh; unfold Rel at h ⊢; exact h
  | .scr l, _, h => by
    unfold D.sh
    unfold Rel at h ⊢
    obtain ⟨a, o, vs, h1, h2, h3⟩ := h
    exact ⟨a, o, vs, h1, h2, Rels.sh h3⟩
  | .fnv i o o', _, h => by unfold D.sh; unfold Rel at h ⊢; exact h
  | .tag _, _, h => by unfold Rel at h; exact h.elim
theorem Rels.sh {H : Hp} {N : Addr → Prop} {α β : List Addr} : ∀ {l : List D} {vs : List V}, Rels H N β l vs → Rels H N (α ++ β) (shs α.length l) vs
  | [], _, h => by unfold shs; unfold Rels at h ⊢; exact h
  | d :: l, _, h => by
    unfold shs
    unfold Rels at h ⊢
    obtain ⟨v, r, h1, h2, h3⟩ := h
    exact ⟨v, r, h1, Rel.sh h2, Rels.sh h3⟩
end
theorem shs_length {m : Nat} : ∀ l : List D, (shs m l).length = l.length
  | [] => rfl
  | d :: l => by unfold shs; simp [shs_length l]
theorem shs_ints {m : Nat} : ∀ l : List Int, shs m (l.map .int) = l.map .int
  | [] => rfl
  | d :: l => by
    show shs m (D.int d :: l.map .int) = _
    unfold shs D.sh
    rw [shs_ints l]; rfl
theorem shs_tag {m : Nat} {k : Kd} {l : List D} : shs m (.tag k :: l) = .tag k :: shs m l := by
  rw [shs, D.sh]
  all_goals (intros; simp_all)
theorem CelOk.sh {H : Hp} {N : Addr → Prop} {α β : List Addr} {a : Addr} {l : List D} (h : CelOk H N β a l) : CelOk H N (α ++ β) a (shs α.length l) := by
  rcases h with ⟨vs, h, q⟩ | ⟨C, ns, ds, dx, vs, e, h, hl, q⟩ | ⟨ds, kvs, e, h, q⟩
  · exact .inl ⟨vs, h, Rels.sh q⟩
  · subst e
    exact .inr (.inl ⟨C, ns, shs α.length ds, dx, vs, shs_tag, h, by rw [shs_length]; exact hl, Rels.sh q⟩)
  · subst e
    refine .inr (.inr ⟨shs α.length ds, kvs, shs_tag, h, ?_⟩)
    clear h
    induction q with
    | nil => unfold shs; exact .nil
    | @cons d kv ds kvs hd t ih =>
      unfold shs
      refine .cons ?_ ih
      obtain ⟨ks, dv, e1, e2, e3⟩ := hd
      refine ⟨ks, dv.sh α.length, ?_, e2, Rel.sh e3⟩
      rw [e1]
      simp [D.sh, shs, shs_ints]
def spO (T : TPr) (mg : Str → Option Value) (n : Nat) (p : List D → R D) : Sp := fun vs H Q E => ∃ ds N, ds.length = n ∧ StC T N H [] [] ∧ Rels H N [] ds vs ∧ match p ds with
  | .ok d M' => ∀ v H' α' N', StC T N' H' M' α' → Ext [] N H α' N' H' → Rel H' N' α' d v → Q v H'
  | .ex e _ => ∀ cls dd H', StC T N H' [] [] → Ext [] N H [] N H' → XR mg e cls dd H' N [] → E cls dd H'
  | .no => False
def RS.outO : RS → R D
  | .rt d s => .ok d s.M
  | .ex e s => match e.part with
    | none => .ex e []
    | some _ => .no
  | _ => .no
def autO (n : Nat) (Nm : List Str) (g : Sx → RS) : List D → R D := fun ds => if ds.length = n then RS.outO (g ⟨init0 Nm ds, []⟩) else .no
theorem autO_len {n : Nat} {Nm : List Str} {g : Sx → RS} (ds : List D) (h : autO n Nm g ds ≠ .no) : ds.length = n := by
  unfold autO at h
  by_cases hl : ds.length = n
  · exact hl
  · rw [if_neg hl] at h; exact (h rfl).elim
section
variable {T : TPr} {mg : Str → Option Value} {W : WX} {σ : L2.St} {H : Hp} {N : Addr → Prop} {α : List Addr} {Dn : Ends}
theorem StC.cut0 {N' : Addr → Prop} {H' : Hp} {M' : Cells} {α' : List Addr} (c : StC T N H [] []) (c' : StC T N' H' M' α') (e : Ext [] N H α' N' H') : StC T N H' [] [] :=
  ⟨by simp, by simp, fun a h => e.there a (c.som a h), rfl, fun n l q => by simp at q, c'.tab⟩
theorem fn_autO {P : Program} {w : World} {K : PySem.W.Frag} {base : Heap} {x qual : Str} {st : Stmt} {f : Addr} {fd : FuncData} {Nm ps : List Str} {dvs : List V} {kws : List (Str × V)} {k : Nat} {g : Sx → RS}
    (F : FunD K x qual (defArgs st) (defBody st) (defScope st) dvs kws f fd) (S : FnScope Nm ps (defScope st))
    (hb : ∀ (cdv : Value), fd.code = cdv → ∀ (A : Around) (outer : List Env) (s : Shared) (H : Hp) (E : XK), Room k (A.deeper (envOfC qual (defScope st) s.heap.objs.size f cdv)) →
      PSs (cxOf (L2.CX P w) P w K mg base Nm qual (defScope st) f cdv A outer s H E) (defBody st) (tS T mg (fun cls d _ H => E cls d H) g)) :
    FnOk P w K mg base (L2.CX P w) (k + 1) f fd ps (spO T mg ps.length (autO ps.length Nm g)) := by
  refine F.okC S (fun vs H Q E h => ?_) (fun cdv hcdv A outer s H vs Q E hr hsp => ?_)
  · obtain ⟨ds, N, h1, _, h2, _⟩ := h
    rw [← Rels.length h2]; exact h1
  · obtain ⟨ds, N, h1, c, r, post⟩ := hsp
    refine ⟨_, hb cdv hcdv A outer s H E hr, ⟨init0 Nm ds, []⟩, [], N, ⟨c, init_slt r, ?_⟩, ?_⟩
    · have := Rels.length r
      unfold init0 L2.start
      simp; omega
    · unfold autO at post
      rw [if_pos h1] at post
      cases q : g ⟨init0 Nm ds, []⟩ with
      | no => rw [q] at post; exact post
      | bk s1 => rw [q] at post; exact post.elim
      | ct s1 => rw [q] at post; exact post.elim
      | nx s1 => rw [q] at post; exact post.elim
      | rt d s1 =>
        rw [q] at post
        intro v σ' H' α' N' s' e rv
        exact post v H' α' N' s'.c e rv
      | ex x s1 =>
        rw [q] at post
        intro cls dd σ' H' α' N' s' e xr
        unfold RS.outO at post
        dsimp only at post
        obtain ⟨x1, x2⟩ := xr
        cases qp : x.part with
        | none =>
          rw [qp] at post
          exact post cls dd H' (c.cut0 s'.c e) (e.cut (by simp)) ⟨x1, by rw [qp] at x2 ⊢; exact x2⟩
        | some d => rw [qp] at post; exact post.elim
def fCallO (p : List D → R D) (f : Sx → R (List D)) : Sx → R D := fun s => (f s).bind fun ds M => if lfs ds = true then (match p ds with
  | .ok d Mb => .ok (d.sh M.length) (M ++ Mb.map (shs M.length))
  | .ex e _ => .ex e M
  | .no => .no) else .no
theorem StC.join {M Mb : Cells} {β : List Addr} {N' : Addr → Prop} {H' : Hp} (c : StC T N H M α) (c' : StC T N' H' Mb β) (e : Ext [] N H β N' H') : StC T N' H' (M ++ Mb.map (shs M.length)) (α ++ β) ∧ Ext α N H (α ++ β) N' H' := by
  have fβ : ∀ b ∈ β, Fz H b := by obtain ⟨γ, e1, f⟩ := e.pre; rw [e1]; simpa using f
  have e' : Ext α N H (α ++ β) N' H' := ⟨⟨β, rfl, fβ⟩, e.nn, e.nb, fun b o h _ t => e.keep b o h (fun _ => by simp) t, e.there⟩
  refine ⟨⟨?_, fun a ha => ?_, c'.som, by simp [c.len, c'.len], fun n l q => ?_, c'.tab⟩, e'⟩
  · rw [List.nodup_append]
    exact ⟨c.nd, c'.nd, fun a ha b hb z => c.som a (c.sub a ha) (by rw [z]; exact fβ b hb)⟩
  · rcases List.mem_append.mp ha with z | z
    · exact e.nn a (c.sub a z)
    · exact c'.sub a z
  · by_cases hn : n < M.length
    · rw [List.getElem?_append_left hn] at q
      obtain ⟨a, h1, h2⟩ := c.cel n l q
      exact ⟨a, pre_get h1 ⟨β, rfl, trivial⟩, h2.all (fun o q _ t => e.keep a o q (fun _ => by simp) t) fun d v q => Rel.mono c.sub e' q⟩
    · rw [List.getElem?_append_right (by omega), List.getElem?_map] at q
      cases q2 : Mb[n - M.length]? with
      | none => rw [q2] at q; cases q
      | some l' =>
        rw [q2] at q
        have q : shs M.length l' = l := Option.some.inj q
        obtain ⟨a, h1, h2⟩ := c'.cel _ l' q2
        refine ⟨a, by rw [List.getElem?_append_right (by rw [c.len]; omega), c.len]; exact h1, ?_⟩
        rw [← q, ← c.len]
        exact h2.sh
theorem callO_imp {n : Nat} {p : List D → R D} {f : Sx → R (List D)} (hn : ∀ ds, p ds ≠ .no → ds.length = n) {Q : VK} (h : tD T mg W (fCallO p f) σ H Q) : tCallS (spO T mg n p) (WE W) (tL T mg W f) σ H Q := by
  obtain ⟨s, α, N, hs, q⟩ := h
  refine ⟨s, α, N, hs, Post.mono (fun vs H1 h1 => ?_) (Post.bind (G := RelL) q)⟩
  obtain ⟨M1, α1, N1, ds, s1, e1, g1, p1⟩ := h1
  obtain ⟨hl, p2⟩ := p1.ite
  refine ⟨ds, N1, hn ds fun z => by rw [z] at p2; exact p2, ⟨by simp, by simp, s1.c.som, rfl, fun n l q => by simp at q, s1.c.tab⟩, Rels.lf hl g1, ?_⟩
  cases hp : p ds with
  | no => rw [hp] at p2; exact p2
  | ok d Mb =>
    rw [hp] at p2
    intro v H' β N' c e r
    obtain ⟨cj, ej⟩ := s1.c.join c e
    refine p2 v H' _ N' ⟨cj, fun i d' qd => ?_, s1.lnr⟩ ej (by rw [← s1.c.len]; exact Rel.sh r)
    obtain ⟨v', y1, y2⟩ := s1.slt i d' qd
    exact ⟨v', y1, Rel.mono s1.c.sub ej y2⟩
  | ex x Mb =>
    rw [hp] at p2
    exact fun cls dd H' c e r => p2 cls dd H' α1 N1 (StC.keep s1 (s1.c.ofNil c e) e.ofNil) e.ofNil r.nil
end
structure CalO (T : TPr) (P : Program) (w : World) (K : PySem.W.Frag) (mg : Str → Option Value) (base : Heap) (k : Nat) (x : Str) (n : Nat) (p : List D → R D) : Prop where
  ex : ∃ (f : Addr) (fd : FuncData) (ps : List Str), mg x = some (.ref f) ∧ PySem.W.keepIn K (.ref f) = true ∧ Binds K fd ps [] ∧ FnOk P w K mg base (L2.CX P w) k f fd ps (spO T mg n p)
theorem CalO.mono {T : TPr} {P : Program} {w : World} {K : PySem.W.Frag} {mg : Str → Option Value} {base : Heap} {j k : Nat} {x : Str} {n : Nat} {p : List D → R D} (c : CalO T P w K mg base j x n p) (h : j ≤ k) : CalO T P w K mg base k x n p := by
  obtain ⟨f, fd, ps, h1, h2, h3, h4⟩ := c.ex
  exact ⟨f, fd, ps, h1, h2, h3, h4.mono h⟩
section
variable {X : Cx} {T : TPr} {W : WX} {pos p : Pos} {k n : Nat} {x : Str} {e : Expr} {es : List Expr} {fl : Sx → R (List D)}
theorem e_callO {pu : List D → R D} (B : Bd X W k) (F : CalO T X.prog X.w X.K X.mg X.base k x n pu) (hn : ∀ ds, pu ds ≠ .no → ds.length = n) (hg : Gl X x) (ha : PA X (e :: es) (tL T X.mg W fl)) (hdb : (x == ("__debug__" : Str)) = false := by decide)
    (he : starEach (e :: es) X.env = (false, eval e X.env) :: starEach es X.env := by rfl) (hpl : (backTo pos (starEach es X.env)).any (·.1) = false := by rfl) : PE X (.Call (.Name x p) (e :: es) [] pos) (tD T X.mg W (fCallO pu fl)) := by
  obtain ⟨f, fd, ps, h1, h2, h3, h4⟩ := F.ex
  exact (pe_callS h4 B.rm hg h1 h2 h3 (fun σ => passAt B.tk σ) ha hdb he hpl).imp fun _ _ _ => callO_imp hn
end
/-- an own list given back -/
def fOwnE (f : Sx → R (List D)) : Sx → R D := fun s => (f s).bind fun l M => .ok (.loc M.length) (M ++ [l])
section
variable {T : TPr} {mg : Str → Option Value} {W : WX} {σ : L2.St} {H : Hp}
theorem ownE_imp {f : Sx → R (List D)} {Q : VK} (h : tD T mg W (fOwnE f) σ H Q) : tFL T mg W f σ H Q := by
  obtain ⟨s, α, N, hs, p⟩ := h
  refine ⟨s, α, N, hs, ?_⟩
  unfold fOwnE at p
  cases q : f s with
  | no => rw [q] at p; exact p
  | ex e M => rw [q] at p; exact p
  | ok l M =>
    rw [q] at p
    intro a vs H' α' N' s1 e1 n1 n2 n3 n4 n5
    have s2 := s1.cell n1 n2 n4 n5
    have hl : α'.length = M.length := s1.c.len
    obtain ⟨β, eβ, fβ⟩ := e1.pre
    refine p _ H' (α' ++ [a]) N' s2 ⟨⟨β ++ [a], by rw [eβ, List.append_assoc], fun b hb => ?_⟩, e1.nn, e1.nb, e1.keep, e1.there⟩ ?_
    · rcases List.mem_append.mp hb with z | z
      · exact fβ b z
      · simp at z; rw [z]; exact n3
    · show Rel _ _ _ _ _
      unfold Rel
      exact ⟨a, rfl, by rw [List.getElem?_append_right (by omega)]; simp [hl]⟩
end
section
variable {X : Cx} {T : TPr} {W : WX} {e : Expr} {fl : Sx → R (List D)}
theorem e_ownE (h : PE X e (tFL T X.mg W fl)) : PE X e (tD T X.mg W (fOwnE fl)) := h.imp fun _ _ _ => ownE_imp
end
end DL

namespace DL
open PySem PySem.Spec L2
open PyProof.Rows hiding St

/-! ### the script, where it is an object of the module -/
def KSt (K : PySem.W.Frag) (sk : Option (Addr × List Int)) : Prop := ∀ a ns, sk = some (a, ns) → ∀ H : Hp, SqL K H a (ns.map V.int)
def gCutK (sk : Option (Addr × List Int)) : Cells → D → Option Int → Option Int → Option D := fun M d lo hi => match d with
  | .adr a => match sk with
    | some (b, ns) => if a = b then some (.lst (dcut (ns.map .int) lo hi)) else none
    | none => none
  | d => gCut M d lo hi
def fSlK (sk : Option (Addr × List Int)) (fo : Sx → R D) (fl fh : Sx → R (Option Int)) : Sx → R D := fun s => (fo s).bind fun d M1 => (fl ⟨s.ρ, M1⟩).bind fun lo M2 => (fh ⟨s.ρ, M2⟩).bind fun hi M3 => opt (gCutK sk M3 d lo hi) M3
section
variable {T : TPr} {mg : Str → Option Value} {W : WX} {σ : L2.St} {H : Hp} {N : Addr → Prop} {α : List Addr}
theorem rels_ints : ∀ ns : List Int, Rels H N α (ns.map .int) (ns.map V.int)
  | [] => by simp [Rels]
  | i :: r => Rels.cons rel_int (rels_ints r)
theorem cut_one {K : PySem.W.Frag} {Q : VK} {ρ : List (Option D)} {M3 : Cells} {d z : D} {x : V} {lo hi : Option Int} (s3 : StR T N H σ ⟨ρ, M3⟩ α) (rd : Rel H N α d x) (hz : gCut M3 d lo hi = some z)
    (p4 : ∀ v H' α' N', StR T N' H' σ ⟨ρ, M3⟩ α' → Ext α N H α' N' H' → Rel H' N' α' z v → Q v H') : rSl K x lo hi H Q := by
  unfold gCut at hz
  cases q : seqOf M3 d with
  | none => rw [q] at hz; cases hz
  | some bl =>
    obtain ⟨b, l⟩ := bl
    rw [q] at hz
    obtain ⟨a, vs, h1, h2, h3, h4⟩ := seq_rel s3.c rd q
    have fin : ∀ o p, H p = none → (∀ ps, o ≠ .tbl ps) → Rel (upd H p o) N α z (.ref p) → Q (.ref p) (upd H p o) := fun o p hp _ r => p4 _ _ α N (StC.keep s3 (s3.c.grow (new_keep hp)) (Ext.grow (new_keep hp))) (Ext.grow (new_keep hp)) r
    cases b with
    | true =>
      cases hz
      refine .inl ⟨a, vs, h1, rd_sqT (h2 rfl), fun hw => ?_, fun hw p hp => fin _ p hp (fun _ z => by cases z) (tup_new (dcut_rel h4) s3.c.sub hp)⟩
      refine p4 _ _ α N s3 Ext.refl ?_
      unfold Rel
      exact ⟨a, vs, rfl, h2 rfl, by rw [← whole_cut hw]; exact dcut_rel h4⟩
    | false =>
      cases hz
      exact .inr ⟨a, vs, h1, .inl (h3 rfl), fun p hp => fin _ p hp (fun _ z => by cases z) (lst_new (dcut_rel h4) s3.c.sub s3.c.som hp)⟩
theorem slK_imp {K : PySem.W.Frag} {sk : Option (Addr × List Int)} (hk : KSt K sk) {fo : Sx → R D} {fl fh : Sx → R (Option Int)} {Q : VK} (h : tD T mg W (fSlK sk fo fl fh) σ H Q) : tSl (rSl K) (tD T mg W fo) (tO' T mg W fl) (tO' T mg W fh) σ H Q := by
  obtain ⟨s, α, N, hs, p⟩ := h
  refine ⟨s, α, N, hs, Post.mono (fun x H1 h1 => ?_) (Post.bind (G := RelD) p)⟩
  obtain ⟨M1, α1, N1, d, s1, e1, g1, p1⟩ := h1
  refine ⟨_, α1, N1, s1, Post.mono (fun lo H2 h2 => ?_) (Post.bind (G := RelO) p1)⟩
  obtain ⟨M2, α2, N2, lo', s2, e2, g2, p2⟩ := h2
  refine ⟨_, α2, N2, s2, Post.mono (fun hi H3 h3 => ?_) (Post.bind (G := RelO) p2)⟩
  obtain ⟨M3, α3, N3, hi', s3, e3, g3, p3⟩ := h3
  cases g2
  cases g3
  obtain ⟨z, hz, p4⟩ := p3.opt
  have rd := Rel.mono s2.c.sub e3 (Rel.mono s1.c.sub e2 g1)
  unfold gCutK at hz
  split at hz
  · rename_i a
    split at hz
    · rename_i b ns
      by_cases hab : a = b
      · rw [if_pos hab] at hz
        subst hab
        cases hz
        unfold Rel at rd
        refine .inr ⟨a, ns.map V.int, rd, hk a ns rfl H3, fun p hp => ?_⟩
        exact p4 _ _ α3 N3 (StC.keep s3 (s3.c.grow (new_keep hp)) (Ext.grow (new_keep hp))) (Ext.grow (new_keep hp)) (lst_new (dcut_rel (rels_ints ns)) s3.c.sub s3.c.som hp)
      · rw [if_neg hab] at hz; cases hz
    · cases hz
  · exact cut_one s3 rd hz p4
end
section
variable {X : Cx} {T : TPr} {W : WX} {pos : Pos} {a : Expr} {fa : Sx → R D}
theorem e_slK {sk : Option (Addr × List Int)} {lo hi : Option Expr} {p2 : Pos} {f1 f2 : Sx → R (Option Int)} (hk : KSt X.K sk) (ha : PE X a (tD T X.mg W fa)) (hl : PO X lo (tO' T X.mg W f1)) (hh : PO X hi (tO' T X.mg W f2)) : PE X (.Subscript a (.Slice lo hi none p2) pos) (tD T X.mg W (fSlK sk fa f1 f2)) :=
  (pe_slice (sl_tupA.or sl_list) ha hl hh).imp fun _ _ _ => slK_imp hk
end

/-! ### a lambda handed to a def that tells which error came -/
def wTold (K : PySem.W.Frag) (cl : Str → Addr) (Q : VK) : List (Str × Str) → Value → Hp → Prop
  | [], _, _ => False
  | (e, r) :: l, cls, H => ∃ b, PySem.W.exmOne K cls (.ref (cl e)) = some b ∧ (b = true → Q (.str r) H) ∧ (b = false → wTold K cl Q l cls H)
def TTm (K : PySem.W.Frag) (cl : Str → Addr) (hs : List (Str × Str)) : (XK → Hp → VK → Prop) → Hp → VK → Prop := fun tl H Q => tl (fun cls _ H' => wTold K cl Q hs cls H') H Q
theorem told4_gives {X : Cx} {Ng : List Str} {x a e1 e2 e3 e4 q r1 r2 r3 r4 : Str} {sg : Scope} {g : Addr} {cdg : Value} {cl : Str → Addr} {j1 j2 j3 j4 : Nat} {p1 p2 p3 p8 a1 a2 a3 a4 b1 b2 b3 b4 c1 c2 c3 c4 d1 d2 d3 d4 : Pos}
    (g1 : sg.names.lookup e1 = some .globalImplicit) (g2 : sg.names.lookup e2 = some .globalImplicit) (g3 : sg.names.lookup e3 = some .globalImplicit) (g4 : sg.names.lookup e4 = some .globalImplicit)
    (m1 : X.mg e1 = some (.ref (cl e1))) (m2 : X.mg e2 = some (.ref (cl e2))) (m3 : X.mg e3 = some (.ref (cl e3))) (m4 : X.mg e4 = some (.ref (cl e4)))
    (k1 : (e1 == ("__debug__" : Str)) = false) (k2 : (e2 == ("__debug__" : Str)) = false) (k3 : (e3 == ("__debug__" : Str)) = false) (k4 : (e4 == ("__debug__" : Str)) = false)
    (h0 : ∀ f : Addr, (L2.start Ng [V.ref f])[0]? = some (some (V.ref f))) :
    LamX.GivesTo X Ng x sg g cdg [.Try [.Return (some (.Call (.Name a p1) [] [] p2)) p3] [.ExceptHandler (some (.Name e1 a1)) none [.Return (some (.Constant (.str r1) j1 b1)) c1] d1, .ExceptHandler (some (.Name e2 a2)) none [.Return (some (.Constant (.str r2) j2 b2)) c2] d2,
      .ExceptHandler (some (.Name e3 a3)) none [.Return (some (.Constant (.str r3) j3 b3)) c3] d3, .ExceptHandler (some (.Name e4 a4)) none [.Return (some (.Constant (.str r4) j4 b4)) c4] d4] [] [] p8] a q (TTm X.K cl [(e1, r1), (e2, r2), (e3, r3), (e4, r4)]) := by
  intro f c' s H Q tl act hc h
  have q1 : Gl (cxOf C8.CX0 X.prog X.w X.K X.mg X.base Ng x sg g cdg X.A X.stack s H C8.E0).nox e1 := g1
  have q2 : Gl (cxOf C8.CX0 X.prog X.w X.K X.mg X.base Ng x sg g cdg X.A X.stack s H C8.E0).nox e2 := g2
  have q3 : Gl (cxOf C8.CX0 X.prog X.w X.K X.mg X.base Ng x sg g cdg X.A X.stack s H C8.E0).nox e3 := g3
  have q4 : Gl (cxOf C8.CX0 X.prog X.w X.K X.mg X.base Ng x sg g cdg X.A X.stack s H C8.E0).nox e4 := g4
  have hh := HdsOk.cons (pos' := d1) (np := a1) (X := (cxOf C8.CX0 X.prog X.w X.K X.mg X.base Ng x sg g cdg X.A X.stack s H C8.E0).nox) (c := .ref (cl e1)) ⟨q1, k1, .inl m1⟩ (fun a oe cls d pn _ _ => pss_one (ps_ret (pos := c1) (pe_str (pos := b1) (x := r1) (j := j1))))
    (HdsOk.cons (pos' := d2) (np := a2) (c := .ref (cl e2)) ⟨q2, k2, .inl m2⟩ (fun a oe cls d pn _ _ => pss_one (ps_ret (pos := c2) (pe_str (pos := b2) (x := r2) (j := j2))))
    (HdsOk.cons (pos' := d3) (np := a3) (c := .ref (cl e3)) ⟨q3, k3, .inl m3⟩ (fun a oe cls d pn _ _ => pss_one (ps_ret (pos := c3) (pe_str (pos := b3) (x := r3) (j := j3))))
    (HdsOk.cons (pos' := d4) (np := a4) (c := .ref (cl e4)) ⟨q4, k4, .inl m4⟩ (fun a oe cls d pn _ _ => pss_one (ps_ret (pos := c4) (pe_str (pos := b4) (x := r4) (j := j4)))) .nil)))
  refine ⟨_, pss_one (ps_try_many (X := (cxOf C8.CX0 X.prog X.w X.K X.mg X.base Ng x sg g cdg X.A X.stack s H C8.E0).nox) (Wout := fun _ _ _ _ => False)
      (tb := fun W D σ H => ∃ Ech : XK, (∀ cls d σ' H', Ech cls d H' → W cls d σ' H') ∧ σ[0]? = some (some (.ref f)) ∧ H c' = some (LamX.CodeO c' q) ∧ tl Ech H D.rt)
      rfl rfl LamX.takes0 (fun W pn xe tk _ => ?_) hh), ?_⟩
  · refine ⟨fun pins s' σ H' D I h' => ?_⟩
    obtain ⟨Ech, hW, h1, h2, h3⟩ := h'
    have hp := act W pn xe Ech p1 p2 tk hW
    have hq := pss_one (ps_ret (pos := p3) hp)
    exact hq.run pins s' σ H' D I ⟨h1, h2, h3⟩
  · refine ⟨fun cls _ H' => wTold X.K cl Q [(e1, r1), (e2, r2), (e3, r3), (e4, r4)] cls H', fun cls d σ' H' w => ?_, h0 f, hc, h⟩
    obtain ⟨x1, y1, z1, w1⟩ := w
    refine ⟨x1, y1, fun hb a _ => z1 hb, fun hb => ?_⟩
    obtain ⟨x2, y2, z2, w2⟩ := w1 hb
    refine ⟨x2, y2, fun hb a _ => z2 hb, fun hb => ?_⟩
    obtain ⟨x3, y3, z3, w3⟩ := w2 hb
    refine ⟨x3, y3, fun hb a _ => z3 hb, fun hb => ?_⟩
    obtain ⟨x4, y4, z4, w4⟩ := w3 hb
    exact ⟨x4, y4, fun hb a _ => z4 hb, fun hb => w4 hb⟩
/-- the errors' classes, one unlike another -/
structure ToldF (K : PySem.W.Frag) (mg : Str → Option Value) (hs : List (Str × Str)) (cl : Str → Addr) : Prop where
  gl : ∀ p ∈ hs, mg p.1 = some (.ref (cl p.1))
  ex : ∀ p ∈ hs, ∀ q ∈ hs, PySem.W.exmOne K (.ref (cl p.1)) (.ref (cl q.1)) = some (decide (p.1 = q.1))
def toldBy : List (Str × Str) → Str → Option Str
  | [], _ => none
  | (e, r) :: l, x => if x = e then some r else toldBy l x
def fTold (hs : List (Str × Str)) (f : Sx → R D) : Sx → R D := fun s => match f s with
  | .ok d M => .ok d M
  | .ex e M => match toldBy hs e.name with
    | some r => .ok (.str r) M
    | none => .no
  | .no => .no
theorem toldBy_mem {x r : Str} : ∀ {l : List (Str × Str)}, toldBy l x = some r → ∃ r', (x, r') ∈ l
  | [], h => by cases h
  | (e, r') :: l, h => by
    unfold toldBy at h
    by_cases q : x = e
    · exact ⟨r', by rw [q]; exact List.mem_cons_self⟩
    · rw [if_neg q] at h
      obtain ⟨r2, h2⟩ := toldBy_mem h
      exact ⟨r2, List.mem_cons_of_mem _ h2⟩
theorem told_w {K : PySem.W.Frag} {mg : Str → Option Value} {hs : List (Str × Str)} {cl : Str → Addr} (Z : ToldF K mg hs cl) {Q : VK} {H : Hp} {x r r0 : Str} (hx : (x, r0) ∈ hs) (q : Q (.str r) H) : ∀ l : List (Str × Str), (∀ p ∈ l, p ∈ hs) → toldBy l x = some r → wTold K cl Q l (.ref (cl x)) H
  | [], _, h => by cases h
  | (e, r') :: l, hl, h => by
    unfold toldBy at h
    unfold wTold
    refine ⟨_, Z.ex _ hx _ (hl _ List.mem_cons_self), fun hb => ?_, fun hb => ?_⟩
    · have he : x = e := of_decide_eq_true hb
      rw [if_pos he] at h; cases h; exact q
    · have he : ¬ x = e := of_decide_eq_false hb
      rw [if_neg he] at h
      exact told_w Z hx q l (fun p hp => hl p (List.mem_cons_of_mem _ hp)) h
/-- the tables of code objects as what stands by -/
def tabT (TL : List (Addr × Str)) : TPr := ⟨fun H => LamX.Tabs TL H, fun H H' t k p hp => by
  obtain ⟨ps, h1, h2, h3⟩ := t p hp
  refine ⟨ps, k _ _ h1 (.inl ⟨_, rfl⟩), h2, fun pos cv hc => ?_⟩
  obtain ⟨c, e1, e2⟩ := h3 pos cv hc
  exact ⟨c, e1, k _ _ e2 (.inr ⟨_, rfl⟩)⟩⟩
theorem lam_imp {TL : List (Addr × Str)} {K : PySem.W.Frag} {mg : Str → Option Value} {hs : List (Str × Str)} {cl : Str → Addr} (Z : ToldF K mg hs cl) {W : WX} {fb : Sx → R D} {σ : L2.St} {H : Hp} {Q : VK} (h : tD (tabT TL) mg W (fTold hs fb) σ H Q) :
    LamX.tLam TL (TTm K cl hs) (fun E => tD (tabT TL) mg (fun cls d _ H => E cls d H) fb) σ H Q := by
  obtain ⟨s, α, N, hs', p⟩ := h
  refine ⟨hs'.c.tab, fun H1 eN T1 => ?_⟩
  have e : Ext α N H α N H1 := ⟨⟨[], by simp, by simp⟩, fun _ h => h, fun _ h => .inl h, fun b o hb _ ht => eN b o hb ht, fun b hb z => hb fun o ho => by
    refine Classical.byContradiction fun hn => ?_
    have := eN b o ho (fun ps q => hn ⟨ps, q⟩)
    obtain ⟨ps, q⟩ := z o this
    exact hn ⟨ps, q⟩⟩
  have c1 : StC (tabT TL) N H1 s.M α := ⟨hs'.c.nd, hs'.c.sub, fun a ha => e.there a (hs'.c.som a ha), hs'.c.len, fun n l q => by
    obtain ⟨a, h1, h2⟩ := hs'.c.cel n l q
    exact ⟨a, h1, h2.all (fun o q _ t => eN _ o q t) fun d v q => Rel.mono hs'.c.sub e q⟩, T1⟩
  have s1 : StR (tabT TL) N H1 σ s α := StC.keep hs' c1 e
  refine ⟨s, α, N, s1, ?_⟩
  have p1 := Post.later e p
  unfold fTold at p1
  cases q : fb s with
  | no => rw [q] at p1; exact p1
  | ok d M => rw [q] at p1; exact p1
  | ex x M =>
    rw [q] at p1
    dsimp only at p1
    intro cls dd H2 α2 N2 s2 e2 xr
    cases qt : toldBy hs x.name with
    | none => rw [qt] at p1; exact p1.elim
    | some r =>
      rw [qt] at p1
      obtain ⟨r0, hr⟩ := toldBy_mem qt
      have hc : cls = .ref (cl x.name) := by
        have := (Z.gl _ hr).symm.trans xr.1
        exact (Option.some.inj this).symm
      rw [hc]
      exact told_w Z hr (p1 _ H2 α2 N2 s2 e2 (by unfold RelD Rel; rfl)) hs (fun _ h => h) qt
section
variable {X : Cx} {W : WX}
theorem e_told {TL : List (Addr × Str)} {x a : Str} {st : Stmt} {g c P : Addr} {fd : FuncData} {k : Nat} {params : Arguments} {body : Expr} {scope : Scope} {p lpos pos : Pos} {hs : List (Str × Str)} {cl : Str → Addr} {fb : Sx → R D}
    (B : Bd X W (k + 2)) (Z : ToldF X.K X.mg hs cl) (F : FunD X.K x x (defArgs st) (defBody st) (defScope st) [] [] g fd) (hm : X.mg x = some (.ref g)) (bn : Binds X.K fd [a] []) (Sg : FnScope [a] [a] (defScope st)) (hva : Vis (defScope st) a)
    (hG : ∀ cdg q, LamX.GivesTo X [a] x (defScope st) g cdg (defBody st) a q (TTm X.K cl hs)) (TB : LamX.TabB X.base X.mg c P) (hcode : X.env.code = .ref c) (hT : (P, X.env.qual ++ "<lambda>") ∈ TL) (hu : ∀ p ∈ TL, p.1 = P → p.2 = X.env.qual ++ "<lambda>")
    (hg : Gl X x)
    (hbody : ∀ (A : Around) (outer : List Env) (s : Shared) (H : Hp) (E : XK) (f c' : Addr), Room k (A.deeper (LamX.lamEnv X scope s.heap.objs.size f c')) → PE (LamX.lamCx X A outer s H E scope f c') body (tD (tabT TL) X.mg (fun cls d _ H => E cls d H) fb))
    (L : LamX.LamS X.env.scope scope) (hdef : defaultsOf params X.env = ([], []) := by rfl)
    (hbind : ∀ (q : Str) (cl : List (Str × Addr)) (pm cv ctv : Value), bindArgs (PySem.W.kla_fn "<lambda>" q params body scope cl pm cv ctv) ⟨[], []⟩ = pure [] := by intros; rfl)
    (hdb : (x == ("__debug__" : Str)) = false := by decide) (hd : (a == ("__debug__" : Str)) = false := by decide) (hcd : (a == ("__classdict__" : Str)) = false := by decide) :
    PE X (.Call (.Name x p) [.Lambda params body scope lpos] [] pos) (tD (tabT TL) X.mg W (fTold hs fb)) := by
  obtain ⟨oc, od, dV, kV, doc, pm, an, cdv, ct, osl, rfl, lk, hcd2, hD, hK⟩ := F.ex
  exact (LamX.pe_lamcall (TT := TTm X.K cl hs) (t := fun E => tD (tabT TL) X.mg (fun cls d _ H => E cls d H) fb) hg hm F.kp lk hcd2 bn Sg rfl hva (hG _ _) TB hcode hT hu B.rm L hdef hbind hbody hdb hd hcd).imp fun _ _ _ => lam_imp Z
end
end DL

namespace DL
open PySem PySem.Spec L2
open PyProof.Rows hiding St

/-! ### the law's def, the end of a row -/
/-- the script as it lies -/
inductive Scr : Option (Addr × List Int) → D → List Int → Prop where
  | lst {ns : List Int} : Scr none (.lst (ns.map .int)) ns
  | frz {ns : List Int} : Scr none (.scr (ns.map .int)) ns
  | mod {a : Addr} {ns : List Int} : Scr (some (a, ns)) (.adr a) ns
def spLaw (K : PySem.W.Frag) (TL : List (Addr × Str)) : Sp := fun vs H Q _ => ∃ (a : Addr) (ns : List Int), vs = [.ref a] ∧ SqL K H a (ns.map V.int) ∧ ns.length ≤ 63 ∧ LamX.Tabs TL H ∧ ∀ H', Q (.bl true) H'
theorem fn_law {P : Program} {w : World} {K : PySem.W.Frag} {mg : Str → Option Value} {base : Heap} {x qual : Str} {st : Stmt} {fd : FuncData} {Nm : List Str} {k : Nat} {p : Str × Option Str} {TL : List (Addr × Str)} {g : Option (Addr × List Int) → Sx → RS}
    (F : FunD K x qual (defArgs st) (defBody st) (defScope st) [] [] (He.fAd K p) fd) (S : FnScope Nm ["script"] (defScope st))
    (hb : ∀ (sk : Option (Addr × List Int)), KSt K sk → ∀ (A : Around) (outer : List Env) (s : Shared) (H : Hp) (E : XK), Room k (A.deeper (envOfC qual (defScope st) s.heap.objs.size (He.fAd K p) (.ref (He.codeOf K p)))) →
      PSs (cxOf (L2.CX P w) P w K mg base Nm qual (defScope st) (He.fAd K p) (.ref (He.codeOf K p)) A outer s H E) (defBody st) (tS (tabT TL) mg (fun cls d _ H => E cls d H) (g sk)))
    (hok : ∀ sk d ns, Scr sk d ns → ns.length ≤ 63 → ∃ s1, g sk ⟨init0 Nm [d], []⟩ = .rt (.bl true) s1) :
    FnOk P w K mg base (L2.CX P w) (k + 1) (He.fAd K p) fd ["script"] (spLaw K TL) := by
  obtain ⟨oc, od, dV, kV, doc, pm, an, cdv, ct, osl, rfl, lk, hcd, hD, hK⟩ := F.ex
  obtain ⟨c', rfl⟩ := He.codeIn_ref hcd
  have ec : He.codeOf K p = c' := He.codeOf_eq lk rfl
  rw [ec] at hb
  refine fn_of lk hcd S (fun vs H Q E h => ?_) fun A outer s H vs Q E hr hsp => ?_
  · obtain ⟨a, ns, rfl, _⟩ := h; rfl
  · obtain ⟨a, ns, rfl, hS, hl, hT, q⟩ := hsp
    obtain ⟨sk, d, hk, hd, rd⟩ : ∃ (sk : Option (Addr × List Int)) (d : D), KSt K sk ∧ Scr sk d ns ∧ Rel H (fun _ => False) [] d (.ref a) := by
      rcases hS with (h | ⟨o, h⟩) | h
      · exact ⟨none, _, (fun _ _ z => by cases z), Scr.lst, by unfold Rel; exact ⟨a, _, rfl, fun z => z, h, rels_ints ns⟩⟩
      · exact ⟨none, _, (fun _ _ z => by cases z), Scr.frz, by unfold Rel; exact ⟨a, o, _, rfl, h, rels_ints ns⟩⟩
      · exact ⟨some (a, ns), _, (fun _ _ z H' => by cases z; exact .inr h), Scr.mod, by unfold Rel; rfl⟩
    obtain ⟨s1, hg⟩ := hok sk d ns hd hl
    refine ⟨_, hb sk hk A outer s H E hr, ⟨init0 Nm [d], []⟩, [], fun _ => False, ⟨⟨by simp, by simp, fun a z => z.elim, rfl, fun n l z => by simp at z, hT⟩, init_slt (Rels.one rd), ?_⟩, ?_⟩
    · unfold init0 L2.start
      simp
    · rw [hg]
      intro v σ' H' α' N' s' e rv
      unfold Rel at rv
      rw [rv]
      exact q H'
theorem cx_no {P : Program} {w : World} {o : List Env} {H : Hp} {s : Shared} {e : Value} {s' : Shared} (h : L2.CX P w o H s (fun _ _ _ => False) e s') : False := by
  obtain ⟨_, _, _, _, _, _, _, _, _, _, _, _, z⟩ := h
  exact z
theorem code_ref {K : PySem.W.Frag} {x qual : Str} {params : Arguments} {body : List Stmt} {scope : Scope} {dvs : List V} {kws : List (Str × V)} {p : He.Defn} {fd : FuncData} (F : FunD K x qual params body scope dvs kws (He.fAd K p) fd) : fd.code = .ref (He.codeOf K p) := by
  obtain ⟨oc, od, dV, kV, doc, pm, an, cdv, ct, osl, rfl, lk, hcd, hD, hK⟩ := F.ex
  obtain ⟨c', rfl⟩ := He.codeIn_ref hcd
  rw [He.codeOf_eq lk rfl]
/-- the tables of the defs that make lambdas, generator expressions: with the names of what they make -/
def tabsOf (K : PySem.W.Frag) (tq : List (He.Defn × Str)) : List (Addr × Str) := tq.map fun p => (He.tabOf K (He.codeOf K p.1), p.2)
/-- .. one unlike another -/
def tabsApart (tq : List (He.Defn × Str)) (K : PySem.W.Frag) : Bool := decide (((tabsOf K tq).map (·.1)).Nodup)
theorem tabs_mem {K : PySem.W.Frag} {tq : List (He.Defn × Str)} {p : He.Defn} {q : Str} (h : (p, q) ∈ tq) : (He.tabOf K (He.codeOf K p), q) ∈ tabsOf K tq := List.mem_map.mpr ⟨_, h, rfl⟩
theorem fst_inj {α β : Type} : ∀ {l : List (α × β)}, (l.map (·.1)).Nodup → ∀ {a b b'}, (a, b) ∈ l → (a, b') ∈ l → b = b'
  | [], _, _, _, _, h, _ => by cases h
  | (x, y) :: l, nd, a, b, b', h1, h2 => by
    obtain ⟨n1, n2⟩ := List.nodup_cons.mp nd
    rcases List.mem_cons.mp h1 with e1 | h1 <;> rcases List.mem_cons.mp h2 with e2 | h2
    · cases e1; cases e2; rfl
    · cases e1; exact (n1 (List.mem_map.mpr ⟨_, h2, rfl⟩)).elim
    · cases e2; exact (n1 (List.mem_map.mpr ⟨_, h1, rfl⟩)).elim
    · exact fst_inj n2 h1 h2
theorem tabs_uni {K : PySem.W.Frag} {tq : List (He.Defn × Str)} (ap : tabsApart tq K = true) {p : He.Defn} {q : Str} (h : (p, q) ∈ tq) : ∀ r ∈ tabsOf K tq, r.1 = He.tabOf K (He.codeOf K p) → r.2 = q := fun r hr e => by
  have nd : ((tabsOf K tq).map (·.1)).Nodup := of_decide_eq_true ap
  obtain ⟨r1, r2⟩ := r
  have e : r1 = _ := e
  subst e
  exact fst_inj nd hr (tabs_mem h)
/-- what the head tells of a row whose law makes lambdas: all that walk_ofTsE asks -/
theorem law_at {l : PySem.W.OpenLaw} {w : World} {K : PySem.W.Frag} {mg : Str → Option Value} {f : Addr} {h : Heap} {k : Nat} {fa : List He.Fa} {fn : List He.DefD} {ex : PySem.W.Frag → Bool} {tq : List (He.Defn × Str)} {fd : FuncData}
    (X : K.In h) (hfa : mg ("law" : Str) = some (.ref f)) (c : He.SaysX fa fn [] (tq.map (·.1)) ex w h K) (hga : mg ("law" : Str) = some (.ref (He.ga K "law")))
    (b : ∀ (s : Shared) (u : Value), BindsTo s fd ⟨[u], []⟩ [("script", u)])
    (hF : ∀ base : Heap, K.In base → base.Ns mainGlobals mg → (∀ p ∈ tq, LamX.TabB base mg (He.codeOf K p.1) (He.tabOf K (He.codeOf K p.1))) → FnOk l.prog w K mg base (L2.CX l.prog w) k (He.fAd K ("law", none)) fd ["script"] (spLaw K (tabsOf K tq))) :
    LamX.LawAtS l w K (L2.CX l.prog w) k 63 "script" mg f h := by
  have e := hfa.symm.trans hga
  cases e
  have one : ∀ p ∈ tq.map (fun q => He.cT K q.1), ∃ q ∈ tq.map (·.1), p = He.cT K q := fun p hp => by
    obtain ⟨q, hq, e⟩ := List.mem_map.mp hp
    exact ⟨q.1, List.mem_map.mpr ⟨q, hq, rfl⟩, e.symm⟩
  refine ⟨fd, tq.map (fun q => He.cT K q.1), _, fun p hp => ?_, fun p hp => ?_, fun p hp => ?_, b, fun H a ns hl _ hT hS => ⟨a, ns, rfl, hS, hl, fun p hp => ?_, fun _ => rfl⟩, fun base kb nb tb => hF base kb nb fun p hp => tb (He.cT K p.1) (List.mem_map.mpr ⟨p, hp, rfl⟩)⟩
  · obtain ⟨q, hq, e⟩ := one p hp; rw [e]; exact c.empty _ hq
  · obtain ⟨q, hq, e⟩ := one p hp; rw [e]; exact c.out _ hq
  · obtain ⟨q, hq, e⟩ := one p hp; rw [e]; exact PySem.W.codeHd_of_K X (c.hd _ hq)
  · obtain ⟨q, hq, e⟩ := List.mem_map.mp hp
    subst e
    exact LamX.TabS.nil (hT (He.cT K q.1) (List.mem_map.mpr ⟨q, hq, rfl⟩))
/-! ### the head, K with the statics -/
theorem saysX_of {n : Nat} {fa : List He.Fa} {fn : List He.DefD} {ts : List He.Tab} {tf : List He.Defn} {ex : PySem.W.Frag → Bool} {w : World} {h : Heap} {as : List Addr}
    (e1 : He.obsT fa fn ts (He.frT h.get? as) = He.valT fn ts w) (e2 : (ex (He.frT h.get? as) && He.tabsB h.get? tf (He.frT h.get? as)) = true) : He.SaysX fa fn ts tf ex w h (He.frT h.get? as) := by
  obtain ⟨h1, h2⟩ := He.ba e2
  have key : ∀ p ∈ tf, PySem.W.codeHdIn (He.frT h.get? as) (He.cT (He.frT h.get? as) p).1 (He.cT (He.frT h.get? as) p).2 = true ∧ ∃ o, h.get? (He.cT (He.frT h.get? as) p).2 = some o ∧ He.emptyTab o = true := fun p hp => by
    obtain ⟨h3, h4⟩ := He.ba (List.all_eq_true.mp h2 p hp)
    refine ⟨h3, ?_⟩
    revert h4
    cases h.get? (He.cT (He.frT h.get? as) p).2 with
    | none => intro h4; cases h4
    | some o => exact fun h4 => ⟨o, rfl, h4⟩
  refine ⟨e1, h1, fun p hp => (key p hp).1, fun p hp => ?_, fun p hp => ?_⟩ <;> obtain ⟨_, o, q, z⟩ := key p hp
  · exact He.frT_none q z
  · rw [q, He.emptyTab_eq z]
abbrev asS (g : Addr → Option Obj) (n : Nat) : List Addr := cStatics :: He.asD g n
def obsS (n : Nat) (fa : List He.Fa) (fn : List He.DefD) (ts : List He.Tab) (tf : List He.Defn) (ex : PySem.W.Frag → Bool) (g : Addr → Option Obj) : He.AlX := (He.obsT fa fn ts (He.frT g (asS g n)), ex (He.frT g (asS g n)) && He.tabsB g tf (He.frT g (asS g n)))
def hookS (n : Nat) (fa : List He.Fa) (fn : List He.DefD) (ts : List He.Tab) (tf : List He.Defn) (ex : PySem.W.Frag → Bool) : PySem.W.Hook where
  α := He.AlX
  obs := fun s => obsS n fa fn ts tf ex s.heap.get?
  val := fun w => He.valX fn ts w
  says := fun w h => ∃ K : PySem.W.Frag, K.In h ∧ He.SaysX fa fn ts tf ex w h K
  of := fun _ _ e => ⟨_, He.frT_in, saysX_of (n := n) (congrArg (fun z : He.AlX => z.1) e) (congrArg (fun z : He.AlX => z.2) e)⟩
  keeps := fun _ _ _ ⟨K, hK, c⟩ k => ⟨K, PySem.W.Frag.In.keeps hK k, ⟨c.t, c.more, c.hd, c.out, fun p hp => k _ _ (c.empty p hp)⟩⟩
theorem obsS_eq {n : Nat} {fa : List He.Fa} {fn : List He.DefD} {ts : List He.Tab} {tf : List He.Defn} {ex : PySem.W.Frag → Bool} {g : Addr → Option Obj} {s : Shared} (h : ∀ a, g a = s.heap.get? a) : obsS n fa fn ts tf ex g = (hookS n fa fn ts tf ex).obs s := by
  have e : g = s.heap.get? := funext h
  rw [e] <;> rfl
/-- a def by its facts -/
theorem cal_of {T : TPr} {P : Program} {w : World} {K : PySem.W.Frag} {mg : Str → Option Value} {base : Heap} {x : Str} {st : Stmt} {fd : FuncData} {ps : List Str} {k : Nat} {fM : List D → Cells → R D} (g : mg x = some (.ref (He.ga K x)))
    (F : FunD K x x (defArgs st) (defBody st) (defScope st) [] [] (He.fAd K (x, none)) fd) (b : Binds K fd ps []) (h : FnOk P w K mg base (L2.CX P w) k (He.fAd K (x, none)) fd ps (spD T mg ps.length fM)) : Cal T P w K mg base k x ps.length fM :=
  ⟨_, fd, ps, g, F.kp, b, h⟩
theorem calO_of {T : TPr} {P : Program} {w : World} {K : PySem.W.Frag} {mg : Str → Option Value} {base : Heap} {x : Str} {st : Stmt} {fd : FuncData} {ps : List Str} {k : Nat} {p : List D → R D} (g : mg x = some (.ref (He.ga K x)))
    (F : FunD K x x (defArgs st) (defBody st) (defScope st) [] [] (He.fAd K (x, none)) fd) (b : Binds K fd ps []) (h : FnOk P w K mg base (L2.CX P w) k (He.fAd K (x, none)) fd ps (spO T mg ps.length p)) : CalO T P w K mg base k x ps.length p :=
  ⟨_, fd, ps, g, F.kp, b, h⟩
theorem exC_of {K : PySem.W.Frag} {mg : Str → Option Value} {x : Str} (g : mg x = some (.ref (He.ga K x))) (c : (He.Fa.exc x).ok K = true) : ExC K mg x := by
  obtain ⟨h1, h2, h3, h4⟩ := He.exc_ok c
  exact ⟨_, g, h1, h2, h3, h4⟩
/-! ### fuel by the arguments -/
mutual
def D.sz : D → Nat
  | .int i => i.natAbs + 1
  | .tup l => szs l + 1
  | .lst l => szs l + 1
  | _ => 1
def szs : List D → Nat
  | [] => 0
  | d :: l => d.sz + szs l + 1
end
def fuelOf (ds : List D) : Nat := 1000 + szs ds
def autF (n : Nat) (Nm : List Str) (g : Nat → Sx → RS) : List D → Pu := fun ds => if ds.length = n then (g (fuelOf ds) ⟨init0 Nm ds, []⟩).pu else .no
theorem autF_len {n : Nat} {Nm : List Str} {g : Nat → Sx → RS} (ds : List D) (h : autF n Nm g ds ≠ .no) : ds.length = n := by
  unfold autF at h
  by_cases hl : ds.length = n
  · exact hl
  · rw [if_neg hl] at h; exact (h rfl).elim
theorem fn_autF {T : TPr} {P : Program} {w : World} {K : PySem.W.Frag} {mg : Str → Option Value} {base : Heap} {x qual : Str} {st : Stmt} {f : Addr} {fd : FuncData} {Nm ps : List Str} {dvs : List V} {kws : List (Str × V)} {k : Nat} {g : Nat → Sx → RS}
    (F : FunD K x qual (defArgs st) (defBody st) (defScope st) dvs kws f fd) (S : FnScope Nm ps (defScope st))
    (hb : ∀ (n : Nat) (cdv : Value), fd.code = cdv → ∀ (A : Around) (outer : List Env) (s : Shared) (H : Hp) (E : XK), Room k (A.deeper (envOfC qual (defScope st) s.heap.objs.size f cdv)) →
      PSs (cxOf (L2.CX P w) P w K mg base Nm qual (defScope st) f cdv A outer s H E) (defBody st) (tS T mg (fun cls d _ H => E cls d H) (g n))) :
    FnOk P w K mg base (L2.CX P w) (k + 1) f fd ps (spP T mg ps.length (autF ps.length Nm g)) :=
  fn_okP F S fun ds hn hl => ⟨g (fuelOf ds), hb _, pu_lift (by unfold autF; rw [if_pos hl]) hn⟩
/-- a def under another name of the module -/
theorem cal_as {T : TPr} {P : Program} {w : World} {K : PySem.W.Frag} {mg : Str → Option Value} {base : Heap} {x y : Str} {st : Stmt} {fd : FuncData} {ps : List Str} {k : Nat} {fM : List D → Cells → R D} (g : mg x = some (.ref (He.ga K x)))
    (F : FunD K y y (defArgs st) (defBody st) (defScope st) [] [] (He.fAd K (x, none)) fd) (b : Binds K fd ps []) (h : FnOk P w K mg base (L2.CX P w) k (He.fAd K (x, none)) fd ps (spD T mg ps.length fM)) : Cal T P w K mg base k x ps.length fM :=
  ⟨_, fd, ps, g, F.kp, b, h⟩
end DL

namespace DL
open PySem PySem.Spec L2
open PyProof.Rows hiding St

/-! ### the functions on data, run: what simp needs -/
mutual
def D.noscr : D → Bool
  | .tup l => noscrs l
  | .lst l => noscrs l
  | .scr _ => false
  | .tag _ => false
  | _ => true
def noscrs : List D → Bool
  | [] => true
  | d :: l => d.noscr && noscrs l
end
@[simp] theorem lat_s {M : Cells} {n : Nat} : lat M n = (match M[n]? with
  | some l => if plain l = true then some l else none
  | none => none) := rfl
@[simp] theorem plain_nil : plain [] = true := rfl
@[simp] theorem plain_int {i : Int} {l : List D} : plain (.int i :: l) = true := rfl
@[simp] theorem plain_bl {i : Bool} {l : List D} : plain (.bl i :: l) = true := rfl
@[simp] theorem plain_str {i : Str} {l : List D} : plain (.str i :: l) = true := rfl
@[simp] theorem plain_tup {i : List D} {l : List D} : plain (.tup i :: l) = true := rfl
@[simp] theorem plain_lst {i : List D} {l : List D} : plain (.lst i :: l) = true := rfl
@[simp] theorem plain_loc {i : Nat} {l : List D} : plain (.loc i :: l) = true := rfl
@[simp] theorem plain_non {l : List D} : plain (.non :: l) = true := rfl
theorem plain_map {α : Type} {f : α → D} (h : ∀ a k, f a ≠ .tag k) : ∀ l : List α, plain (l.map f) = true
  | [] => rfl
  | a :: l => by
    show plain (f a :: l.map f) = true
    have := h a
    cases q : f a <;> first | rfl | (exact absurd q (this _))
@[simp] theorem ce0 {α : Type} {a : α} {l : List α} : (a :: l)[0]? = some a := rfl
section
variable {γ δ : Type} {ρ : List (Option D)} {M : Cells} {s : Sx}
@[simp] theorem bind_ok {a : γ} {k : γ → Cells → R δ} : (R.ok a M).bind k = k a M := rfl
@[simp] theorem bind_ex {e : Ex} {k : γ → Cells → R δ} : (R.ex e M : R γ).bind k = .ex e M := rfl
@[simp] theorem toS_ok {a : γ} {k : γ → Cells → RS} : (R.ok a M).toS ρ k = k a M := rfl
@[simp] theorem toS_ex {e : Ex} {k : γ → Cells → RS} : (R.ex e M : R γ).toS ρ k = .ex e ⟨ρ, M⟩ := rfl
@[simp] theorem opt_some {a : γ} : opt (some a) M = .ok a M := rfl
@[simp] theorem toB_ok {b : Bool} : toB (.ok (.bl b) M) = .ok b M := rfl
@[simp] theorem fC_s {d : D} : fC d s = .ok d s.M := rfl
@[simp] theorem fNil_s : fNil s = .ok [] s.M := rfl
@[simp] theorem fVar_s {i : Nat} : fVar i s = (match s.ρ[i]? with
  | some (some d) => .ok d s.M
  | _ => .no) := rfl
@[simp] theorem fCons_s {fa : Sx → R D} {fr : Sx → R (List D)} : fCons fa fr s = (fa s).bind fun d M1 => (fr ⟨s.ρ, M1⟩).bind fun l M2 => .ok (d :: l) M2 := rfl
@[simp] theorem fOp_s {g : Cells → D → D → Option D} {fa fb : Sx → R D} : fOp g fa fb s = (fa s).bind fun d M1 => (fb ⟨s.ρ, M1⟩).bind fun e M2 => opt (g M2 d e) M2 := rfl
@[simp] theorem fUn_s {g : Cells → D → Option D} {fa : Sx → R D} : fUn g fa s = (fa s).bind fun d M1 => opt (g M1 d) M1 := rfl
@[simp] theorem fCB_s {g : Cells → List D → Option D} {fa : Sx → R (List D)} : fCB g fa s = (fa s).bind fun l M1 => opt (g M1 l) M1 := rfl
@[simp] theorem fTup_s {f : Sx → R (List D)} : fTup f s = (f s).bind fun l M => if l.length ≤ 100000 then .ok (.tup l) M else .no := rfl
@[simp] theorem fLst_s {f : Sx → R (List D)} : fLst f s = (f s).bind fun l M => if l.length ≤ 100000 then .ok (.lst l) M else .no := rfl
@[simp] theorem fTst_s {f : Sx → R D} : fTst f s = toB (f s) := rfl
@[simp] theorem fAnd_s {f g : Sx → R Bool} : fAnd f g s = (f s).bind fun b M => if b = true then g ⟨s.ρ, M⟩ else .ok false M := rfl
@[simp] theorem fOr_s {f g : Sx → R Bool} : fOr f g s = (f s).bind fun b M => if b = true then .ok true M else g ⟨s.ρ, M⟩ := rfl
@[simp] theorem fNot_s {f : Sx → R Bool} : fNot f s = (f s).bind fun b M => .ok (!b) M := rfl
@[simp] theorem fIf_s {c : Sx → R Bool} {f g : Sx → R D} : fIf c f g s = (c s).bind fun b M => if b = true then f ⟨s.ρ, M⟩ else g ⟨s.ρ, M⟩ := rfl
@[simp] theorem fIfS_s {c : Sx → R Bool} {f g : Sx → RS} : fIfS c f g s = (c s).toS s.ρ fun b M => if b = true then f ⟨s.ρ, M⟩ else g ⟨s.ρ, M⟩ := rfl
@[simp] theorem fRet_s {f : Sx → R D} : fRet f s = (f s).toS s.ρ fun d M => .rt d ⟨s.ρ, M⟩ := rfl
@[simp] theorem fDrop_s {f : Sx → R D} : fDrop f s = (f s).toS s.ρ fun _ M => .nx ⟨s.ρ, M⟩ := rfl
@[simp] theorem fSkip_s : fSkip s = .nx s := rfl
@[simp] theorem fRaise_s {x : Str} : fRaise x s = .ex ⟨x, none⟩ s := rfl
@[simp] theorem fAsg_s {f : Sx → R D} {g : D → Sx → Option Sx} : fAsg f g s = (f s).toS s.ρ fun d M => match g d ⟨s.ρ, M⟩ with
  | some s => .nx s
  | none => .no := by
  unfold fAsg; congr
@[simp] theorem bName_s {i : Nat} {d : D} : bName i d s = some ⟨s.ρ.set i (some d), s.M⟩ := rfl
@[simp] theorem fFz_s {f : Sx → R (List D)} : fFz f s = (f s).bind fun l M => .ok (.lst l) M := rfl
@[simp] theorem fNew_s {f : Sx → R (List D)} : fNew f s = (f s).bind fun l M => if l.length ≤ 100000 then .ok l M else .no := rfl
@[simp] theorem fOwn_s {i : Nat} {f : Sx → R (List D)} : fOwn i f s = (f s).toS s.ρ fun l M => .nx ⟨s.ρ.set i (some (.loc M.length)), M ++ [l]⟩ := rfl
@[simp] theorem fIt_s {k : D → Option (List D)} {f : Sx → R D} : fIt k f s = (f s).bind fun d M => opt (k d) M := rfl
@[simp] theorem asTup_s {l : List D} : asTup (.tup l) = some l := rfl
@[simp] theorem asLst_s {l : List D} : asLst (.lst l) = some l := rfl
@[simp] theorem fFor_s {fi : Sx → R (List D)} {g : D → Sx → Option Sx} {b : Sx → RS} : fFor fi g b s = (fi s).toS s.ρ fun ds M => fForL g b ds ⟨s.ρ, M⟩ := rfl
@[simp] theorem forL_nil {g : D → Sx → Option Sx} {b : Sx → RS} : fForL g b [] s = .nx s := by unfold fForL; rfl
theorem seq_nx {f g : Sx → RS} {s1 : Sx} (h : f s = .nx s1) : fSeq f g s = g s1 := by unfold fSeq; rw [h]
theorem seq_rt {f g : Sx → RS} {s1 : Sx} {d : D} (h : f s = .rt d s1) : fSeq f g s = .rt d s1 := by unfold fSeq; rw [h]
theorem seq_ex {f g : Sx → RS} {s1 : Sx} {e : Ex} (h : f s = .ex e s1) : fSeq f g s = .ex e s1 := by unfold fSeq; rw [h]
@[simp] theorem seq_s {f g : Sx → RS} : fSeq f g s = (match f s with
  | .nx s1 => g s1
  | x => x) := by unfold fSeq; cases f s <;> rfl
/-! ints -/
@[simp] theorem gI_s {f : Int → Int → D} {i j : Int} : gI f M (.int i) (.int j) = some (f i j) := rfl
@[simp] theorem gIc_s {C : Int → Int → Bool} {f : Int → Int → D} {i j : Int} (h : C i j = true) : gIc C f M (.int i) (.int j) = some (f i j) := by
  unfold gIc; simp [h]
theorem mulOk_l {i j : Int} (h1 : -18446744073709551616 < i) (h2 : i < 18446744073709551616) : mulOk i j = true := by
  unfold mulOk; simp; left; omega
theorem mulOk_r {i j : Int} (h1 : -18446744073709551616 < j) (h2 : j < 18446744073709551616) : mulOk i j = true := by
  unfold mulOk; simp; right; omega
@[simp] theorem nMul_s {i j : Int} (h1 : -18446744073709551616 < i) (h2 : i < 18446744073709551616) : nMul M (.int i) (.int j) = some (.int (i * j)) := gIc_s (mulOk_l h1 h2)
@[simp] theorem gIx_tup {l : List D} {i : Int} : gIx M (.tup l) (.int i) = atI l i := rfl
@[simp] theorem gIx_lst {l : List D} {i : Int} : gIx M (.lst l) (.int i) = atI l i := rfl
@[simp] theorem atI_0 {α : Type} {d : α} {l : List α} : atI (d :: l) 0 = some d := atI_nat (j := 0) rfl
@[simp] theorem atI_1 {α : Type} {d e : α} {l : List α} : atI (d :: e :: l) 1 = some e := atI_nat (j := 1) rfl
@[simp] theorem atI_2 {α : Type} {d e f : α} {l : List α} : atI (d :: e :: f :: l) 2 = some f := atI_nat (j := 2) rfl
/-! equal, unlike -/
theorem dEq_int {i j : Int} : dEq M (.int i) (.int j) = some (decide (i = j)) := rfl
theorem dEq_bl {i j : Bool} : dEq M (.bl i) (.bl j) = some (decide (i = j)) := by cases i <;> cases j <;> rfl
theorem dEq_pt {a b c d : Int} : dEq M (.tup [.int a, .int b]) (.tup [.int c, .int d]) = some (decide (a = c) && decide (b = d)) := by
  show some _ = some _
  congr 1
  show (decide (a = c) && (decide (b = d) && true)) = _
  rw [Bool.and_true]
@[simp] theorem gEq_int {i j : Int} : gEq M (.int i) (.int j) = some (.bl (decide (i = j))) := rfl
@[simp] theorem gNe_int {i j : Int} : gNe M (.int i) (.int j) = some (.bl (!decide (i = j))) := rfl
@[simp] theorem gEq_pt {a b c d : Int} : gEq M (.tup [.int a, .int b]) (.tup [.int c, .int d]) = some (.bl (decide (a = c) && decide (b = d))) := by unfold gEq; rw [dEq_pt]; rfl
@[simp] theorem gNe_pt {a b c d : Int} : gNe M (.tup [.int a, .int b]) (.tup [.int c, .int d]) = some (.bl (!(decide (a = c) && decide (b = d)))) := by unfold gNe; rw [dEq_pt]; rfl
@[simp] theorem gEq_bl {i j : Bool} : gEq M (.bl i) (.bl j) = some (.bl (decide (i = j))) := by unfold gEq; rw [dEq_bl]; rfl
@[simp] theorem gNe_bl {i j : Bool} : gNe M (.bl i) (.bl j) = some (.bl (!decide (i = j))) := by unfold gNe; rw [dEq_bl]; rfl
/-! calls -/
theorem call_s {p : List D → Pu} {f : Sx → R (List D)} : fCall p f s = (f s).bind fun ds M => if lfs ds = true then (match p ds with
  | .ok d => .ok d M
  | .ex e => .ex e M
  | .no => .no) else .no := rfl
@[simp] theorem pu_rt {d : D} {M' : Cells} : (RS.rt d ⟨ρ, M'⟩).pu = match fz M' 0 d with
  | some e => .ok e
  | none => .no := by
  unfold RS.pu RS.out
  simp only [cut0]
  cases fz M' 0 d <;> rfl
@[simp] theorem pu_nx {M' : Cells} : (RS.nx ⟨ρ, M'⟩).pu = .ok .non := by
  unfold RS.pu RS.out
  simp only [cut0]
@[simp] theorem pu_ex {x : Str} {M' : Cells} : (RS.ex ⟨x, none⟩ ⟨ρ, M'⟩).pu = .ex ⟨x, none⟩ := by
  unfold RS.pu RS.out
  simp only [cut0]
@[simp] theorem fz_non {m : Nat} : fz M m .non = some .non := by unfold fz; rfl
@[simp] theorem fz_int {m : Nat} {i : Int} : fz M m (.int i) = some (.int i) := by unfold fz; rfl
@[simp] theorem fz_bl {m : Nat} {i : Bool} : fz M m (.bl i) = some (.bl i) := by unfold fz; rfl
@[simp] theorem fz_str {m : Nat} {i : Str} : fz M m (.str i) = some (.str i) := by unfold fz; rfl
@[simp] theorem fz_tup {m : Nat} {l : List D} : fz M m (.tup l) = (fzs M m l).map .tup := by unfold fz; rfl
@[simp] theorem fz_lst {m : Nat} {l : List D} : fz M m (.lst l) = (fzs M m l).map .lst := by unfold fz; rfl
@[simp] theorem fzs_nil {m : Nat} : fzs M m [] = some [] := by unfold fzs; rfl
@[simp] theorem fzs_cons {m : Nat} {d : D} {l : List D} : fzs M m (d :: l) = (match fz M m d, fzs M m l with
  | some p, some ps => some (p :: ps)
  | _, _ => none) := by first | (rw [fzs]; done) | (rw [fzs]; rfl)
mutual
theorem fz_lf {m : Nat} : ∀ {d : D}, d.lf = true → (∀ l, d ≠ .scr l) → (D.noscr d = true) → fz M m d = some d
  | .non, _, _, _ => by simp
  | .bl _, _, _, _ => by simp
  | .int _, _, _, _ => by simp
  | .str _, _, _, _ => by simp
  | .tup l, h, _, n => by
    unfold D.lf at h
    unfold D.noscr at n
    rw [fz_tup, fzs_lf h n]; rfl
  | .lst l, h, _, n => by
    unfold D.lf at h
    unfold D.noscr at n
    rw [fz_lst, fzs_lf h n]; rfl
  | .loc _, h, _, _ => by unfold D.lf at h; cases h
  | .adr _, _, _, _ => by unfold fz; rfl
  | .ty _, _, _, _ => by unfold fz; rfl
  | .scr l, _, h, _ => (h l rfl).elim
  | .fnv _ _ _, _, _, _ => by unfold fz; rfl
  | .tag _, _, _, n => by unfold D.noscr at n; cases n
theorem fzs_lf {m : Nat} : ∀ {l : List D}, lfs l = true → noscrs l = true → fzs M m l = some l
  | [], _, _ => by simp
  | d :: l, h, n => by
    unfold lfs at h
    unfold noscrs at n
    obtain ⟨h1, h2⟩ := Bool.and_eq_true_iff.mp h
    obtain ⟨n1, n2⟩ := Bool.and_eq_true_iff.mp n
    rw [fzs_cons, fz_lf h1 (fun l z => by rw [z] at n1; unfold D.noscr at n1; cases n1) n1, fzs_lf h2 n2]
end
end
/-! data that can be compared: None, ints, tuples and lists of such -/
mutual
def D.cmp : Nat → D → Bool
  | _, .non => true
  | _, .int _ => true
  | k + 1, .tup l => cmps k l
  | k + 1, .lst l => cmps k l
  | _, _ => false
def cmps : Nat → List D → Bool
  | _, [] => true
  | k, d :: l => d.cmp k && cmps k l
end
mutual
theorem cmp_py : ∀ {k : Nat} {d : D}, d.cmp k = true → ∃ p, pyOf d = some p ∧ p.canLay0 = true ∧ p.depth ≤ k
  | _, .non, _ => ⟨.none, by unfold pyOf; rfl, by simp [PyData.canLay0], by simp [PyData.depth]⟩
  | _, .int i, _ => ⟨.int i, by unfold pyOf; rfl, by simp [PyData.canLay0], by simp [PyData.depth]⟩
  | k + 1, .tup l, h => by
    unfold D.cmp at h
    obtain ⟨ps, h1, h2, h3⟩ := cmps_py h
    exact ⟨.tuple ps, by unfold pyOf; rw [h1]; rfl, by simpa [PyData.canLay0] using h2, by simp [PyData.depth]; omega⟩
  | k + 1, .lst l, h => by
    unfold D.cmp at h
    obtain ⟨ps, h1, h2, h3⟩ := cmps_py h
    exact ⟨.list ps, by unfold pyOf; rw [h1]; rfl, by simpa [PyData.canLay0] using h2, by simp [PyData.depth]; omega⟩
  | 0, .tup _, h => by unfold D.cmp at h; cases h
  | 0, .lst _, h => by unfold D.cmp at h; cases h
  | _, .bl _, h => by unfold D.cmp at h; cases h
  | _, .str _, h => by unfold D.cmp at h; cases h
  | _, .loc _, h => by unfold D.cmp at h; cases h
  | _, .adr _, h => by unfold D.cmp at h; cases h
  | _, .ty _, h => by unfold D.cmp at h; cases h
  | _, .scr _, h => by unfold D.cmp at h; cases h
  | _, .fnv _ _ _, h => by unfold D.cmp at h; cases h
  | _, .tag _, h => by unfold D.cmp at h; cases h
theorem cmps_py : ∀ {k : Nat} {l : List D}, cmps k l = true → ∃ ps, pysOf l = some ps ∧ PyData.canLayAll0 ps = true ∧ PyData.depthAll ps ≤ k
  | _, [], _ => ⟨[], by unfold pysOf; rfl, by simp [PyData.canLayAll0], by simp [PyData.depthAll]⟩
  | k, d :: l, h => by
    unfold cmps at h
    obtain ⟨h1, h2⟩ := Bool.and_eq_true_iff.mp h
    obtain ⟨p, a1, a2, a3⟩ := cmp_py h1
    obtain ⟨ps, b1, b2, b3⟩ := cmps_py h2
    exact ⟨p :: ps, by unfold pysOf; rw [a1, b1], by simp [PyData.canLayAll0, a2, b2], by simp only [PyData.depthAll]; omega⟩
end
mutual
theorem cmp_iff : ∀ {k j : Nat} {d e : D} {p q : PyData}, d.cmp k = true → e.cmp j = true → pyOf d = some p → pyOf e = some q → (PyData.eqv p q = true ↔ d = e)
  | _, _, d, e, _, _, h, g, h1, h2 => by
    cases d <;> (try (simp [D.cmp] at h; done)) <;> cases e <;> (try (simp [D.cmp] at g; done)) <;> (simp only [pyOf, Option.some.injEq, Option.map_eq_some_iff] at h1 h2)
    case non.non => subst h1 h2; simp [PyData.eqv]
    case int.int => subst h1 h2; simp [PyData.eqv]
    case tup.tup l m =>
      obtain ⟨ps, a1, rfl⟩ := h1
      obtain ⟨qs, b1, rfl⟩ := h2
      rename_i k j
      cases k <;> cases j <;> (try (simp [D.cmp] at h; done)) <;> (try (simp [D.cmp] at g; done))
      unfold D.cmp at h g
      simp only [PyData.eqv, D.tup.injEq]
      exact cmps_iff h g a1 b1
    case lst.lst l m =>
      obtain ⟨ps, a1, rfl⟩ := h1
      obtain ⟨qs, b1, rfl⟩ := h2
      rename_i k j
      cases k <;> cases j <;> (try (simp [D.cmp] at h; done)) <;> (try (simp [D.cmp] at g; done))
      unfold D.cmp at h g
      simp only [PyData.eqv, D.lst.injEq]
      exact cmps_iff h g a1 b1
    all_goals
      first
      | (obtain ⟨ps, a1, rfl⟩ := h1; obtain ⟨qs, b1, rfl⟩ := h2; simp [PyData.eqv])
      | (obtain ⟨ps, a1, rfl⟩ := h1; subst h2; simp [PyData.eqv])
      | (obtain ⟨ps, a1, rfl⟩ := h2; subst h1; simp [PyData.eqv])
      | (subst h1 h2; simp [PyData.eqv])
theorem cmps_iff : ∀ {k j : Nat} {l m : List D} {ps qs : List PyData}, cmps k l = true → cmps j m = true → pysOf l = some ps → pysOf m = some qs → (PyData.eqvAll ps qs = true ↔ l = m)
  | _, _, [], [], _, _, _, _, h1, h2 => by unfold pysOf at h1 h2; cases h1; cases h2; simp [PyData.eqvAll]
  | _, _, [], d :: m, _, _, _, g, h1, h2 => by
    unfold pysOf at h1 h2; cases h1
    split at h2
    · cases h2; simp [PyData.eqvAll]
    · cases h2
  | _, _, d :: m, [], _, _, _, g, h1, h2 => by
    unfold pysOf at h1 h2; cases h2
    split at h1
    · cases h1; simp [PyData.eqvAll]
    · cases h1
  | _, _, d :: l, e :: m, _, _, h, g, h1, h2 => by
    unfold pysOf at h1 h2
    unfold cmps at h g
    obtain ⟨ha, hb⟩ := Bool.and_eq_true_iff.mp h
    obtain ⟨ga, gb⟩ := Bool.and_eq_true_iff.mp g
    split at h1
    · rename_i p ps a1 a2
      split at h2
      · rename_i q qs b1 b2
        cases h1; cases h2
        simp only [PyData.eqvAll, Bool.and_eq_true, List.cons.injEq]
        exact and_congr (cmp_iff ha ga a1 b1) (cmps_iff hb gb a2 b2)
      · cases h2
    · cases h1
end
theorem cmp_at {M : Cells} {k : Nat} {d : D} (h : d.cmp k = true) : pyAt M d = pyOf d := by
  cases d <;> first | rfl | (unfold D.cmp at h; cases h)
theorem dEq_cmp {M : Cells} {d e : D} (h : d.cmp 60 = true) (g : e.cmp 60 = true) : ∃ b, dEq M d e = some b ∧ (b = true ↔ d = e) := by
  obtain ⟨p, a1, a2, a3⟩ := cmp_py h
  obtain ⟨q, b1, b2, b3⟩ := cmp_py g
  refine ⟨PyData.eqv p q, ?_, cmp_iff h g a1 b1⟩
  unfold dEq
  rw [cmp_at h, cmp_at g, a1, b1]
  simp only [SeqAt.shaped, a2, b2, Bool.true_and]
  rw [if_pos]
  simp; omega
theorem gNe_self {M : Cells} {d : D} (h : d.cmp 60 = true) : gNe M d d = some (.bl false) := by
  obtain ⟨b, h1, h2⟩ := dEq_cmp (M := M) h h
  unfold gNe; rw [h1, h2.mpr rfl]; rfl
theorem gEq_self {M : Cells} {d : D} (h : d.cmp 60 = true) : gEq M d d = some (.bl true) := by
  obtain ⟨b, h1, h2⟩ := dEq_cmp (M := M) h h
  unfold gEq; rw [h1, h2.mpr rfl]; rfl
theorem gNe_ne {M : Cells} {d e : D} (h : d.cmp 60 = true) (g : e.cmp 60 = true) (n : d ≠ e) : gNe M d e = some (.bl true) := by
  obtain ⟨b, h1, h2⟩ := dEq_cmp (M := M) h g
  unfold gNe; rw [h1]
  cases b with
  | true => exact (n (h2.mp rfl)).elim
  | false => rfl
theorem gEq_ne {M : Cells} {d e : D} (h : d.cmp 60 = true) (g : e.cmp 60 = true) (n : d ≠ e) : gEq M d e = some (.bl false) := by
  obtain ⟨b, h1, h2⟩ := dEq_cmp (M := M) h g
  unfold gEq; rw [h1]
  cases b with
  | true => exact (n (h2.mp rfl)).elim
  | false => rfl
theorem cmps_ints {k : Nat} : ∀ ns : List Int, cmps k (ns.map .int) = true
  | [] => by simp [cmps]
  | i :: r => by simp [cmps, D.cmp, cmps_ints r]
theorem cmps_all {k : Nat} : ∀ {l : List D}, (∀ d ∈ l, d.cmp k = true) → cmps k l = true
  | [], _ => by simp [cmps]
  | d :: l, h => by simp only [cmps, h d List.mem_cons_self, cmps_all fun e he => h e (List.mem_cons_of_mem _ he), Bool.and_self]
end DL

namespace DL
open PySem PySem.Spec L2
open PyProof.Rows hiding St

/-! ### the laws' dice -/
abbrev nDice : List Str := ["cell"]
def gDice  : Sx → RS := (fSeq (fIfS (fTst (fChain nLt nLt (fOp nSub (fC (.int 0)) (fC (.int 10))) (fVar 0) (fC (.int 10)))) (fRet (fOwnE (fNew (fCons (fCB gAbs (fCons (fVar 0) fNil)) (fCons (fC (.int 0)) (fCons (fC (.int 2)) fNil)))))) fSkip) (fRet (fOwnE (fNew (fCons (fVar 0) (fCons (fOp nAdd (fC (.int 1)) (fOp nMod (fCB gInt (fCons (fVar 0) fNil)) (fC (.int 1009)))) (fCons (fCB gInt (fCons (fOp nGe (fVar 0) (fOp nPow (fC (.int 10)) (fC (.int 18)))) fNil)) fNil)))))))
def mDice : List D → R D := autO 1 nDice (gDice )
abbrev nRoll : List Str := ["dice", "many", "found"]
def gRoll  : Sx → RS := (fSeq (fIfS (fOr (fTst (fOp gEq (fOp gIx (fVar 0) (fC (.int 2))) (fC (.int 2)))) (fAnd (fTst (fOp gEq (fOp gIx (fVar 0) (fC (.int 2))) (fC (.int 1)))) (fTst (fOp nGt (fOp gIx (fVar 0) (fC (.int 0))) (fC (.int 0)))))) (fSeq (fAsg (fOp nMod (fCB gInt (fCons (fOp gIx (fVar 0) (fC (.int 0))) fNil)) (fVar 1)) (bName 2)) (fSeq (fSetIx (fOp nDiv (fOp gIx (fVar 0) (fC (.int 0))) (fVar 1)) (fVar 0) (fC (.int 0))) (fRet (fVar 2)))) fSkip) (fSeq (fSetIx (fC (.int 0)) (fVar 0) (fC (.int 2))) (fSeq (fSetIx (fOp nMod (fCB gInt (fCons (fOp nAdd (fOp nAdd (fOp nMul (fOp gIx (fVar 0) (fC (.int 0))) (fC (.int 48271))) (fOp nMul (fOp gIx (fVar 0) (fC (.int 1))) (fC (.int 69621)))) (fC (.int 11))) fNil)) (fC (.int 2147483647))) (fVar 0) (fC (.int 0))) (fSeq (fSetIx (fOp nAdd (fOp gIx (fVar 0) (fC (.int 1))) (fC (.int 1))) (fVar 0) (fC (.int 1))) (fRet (fOp nMod (fCB gInt (fCons (fOp nAdd (fOp nDiv (fOp gIx (fVar 0) (fC (.int 0))) (fC (.int 7))) (fOp gIx (fVar 0) (fC (.int 0)))) fNil)) (fVar 1)))))))
def mRoll : List D → Cells → R D := autM 2 nRoll (gRoll )
abbrev nRounds : List Str := ["script", "most", "cells", "cell"]
def gRounds (sk : Option (Addr × List Int)) : Sx → RS := (fSeq (fAsg (fSlK sk (fVar 0) fNoPart (fPart (fVar 1))) (bName 2)) (fSeq (fIfS (fTst (fOp gEq (fVar 2) (fLst fNil))) (fAsg (fLst (fCons (fC (.int 0)) fNil)) (bName 2)) fSkip) (fRet (fFz (fLc (fIt asLst (fVar 2)) (bName 3) fTrue (fCallO mDice (fCons (fVar 3) fNil)) [3])))))
def mRounds (sk : Option (Addr × List Int)) : List D → R D := autO 2 nRounds (gRounds sk)
abbrev nPoint : List Str := ["dice", "far"]
def gPoint  : Sx → RS := (fRet (fTup (fCons (fOp nSub (fCallM mRoll (fCons (fVar 0) (fCons (fOp nAdd (fOp nMul (fC (.int 2)) (fVar 1)) (fC (.int 1))) fNil))) (fVar 1)) (fCons (fOp nSub (fCallM mRoll (fCons (fVar 0) (fCons (fOp nAdd (fOp nMul (fC (.int 2)) (fVar 1)) (fC (.int 1))) fNil))) (fVar 1)) fNil))))
def mPoint : List D → Cells → R D := autM 2 nPoint (gPoint )

@[simp] theorem gAbs_s {M : Cells} {i : Int} : gAbs M [.int i] = some (.int (if i < 0 then -i else i)) := rfl
@[simp] theorem gInt_i {M : Cells} {i : Int} : gInt M [.int i] = some (.int i) := rfl
@[simp] theorem gInt_b {M : Cells} {b : Bool} : gInt M [.bl b] = some (.int (if b = true then 1 else 0)) := rfl
@[simp] theorem nMod_s {M : Cells} {i j : Int} (h : 0 < j) : nMod M (.int i) (.int j) = some (.int (i % j)) := gIc_s (by simpa using h)
@[simp] theorem nDiv_s {M : Cells} {i j : Int} (h : 0 < j) (h2 : j < 1073741824) : nDiv M (.int i) (.int j) = some (.int (i / j)) := gIc_s (by simp; omega)
@[simp] theorem nMul_r {M : Cells} {i j : Int} (h1 : -18446744073709551616 < j) (h2 : j < 18446744073709551616) : nMul M (.int i) (.int j) = some (.int (i * j)) := gIc_s (mulOk_r h1 h2)
/-- three ints -/
abbrev Tri (a b c : Int) : List D := [.int a, .int b, .int c]
@[simp] theorem nPow_s {M : Cells} {i j : Int} (h : 0 ≤ j) (h2 : j ≤ 1000000) (h3 : i.natAbs < 18446744073709551616) : nPow M (.int i) (.int j) = some (.int (i ^ j.toNat)) := gIc_s (by simp; omega)
@[simp] theorem fChain_s {g g' : Cells → D → D → Option D} {fa fb fc : Sx → R D} {s : Sx} : fChain g g' fa fb fc s = (fa s).bind fun d M1 => (fb ⟨s.ρ, M1⟩).bind fun e M2 => (opt (g M2 d e) M2).bind fun z M3 => match z with
    | .bl b => if b = true then (fc ⟨s.ρ, M3⟩).bind fun w M4 => opt (g' M4 e w) M4 else .ok (.bl false) M3
    | _ => .no := rfl
@[simp] theorem fOwnE_s {f : Sx → R (List D)} {s : Sx} : fOwnE f s = (f s).bind fun l M => .ok (.loc M.length) (M ++ [l]) := rfl
@[simp] theorem outO_rt {d : D} {ρ : List (Option D)} {M : Cells} : (RS.rt d ⟨ρ, M⟩).outO = .ok d M := rfl
@[simp] theorem ix30 : ixN 3 0 = some 0 := rfl
@[simp] theorem ix31 : ixN 3 1 = some 1 := rfl
@[simp] theorem ix32 : ixN 3 2 = some 2 := rfl
@[simp] theorem fSetIx_s {fe fo fi : Sx → R D} {s : Sx} : fSetIx fe fo fi s = (fe s).toS s.ρ fun d M1 => (fo ⟨s.ρ, M1⟩).toS s.ρ fun o M2 => (fi ⟨s.ρ, M2⟩).toS s.ρ fun i M3 => match o, i with
  | .loc n, .int j => match lat M3 n with
    | some xs => match ixN xs.length j with
      | some k => .nx ⟨s.ρ, M3.set n (xs.set k d)⟩
      | none => .no
    | none => .no
  | _, _ => .no := by
  unfold fSetIx; congr
@[simp] theorem gIx_loc {M : Cells} {n : Nat} {i : Int} : gIx M (.loc n) (.int i) = (match lat M n with
  | some l => atI l i
  | none => none) := by
  unfold gIx seqOf
  dsimp only
  cases lat M n <;> rfl
theorem dice_ok (c : Int) : ∃ x y z, mDice [.int c] = .ok (.loc 0) [Tri x y z] := by
  by_cases h : -10 < c
  · by_cases h2 : c < 10
    · refine ⟨if c < 0 then -c else c, 0, 2, ?_⟩
      simp (disch := omega) [mDice, autO, gDice, init0, h, h2]
    · refine ⟨c, 1 + c % 1009, if (10 : Int) ^ 18 ≤ c then 1 else 0, ?_⟩
      simp (disch := omega) [mDice, autO, gDice, init0, h, h2]
  · refine ⟨c, 1 + c % 1009, if (10 : Int) ^ 18 ≤ c then 1 else 0, ?_⟩
    simp (disch := omega) [mDice, autO, gDice, init0, h]
@[simp] theorem out1 {ρ : List (Option D)} {x y z : Int} {r : Int} : RS.out 1 (.rt (.int r) ⟨ρ, [Tri x y z]⟩) = .ok (.int r) [Tri x y z] := by
  simp [RS.out, cutM, lfs, D.lf]
@[simp] theorem out1p {ρ : List (Option D)} {x y z : Int} {r q : Int} : RS.out 1 (.rt (.tup [.int r, .int q]) ⟨ρ, [Tri x y z]⟩) = .ok (.tup [.int r, .int q]) [Tri x y z] := by
  simp [RS.out, cutM, lfs, D.lf]
theorem roll_ok {a b c many : Int} (hm : 0 < many) (hm2 : many < 1073741824) : ∃ r x y z, mRoll [.loc 0, .int many] [Tri a b c] = .ok (.int r) [Tri x y z] ∧ 0 ≤ r ∧ r < many := by
  have fin : ∀ q : Int, 0 ≤ q % many ∧ q % many < many := fun q => ⟨Int.emod_nonneg _ (by omega), Int.emod_lt_of_pos _ hm⟩
  have old : ∀ a b c, c ≠ 2 → (c = 1 → ¬ 0 < a) → mRoll [.loc 0, .int many] [Tri a b c] = .ok (.int (((a * 48271 + b * 69621 + 11) % 2147483647 / 7 + (a * 48271 + b * 69621 + 11) % 2147483647) % many)) [Tri ((a * 48271 + b * 69621 + 11) % 2147483647) (b + 1) 0] := by
    intro a b c h h1
    by_cases hc : c = 1
    · have h2 := h1 hc
      subst hc
      simp (disch := omega) [mRoll, autM, gRoll, init0, h2]
    · simp (disch := omega) [mRoll, autM, gRoll, init0, h, hc]
  by_cases h : c = 2
  · refine ⟨a % many, a / many, b, c, ?_, fin _⟩
    simp (disch := omega) [mRoll, autM, gRoll, init0, h]
  · by_cases h1 : c = 1 ∧ 0 < a
    · refine ⟨a % many, a / many, b, c, ?_, fin _⟩
      simp (disch := omega) [mRoll, autM, gRoll, init0, h1.1, h1.2]
    · exact ⟨_, _, _, _, old a b c h (fun hc ha => h1 ⟨hc, ha⟩), fin _⟩
/-- every cell a dice -/
def AllTri (M : Cells) : Prop := ∀ l ∈ M, ∃ a b c, l = Tri a b c
theorem AllTri.at {M : Cells} (h : AllTri M) {n : Nat} (hn : n < M.length) : ∃ a b c, M[n]? = some (Tri a b c) := by
  obtain ⟨a, b, c, e⟩ := h M[n] (List.getElem_mem hn)
  exact ⟨a, b, c, by rw [List.getElem?_eq_getElem hn, e]⟩
theorem AllTri.put {M : Cells} (h : AllTri M) {n : Nat} {a b c : Int} : AllTri (M.set n (Tri a b c)) := fun l hl => by
  rcases List.mem_or_eq_of_mem_set hl with z | z
  · exact h l z
  · exact ⟨a, b, c, z⟩
theorem callM_at {fM : List D → Cells → R D} {f : Sx → R (List D)} {s : Sx} {n : Nat} {M : Cells} {r : D} {rest : List D} {l l' : List D} (hf : f s = .ok (.loc n :: rest) M) (hn : M[n]? = some l) (hl : lfs l = true) (hl' : lfs l' = true) (hr : lfs rest = true) (hd : r.lf = true)
    (h : fM (.loc 0 :: rest) [l] = .ok r [l']) : fCallM fM f s = .ok r (M.set n l') := by
  unfold fCallM
  rw [hf]
  simp [hn, hl, hl', hr, h, hd]
@[simp] theorem tri_lf {a b c : Int} : lfs (Tri a b c) = true := rfl
theorem point_ok {a b c far : Int} (h1 : 0 ≤ far) (h2 : far < 500000000) : ∃ p q x y z, mPoint [.loc 0, .int far] [Tri a b c] = .ok (.tup [.int p, .int q]) [Tri x y z] ∧ -far ≤ p ∧ p ≤ far ∧ -far ≤ q ∧ q ≤ far := by
  obtain ⟨r1, x, y, z, e1, b1, b2⟩ := roll_ok (a := a) (b := b) (c := c) (many := 2 * far + 1) (by omega) (by omega)
  obtain ⟨r2, x2, y2, z2, e2, b3, b4⟩ := roll_ok (a := x) (b := y) (c := z) (many := 2 * far + 1) (by omega) (by omega)
  refine ⟨r1 - far, r2 - far, x2, y2, z2, ?_, by omega, by omega, by omega, by omega⟩
  have c1 : fCallM mRoll (fCons (fVar 0) (fCons (fOp nAdd (fOp nMul (fC (.int 2)) (fVar 1)) (fC (.int 1))) fNil)) ⟨[some (.loc 0), some (.int far)], [Tri a b c]⟩ = .ok (.int r1) [Tri x y z] :=
    callM_at (n := 0) (M := [Tri a b c]) (rest := [.int (2 * far + 1)]) (by simp (disch := omega) [init0]) rfl rfl rfl rfl rfl e1
  have c2 : fCallM mRoll (fCons (fVar 0) (fCons (fOp nAdd (fOp nMul (fC (.int 2)) (fVar 1)) (fC (.int 1))) fNil)) ⟨[some (.loc 0), some (.int far)], [Tri x y z]⟩ = .ok (.int r2) [Tri x2 y2 z2] :=
    callM_at (n := 0) (M := [Tri x y z]) (rest := [.int (2 * far + 1)]) (by simp (disch := omega) [init0]) rfl rfl rfl rfl rfl e2
  unfold mPoint autM gPoint
  show RS.out 1 (fRet _ ⟨[some (.loc 0), some (.int far)], [Tri a b c]⟩) = _
  simp [c1, c2]
/-- a list comprehension, element by element -/
theorem lcGo_all {g : D → Sx → Option Sx} {t : Sx → R Bool} {e : Sx → R D} {ρ : List (Option D)} (Pd : D → Prop) (Iv : Cells → Prop)
    (h : ∀ d M, Iv M → ∃ s1, g d ⟨ρ, M⟩ = some s1 ∧ ∃ M1, t s1 = .ok true M1 ∧ ∃ y M2, e ⟨s1.ρ, M1⟩ = .ok y M2 ∧ Pd y ∧ Iv M2) : ∀ (l : List D) (M : Cells), Iv M → ∃ ys M', fLcGo g t e ρ l M = .ok ys M' ∧ ys.length = l.length ∧ (∀ y ∈ ys, Pd y) ∧ Iv M'
  | [], M, i => ⟨[], M, rfl, rfl, (fun _ z => by cases z), i⟩
  | d :: l, M, i => by
    obtain ⟨s1, e1, M1, e2, y, M2, e3, py, i2⟩ := h d M i
    obtain ⟨ys, M', q1, q2, q3, q4⟩ := lcGo_all Pd Iv h l M2 i2
    refine ⟨y :: ys, M', ?_, by simp [q2], fun z hz => ?_, q4⟩
    · rw [fLcGo, e1]
      simp only [e2, if_true, e3, q1]
      rfl
    · rcases List.mem_cons.mp hz with z | z
      · rw [z]; exact py
      · exact q3 _ z
/-- the rounds: a list of dice -/
theorem lcGo_dice {ρ : List (Option D)} (hρ : 3 < ρ.length) : ∀ (ns : List Int) (M : Cells), AllTri M → ∃ Mb, fLcGo (bName 3) fTrue (fCallO mDice (fCons (fVar 3) fNil)) ρ (ns.map .int) M = .ok ((List.range' M.length ns.length).map .loc) (M ++ Mb) ∧ AllTri (M ++ Mb) ∧ Mb.length = ns.length
  | [], M, i => ⟨[], by simp [fLcGo], by simpa using i, rfl⟩
  | c :: ns, M, i => by
    obtain ⟨x, y, z, e⟩ := dice_ok c
    have i2 : AllTri (M ++ [Tri x y z]) := fun l hl => by
      rcases List.mem_append.mp hl with q | q
      · exact i l q
      · simp at q; exact ⟨x, y, z, q⟩
    obtain ⟨Mb, q1, q2, q3⟩ := lcGo_dice hρ ns (M ++ [Tri x y z]) i2
    refine ⟨Tri x y z :: Mb, ?_, by simpa using q2, by simp [q3]⟩
    have c1 : fCallO mDice (fCons (fVar 3) fNil) ⟨ρ.set 3 (some (.int c)), M⟩ = .ok (.loc M.length) (M ++ [Tri x y z]) := by
      unfold fCallO
      simp [hρ, e, lfs, D.lf, D.sh, shs]
    rw [List.map_cons, fLcGo]
    simp only [bName_s, fTrue, if_true, c1, q1]
    simp [List.range'_succ]
theorem rounds_ok {sk : Option (Addr × List Int)} {d : D} {ns : List Int} (h : Scr sk d ns) (hl : ns.length ≤ 63) {most : Nat} (hm : most ≤ 63) :
    ∃ Mb, mRounds sk [d, .int most] = .ok (.lst ((List.range Mb.length).map .loc)) Mb ∧ AllTri Mb := by
  have cut : gCutK sk [] d none (some (most : Int)) = some (.lst ((ns.take most).map .int)) := by
    have e : dcut (ns.map .int) none (some (most : Int)) = (ns.take most).map .int := by
      unfold dcut
      rw [HT.sIx_none, List.length_map, show HT.sIx ns.length ns.length (some (most : Int)) = min most ns.length from HT.sIx_nat ns.length ns.length most]
      simp only [List.drop_zero, Nat.sub_zero, List.map_take]
      by_cases q : most ≤ ns.length
      · rw [Nat.min_eq_left q]
      · rw [Nat.min_eq_right (by omega), List.take_of_length_le (by simp), List.take_of_length_le (by simp; omega)]
    cases h with
    | lst => show some _ = _; rw [e]
    | frz => show some _ = _; rw [e]
    | mod => show (if _ = _ then _ else _) = _; rw [if_pos rfl, e]
  have hne : ∀ l : List Int, l ≠ [] → gEq [] (.lst (l.map .int)) (.lst []) = some (.bl false) := fun l h => gEq_ne (by unfold D.cmp; exact cmps_ints l) (by unfold D.cmp; exact cmps_ints []) (by simpa using h)
  have go : ∀ l : List Int, l.length ≤ 100000 → ∃ Mb, fRet (fFz (fLc (fIt asLst (fVar 2)) (bName 3) fTrue (fCallO mDice (fCons (fVar 3) fNil)) [3])) ⟨[some d, some (.int most), some (.lst (l.map .int)), none], []⟩ = .rt (.lst ((List.range Mb.length).map .loc)) ⟨[some d, some (.int most), some (.lst (l.map .int)), none], Mb⟩ ∧ AllTri Mb := by
    intro l hl
    obtain ⟨Mb, q1, q2, q3⟩ := lcGo_dice (ρ := [some d, some (.int most), some (.lst (l.map .int)), none]) (by simp) l [] (fun _ z => by cases z)
    refine ⟨Mb, ?_, by simpa using q2⟩
    have w : wipeD [some d, some (.int (most : Int)), some (.lst (l.map .int)), none] [3] = [some d, some (.int most), some (.lst (l.map .int)), none] := rfl
    simp only [fRet_s, fFz_s, fLc, fIt_s, fVar_s, List.getElem?_cons_succ, ce0, bind_ok, asLst_s, opt_some, List.length_map, hl, if_true, w, q1]
    simp [List.range_eq_range', q3]
  have fin : ∀ l : List Int, l ≠ [] → l.length ≤ 100000 → ∃ Mb, RS.outO (fSeq (fIfS (fTst (fOp gEq (fVar 2) (fLst fNil))) (fAsg (fLst (fCons (fC (.int 0)) fNil)) (bName 2)) fSkip) (fRet (fFz (fLc (fIt asLst (fVar 2)) (bName 3) fTrue (fCallO mDice (fCons (fVar 3) fNil)) [3]))) ⟨[some d, some (.int most), some (.lst (l.map .int)), none], []⟩) = .ok (.lst ((List.range Mb.length).map .loc)) Mb ∧ AllTri Mb := by
    intro l h hl
    obtain ⟨Mb, q1, q2⟩ := go l hl
    refine ⟨Mb, ?_, q2⟩
    rw [seq_nx (s1 := ⟨[some d, some (.int most), some (.lst (l.map .int)), none], []⟩) (by simp [hne l h]), q1]
    rfl
  have hl2 : ∀ k, (ns.take k).length ≤ 100000 := fun k => by simp; omega
  have first : fAsg (fSlK sk (fVar 0) fNoPart (fPart (fVar 1))) (bName 2) ⟨init0 nRounds [d, .int most], []⟩ = .nx ⟨[some d, some (.int most), some (.lst ((ns.take most).map .int)), none], []⟩ := by
    simp [fSlK, fNoPart, fPart, init0, cut]
  unfold mRounds autO
  show ∃ Mb, RS.outO (gRounds sk _) = _ ∧ _
  unfold gRounds
  rw [seq_nx first]
  by_cases h0 : ns.take most = []
  · obtain ⟨Mb, q1, q2⟩ := go [0] (by simp)
    refine ⟨Mb, ?_, q2⟩
    rw [h0, seq_nx (s1 := ⟨[some d, some (.int most), some (.lst ([0].map .int)), none], []⟩), q1]
    · rfl
    · have e : gEq [] (.lst ([].map D.int)) (.lst []) = some (.bl true) := gEq_self (by rfl)
      simp [e]
      rfl
  · exact fin _ h0 (hl2 _)
/-! more to run -/
@[simp] theorem fAug_s {g : Cells → D → D → Option D} {i : Nat} {f : Sx → R D} {s : Sx} {d e z : D} {M : Cells} (h1 : s.ρ[i]? = some (some d)) (h2 : f s = .ok e M) (h3 : g M d e = some z) : fAug g i f s = .nx ⟨s.ρ.set i (some z), M⟩ := by
  unfold fAug
  rw [h1]
  simp [h2, h3]
theorem sorted_perm {l m : List Pt} (h : l.Perm m) : l.mergeSort lePt = m.mergeSort lePt := by
  refine List.Perm.eq_of_pairwise (le := fun a b => lePt a b = true) (fun a b _ _ h1 h2 => ?_) (List.pairwise_mergeSort ?_ ?_ l) (List.pairwise_mergeSort ?_ ?_ m) (((List.mergeSort_perm l lePt).trans h).trans (List.mergeSort_perm m lePt).symm)
  · unfold lePt at h1 h2
    simp only [decide_eq_true_eq] at h1 h2
    refine Prod.ext ?_ ?_ <;> omega
  all_goals
    intros
    unfold lePt at *
    simp only [decide_eq_true_eq, Bool.or_eq_true] at *
    omega
@[simp] theorem fSorted_tup {M : Cells} {ps : List Pt} : gSorted M [.tup (ps.map pt)] = some (.lst ((ps.mergeSort lePt).map pt)) := by
  unfold gSorted
  simp [seqOf, unPts_map]
@[simp] theorem fSorted_lst {M : Cells} {ps : List Pt} : gSorted M [.lst (ps.map pt)] = some (.lst ((ps.mergeSort lePt).map pt)) := by
  unfold gSorted
  simp [seqOf, unPts_map]
theorem pt_cmp {k : Nat} (p : Pt) : (pt p).cmp (k + 1) = true := rfl
theorem pts_cmp {k : Nat} : ∀ ps : List Pt, cmps (k + 1) (ps.map pt) = true
  | [] => by simp [cmps]
  | p :: r => by
    show cmps (k + 1) (pt p :: r.map pt) = true
    unfold cmps
    rw [pts_cmp r, pt_cmp]; rfl
/-- a loop over a list, what stands before and behind each turn -/
theorem forL_inv {g : D → Sx → Option Sx} {b : Sx → RS} (Pd : D → Prop) (Iv : Sx → Prop) (h : ∀ d s, Pd d → Iv s → ∃ s1, g d s = some s1 ∧ ∃ s2, b s1 = .nx s2 ∧ Iv s2) : ∀ (l : List D) (s : Sx), (∀ d ∈ l, Pd d) → Iv s → ∃ s', fForL g b l s = .nx s' ∧ Iv s'
  | [], s, _, i => ⟨s, by simp, i⟩
  | d :: l, s, hd, i => by
    obtain ⟨s1, e1, s2, e2, i2⟩ := h d s (hd d List.mem_cons_self) i
    obtain ⟨s', e3, i3⟩ := forL_inv Pd Iv h l s2 (fun e he => hd e (List.mem_cons_of_mem _ he)) i2
    refine ⟨s', ?_, i3⟩
    rw [fForL, e1]
    simp only [e2, e3]
theorem atI_at {α : Type} {l : List α} {k : Nat} {x : α} (h : l[k]? = some x) : atI l (k : Int) = some x := atI_nat (j := k) h
theorem lcGo_filter {i : Nat} {t : Sx → R Bool} {ρ : List (Option D)} {M : Cells} (pd : Pt → Bool) (hρ : i < ρ.length) (ht : ∀ p, t ⟨ρ.set i (some (pt p)), M⟩ = .ok (pd p) M) : ∀ ws : List Pt, fLcGo (bName i) t (fVar i) ρ (ws.map pt) M = .ok ((ws.filter pd).map pt) M
  | [] => by simp [fLcGo]
  | w :: ws => by
    have ih := lcGo_filter pd hρ ht ws
    rw [List.map_cons, fLcGo]
    simp only [bName_s, ht]
    cases h : pd w with
    | true =>
      rw [if_pos rfl]
      simp [hρ, ih, h]
    | false =>
      rw [if_neg (by simp), ih, List.filter_cons_of_neg (by simp [h])]
theorem rg_mem {lo : Int} {n : Nat} {d : D} (h : d ∈ rgList lo n) : ∃ k : Nat, k < n ∧ d = .int (lo + k) := by
  unfold rgList at h
  obtain ⟨k, h1, h2⟩ := List.mem_map.mp h
  exact ⟨k, List.mem_range.mp h1, h2.symm⟩
theorem asRg1_s {j : Nat} (h : j ≤ 1000000) : asRg1 [.int (j : Int)] = some (rgList 0 j) := by
  unfold asRg1
  have e : rgOk (j : Int) = true := by unfold rgOk; simp; omega
  simp [e]
theorem asRg2_s {i j : Nat} (h1 : i ≤ 1000000) (h : j ≤ 1000000) : asRg2 [.int (i : Int), .int (j : Int)] = some (rgList i (j - i)) := by
  unfold asRg2
  have e : rgOk (j : Int) = true := by unfold rgOk; simp; omega
  have e2 : rgOk (i : Int) = true := by unfold rgOk; simp; omega
  simp [e, e2]
@[simp] theorem fPar_s {i j : Nat} {f : Sx → R (List D)} {s : Sx} : fPar i j f s = (f s).toS s.ρ fun l M => match l with
  | [d, e] => .nx ⟨(s.ρ.set i (some d)).set j (some e), M⟩
  | _ => .no := by
  unfold fPar; congr
@[simp] theorem fIts_s {k : List D → Option (List D)} {f : Sx → R (List D)} {s : Sx} : fIts k f s = (f s).bind fun d M => opt (k d) M := rfl
theorem dEq_str {M : Cells} {x y : Str} (h1 : PyData.strOk x = true) (h2 : PyData.strOk y = true) : dEq M (.str x) (.str y) = some (x == y) := by
  unfold dEq
  have e1 : pyAt M (.str x) = some (.str x) := by unfold pyAt pyOf; rfl
  have e2 : pyAt M (.str y) = some (.str y) := by unfold pyAt pyOf; rfl
  rw [e1, e2]
  simp [SeqAt.shaped, PyData.canLay0, PyData.depth, h1, h2, PyData.eqv]
theorem gNe_str {M : Cells} {x y : Str} (h1 : PyData.strOk x = true) (h2 : PyData.strOk y = true) : gNe M (.str x) (.str y) = some (.bl (!(x == y))) := by
  unfold gNe; rw [dEq_str h1 h2]; rfl
/-- the call of the rounds at the law's head -/
theorem rounds_call {sk : Option (Addr × List Int)} {d : D} {ns : List Int} {p : List D → R D} {f : Sx → R (List D)} {s : Sx} {Mb : Cells} {k : Int} (h : Scr sk d ns) (hs : s.M = []) (hf : f s = .ok [d, .int k] []) (e1 : p [d, .int k] = .ok (.lst ((List.range Mb.length).map .loc)) Mb) (hM : AllTri Mb) :
    fCallO p f s = .ok (.lst ((List.range Mb.length).map .loc)) Mb := by
  have lfd : d.lf = true := by
    have li : ∀ ns : List Int, lfs (ns.map .int) = true := fun ns => by
      induction ns with
      | nil => rfl
      | cons i r ih => show lfs (D.int i :: r.map .int) = true; unfold lfs; rw [ih]; rfl
    cases h with
    | lst => unfold D.lf; exact li ns
    | frz => unfold D.lf; exact li ns
    | mod => rfl
  have sh1 : ∀ l : List Nat, shs 0 (l.map .loc) = l.map .loc := fun l => by
    induction l with
    | nil => rfl
    | cons n r ih =>
      show shs 0 (D.loc n :: r.map .loc) = _
      unfold shs D.sh
      rw [ih, Nat.zero_add]; rfl
  have sh2 : Mb.map (shs 0) = Mb := by
    conv => rhs; rw [← List.map_id Mb]
    refine List.map_congr_left fun l hl => ?_
    obtain ⟨a, b, c, rfl⟩ := hM l hl
    rfl
  unfold fCallO
  rw [hf]
  simp [lfs, D.lf, lfd, e1, D.sh, sh1, sh2]
end DL

namespace DL
open PySem PySem.Spec L2 GenW
open PyProof.Rows hiding St
/-! ### generator expressions drawn at once: the frame -/
theorem over_gx {A : Around} {elt : Expr} {gs : List Comprehension} {sc : Scope} {gp : Pos} {it acc : Value} {env : Env} : A.over (.compLoop (.GeneratorExp elt gs sc gp) 0 it acc env) [] = A.deeper env := by
  first
    | rfl
    | (obtain ⟨hd, d, fr, g, u⟩ := A; simp [Around.over, Around.deeper, marksOver, frameCount, unitsOf, envsOf, guardsOf, pushEnvs, pushGuards, Code.envs, Code.env?, Code.isFrame, Code.guards, Code.isGuard, Code.weight, Code.frames, Code.isCreation, Code.isCaller, Code.cUnits])
theorem over_gx0 {A : Around} {elt : Expr} {gs : List Comprehension} {sc : Scope} {gp : Pos} {it acc : Value} {env : Env} : A.over (.compStart (.GeneratorExp elt gs sc gp) 0 it acc env) [] = A.deeper env := by
  first
    | rfl
    | (obtain ⟨hd, d, fr, g, u⟩ := A; simp [Around.over, Around.deeper, marksOver, frameCount, unitsOf, envsOf, guardsOf, pushEnvs, pushGuards, Code.envs, Code.env?, Code.isFrame, Code.guards, Code.isGuard, Code.weight, Code.frames, Code.isCreation, Code.isCaller, Code.cUnits])
/-- the names of a generator expression's frame: its own (no cells), captured ones -/
structure GxOk (N : List Str) (sc scope : Scope) (own : List (Str × Nat)) : Prop where
  kind : scope.kind = .function
  co : scope.isCoroutine = false
  nocell : ∀ y ∈ scope.names, y.2 ≠ .cell
  dot : scope.names.lookup (".0" : Str) = some NameKind.local
  ix : ∀ p ∈ own, N[p.2]? = some p.1
  free : ∀ y ∈ scope.names, y.2 = .free → sc.names.lookup y.1 = some .cell ∨ sc.names.lookup y.1 = some .free
  own : ∀ y ∈ scope.names, y.2 = .local → y.1 ∈ own.map (·.1) ∨ y.1 ∉ N
def gxC (N : List Str) (sc scope : Scope) (own : List (Str × Nat)) : Bool :=
  decide (scope.kind = .function) && !scope.isCoroutine && decide (scope.names.lookup (".0" : Str) = some NameKind.local) && own.all (fun p => decide (N[p.2]? = some p.1)) &&
    scope.names.all fun y => !decide (y.2 = .cell) && (!decide (y.2 = .free) || decide (sc.names.lookup y.1 = some .cell) || decide (sc.names.lookup y.1 = some .free)) && (!decide (y.2 = .local) || decide (y.1 ∈ own.map (·.1)) || decide (y.1 ∉ N))
theorem gxOk_by {N : List Str} {sc scope : Scope} {own : List (Str × Nat)} (h : gxC N sc scope own = true) : GxOk N sc scope own := by
  unfold gxC at h
  simp only [Bool.and_eq_true, Bool.or_eq_true, Bool.not_eq_true', decide_eq_true_eq, decide_eq_false_iff_not, List.all_eq_true] at h
  obtain ⟨⟨⟨⟨h1, h2⟩, h3⟩, h4⟩, h5⟩ := h
  refine ⟨h1, h2, fun y hy => (h5 y hy).1.1, h3, h4, fun y hy e => ?_, fun y hy e => ?_⟩
  · rcases (h5 y hy).1.2 with (z | z) | z
    · exact absurd e z
    · exact .inl z
    · exact .inr z
  · rcases (h5 y hy).2 with (z | z) | z
    · exact absurd e z
    · exact .inl z
    · exact .inr z
/-- the context of the frame; s: the state ahead of it -/
def gxCx (X : Cx) (A : Around) (s : Shared) (H : Hp) (cenv : Env) (fp : List Addr) : Cx where
  prog := X.prog
  w := X.w
  K := X.K
  mg := X.mg
  base := X.base
  A := A.deeper cenv
  N := X.N
  s_0 := s
  H_0 := H
  env := cenv
  outer := X.stack
  stack := cenv :: X.stack
  ex := fp
  fn := fun _ => false
  calm := true
  pn := []
  xe := fun _ _ => False
abbrev gxEnv (X : Cx) (scope : Scope) (C : Addr) (code : Value) : Env := genEnv scope (cloFrom X.env.cells scope.names []) C code builtinsNs X.env
section
variable {X : Cx} {pins : List (Addr × Obj)} {σ : L2.St} {H : Hp} {s s2 : Shared}
theorem GxOk.has {N : List Str} {scope : Scope} {own : List (Str × Nat)} (ok : GxOk N X.env.scope scope own) (oX : X.Ok) : ∀ y ∈ scope.names, y.2 = .free → ∃ c, X.env.cells.lookup y.1 = some c := fun y hy e => by
  rcases ok.free y hy e with k | k
  · exact oX.has _ (.inl k)
  · exact oX.has _ (.inr k)
theorem gx_start {A : Around} {scope : Scope} {own : List (Str × Nat)} {fp : List Addr} {code : Value} {m : Str → Option Value} {pl : List (Addr × Obj)} (I : Inv X pins σ H s) (ok : GxOk X.N X.env.scope scope own) (hN : X.N.Nodup) (hfp : ∀ b ∈ fp, FpOk X pins H b ∧ b < s.heap.objs.size)
    (hA : A.frames = X.A.frames) (hd : A.handled = none) (kp : ∀ b o, s.heap.get? b = some o → s2.heap.get? b = some o) (hns : s2.heap.Ns s.heap.objs.size m) (hos : s2.os = s.os) (hb : AllBare s2.gens)
    (hpl : ∀ p ∈ pl, s2.heap.get? p.1 = some p.2 ∧ s.heap.objs.size < p.1 ∧ ∀ v, p.2.data ≠ .cell v) :
    Inv (gxCx X A s H (gxEnv X scope s.heap.objs.size code) fp) pl (wipe σ (own.map (·.2))) H s2 := by
  have hfree := ok.has I.ok
  have cm : ∀ {y c}, (cloFrom X.env.cells scope.names []).lookup y = some c → X.env.cells.lookup y = some c := fun {y c} e => by
    rcases cloFrom_mem (PySem.mem_of_lookup e) with hm | ⟨h1, h2⟩
    · cases hm
    · obtain ⟨c1, hc⟩ := hfree _ h1 rfl
      have hc : X.env.cells.lookup y = some c1 := hc
      have e2 : c = c1 := by
        rw [h2, hc] <;> rfl
      rw [e2]
      exact hc
  have look : ∀ {y}, scope.names.lookup y = some .free → ∃ c, (cloFrom X.env.cells scope.names []).lookup y = some c := fun {y} hl => by
    have hy : (y, NameKind.free) ∈ scope.names := PySem.mem_of_lookup hl
    exact mem_lookup (cloFrom_has (cells := X.env.cells) (acc := []) hy)
  have cellK : ∀ {c : Addr} {v : Option Value}, s.heap.IsCell c v → s2.heap.IsCell c v := fun {c v} ⟨o, ho, hd⟩ => ⟨o, kp _ _ ho, hd⟩
  have clt : ∀ {y c}, X.env.cells.lookup y = some c → c < s.heap.objs.size := fun {y c} e => by
    obtain ⟨w, z⟩ := I.cell _ _ e
    exact z.lt
  refine ⟨⟨I.ok.mod, ok.kind, I.ok.glob, rfl, Nat.le_refl _, fun y z c e1 e2 => I.ok.inj y z c (cm e1) (cm e2), fun y hy => ?_, fun y c z _ => ?_, fun _ => hd, Around.frames_deeper (hA.trans I.ok.frames), .inr ⟨rfl, rfl⟩, fun b z => ⟨?_, fun y c e => ?_⟩, I.bs, Nat.le_trans I.ok.bsz I.sz, fun b o e z => ?_, fun b z y => ?_, I.stack, I.stkFree⟩,
    hos, hb, Un.kept kp, ⟨m, hns, fun i y v e1 e2 e3 => ?_⟩, fun y c e => ?_, I.hok.fresh (Nat.le_refl _), fun y c e => I.freeC y c (cm e), fun p hp => ?_, I.hok.kept kp, ?_⟩
  · have hy : scope.names.lookup y = some .cell ∨ scope.names.lookup y = some .free := hy
    rcases hy with hy | hy
    · exact absurd rfl (ok.nocell _ (PySem.mem_of_lookup hy))
    · exact look hy
  · have z : false = true := z
    cases z
  · have z : b ∈ fp := z
    exact Nat.ne_of_lt (hfp b z).2
  · have z : b ∈ fp := z
    exact (hfp b z).1.2.2.2.2.1 y c (cm e)
  · have z : b ∈ fp := z
    rcases (hfp b z).1.2.2.2.1 with q | q
    · exact I.ok.noex b o e q
    · exact absurd (Nat.lt_of_lt_of_le (Heap.lt_size e) (Nat.le_trans I.ok.bsz q)) (Nat.lt_irrefl _)
  · have z : b ∈ fp := z
    have y : b ∈ frs X.stack := y
    rcases List.mem_cons.mp (I.stkSub b y) with q | q
    · exact (hfp b z).1.2.1 q
    · exact (hfp b z).1.2.2.1 q
  · obtain ⟨e2, hne⟩ := wipe_some e2
    have e1 : X.N[i]? = some y := e1
    have e3 : Vis scope y := e3
    rcases e3 with k | k | k
    · rcases ok.own _ (PySem.mem_of_lookup k) rfl with q | q
      · obtain ⟨p, hp, hpy⟩ := List.mem_map.mp q
        have e4 := ok.ix p hp
        have hpy : p.1 = y := hpy
        rw [hpy] at e4
        exact absurd (List.mem_map.mpr ⟨p, hp, nodup_ix hN e4 e1⟩) hne
      · exact absurd (List.mem_of_getElem? e1) q
    · exact absurd rfl (ok.nocell _ (PySem.mem_of_lookup k))
    · obtain ⟨m', hn, hl⟩ := I.loc
      have hvis : Vis X.env.scope y := (ok.free _ (PySem.mem_of_lookup k) rfl).elim (fun k => .inr (.inl k)) (fun k => .inr (.inr k))
      obtain ⟨w', r, q⟩ := hl i y v e1 e2 hvis
      obtain ⟨c2, h2⟩ := look k
      refine ⟨w', r, .inr ⟨.inr k, c2, h2, ?_⟩⟩
      have c1 := cm h2
      rcases q with ⟨k', _⟩ | ⟨_, c3, e', z⟩
      · have k' : X.env.scope.names.lookup y = some .local := k'
        rcases ok.free _ (PySem.mem_of_lookup k) rfl with k2 | k2 <;> rw [show X.env.scope.names.lookup y = _ from k2] at k' <;> cases k'
      · rw [c1] at e'
        cases e'
        exact cellK z
  · obtain ⟨w', z⟩ := I.cell y c (cm e)
    exact ⟨w', cellK z⟩
  · have hp : p ∈ pl := hp
    obtain ⟨h1, h2, h3⟩ := hpl p hp
    exact ⟨h1, I.hok.fresh (Nat.le_of_lt h2), Nat.ne_of_gt h2, fun z => by
      have z : p.1 ∈ frs X.stack := z
      rcases List.mem_cons.mp (I.stkSub _ z) with q | q
      · have := I.lt
        rw [← q] at this
        exact absurd (Nat.lt_trans this h2) (Nat.lt_irrefl _)
      · exact I.nofs (Nat.le_of_lt h2) q, h3⟩
  · rw [wipe_length]; exact I.len
/-- the frame is left: back in the context around it -/
theorem gx_back {A : Around} {cenv : Env} {fp : List Addr} {pl : List (Addr × Obj)} {σw : L2.St} {H' : Hp} (I : Inv X pins σ H s) (hfp : ∀ b ∈ fp, FpOk X pins H b) (J : Inv (gxCx X A s H cenv fp) pl σw H' s2) : Inv X pins σ H' s2 :=
  I.call' (ch := fp) J.os J.base J.hok J.bare fun b hb => ⟨(hfp b hb).2.2.2.1, (hfp b hb).2.1, (hfp b hb).2.2.2.2.1, (hfp b hb).2.2.2.2.2⟩
theorem Inv.gens {s' : Shared} (I : Inv X pins σ H s) (hh : s'.heap = s.heap) (ho : s'.os = s.os) (hb : AllBare s'.gens) : Inv X pins σ H s' :=
  I.call' (ch := []) ho (by rw [hh]; exact Un.refl) (by rw [hh]; exact I.hok) hb fun b z => by simp at z
end
end DL

namespace DL
open PySem PySem.Spec L2 GenW
open PyProof.Rows hiding St
/-! ### what is drawn, as a function on data -/
def gxGo {κ : Type} (g : D → Sx → Option Sx) (t : Sx → R Bool) (e : Sx → R D) (ρ : List (Option D)) (step : κ → D → Option (κ ⊕ D)) (fin : κ → D) : κ → List D → Cells → R D
  | a, [], M => .ok (fin a) M
  | a, d :: r, M => match g d ⟨ρ, M⟩ with
    | none => .no
    | some s1 => match t s1 with
      | .ok b M1 => if b = true then (match e ⟨s1.ρ, M1⟩ with
        | .ok y M2 => match step a y with
          | some (.inl a') => gxGo g t e ρ step fin a' r M2
          | some (.inr d) => .ok d M2
          | none => .no
        | _ => .no) else gxGo g t e ρ step fin a r M1
      | _ => .no
/-- while the frame sleeps: the consumer's own objects pl become pl', all else is kept -/
structure SleptG (pl pl' : List (Addr × Obj)) (s s' : Shared) : Prop where
  os : s'.os = s.os
  bare : AllBare s'.gens
  keep : ∀ b o, b ∉ pl.map (·.1) → s.heap.get? b = some o → s'.heap.get? b = some o
  same : pl'.map (·.1) = pl.map (·.1)
  has : ∀ p ∈ pl', s'.heap.get? p.1 = some p.2 ∧ ∀ v, p.2.data ≠ .cell v
theorem gx_woken {X : Cx} {σ : L2.St} {H : Hp} {s s' : Shared} {pg : Addr × Obj} {pl pl' : List (Addr × Obj)} (hpn : X.pn = []) (hcl : ∀ y c, X.env.cells.lookup y = some c → c < X.s_0.heap.objs.size) (I : Inv X (pg :: pl) σ H s) (hne : ∀ p ∈ pl, p.1 ≠ pg.1 ∧ X.s_0.heap.objs.size ≤ p.1) (z : SleptG pl pl' s s') :
    Inv X (pg :: pl') σ H s' := by
  have pp : ∀ p ∈ pl, s.heap.get? p.1 = some p.2 ∧ H p.1 = none ∧ p.1 ≠ X.env.locals ∧ p.1 ∉ X.fs ∧ ∀ v, p.2.data ≠ .cell v := fun p hp => I.pin p (by rw [hpn]; exact List.mem_cons_of_mem _ hp)
  have p0 := I.pin pg (by rw [hpn]; exact List.mem_cons_self)
  have ch : ∀ b, b ∈ pl.map (·.1) → ∃ p ∈ pl, p.1 = b := fun b hb => by
    obtain ⟨p, hp, e⟩ := List.mem_map.mp hb
    exact ⟨p, hp, e⟩
  have nt : ∀ b u, H b = some u → b ∉ pl.map (·.1) := fun b u q hb => by
    obtain ⟨p, hp, e⟩ := ch b hb
    have := (pp p hp).2.1
    rw [e, q] at this; cases this
  have I0 : Inv X [] σ H s := I.pins_of fun p hp => by simp at hp
  have h' := z.has
  obtain ⟨z1, z2, z3, z4, _⟩ := z
  obtain ⟨hh, g, d, t, o⟩ := s'
  have ho : o = s.os := z1
  subst ho
  have J : Inv X [] σ H { s with heap := hh, gens := g, drawn := d, toks := t } := by
    refine I0.step (g' := g) (t' := t) (d' := d) (ch := pl.map (·.1)) (fun b hb => ?_) (fun b ob _ _ hc q _ => z3 b ob hc q) (fun b ob _ _ hc q _ => ⟨ob.slots, z3 b ob hc q⟩) (fun _ _ _ _ n => n) (fun b ob hc q => ⟨ob, z3 b ob hc q⟩)
      (fun _ _ q => q) (fun _ _ _ q => q) (fun b ps q => ⟨#[], by rw [q]; simp⟩) (fun m hm => ?_) (fun b u q => ?_) z2
    · obtain ⟨p, hp, e⟩ := ch b hb
      obtain ⟨q1, q2, q3, q4, q5⟩ := pp p hp
      rw [← e]
      refine ⟨.inr (hne p hp).2, q3, fun y c ec zc => ?_, fun q hq => ?_⟩
      · exact absurd (Nat.lt_of_lt_of_le (hcl y c ec) (by rw [zc]; exact (hne p hp).2)) (Nat.lt_irrefl _)
      · rw [hpn] at hq; simp at hq
    · obtain ⟨ob, es, ep, ho, r⟩ := hm
      refine ⟨ob, es, ep, z3 _ ob (fun hb => ?_) ho, r⟩
      obtain ⟨p, hp, e⟩ := ch _ hb
      exact (pp p hp).2.2.1 e
    · refine (I0.hok b u q).stay (fun c v hc y => z3 c v ?_ y) (fun _ y => y) fun _ _ y => y
      rcases hc with y | y
      · rw [y]; exact nt b u q
      · exact nt c _ y
  refine J.pins_of fun p hp => ?_
  rcases List.mem_cons.mp hp with hp | hp
  · rw [hp]
    refine ⟨z3 _ _ (fun hb => ?_) p0.1, p0.2⟩
    obtain ⟨q, hq, e⟩ := ch _ hb
    exact (hne q hq).1 e
  · have hb : p.1 ∈ pl.map (·.1) := by rw [← z4]; exact List.mem_map.mpr ⟨p, hp, rfl⟩
    obtain ⟨q, hq, e⟩ := ch _ hb
    obtain ⟨_, q2, q3, q4, _⟩ := pp q hq
    rw [e] at q2 q3 q4
    exact ⟨(h' p hp).1, q2, q3, q4, (h' p hp).2⟩
/-! ### the protocol -/
/-- all that stays the same through the drawing -/
structure GxP (κ : Type) where
  X' : Cx
  T : TPr
  mg : Str → Option Value
  vs : List Nat
  σ : L2.St
  ρ : List (Option D)
  α : List Addr
  N : Addr → Prop
  H : Hp
  W : WX
  Q : VK
  pg : Addr × Obj
  fp : List Addr
  tn : Nat → Heap → Prop
  ds : List D
  g : D → Sx → Option Sx
  t : Sx → R Bool
  e : Sx → R D
  step : κ → D → Option (κ ⊕ D)
  fin : κ → D
  hold : κ → List (Addr × Obj) → Prop
variable {κ : Type}
abbrev GxP.go (Γ : GxP κ) (a : κ) (i : Nat) (M : Cells) : R D := gxGo Γ.g Γ.t Γ.e (wipeD Γ.ρ Γ.vs) Γ.step Γ.fin a (Γ.ds.drop i) M
/-- the frame at a turn's head, or asleep -/
structure GxAt (Γ : GxP κ) (i : Nat) (pl : List (Addr × Obj)) (M : Cells) (α : List Addr) (N : Addr → Prop) (H : Hp) (s : Shared) : Prop where
  inv : Inv Γ.X' (Γ.pg :: pl) (L2.wipe Γ.σ Γ.vs) H s
  st : StR Γ.T N H Γ.σ ⟨Γ.ρ, M⟩ α
  ext : Ext Γ.α Γ.N Γ.H α N H
  tn : Γ.tn i s.heap
  nfp : ∀ b ∈ Γ.fp, H b = none
  le : i ≤ Γ.ds.length
abbrev GxP.post (Γ : GxP κ) (r : R D) : Prop := Post Γ.T Γ.mg RelD Γ.N Γ.α Γ.H Γ.σ Γ.ρ Γ.W Γ.Q r
def GxY (Γ : GxP κ) : Protocol := fun n s₀ v s kap => ∃ a i y x pl M α N H, Γ.hold a pl ∧ (∀ p ∈ pl, s₀.heap.get? p.1 = some p.2) ∧ GxAt Γ i pl M α N H s ∧ Γ.ds.length - i ≤ n ∧ RelV x v ∧ Rel H N α y x ∧
  Γ.post (match Γ.step a y with | some (.inl a') => Γ.go a' i M | some (.inr d) => .ok d M | none => .no) ∧
  ∀ a' s' pl', Γ.step a y = some (.inl a') → Γ.hold a' pl' → SleptG pl pl' s s' → kap (.send .none) s'
def GxEnd (Γ : GxP κ) (s₀ s : Shared) : Prop := ∃ a pl M α N H, Γ.hold a pl ∧ (∀ p ∈ pl, s₀.heap.get? p.1 = some p.2) ∧ Inv Γ.X' (Γ.pg :: pl) (L2.wipe Γ.σ Γ.vs) H s ∧ StR Γ.T N H Γ.σ ⟨Γ.ρ, M⟩ α ∧ Ext Γ.α Γ.N Γ.H α N H ∧ Γ.post (.ok (Γ.fin a) M)
def GxR (Γ : GxP κ) : GenEnd := fun _ s₀ r s => r = .ok .next ∧ GxEnd Γ s₀ s
structure GxW (Γ : GxP κ) (A : Around) (cenv : Env) (tg : Expr) (J : It) (it : Addr) (ifs : List Expr) (elt : Expr) : Prop where
  env : Γ.X'.env = cenv
  mg : Γ.mg = Γ.X'.mg
  A : Γ.X'.A = A.deeper cenv
  xe : Γ.X'.xe = fun _ _ => False
  pn : Γ.X'.pn = []
  ex : Γ.X'.ex = Γ.fp
  calm : Γ.X'.calm = true
  cl : ∀ y c, Γ.X'.env.cells.lookup y = some c → c < Γ.X'.s_0.heap.objs.size
  co : cenv.scope.isCoroutine = false
  T : Turn Γ.X'.prog Γ.X'.w Γ.X'.K tg J Γ.fp it Γ.tn
  it : ItD Γ.T J Γ.ds Γ.α Γ.N Γ.H
  pg : Γ.pg.1 ∉ Γ.fp
  hold : ∀ a pl, Γ.hold a pl → ∀ p ∈ pl, p.1 ≠ Γ.pg.1 ∧ Γ.X'.s_0.heap.objs.size ≤ p.1 ∧ p.1 ∉ Γ.fp
  pgt : PG Γ.X' tg (tT Γ.T Γ.vs Γ.g)
  pts : PTs Γ.X' ifs (tB' Γ.T Γ.mg W0 Γ.t)
  pe : PE Γ.X' elt (tD Γ.T Γ.mg W0 Γ.e)
section
variable {Γ : GxP κ} {A : Around} {cenv : Env} {tg iter elt : Expr} {ifs : List Expr} {scope : Scope} {gpos : Pos} {J : It} {it : Addr}
theorem gx_loop (Z : GxW Γ A cenv tg J it ifs elt) : ∀ (k i n : Nat) (s₀ s : Shared) (a : κ) (pl : List (Addr × Obj)) (M : Cells) (α : List Addr) (N : Addr → Prop) (H : Hp), Γ.ds.length - i = k → k ≤ n → Γ.hold a pl → (∀ p ∈ pl, s₀.heap.get? p.1 = some p.2) → GxAt Γ i pl M α N H s → Γ.post (Γ.go a i M) →
    Seg (model Γ.X'.prog Γ.X'.w) A (GxR Γ) (GxY Γ) n s₀ (.compLoop (.GeneratorExp elt [⟨tg, iter, ifs, 0⟩] scope gpos) 0 (.ref it) .none cenv)
      ((model Γ.X'.prog Γ.X'.w).den (.compLoop (.GeneratorExp elt [⟨tg, iter, ifs, 0⟩] scope gpos) 0 (.ref it) .none cenv)) [] s := by
  have ce := Z.env
  subst ce
  have stat : ∀ {pl : List (Addr × Obj)} {σ' : L2.St} {H' : Hp} {s' : Shared} {a : κ}, Γ.hold a pl → Inv Γ.X' (Γ.pg :: pl) σ' H' s' → (∀ b ∈ Γ.fp, H' b = none) → ∀ b ∈ Γ.fp, FpOk Γ.X' (Γ.pg :: pl) H' b := fun {pl σ' H' s' a} hh I' hn b hb =>
    ⟨hn b hb, (I'.ok.exf b (by rw [Z.ex]; exact hb)).1, I'.ok.exfs b (by rw [Z.ex]; exact hb), .inl (by rw [Z.ex]; exact hb), fun x c e => (I'.ok.exf b (by rw [Z.ex]; exact hb)).2 x c e, fun p hp q => by
      rw [Z.pn] at hp
      rcases List.mem_cons.mp hp with hp | hp
      · rw [hp] at q; exact Z.pg (by rw [q]; exact hb)
      · exact (Z.hold a pl hh p hp).2.2 (by rw [q]; exact hb)⟩
  intro k
  induction k with
  | zero =>
    intro i n s₀ s a pl M α N H hk hn hh h0 at_ hp
    have hi : i = Γ.ds.length := by have := at_.le; omega
    obtain ⟨hstop, _⟩ := Z.it i α N H at_.ext.toW at_.st.c.sub
    have hp2 : Γ.post (.ok (Γ.fin a) M) := by
      unfold GxP.go at hp
      rw [hi, List.drop_length] at hp
      exact hp
    show Seg _ A _ _ _ s₀ _ ((compTurn (.GeneratorExp elt [⟨tg, iter, ifs, 0⟩] scope gpos) 0 (.ref it) .none Γ.X'.env).onRaise (leaving Γ.X'.env)) [] s
    rw [compTurn_gen, Sem.onRaise_eq_wrap]
    refine seg_bind_wrap (wpAny_standAt ?_)
    refine seg_bind_wrap ?_
    rw [over_gx, ← Z.A]
    have td := Z.T.done Γ.X' rfl rfl rfl Z.calm i _ s _ H (fun _ _ => False) at_.inv (stat hh at_.inv at_.nfp) at_.tn (hstop hi)
    refine thnF td fun r s6 ⟨hr, I6⟩ => ?_
    subst hr
    exact seg_end (.ok .next) ⟨rfl, a, pl, M, α, N, H, hh, h0, I6, at_.st, at_.ext, hp2⟩
  | succ k ih =>
    intro i n s₀ s a pl M α N H hk hn hh h0 at_ hp
    have hlt : i < Γ.ds.length := by omega
    obtain ⟨_, hgo⟩ := Z.it i α N H at_.ext.toW at_.st.c.sub
    have hd : Γ.ds[i]? = some Γ.ds[i] := by simp [hlt]
    obtain ⟨go, yl⟩ := hgo _ hd
    have hdr : Γ.ds.drop i = Γ.ds[i] :: Γ.ds.drop (i + 1) := List.drop_eq_getElem_cons hlt
    unfold GxP.go at hp
    rw [hdr] at hp
    unfold gxGo at hp
    show Seg _ A _ _ _ s₀ _ ((compTurn (.GeneratorExp elt [⟨tg, iter, ifs, 0⟩] scope gpos) 0 (.ref it) .none Γ.X'.env).onRaise (leaving Γ.X'.env)) [] s
    rw [compTurn_gen, Sem.onRaise_eq_wrap]
    refine seg_bind_wrap (wpAny_standAt ?_)
    refine seg_bind_wrap ?_
    rw [over_gx, ← Z.A]
    have ti := Z.T.item Γ.X' rfl rfl rfl Z.calm i _ s _ H (fun _ _ => False) at_.inv (stat hh at_.inv at_.nfp) at_.tn go
    refine thnF ti fun r s6 ⟨u, hr, h6⟩ => ?_
    subst hr
    refine seg_bind_wrap ?_
    rw [over_gx, ← Z.A]
    refine thnF h6 fun _ s7 ⟨x, H7, I7, r7, y7, st7, n7⟩ => ?_
    obtain ⟨k3, r3⟩ := yl x H7 y7
    have I7' := I7.pinned (stat hh I7 n7) (Z.T.obj _ _ st7)
    have t7 := at_.st.grow k3
    cases qg : Γ.g Γ.ds[i] ⟨wipeD Γ.ρ Γ.vs, M⟩ with
    | none => rw [qg] at hp; exact hp.elim
    | some sg =>
      rw [qg] at hp
      dsimp only at hp
      refine seg_bind_wrap ?_
      rw [over_gx, ← Z.A]
      have pgr := Z.pgt.run _ s7 _ H7 x u (fun σ' H' => ∃ α4 N4, StR Γ.T N4 H' σ' sg α4 ∧ Ext α N H7 α4 N4 H' ∧ Off Γ.vs (L2.wipe Γ.σ Γ.vs) σ') I7' r7 ⟨Γ.ds[i], ⟨wipeD Γ.ρ Γ.vs, M⟩, α, N, sg, StR.wipe t7, r3, qg, fun σ4 H4 α4 N4 t4 e4 off => ⟨α4, N4, t4, e4, off⟩⟩
      rw [Z.xe] at pgr
      refine thnF pgr fun _ s8 ⟨σ8, H8, I8, α4, N4, t4, e4, off⟩ => ?_
      have hw8 : L2.wipe σ8 Γ.vs = L2.wipe Γ.σ Γ.vs := Off.wipe off
      have e24 : Ext α N H α4 N4 H8 := (Ext.grow k3).trans e4
      cases qt : Γ.t sg with
      | no => rw [qt] at hp; exact hp.elim
      | ex _ _ => rw [qt] at hp; exact hp.elim
      | ok b M5 =>
        rw [qt] at hp
        dsimp only at hp
        refine seg_bind_wrap ?_
        rw [over_gx, ← Z.A]
        have ptr := Z.pts.run _ s8 σ8 H8 (fun b' H' => b' = b ∧ ∃ α5 N5, StR Γ.T N5 H' σ8 ⟨sg.ρ, M5⟩ α5 ∧ Ext α4 N4 H8 α5 N5 H') I8 ⟨sg, α4, N4, t4, by
          rw [qt]
          exact fun b' H5 α5 N5 t5 e5 hb => ⟨Eq.symm hb, α5, N5, t5, e5⟩⟩
        rw [Z.xe] at ptr
        refine thnF ptr fun b' s9 ⟨H9, I9, hb', α5, N5, t5, e5⟩ => ?_
        subst hb'
        have e25 := e24.trans e5
        have hl : (L2.wipe Γ.σ Γ.vs).length = σ8.length := by rw [← hw8, wipe_length]
        -- what a turn leaves
        have back : ∀ {s' : Shared} {H' : Hp} {α' : List Addr} {N' : Addr → Prop} {M' : Cells} {ρ' : List (Option D)}, Inv Γ.X' ((Γ.pg :: pl) ++ pinsAt Γ.fp s7.heap) σ8 H' s' → StR Γ.T N' H' σ8 ⟨ρ', M'⟩ α' → Ext α N H α' N' H' → GxAt Γ (i + 1) pl M' α' N' H' s' := fun {s' H' α' N' M' ρ'} I' t' e' => by
          have pin' : ∀ b ∈ Γ.fp, ∀ o, s7.heap.get? b = some o → s'.heap.get? b = some o ∧ H' b = none := fun b hb o e =>
            let z := I'.pin (b, o) (List.mem_append_right _ (List.mem_append_right _ (mem_pinsAt hb e)))
            ⟨z.1, z.2.1⟩
          refine ⟨(I'.unpinned (pins := Γ.pg :: pl)).weak hl (fun j v e => by rw [← hw8] at e; exact (wipe_some e).1), StC.keep at_.st t'.c e', at_.ext.trans e', Z.T.keep _ _ _ st7 fun b hb o e => (pin' b hb o e).1, fun b hb => ?_, hlt⟩
          obtain ⟨o, e, _⟩ := Z.T.obj _ _ st7 b hb
          exact (pin' b hb o e).2
        cases b' with
        | false =>
          simp only [Bool.false_eq_true, if_false] at hp ⊢
          exact seg_again rfl (ih (i + 1) n s₀ s9 a pl M5 α5 N5 H9 (by omega) (by omega) hh h0 (back I9 t5 e25) hp)
        | true =>
          simp only [if_true] at hp ⊢
          obtain ⟨m, rfl⟩ : ∃ m, n = m + 1 := ⟨n - 1, by omega⟩
          have hy : ∀ v, yieldOut Γ.X'.env v = yieldValue v := fun v => by simp only [yieldOut, Z.co, Bool.false_eq_true, if_false]
          simp only [hy]
          rw [Sem.bind_eq_wrap', Sem.bind_eq_wrap', Sem.wrap_wrap, Sem.wrap_wrap]
          refine seg_wrap ?_
          rw [over_gx, ← Z.A]
          cases qe : Γ.e ⟨sg.ρ, M5⟩ with
          | no => rw [qe] at hp; exact hp.elim
          | ex _ _ => rw [qe] at hp; exact hp.elim
          | ok y M6 =>
            rw [qe] at hp
            dsimp only at hp
            have per := Z.pe.run _ s9 σ8 H9 (fun z H' => ∃ α6 N6, StR Γ.T N6 H' σ8 ⟨sg.ρ, M6⟩ α6 ∧ Ext α5 N5 H9 α6 N6 H' ∧ Rel H' N6 α6 y z) I9 ⟨⟨sg.ρ, M5⟩, α5, N5, t5, by
              rw [qe]
              exact fun z H6 α6 N6 t6 e6 rz => ⟨α6, N6, t6, e6, rz⟩⟩
            rw [Z.xe] at per
            refine thnF per fun v s10 ⟨z, H10, I10, r10, α6, N6, t6, e6, rz⟩ => ?_
            have e26 := e25.trans e6
            have at2 := back I10 t6 e26
            refine seg_at (seg_yield rfl rfl rfl ⟨a, i + 1, y, z, pl, M6, α6, N6, H10, hh, h0, at2, by show _ ≤ m; omega, r10, rz, hp, fun a' s' pl' hs hh' hz => ?_⟩)
            rw [hs] at hp
            have I11 := gx_woken Z.pn Z.cl at2.inv (fun p hp => ⟨(Z.hold a pl hh p hp).1, (Z.hold a pl hh p hp).2.1⟩) hz
            refine seg_again rfl (ih (i + 1) m s' s' a' pl' M6 α6 N6 H10 (by omega) (by omega) hh' (fun p hp => (hz.has p hp).1) ⟨I11, at2.st, at2.ext, Z.T.keep _ _ _ at2.tn fun b hb o e => hz.keep b o (fun hm => ?_) e, at2.nfp, at2.le⟩ hp)
            obtain ⟨p, hp, e⟩ := List.mem_map.mp hm
            exact (Z.hold a pl hh p hp).2.2 (by rw [e]; exact hb)
theorem gx_seg (Z : GxW Γ A cenv tg J it ifs elt) {n : Nat} {s₀ s : Shared} {a : κ} {pl : List (Addr × Obj)} {M : Cells} {α : List Addr} {N : Addr → Prop} {H : Hp} (hn : Γ.ds.length ≤ n) (hh : Γ.hold a pl) (h0 : ∀ p ∈ pl, s₀.heap.get? p.1 = some p.2) (at_ : GxAt Γ 0 pl M α N H s) (hp : Γ.post (Γ.go a 0 M)) :
    Seg (model Γ.X'.prog Γ.X'.w) A (GxR Γ) (GxY Γ) n s₀ (.compStart (.GeneratorExp elt [⟨tg, iter, ifs, 0⟩] scope gpos) 0 (.ref it) .none cenv)
      ((model Γ.X'.prog Γ.X'.w).den (.compStart (.GeneratorExp elt [⟨tg, iter, ifs, 0⟩] scope gpos) 0 (.ref it) .none cenv)) [] s := by
  have loop := gx_loop (iter := iter) (scope := scope) (gpos := gpos) Z Γ.ds.length 0 n s₀ s a pl M α N H (Nat.sub_zero _) hn hh h0 at_ hp
  show Seg _ A _ _ _ s₀ _ ((compStart (.GeneratorExp elt [⟨tg, iter, ifs, 0⟩] scope gpos) 0 (.ref it) .none cenv).onRaise (leaving cenv)) [] s
  unfold compStart
  rw [Sem.onRaise_eq_wrap]
  show Seg _ A _ _ _ s₀ _ ((ask >>= _).wrap _ _ _ _) [] s
  refine seg_bind_wrap (wpAny_askSetting ?_)
  split
  · exact seg_again rfl loop
  · first
      | exact seg_bind_wrap (wpAny_rule (seg_bind_wrap (wpAny_standAt (seg_bind_wrap (Z.T.self _ 0 s _ _ at_.tn (seg_again rfl loop))))))
      | (refine seg_bind_wrap (wpAny_rule ?_); show Seg _ A _ _ _ s₀ _ ((standAt iter.pos >>= _).wrap _ _ _ _) [] s; exact seg_bind_wrap (wpAny_standAt (seg_bind_wrap (Z.T.self _ 0 s _ _ at_.tn (seg_again rfl loop)))))
end
end DL

namespace DL
open PySem PySem.Spec L2 GenW
open PyProof.Rows hiding St
/-! ### drawn by any, all, sum -/
variable {κ : Type}
def GxRest (Γ : GxP κ) (A : Around) (g n : Nat) (s : Shared) : Prop := s.heap.IsGen Γ.pg.1 g ∧ s.heap.NoLimit ∧ AllBare s.gens ∧ ∃ gs, s.gens[g]? = some gs ∧ gs.Goes (model Γ.X'.prog Γ.X'.w) A (GxR Γ) (GxY Γ) n (.send .none) (s.setGen g .running)
def GxOut (Γ : GxP κ) (A : Around) (g n : Nat) (s : Shared) (r : Option Value) (s' : Shared) : Prop := match r with
  | some v => ∃ a i y x pl M α N H, Γ.hold a pl ∧ (∀ p ∈ pl, s.heap.get? p.1 = some p.2) ∧ GxAt Γ i pl M α N H s' ∧ RelV x v ∧ Rel H N α y x ∧ Γ.post (match Γ.step a y with | some (.inl a') => Γ.go a' i M | some (.inr d) => .ok d M | none => .no) ∧
      ∀ a' s'' pl', Γ.step a y = some (.inl a') → Γ.hold a' pl' → SleptG pl pl' s' s'' → s''.gens = s'.gens → match n with | 0 => False | m + 1 => GxRest Γ A g m s''
  | none => GxEnd Γ s s'
section
variable {Γ : GxP κ} {A B : Around} {cenv : Env} {tg iter elt : Expr} {ifs : List Expr} {scope : Scope} {gpos : Pos} {J : It} {it : Addr} {g n : Nat} {s : Shared} {E : Value → Shared → Prop}
theorem gx_next (Z : GxW Γ A cenv tg J it ifs elt) (hA : B.in1 = A) (hh : B.handled = none) (hroom : B.depth < recursionLimit) (hpg : ∀ h : Heap, h.get? Γ.pg.1 = some Γ.pg.2 → h.IsGen Γ.pg.1 g) (h : GxRest Γ A g n s) :
    wpAny (model Γ.X'.prog Γ.X'.w) B (pyNext (.ref Γ.pg.1)) (GxOut Γ A g n s) E s := by
  obtain ⟨hg, hl, hb, gs, hgs, hgo⟩ := h
  have hgl : g < s.gens.size := (Array.getElem?_eq_some_iff.mp hgs).1
  subst hA
  refine wpAny_gsz (n := g + 1) hgl (wpAny_pyNext_genexpQ (P := fun _ s₀ s₁ => GxEnd Γ s₀ s₁) hh hl hroom hg hgs hgo (fun v s₁ gs' hbare hv => ?_) (fun s₁ hp h' hk => ?_))
  · intro hsz
    obtain ⟨a, i, y, x, pl, M, α, N, H, q1, q2, q3, q4, q5, q6, q7, q8⟩ := hv
    have hsz1 : g < s₁.gens.size := by rw [setGen_size] at hsz; omega
    have hb1 : AllBare (s₁.setGen g gs').gens := allBare_setGen q3.inv.bare hbare
    have I1 : Inv Γ.X' (Γ.pg :: pl) (L2.wipe Γ.σ Γ.vs) H (s₁.setGen g gs') := Inv.gens q3.inv rfl rfl hb1
    refine ⟨a, i, y, x, pl, M, α, N, H, q1, q2, ⟨I1, q3.st, q3.ext, q3.tn, q3.nfp, q3.le⟩, q5, q6, q7, fun a' s'' pl' w1 w2 w3 w4 => ?_⟩
    have I2 := gx_woken Z.pn Z.cl I1 (fun p hp => ⟨(Z.hold a pl q1 p hp).1, (Z.hold a pl q1 p hp).2.1⟩) w3
    have e2 : s''.heap.get? Γ.pg.1 = some Γ.pg.2 := (I2.pin Γ.pg (by rw [Z.pn]; exact List.mem_cons_self)).1
    have hz : SleptG pl pl' s₁ (s''.setGen g .running) := ⟨w3.os, allBare_setGen w3.bare rfl, w3.keep, w3.same, w3.has⟩
    have k := q8 a' _ pl' w1 w2 hz
    cases n with
    | zero => exact k.elim
    | succ m => exact ⟨hpg _ e2, I2.nolimit, w3.bare, gs', by rw [w4]; exact setGen_at hsz1, k⟩
  · intro _
    obtain ⟨a, pl, M, α, N, H, q1, q2, q3, q4, q5, q6⟩ := hp
    refine ⟨a, pl, M, α, N, H, q1, q2, ?_, q4, q5, q6⟩
    have I1 := Inv.kept (t' := s₁.toks) q3 (h' := h') fun b u e => hk b u e
    exact Inv.gens I1 rfl rfl (allBare_setGen q3.bare rfl)
end
def stAny : Unit → D → Option (Unit ⊕ D) := fun _ d => match d with
  | .bl b => some (if b = true then .inr (.bl true) else .inl ())
  | _ => none
def stAll : Unit → D → Option (Unit ⊕ D) := fun _ d => match d with
  | .bl b => some (if b = true then .inl () else .inr (.bl false))
  | _ => none
def stSum : Int → D → Option (Int ⊕ D) := fun a d => match d with
  | .int i => some (.inl (a + i))
  | _ => none
/-- what the consumer's end wants -/
def GxFin (Γ : GxP κ) (R : Result → Shared → Prop) : Prop := ∀ s' pl M α N H d u v, Inv Γ.X' (Γ.pg :: pl) (L2.wipe Γ.σ Γ.vs) H s' → StR Γ.T N H Γ.σ ⟨Γ.ρ, M⟩ α → Ext Γ.α Γ.N Γ.H α N H → Γ.post (.ok d M) → RelV v u → (∀ H N α, Rel H N α d v) → R (.ok (.ret u)) s'
theorem sleptNil {s : Shared} (h : AllBare s.gens) : SleptG [] [] s s := ⟨rfl, h, fun _ _ _ e => e, rfl, fun _ z => by cases z⟩
theorem rel_b {b : Bool} : ∀ (H : Hp) (N : Addr → Prop) (α : List Addr), Rel H N α (.bl b) (.bl b) := fun _ _ _ => by unfold Rel; rfl
theorem rel_i {i : Int} : ∀ (H : Hp) (N : Addr → Prop) (α : List Addr), Rel H N α (.int i) (.int i) := fun _ _ _ => by unfold Rel; rfl
section
variable {Γ : GxP Unit} {A : Around} {cenv : Env} {tg iter elt : Expr} {ifs : List Expr} {J : It} {it : Addr} {g : Nat} {R : Result → Shared → Prop}
theorem gx_any_loop (Z : GxW Γ A.in1.in1 cenv tg J it ifs elt) (hs : Γ.step = stAny) (hf : Γ.fin = fun _ => .bl false) (ho : Γ.hold = fun _ pl => pl = []) (hh : A.handled = none) (hroom : A.depth < recursionLimit) (hpg : ∀ h : Heap, h.get? Γ.pg.1 = some Γ.pg.2 → h.IsGen Γ.pg.1 g)
    (hR : GxFin Γ R) : ∀ (n : Nat) (s : Shared), GxRest Γ A.in1.in1 g n s → codeAny (model Γ.X'.prog Γ.X'.w) A (.builtin "any.loop" ⟨[.ref Γ.pg.1], []⟩) R s := by
  intro n
  induction n with
  | zero =>
    intro s h
    refine codeAny_builtin F.entry_any_loop ?_
    rw [Around.under_plainId F.plain_any_loop _]
    show wpAny _ A.in1 (pyNext (.ref Γ.pg.1) >>= _) _ _ s
    refine wpAny_bind (thn (gx_next Z rfl hh hroom hpg h) fun r s' hr => ?_)
    cases r with
    | none =>
      obtain ⟨a, pl, M, α, N, H, q1, q2, q3, q4, q5, q6⟩ := hr
      rw [hf] at q6
      exact wpAny_bind (wpAny_rule (wpAny_pure (hR s' pl M α N H _ _ (.bl false) q3 q4 q5 q6 rfl rel_b)))
    | some v =>
      obtain ⟨a, i, y, x, pl, M, α, N, H, q1, q2, q3, q4, q5, q6, q7⟩ := hr
      rw [ho] at q1
      have q1 : pl = [] := q1
      subst q1
      rw [hs] at q6 q7
      cases y with
      | bl b =>
        unfold Rel at q5
        subst q5
        obtain rfl : v = Value.bool b := q4
        refine wpAny_bind (wpAny_holding (wpAny_truthy_bool ?_))
        refine wpAny_bind (wpAny_letGo ?_)
        cases b with
        | false =>
          exact (q7 () s' [] rfl (by rw [ho]) (sleptNil q3.inv.bare) rfl).elim
        | true =>
          simp only [if_true]
          exact wpAny_bind (wpAny_rule (wpAny_pure (hR s' [] M α N H _ _ (.bl true) q3.inv q3.st q3.ext q6 rfl rel_b)))
      | _ => exact q6.elim
  | succ n ih =>
    intro s h
    refine codeAny_builtin F.entry_any_loop ?_
    rw [Around.under_plainId F.plain_any_loop _]
    show wpAny _ A.in1 (pyNext (.ref Γ.pg.1) >>= _) _ _ s
    refine wpAny_bind (thn (gx_next Z rfl hh hroom hpg h) fun r s' hr => ?_)
    cases r with
    | none =>
      obtain ⟨a, pl, M, α, N, H, q1, q2, q3, q4, q5, q6⟩ := hr
      rw [hf] at q6
      exact wpAny_bind (wpAny_rule (wpAny_pure (hR s' pl M α N H _ _ (.bl false) q3 q4 q5 q6 rfl rel_b)))
    | some v =>
      obtain ⟨a, i, y, x, pl, M, α, N, H, q1, q2, q3, q4, q5, q6, q7⟩ := hr
      rw [ho] at q1
      have q1 : pl = [] := q1
      subst q1
      rw [hs] at q6 q7
      cases y with
      | bl b =>
        unfold Rel at q5
        subst q5
        obtain rfl : v = Value.bool b := q4
        refine wpAny_bind (wpAny_holding (wpAny_truthy_bool ?_))
        refine wpAny_bind (wpAny_letGo ?_)
        cases b with
        | false =>
          simp only [Bool.false_eq_true, if_false]
          exact wpAny_pure ⟨plainId_quiet F.plain_any_loop _, ih _ (q7 () s' [] rfl (by rw [ho]) (sleptNil q3.inv.bare) rfl)⟩
        | true =>
          simp only [if_true]
          exact wpAny_bind (wpAny_rule (wpAny_pure (hR s' [] M α N H _ _ (.bl true) q3.inv q3.st q3.ext q6 rfl rel_b)))
      | _ => exact q6.elim
theorem gx_all_loop (Z : GxW Γ A.in1.in1 cenv tg J it ifs elt) (hs : Γ.step = stAll) (hf : Γ.fin = fun _ => .bl true) (ho : Γ.hold = fun _ pl => pl = []) (hh : A.handled = none) (hroom : A.depth < recursionLimit) (hpg : ∀ h : Heap, h.get? Γ.pg.1 = some Γ.pg.2 → h.IsGen Γ.pg.1 g)
    (hR : GxFin Γ R) : ∀ (n : Nat) (s : Shared), GxRest Γ A.in1.in1 g n s → codeAny (model Γ.X'.prog Γ.X'.w) A (.builtin "all.loop" ⟨[.ref Γ.pg.1], []⟩) R s := by
  intro n
  induction n with
  | zero =>
    intro s h
    refine codeAny_builtin F.entry_all_loop ?_
    rw [Around.under_plainId F.plain_all_loop _]
    show wpAny _ A.in1 (pyNext (.ref Γ.pg.1) >>= _) _ _ s
    refine wpAny_bind (thn (gx_next Z rfl hh hroom hpg h) fun r s' hr => ?_)
    cases r with
    | none =>
      obtain ⟨a, pl, M, α, N, H, q1, q2, q3, q4, q5, q6⟩ := hr
      rw [hf] at q6
      exact wpAny_bind (wpAny_rule (wpAny_pure (hR s' pl M α N H _ _ (.bl true) q3 q4 q5 q6 rfl rel_b)))
    | some v =>
      obtain ⟨a, i, y, x, pl, M, α, N, H, q1, q2, q3, q4, q5, q6, q7⟩ := hr
      rw [ho] at q1
      have q1 : pl = [] := q1
      subst q1
      rw [hs] at q6 q7
      cases y with
      | bl b =>
        unfold Rel at q5
        subst q5
        obtain rfl : v = Value.bool b := q4
        refine wpAny_bind (wpAny_holding (wpAny_truthy_bool ?_))
        refine wpAny_bind (wpAny_letGo ?_)
        cases b with
        | true =>
          exact (q7 () s' [] rfl (by rw [ho]) (sleptNil q3.inv.bare) rfl).elim
        | false =>
          simp only [Bool.false_eq_true, if_false]
          exact wpAny_bind (wpAny_rule (wpAny_pure (hR s' [] M α N H _ _ (.bl false) q3.inv q3.st q3.ext q6 rfl rel_b)))
      | _ => exact q6.elim
  | succ n ih =>
    intro s h
    refine codeAny_builtin F.entry_all_loop ?_
    rw [Around.under_plainId F.plain_all_loop _]
    show wpAny _ A.in1 (pyNext (.ref Γ.pg.1) >>= _) _ _ s
    refine wpAny_bind (thn (gx_next Z rfl hh hroom hpg h) fun r s' hr => ?_)
    cases r with
    | none =>
      obtain ⟨a, pl, M, α, N, H, q1, q2, q3, q4, q5, q6⟩ := hr
      rw [hf] at q6
      exact wpAny_bind (wpAny_rule (wpAny_pure (hR s' pl M α N H _ _ (.bl true) q3 q4 q5 q6 rfl rel_b)))
    | some v =>
      obtain ⟨a, i, y, x, pl, M, α, N, H, q1, q2, q3, q4, q5, q6, q7⟩ := hr
      rw [ho] at q1
      have q1 : pl = [] := q1
      subst q1
      rw [hs] at q6 q7
      cases y with
      | bl b =>
        unfold Rel at q5
        subst q5
        obtain rfl : v = Value.bool b := q4
        refine wpAny_bind (wpAny_holding (wpAny_truthy_bool ?_))
        refine wpAny_bind (wpAny_letGo ?_)
        cases b with
        | true =>
          simp only [if_true]
          exact wpAny_pure ⟨plainId_quiet F.plain_all_loop _, ih _ (q7 () s' [] rfl (by rw [ho]) (sleptNil q3.inv.bare) rfl)⟩
        | false =>
          simp only [Bool.false_eq_true, if_false]
          exact wpAny_bind (wpAny_rule (wpAny_pure (hR s' [] M α N H _ _ (.bl false) q3.inv q3.st q3.ext q6 rfl rel_b)))
      | _ => exact q6.elim
end
/-- the running sum at S -/
def holdS (S : Addr) : Int → List (Addr × Obj) → Prop := fun a pl => ∃ (t : Tok) (c : Nat), pl = [(S, lstObj #[.int a t] c)]
section
variable {Γ : GxP Int} {A : Around} {cenv : Env} {tg iter elt : Expr} {ifs : List Expr} {J : It} {it : Addr} {g : Nat} {R : Result → Shared → Prop} {S : Addr}
theorem sleptS {s : Shared} {S : Addr} {o o' : Obj} {h' : Heap} {tk : Nat} (hb : AllBare s.gens) (k : ∀ b u, b ≠ S → s.heap.get? b = some u → h'.get? b = some u) (hS : h'.get? S = some o') (hd : ∀ v, o'.data ≠ .cell v) : SleptG [(S, o)] [(S, o')] s { s with heap := h', toks := tk } :=
  ⟨rfl, hb, fun b u hb e => k b u (fun z => hb (by simp [z])) e, rfl, fun p hp => by
    rw [List.mem_singleton.mp hp]; exact ⟨hS, hd⟩⟩
theorem gx_sum_loop (Z : GxW Γ A.in1.in1 cenv tg J it ifs elt) (hs : Γ.step = stSum) (hf : Γ.fin = .int) (ho : Γ.hold = holdS S) (hh : A.handled = none) (hroom : A.depth < recursionLimit) (hpg : ∀ h : Heap, h.get? Γ.pg.1 = some Γ.pg.2 → h.IsGen Γ.pg.1 g)
    (hR : GxFin Γ R) : ∀ (n : Nat) (s : Shared) (a : Int) (tA : Tok) (c : Nat) (st : Int), (st = 0 ∨ st = 2) → s.heap.get? S = some (lstObj #[.int a tA] c) → GxRest Γ A.in1.in1 g n s → codeAny (model Γ.X'.prog Γ.X'.w) A (.builtin "sum.loop" ⟨[.ref Γ.pg.1, .ref S, rawInt st, rawInt 0], []⟩) R s := by
  intro n
  induction n with
  | zero =>
    intro s a tA c st hst hS h
    refine codeAny_builtin F.entry_sum_loop ?_
    rw [Around.under_plainId F.plain_sum_loop _]
    show wpAny _ A.in1 (seqItems? (.ref S) >>= _) _ _ s
    refine wpAny_bind (wpAny_seqItems hS rfl ?_)
    show wpAny _ A.in1 (tryCatch (pyNext (.ref Γ.pg.1)) _ >>= _) _ _ s
    refine wpAny_bind (wpAny_tryCatch (thn (gx_next Z rfl hh hroom hpg h) fun r s' hr => ?_))
    cases r with
    | none =>
      obtain ⟨a', pl, M, α, N, H, q1, q2, q3, q4, q5, q6⟩ := hr
      rw [ho] at q1
      obtain ⟨t, c', rfl⟩ := q1
      have e1 := q2 (S, lstObj #[.int a' t] c') (by simp)
      have e1 : s.heap.get? S = some (lstObj #[.int a' t] c') := e1
      rw [hS] at e1
      cases e1
      rw [hf] at q6
      exact wpAny_pure (hR s' _ M α N H _ _ (.int a) q3 q4 q5 q6 ⟨_, rfl⟩ rel_i)
    | some v =>
      obtain ⟨a', i, y, x, pl, M, α, N, H, q1, q2, q3, q4, q5, q6, q7⟩ := hr
      rw [hs] at q6 q7
      rw [ho] at q1 q7
      obtain ⟨t, c', rfl⟩ := q1
      have e2 := (q3.inv.pin (S, lstObj #[.int a' t] c') (by rw [Z.pn]; simp)).1
      cases y with
      | int j =>
        exact (q7 (a' + j) { s' with heap := s'.heap.update S (fun _ => lstObj #[.int (a' + j) t] c') } [(S, lstObj #[.int (a' + j) t] c')] rfl ⟨t, c', rfl⟩ (sleptS (tk := s'.toks) q3.inv.bare (fun b u hb e => (Heap.get?_update_other _ _ (Ne.symm hb)).trans e) (Heap.get?_update_self _ e2 rfl) fun v z => by cases z) rfl).elim
      | _ => exact q6.elim
  | succ n ih =>
    intro s a tA c st hst hS h
    refine codeAny_builtin F.entry_sum_loop ?_
    rw [Around.under_plainId F.plain_sum_loop _]
    show wpAny _ A.in1 (seqItems? (.ref S) >>= _) _ _ s
    refine wpAny_bind (wpAny_seqItems hS rfl ?_)
    show wpAny _ A.in1 (tryCatch (pyNext (.ref Γ.pg.1)) _ >>= _) _ _ s
    refine wpAny_bind (wpAny_tryCatch (thn (gx_next Z rfl hh hroom hpg h) fun r s' hr => ?_))
    cases r with
    | none =>
      obtain ⟨a', pl, M, α, N, H, q1, q2, q3, q4, q5, q6⟩ := hr
      rw [ho] at q1
      obtain ⟨t, c', rfl⟩ := q1
      have e1 := q2 (S, lstObj #[.int a' t] c') (by simp)
      have e1 : s.heap.get? S = some (lstObj #[.int a' t] c') := e1
      rw [hS] at e1
      cases e1
      rw [hf] at q6
      exact wpAny_pure (hR s' _ M α N H _ _ (.int a) q3 q4 q5 q6 ⟨_, rfl⟩ rel_i)
    | some v =>
      obtain ⟨a', i, y, x, pl, M, α, N, H, q1, q2, q3, q4, q5, q6, q7⟩ := hr
      rw [hs] at q6 q7
      rw [ho] at q1 q7
      obtain ⟨t, c', rfl⟩ := q1
      have hS' : s'.heap.get? S = some (lstObj #[.int a' t] c') := (q3.inv.pin (S, lstObj #[.int a' t] c') (by rw [Z.pn]; simp)).1
      have e1 : s.heap.get? S = some (lstObj #[.int a' t] c') := q2 (S, lstObj #[.int a' t] c') (by simp)
      rw [hS] at e1
      cases e1
      cases y with
      | int j =>
        unfold Rel at q5
        subst q5
        obtain ⟨tj, rfl⟩ : ∃ t, v = Value.int j t := q4
        rcases hst with rfl | rfl
        · show wpAny _ A.in1 (if (_ : Bool) = true then (mkInt (a + j) >>= _) else _) _ _ _
          split
          · refine wpAny_bind (wpAny_mkInt ?_)
            show wpAny _ A.in1 (updateSeq S (fun _ => #[.int (a + j) s'.toks]) >>= _) _ _ _
            refine wpAny_bind ?_
            refine wpAny_updateSeq hS' rfl (wpAny_pure ⟨plainId_quiet F.plain_sum_loop _, ih _ (a + j) s'.toks _ 0 (.inl rfl) (Heap.get?_update_self _ hS' rfl) ?_⟩)
            refine q7 (a + j) _ [(S, _)] rfl ⟨_, _, rfl⟩ (sleptS q3.inv.bare (fun b u hb e => (Heap.get?_update_other _ _ (Ne.symm hb)).trans e) (Heap.get?_update_self _ hS' rfl) fun v z => by cases z) rfl
          · refine wpAny_bind (wpAny_rule ?_)
            refine wpAny_bind (wpAny_attempt (wpAny_holding (wpAny_add_int ?_)))
            show wpAny _ A.in1 (updateSeq S (fun _ => #[.int (a + j) s'.toks]) >>= _) _ _ _
            refine wpAny_bind (wpAny_updateSeq hS' rfl ?_)
            have hS₂ := Heap.get?_update_self (Obj.mapSeq fun _ => #[Value.int (a + j) s'.toks]) hS' rfl
            refine wpAny_bind (wpAny_letGo ?_)
            refine wpAny_bind (wpAny_updateSeq hS₂ rfl (wpAny_pure ⟨plainId_quiet F.plain_sum_loop _, ih _ (a + j) s'.toks _ 2 (.inr rfl) (Heap.get?_update_self _ hS₂ rfl) ?_⟩))
            refine q7 (a + j) _ [(S, _)] rfl ⟨_, _, rfl⟩ (sleptS q3.inv.bare (fun b u hb e => (Heap.get?_update_other _ _ (Ne.symm hb)).trans ((Heap.get?_update_other _ _ (Ne.symm hb)).trans e)) (Heap.get?_update_self _ hS₂ rfl) fun v z => by cases z) rfl
        · show wpAny _ A.in1 ((holding [Value.int j tj] (binaryOp .Add (.int a tA) (.int j tj))).attempt >>= _) _ _ _
          refine wpAny_bind (wpAny_attempt (wpAny_holding (wpAny_add_int ?_)))
          show wpAny _ A.in1 (updateSeq S (fun _ => #[.int (a + j) s'.toks]) >>= _) _ _ _
          refine wpAny_bind (wpAny_updateSeq hS' rfl ?_)
          have hS₂ := Heap.get?_update_self (Obj.mapSeq fun _ => #[Value.int (a + j) s'.toks]) hS' rfl
          refine wpAny_bind (wpAny_letGo ?_)
          refine wpAny_bind (wpAny_updateSeq hS₂ rfl (wpAny_pure ⟨plainId_quiet F.plain_sum_loop _, ih _ (a + j) s'.toks _ 2 (.inr rfl) (Heap.get?_update_self _ hS₂ rfl) ?_⟩))
          refine q7 (a + j) _ [(S, _)] rfl ⟨_, _, rfl⟩ (sleptS q3.inv.bare (fun b u hb e => (Heap.get?_update_other _ _ (Ne.symm hb)).trans ((Heap.get?_update_other _ _ (Ne.symm hb)).trans e)) (Heap.get?_update_self _ hS₂ rfl) fun v z => by cases z) rfl
      | _ => exact q6.elim
end
end DL

namespace DL
open PySem PySem.Spec L2 GenW
open PyProof.Rows hiding St
/-! ### the making -/
structure GObj (o : Obj) (g : Nat) : Prop where
  is : ∀ (h : Heap) (a : Addr), h.get? a = some o → h.IsGen a g
  cell : ∀ v, o.data ≠ .cell v
  nf : ∀ h : Heap, (h.push o).get? h.objs.size = some o
section
variable {X : Cx} {pins : List (Addr × Obj)} {σ : L2.St} {H : Hp} {s : Shared}
theorem gx_make {TL : List (Addr × Str)} {c P : Addr} {elt tg iter : Expr} {ifs : List Expr} {scope : Scope} {own : List (Str × Nat)} {gpos : Pos} {R : It → Hp → Prop} {Q' : Value → Shared → Prop} {wi : TI}
    (hdp : X.A.depth < recursionLimit) (I : Inv X pins σ H s) (hi : PI X tg iter wi) (ok : GxOk X.N X.env.scope scope own) (TB : LamX.TabB X.base X.mg c P) (hcode : X.env.code = .ref c)
    (hm : (P, X.env.qual ++ "<genexpr>") ∈ TL) (hu : ∀ p ∈ TL, p.1 = P → p.2 = X.env.qual ++ "<genexpr>") (hs : ∀ v, genFold iter X.env v = pure v)
    (h : wi σ H fun J H1 => LamX.Tabs TL H1 ∧ R J H1)
    (hQ : ∀ (J : It) (H2 : Hp) (it : Addr) (fp : List Addr) (tn : Nat → Heap → Prop) (H3 : Hp) (s3 : Shared) (code : Value) (h' : Heap) (o : Obj) (m : Str → Option Value) (tk : Nat), R J H2 → LamX.ExtN H2 H3 → LamX.Tabs TL H3 → Inv X pins σ H3 s3 → Turn X.prog X.w X.K tg J fp it tn → tn 0 s3.heap →
      (∀ b ∈ fp, FpOk X pins H3 b ∧ b < s3.heap.objs.size) → h'.Ns s3.heap.objs.size m → (∀ b o, s3.heap.get? b = some o → h'.get? b = some o) → h'.objs.size = s3.heap.objs.size + 1 → GObj o s3.gens.size →
      Q' (.ref h'.objs.size) { s3 with gens := s3.gens.push (.fresh (.compStart (.GeneratorExp elt [⟨tg, iter, ifs, 0⟩] scope gpos) 0 (.ref it) .none (gxEnv X scope s3.heap.objs.size code))), toks := tk, heap := h'.push o }) :
    wpAny (model X.prog X.w) X.A (eval (.GeneratorExp elt [⟨tg, iter, ifs, 0⟩] scope gpos) X.env) Q' X.xe s := by
  refine wpAny_GeneratorExp_make ok.co (closure_ok (ok.has I.ok)) ok.nocell ok.dot ok.kind hdp ?_ hs
  refine thn (hi.run pins s σ H _ I h) fun xv s1 hx => thn hx fun itv s2 h2 => ?_
  obtain ⟨it, fp, tn, J, H2, e, I2, T, st2, f2, hT, q⟩ := h2
  subst e
  obtain ⟨ps, hP, ht, ha⟩ := hT _ hm
  have hPs : s2.heap.get? P = some { cls := .none, data := .fields ps } := I2.hok P _ hP
  have cd : PySem.W.CodeHd s2.heap c P := TB.code.keeps I2.bk
  have bP : s2.heap.BuiltinsAt X.mg P := TB.bm.keeps I2.bk
  refine ⟨I2.nolimit, ?_⟩
  have sz : ∀ b ∈ fp, b < s2.heap.objs.size := fun b hb => by
    obtain ⟨o, e, _⟩ := T.obj _ _ st2 b hb
    exact Heap.lt_size e
  have fin : ∀ (code : Value) (H3 : Hp) (s3 : Shared), Inv X pins σ H3 s3 → LamX.ExtN H2 H3 → LamX.Tabs TL H3 → tn 0 s3.heap → (∀ b ∈ fp, FpOk X pins H3 b ∧ b < s3.heap.objs.size) → s3.heap.BuiltinsAt X.mg P →
      wpAny (model X.prog X.w) X.A (builtinsFor X.env.globals X.env.builtins) (fun bi s₄ => ∀ h', h'.Ns s₄.heap.objs.size (fun y => if y = ".0" then some (.ref it) else none) → Heap.SameBut s₄.heap.objs.size (s₄.heap.push { cls := .type "frame", data := .dict #[] }) h' →
          Q' (.ref h'.objs.size) { s₄ with
            gens := s₄.gens.push (.fresh (.compStart (.GeneratorExp elt [⟨tg, iter, ifs, 0⟩] scope gpos) 0 (.ref it) .none (genEnv scope (cloFrom X.env.cells scope.names []) s₄.heap.objs.size code bi X.env))),
            toks := s₄.toks + 1 + 1 + 1,
            heap := h'.push { cls := .type "generator", data := .fields #[.int s₄.gens.size 0, .str "<genexpr>" (s₄.toks + 1), .str (X.env.qual ++ "<genexpr>") (s₄.toks + 1 + 1)] } }) X.xe s3 := by
    intro code H3 s3 I3 eN T3 st3 f3 b3
    obtain ⟨bm, ob, e1, e2, e3, e4, e5, e6, e7, e8⟩ := b3
    refine wpAny_builtinsFor (m := X.mg) (by rw [I3.ok.glob]; exact I3.mod.glob.keeps I3.bk) e1 e2 e5 e6 e7 e8 ?_
    intro h' hn' hs'
    have hsz : h'.objs.size = s3.heap.objs.size + 1 := by rw [hs'.1, Heap.size_push]
    have keep' : ∀ b o, s3.heap.get? b = some o → h'.get? b = some o := fun b o e => hs'.extBut b o (Nat.ne_of_lt (Heap.lt_size e)) (Heap.get?_push_of_some _ e)
    exact hQ J H2 it fp tn H3 s3 code h' _ _ _ q eN T3 I3 T st3 f3 hn' keep' hsz ⟨fun h a e => ⟨_, _, _, e, rfl, rfl, rfl⟩, fun v z => (by cases z), fun h => Heap.get?_push_size _ rfl⟩
  cases hc : codeAmong gpos ps.toList with
  | none =>
    refine wpAny_genexprCodeX hcode (cd.code hPs ht) (cd.tab hPs) hc fun c' h' tk hx hge hlt hco' hrec htab' _ => ?_
    have htb : h'.get? P = some { cls := .none, data := .fields (ps ++ #[rawInt gpos.line, rawInt gpos.col, .ref c']) } := htab'.2
    obtain ⟨c2, oc, vs, t, e2, hoc, hd, hv⟩ := hrec
    cases e2
    have nC : H2 c' = none := I2.hok.fresh hge
    have I3 := LamX.inv_table (t' := tk) (more := #[rawInt gpos.line, rawInt gpos.col, .ref c']) (h' := h') (q := X.env.qual ++ "<genexpr>") I2 hP (fun b o hb e => hx b o hb e) htb hge ⟨oc, vs, t, hoc, hd, hv⟩
    have hE : LamX.ExtN H2 (upd (upd H2 P (.tbl (ps ++ #[rawInt gpos.line, rawInt gpos.col, .ref c']))) c' (LamX.CodeO c' (X.env.qual ++ "<genexpr>"))) := fun b o e n => by
      rw [upd_ne (ne_of_none e nC), upd_ne (fun z => n ps (Option.some.inj (e.symm.trans (by rw [z]; exact hP))))]
      exact e
    have eL : (ps ++ #[rawInt gpos.line, rawInt gpos.col, .ref c']).toList = ps.toList ++ [rawInt gpos.line, rawInt gpos.col, .ref c'] := by simp
    have nfP : ∀ b ∈ fp, b ≠ P := fun b hb z => by
      have := (f2 b hb).1
      rw [z, hP] at this; cases this
    refine fin (.ref c') _ _ I3 hE (fun p hp => ?_) (T.keep _ _ _ st2 fun b hb o e => hx b o (nfP b hb) e) (fun b hb => ⟨⟨?_, (f2 b hb).2⟩, Nat.lt_of_lt_of_le (sz b hb) (Nat.le_trans hge (Nat.le_of_lt hlt))⟩) ?_
    · by_cases hb : p.1 = P
      · rw [hu p hp hb, hb]
        refine ⟨_, by rw [upd_ne (ne_of_none hP nC), upd_same], by rw [eL]; exact PySem.TriplesOk_snoc _ _ _ _ ht, fun p' cv hcv => ?_⟩
        rw [eL] at hcv
        rcases LamX.among_app _ ht hcv with z | z
        · obtain ⟨c0, e1, e2⟩ := ha p' cv z
          exact ⟨c0, e1, hE _ _ e2 LamX.codeO_ne⟩
        · exact ⟨c', z, upd_same⟩
      · obtain ⟨ps', a1, a2, a3⟩ := hT p hp
        refine ⟨ps', by rw [upd_ne (ne_of_none a1 nC), upd_ne hb]; exact a1, a2, fun p' cv hcv => ?_⟩
        obtain ⟨c0, e1, e2⟩ := a3 p' cv hcv
        exact ⟨c0, e1, hE _ _ e2 LamX.codeO_ne⟩
    · rw [upd_ne (Nat.ne_of_lt (Nat.lt_of_lt_of_le (sz b hb) hge)), upd_ne (nfP b hb)]
      exact (f2 b hb).1
    · obtain ⟨bm, ob, e1, e2, e3, e4, e5, e6⟩ := bP
      exact ⟨bm, ob, e1, e2, e3, e4, hx _ _ e4 e5, e6⟩
  | some cv =>
    refine wpAny_genexprCode_hit hcode (cd.code hPs ht) hc ?_
    exact fin cv H2 s2 I2 (LamX.ExtN.refl H2) hT st2 (fun b hb => ⟨f2 b hb, sz b hb⟩) bP
end
theorem tab_grow {TL : List (Addr × Str)} {N : Addr → Prop} {H H1 : Hp} {σ : L2.St} {s : Sx} {α : List Addr} (hs' : StR (tabT TL) N H σ s α) (eN : LamX.ExtN H H1) (T1 : LamX.Tabs TL H1) : Ext α N H α N H1 ∧ StR (tabT TL) N H1 σ s α := by
  have e : Ext α N H α N H1 := ⟨⟨[], by simp, by simp⟩, fun _ h => h, fun _ h => .inl h, fun b o hb _ ht => eN b o hb ht, fun b hb z => hb fun o ho => by
    refine Classical.byContradiction fun hn => ?_
    have := eN b o ho (fun ps q => hn ⟨ps, q⟩)
    obtain ⟨ps, q⟩ := z o this
    exact hn ⟨ps, q⟩⟩
  have c1 : StC (tabT TL) N H1 s.M α := ⟨hs'.c.nd, hs'.c.sub, fun a ha => e.there a (hs'.c.som a ha), hs'.c.len, fun n l q => by
    obtain ⟨a, h1, h2⟩ := hs'.c.cel n l q
    exact ⟨a, h1, h2.all (fun o q _ t => eN _ o q t) fun d v q => Rel.mono hs'.c.sub e q⟩, T1⟩
  exact ⟨e, StC.keep hs' c1 e⟩
/-- any, all, sum of a generator expression -/
def fGx {κ : Type} (fi : Sx → R (List D)) (g : D → Sx → Option Sx) (t : Sx → R Bool) (e : Sx → R D) (vs : List Nat) (step : κ → D → Option (κ ⊕ D)) (fin : κ → D) (a : κ) : Sx → R D := fun s =>
  (fi s).bind fun ds M => gxGo g t e (wipeD s.ρ vs) step fin a ds M
abbrev fAny (fi : Sx → R (List D)) (g : D → Sx → Option Sx) (t : Sx → R Bool) (e : Sx → R D) (vs : List Nat) : Sx → R D := fGx fi g t e vs stAny (fun _ => .bl false) ()
abbrev fAll (fi : Sx → R (List D)) (g : D → Sx → Option Sx) (t : Sx → R Bool) (e : Sx → R D) (vs : List Nat) : Sx → R D := fGx fi g t e vs stAll (fun _ => .bl true) ()
abbrev fSum (fi : Sx → R (List D)) (g : D → Sx → Option Sx) (t : Sx → R Bool) (e : Sx → R D) (vs : List Nat) : Sx → R D := fGx fi g t e vs stSum .int (0 : Int)
theorem Bd.gx {X : Cx} {W : WX} {k : Nat} (B : Bd X W (k + 1)) (s : Shared) (H : Hp) (cenv : Env) (fp : List Addr) : Bd (gxCx X X.A.in1.in1 s H cenv fp) W0 k :=
  ⟨LamX.takes0, ⟨B.rm.hd, by have := B.rm.dp; show X.A.depth + 1 + 3 * k + 5 < _; omega, by have := B.rm.un; show X.A.units + 1 + 1 + 3 + 16 * k + 200 < _; omega⟩⟩
section
variable {κ : Type} {X : Cx} {TL : List (Addr × Str)} {W : WX} {c P : Addr} {elt tg iter : Expr} {ifs : List Expr} {scope : Scope} {own : List (Str × Nat)} {p gpos pos : Pos} {fi : Sx → R (List D)} {g1 : D → Sx → Option Sx} {ft : Sx → R Bool} {fe : Sx → R D} {k : Nat}
/-- what a rule for a generator expression asks -/
structure GxH (X : Cx) (TL : List (Addr × Str)) (W : WX) (c P : Addr) (elt tg iter : Expr) (ifs : List Expr) (scope : Scope) (own : List (Str × Nat)) (fi : Sx → R (List D)) (g1 : D → Sx → Option Sx) (ft : Sx → R Bool) (fe : Sx → R D) : Prop where
  nd : X.N.Nodup
  hi : PI X tg iter (tI (tabT TL) X.mg W fi)
  ok : GxOk X.N X.env.scope scope own
  TB : LamX.TabB X.base X.mg c P
  code : X.env.code = .ref c
  mem : (P, X.env.qual ++ "<genexpr>") ∈ TL
  uni : ∀ p ∈ TL, p.1 = P → p.2 = X.env.qual ++ "<genexpr>"
  hs : ∀ v, genFold iter X.env v = pure v
  hg : ∀ (s : Shared) (H : Hp) (C : Addr) (code : Value) (fp : List Addr), PG (gxCx X X.A.in1.in1 s H (gxEnv X scope C code) fp) tg (tT (tabT TL) (own.map (·.2)) g1)
  ht : ∀ (s : Shared) (H : Hp) (C : Addr) (code : Value) (fp : List Addr), PTs (gxCx X X.A.in1.in1 s H (gxEnv X scope C code) fp) ifs (tB' (tabT TL) X.mg W0 ft)
  he : ∀ (s : Shared) (H : Hp) (C : Addr) (code : Value) (fp : List Addr), PE (gxCx X X.A.in1.in1 s H (gxEnv X scope C code) fp) elt (tD (tabT TL) X.mg W0 fe)
/-- the generator stands, its first item not drawn yet -/
theorem gx_go {pins : List (Addr × Obj)} {σ : L2.St} {H : Hp} {s : Shared} {Q : VK} {Q' : Value → Shared → Prop} {step : κ → D → Option (κ ⊕ D)} {fin : κ → D} {a0 : κ} (B : Bd X W k) (Z : GxH X TL W c P elt tg iter ifs scope own fi g1 ft fe) (I : Inv X pins σ H s)
    (h : tD (tabT TL) X.mg W (fGx fi g1 ft fe (own.map (·.2)) step fin a0) σ H Q)
    (hQ : ∀ (ga g : Nat) (s5 : Shared), s5.heap.IsGen ga g → s5.heap.NoLimit → ga < s5.heap.objs.size → (∀ (hold : κ → List (Addr × Obj) → Prop), (∀ a pl, hold a pl → ∀ p ∈ pl, s5.heap.objs.size ≤ p.1) →
      ∃ (Γ : GxP κ) (J : It) (it : Addr) (cenv : Env), Γ.pg.1 = ga ∧ Γ.step = step ∧ Γ.fin = fin ∧ Γ.hold = hold ∧ Γ.X'.prog = X.prog ∧ Γ.X'.w = X.w ∧ GxW Γ X.A.in1.in1 cenv tg J it ifs elt ∧ (∀ h : Heap, h.get? ga = some Γ.pg.2 → h.IsGen ga g) ∧ GxFin Γ (fun r s' => ∃ u, r = .ok (.ret u) ∧ EP X pins σ Q u s') ∧
        ∀ (s6 : Shared) (pl : List (Addr × Obj)), hold a0 pl → (∀ b o, s5.heap.get? b = some o → s6.heap.get? b = some o) → s6.os = s5.os → s6.gens = s5.gens → (∀ p ∈ pl, s6.heap.get? p.1 = some p.2 ∧ ∀ v, p.2.data ≠ .cell v) → GxRest Γ X.A.in1.in1 g Γ.ds.length s6) → Q' (.ref ga) s5) :
    wpAny (model X.prog X.w) X.A (eval (.GeneratorExp elt [⟨tg, iter, ifs, 0⟩] scope gpos) X.env) Q' X.xe s := by
  obtain ⟨sx, α, N, hs, p⟩ := h
  refine gx_make (R := fun J H1 => ∃ M α1 N1 ds, StR (tabT TL) N1 H1 σ ⟨sx.ρ, M⟩ α1 ∧ Ext α N H α1 N1 H1 ∧ ItD (tabT TL) J ds α1 N1 H1 ∧ Post (tabT TL) X.mg RelD N α H σ sx.ρ W Q (gxGo g1 ft fe (wipeD sx.ρ (own.map (·.2))) step fin a0 ds M)) (by have := B.rm.dp; omega) I Z.hi Z.ok Z.TB Z.code Z.mem Z.uni Z.hs ?_ ?_
  · refine ⟨sx, α, N, hs, ?_⟩
    unfold fGx at p
    cases q : fi sx with
    | no => rw [q] at p; exact p
    | ex e M => rw [q] at p; exact p
    | ok ds M =>
      rw [q] at p
      intro J H' α' N' s' e' it
      exact ⟨s'.c.tab, M, α', N', ds, s', e', it, p⟩
  · intro J H2 it fp tn H3 s3 code h' o m tk hR eN T3 I3 T st3 f3 hns kp hsz go
    obtain ⟨M, α1, N1, ds, s1, e1, itd, pp⟩ := hR
    obtain ⟨e3, s1'⟩ := tab_grow s1 eN T3
    have hget : (h'.push o).get? h'.objs.size = some o := go.nf h'
    have kp5 : ∀ b u, s3.heap.get? b = some u → (h'.push o).get? b = some u := fun b u e => Heap.get?_push_of_some _ (kp b u e)
    refine hQ h'.objs.size s3.gens.size _ (go.is _ _ hget) (I3.nolimit.keeps kp5) (by show _ < (h'.push o).objs.size; rw [Heap.size_push]; exact Nat.lt_succ_self _) fun hold hh => ?_
    have hh : ∀ a pl, hold a pl → ∀ p ∈ pl, h'.objs.size + 1 ≤ p.1 := fun a pl q p hp => by
      have := hh a pl q p hp
      have e : (h'.push o).objs.size ≤ p.1 := this
      rw [Heap.size_push] at e
      exact e
    let Γ : GxP κ := { X' := gxCx X X.A.in1.in1 s3 H3 (gxEnv X scope s3.heap.objs.size code) fp, T := tabT TL, mg := X.mg, vs := own.map (·.2), σ := σ, ρ := sx.ρ, α := α1, N := N1, H := H3, W := W, Q := Q, pg := (h'.objs.size, o), fp := fp, tn := tn, ds := ds, g := g1, t := ft, e := fe, step := step, fin := fin, hold := hold }
    have ZZ : GxW Γ X.A.in1.in1 (gxEnv X scope s3.heap.objs.size code) tg J it ifs elt := by
      refine ⟨rfl, rfl, rfl, rfl, rfl, rfl, rfl, fun y c' e => ?_, Z.ok.co, T, itd.later e3, fun hm => ?_, fun a pl q p hp => ⟨?_, ?_, fun hm => ?_⟩, Z.hg _ _ _ _ _, Z.ht _ _ _ _ _, Z.he _ _ _ _ _⟩
      · have e : (cloFrom X.env.cells scope.names []).lookup y = some c' := e
        rcases cloFrom_mem (PySem.mem_of_lookup e) with hm | ⟨q1, q2⟩
        · cases hm
        · obtain ⟨c1, hc⟩ := Z.ok.has I3.ok _ q1 rfl
          have hc : X.env.cells.lookup y = some c1 := hc
          rw [hc] at q2
          have q2 : c' = c1 := q2
          rw [q2]
          obtain ⟨w', z⟩ := I3.cell _ _ hc
          exact z.lt
      · have := (f3 _ hm).2
        have this : h'.objs.size < s3.heap.objs.size := this
        omega
      · have := hh a pl q p hp
        show p.1 ≠ h'.objs.size
        exact Nat.ne_of_gt this
      · have := hh a pl q p hp
        show s3.heap.objs.size ≤ p.1
        rw [hsz] at this
        exact Nat.le_trans (Nat.le_succ _) (Nat.le_trans (Nat.le_succ _) this)
      · have h1 := hh a pl q p hp
        have h2 := (f3 _ hm).2
        rw [hsz] at h1
        exact absurd (Nat.lt_of_lt_of_le h2 (Nat.le_trans (Nat.le_succ _) (Nat.le_trans (Nat.le_succ _) h1))) (Nat.lt_irrefl _)
    refine ⟨Γ, J, it, _, rfl, rfl, rfl, rfl, rfl, rfl, ZZ, fun h e => go.is h _ e, fun s' pl M' α' N' H' d u v J' st' ex' po rv rd => ⟨u, rfl, v, H', gx_back I3 (fun b hb => (f3 b hb).1) J', rv, po v H' α' N' st' ex' (rd _ _ _)⟩, fun s6 pl h0 kp6 ho hg hpl => ?_⟩
    have kp36 : ∀ b u, s3.heap.get? b = some u → s6.heap.get? b = some u := fun b u e => kp6 b u (kp5 b u e)
    have hb6 : AllBare s6.gens := by rw [hg]; exact AllBare.push I3.bare rfl
    refine ⟨go.is _ _ (kp6 _ _ hget), I3.nolimit.keeps kp36, hb6, .fresh _, by rw [hg]; exact Array.getElem?_push_size .., ⟨rfl, ?_⟩⟩
    refine gx_seg ZZ (Nat.le_refl _) h0 (fun p hp => (hpl p hp).1) (M := M) (α := α1) (N := N1) (H := H3) ⟨?_, s1', Ext.refl, T.keep _ _ _ st3 fun b hb u e => kp36 b u e, fun b hb => (f3 b hb).1.1, Nat.zero_le _⟩ (Post.later (e1.trans e3) pp)
    refine gx_start I3 Z.ok Z.nd f3 rfl B.rm.hd kp36 (m := m) ((hns.push _).keeps fun b u e => kp6 b u e) ho (allBare_setGen hb6 rfl) fun q hq => ?_
    rcases List.mem_cons.mp hq with hq | hq
    · rw [hq]
      exact ⟨kp6 _ _ hget, by show s3.heap.objs.size < h'.objs.size; rw [hsz]; exact Nat.lt_succ_self _, go.cell⟩
    · refine ⟨(hpl q hq).1, ?_, (hpl q hq).2⟩
      have := hh a0 pl h0 q hq
      rw [hsz] at this
      exact Nat.lt_of_lt_of_le (Nat.lt_succ_self _) (Nat.le_trans (Nat.le_succ _) this)
end
end DL

namespace DL
open PySem PySem.Spec L2 GenW
open PyProof.Rows hiding St
section
variable {X : Cx} {TL : List (Addr × Str)} {W : WX} {c P : Addr} {elt tg iter : Expr} {ifs : List Expr} {scope : Scope} {own : List (Str × Nat)} {p gpos pos : Pos} {fi : Sx → R (List D)} {g1 : D → Sx → Option Sx} {ft : Sx → R Bool} {fe : Sx → R D} {k : Nat}
theorem e_any (B : Bd X W k) (Z : GxH X TL W c P elt tg iter ifs scope own fi g1 ft fe) (hg : Gl X "any") (hm : X.mg "any" = none)
    (he : starEach [.GeneratorExp elt [⟨tg, iter, ifs, 0⟩] scope gpos] X.env = (false, eval (.GeneratorExp elt [⟨tg, iter, ifs, 0⟩] scope gpos) X.env) :: starEach [] X.env := by rfl) :
    PE X (.Call (.Name "any" p) [.GeneratorExp elt [⟨tg, iter, ifs, 0⟩] scope gpos] [] pos) (tD (tabT TL) X.mg W (fAny fi g1 ft fe (own.map (·.2)))) := by
  refine ⟨fun pins s σ H Q I h => ?_⟩
  refine wpAny_Call_Name_kw (ld_blt I hg hm boot_any ?_)
  refine PyProof.Rows.callWith_builtin1 ?_ he (by rfl)
  rw [he]
  show wpAny _ _ (spliced ((false, eval (.GeneratorExp elt [⟨tg, iter, ifs, 0⟩] scope gpos) X.env) :: backTo pos (starEach [] X.env))) _ _ s
  refine Calls.spliced_cons (gx_go B Z I h fun ga g s5 isg hl hlt hk => ?_)
  refine Calls.spliced_nil ?_
  refine call_function_tree F.kind_any F.plain_any F.entry_any (F.args_any1 _) ?_
  unfold Builtin.«any»
  refine wpAny_bind (m := oneArg "any" _) (wpAny_pure ?_)
  refine wpAny_bind (wpAny_pyIter_gen isg ?_)
  obtain ⟨Γ, J, it, cenv, q1, q2, q3, q4, q5, q6, ZZ, q7, q8, q9⟩ := hk (fun _ pl => pl = []) fun a pl e p hp => by subst e; cases hp
  subst q1
  refine wpAny_pure ⟨plainId_quiet F.plain_any_loop _, ?_⟩
  rw [← q5, ← q6]
  refine codeAny_mono (gx_any_loop (A := X.A) ZZ q2 q3 q4 B.rm.hd (by have := B.rm.dp; omega) q7 q8 _ s5 (q9 s5 [] rfl (fun _ _ e => e) rfl rfl fun p hp => by cases hp)) fun r s' ⟨u, e, hq⟩ => ?_
  subst e
  exact hq
theorem e_all (B : Bd X W k) (Z : GxH X TL W c P elt tg iter ifs scope own fi g1 ft fe) (hg : Gl X "all") (hm : X.mg "all" = none)
    (he : starEach [.GeneratorExp elt [⟨tg, iter, ifs, 0⟩] scope gpos] X.env = (false, eval (.GeneratorExp elt [⟨tg, iter, ifs, 0⟩] scope gpos) X.env) :: starEach [] X.env := by rfl) :
    PE X (.Call (.Name "all" p) [.GeneratorExp elt [⟨tg, iter, ifs, 0⟩] scope gpos] [] pos) (tD (tabT TL) X.mg W (fAll fi g1 ft fe (own.map (·.2)))) := by
  refine ⟨fun pins s σ H Q I h => ?_⟩
  refine wpAny_Call_Name_kw (ld_blt I hg hm (by decide +kernel : bootBuiltins "all" = some (.builtin "all")) ?_)
  refine PyProof.Rows.callWith_builtin1 ?_ he (by rfl)
  rw [he]
  show wpAny _ _ (spliced ((false, eval (.GeneratorExp elt [⟨tg, iter, ifs, 0⟩] scope gpos) X.env) :: backTo pos (starEach [] X.env))) _ _ s
  refine Calls.spliced_cons (gx_go B Z I h fun ga g s5 isg hl hlt hk => ?_)
  refine Calls.spliced_nil ?_
  refine call_function_tree F.kind_all F.plain_all F.entry_all (F.args_all1 _) ?_
  unfold Builtin.«all»
  refine wpAny_bind (m := oneArg "all" _) (wpAny_pure ?_)
  refine wpAny_bind (wpAny_pyIter_gen isg ?_)
  obtain ⟨Γ, J, it, cenv, q1, q2, q3, q4, q5, q6, ZZ, q7, q8, q9⟩ := hk (fun _ pl => pl = []) fun a pl e p hp => by subst e; cases hp
  subst q1
  refine wpAny_pure ⟨plainId_quiet F.plain_all_loop _, ?_⟩
  rw [← q5, ← q6]
  refine codeAny_mono (gx_all_loop (A := X.A) ZZ q2 q3 q4 B.rm.hd (by have := B.rm.dp; omega) q7 q8 _ s5 (q9 s5 [] rfl (fun _ _ e => e) rfl rfl fun p hp => by cases hp)) fun r s' ⟨u, e, hq⟩ => ?_
  subst e
  exact hq
theorem e_sum (B : Bd X W k) (Z : GxH X TL W c P elt tg iter ifs scope own fi g1 ft fe) (hg : Gl X "sum") (hm : X.mg "sum" = none)
    (he : starEach [.GeneratorExp elt [⟨tg, iter, ifs, 0⟩] scope gpos] X.env = (false, eval (.GeneratorExp elt [⟨tg, iter, ifs, 0⟩] scope gpos) X.env) :: starEach [] X.env := by rfl) :
    PE X (.Call (.Name "sum" p) [.GeneratorExp elt [⟨tg, iter, ifs, 0⟩] scope gpos] [] pos) (tD (tabT TL) X.mg W (fSum fi g1 ft fe (own.map (·.2)))) := by
  refine ⟨fun pins s σ H Q I h => ?_⟩
  refine wpAny_Call_Name_kw (ld_blt I hg hm (by decide +kernel : bootBuiltins "sum" = some (.builtin "sum")) ?_)
  refine PyProof.Rows.callWith_builtin1 ?_ he (by rfl)
  rw [he]
  show wpAny _ _ (spliced ((false, eval (.GeneratorExp elt [⟨tg, iter, ifs, 0⟩] scope gpos) X.env) :: backTo pos (starEach [] X.env))) _ _ s
  refine Calls.spliced_cons (gx_go B Z I h fun ga g s5 isg hl hlt hk => ?_)
  refine Calls.spliced_nil ?_
  refine call_function_tree F.kind_sum F.plain_sum F.entry_sum (F.args_sum1 _) ?_
  unfold Builtin.«sum»
  simp only [List.length_cons, List.length_nil]
  rw [if_neg (by decide)]
  refine wpAny_bind (wpAny_of_eq (show Builtin.Builtins.bindParams "sum" ["start"] 0 { } = pure [none] from rfl) ?_)
  refine wpAny_bind (wpAny_pyIter_gen isg ?_)
  refine wpAny_bind (wpAny_mkInt ?_)
  refine wpAny_bind (wpAny_pure ?_)
  simp only [List.forIn_cons, List.forIn_nil]
  refine wpAny_bind (wpAny_bind (wpAny_bind (wpAny_isInstance (T := "int") (b := false) (typeIs_int _ _ _) PySem.sub_int_str ?_)))
  simp only [Bool.false_eq_true, if_false]
  refine wpAny_pure (wpAny_bind (wpAny_bind (wpAny_isInstance (T := "int") (b := false) (typeIs_int _ _ _) PySem.sub_int_bytes ?_)))
  simp only [Bool.false_eq_true, if_false]
  refine wpAny_pure (wpAny_bind (wpAny_bind (wpAny_isInstance (T := "int") (b := false) (typeIs_int _ _ _) PySem.sub_int_bytearray ?_)))
  simp only [Bool.false_eq_true, if_false]
  refine wpAny_pure (wpAny_pure ?_)
  refine wpAny_bind (wpAny_newObj_type ?_)
  obtain ⟨Γ, J, it, cenv, q1, q2, q3, q4, q5, q6, ZZ, q7, q8, q9⟩ := hk (holdS s5.heap.objs.size) fun a pl ⟨t, c', e⟩ p hp => by
    rw [e] at hp
    rw [List.mem_singleton.mp hp]
    exact Nat.le_refl _
  subst q1
  refine wpAny_pure ⟨plainId_quiet F.plain_sum_loop _, ?_⟩
  rw [← q5, ← q6]
  refine codeAny_mono (gx_sum_loop (A := X.A) (S := s5.heap.objs.size) ZZ q2 q3 q4 B.rm.hd (by have := B.rm.dp; omega) q7 q8 _ _ 0 s5.toks 0 0 (.inl rfl) (Heap.get?_push_size _ rfl) (q9 _ [(s5.heap.objs.size, lstObj #[.int 0 s5.toks] 0)] ⟨s5.toks, 0, rfl⟩ (fun b u e => Heap.get?_push_of_some _ e) rfl rfl fun q hq => ?_)) fun r s' ⟨u, e, hq⟩ => ?_
  · rw [List.mem_singleton.mp hq]
    exact ⟨Heap.get?_push_size _ rfl, fun v z => by cases z⟩
  · subst e
    exact hq
end
end DL

namespace DL
open PySem PySem.Spec L2
open PyProof.Rows hiding St
/-! ### dict comprehensions whose keys are tuples -/
theorem d_dictSetT {X : Cx} {pins : List (Addr × Obj)} {σ : L2.St} {H : Hp} {s : Shared} {E : Value → Shared → Prop} {D b : Addr} {kvs : List (List Key × V)} {k : List Key} {v : V} {u r : Value} {Q : Unit → Shared → Prop} (hu : X.A.units < cLine) (I : Inv X pins σ H s) (hD : H D = some (.dT kvs)) (hb : H b = some (.tup (k.map kV))) (hz : kvs.length < sizeLine)
    (ry : RelV (.ref b) u) (rv : RelV v r) (h : ∀ s', Inv X pins σ (upd H D (.dT (putK kvs k v))) s' → Q () s') : wpAny (model X.prog X.w) X.A (dictSet D u r) Q E s := by
  cases (show u = Value.ref b from ry)
  obtain ⟨z, hd, xs, rel, dd⟩ := dt_of I.hok hD
  have hzx : xs.length ≤ sizeLine := by rw [← Paired.length rel]; exact z
  have hl : (putK kvs k v).length ≤ sizeLine := by have := length_putK kvs k v; omega
  refine wpAny_dictSet_heap (hsz := hzx) hu (key_of I.hok hb) dd fun h' dd' hs => h _ ?_
  obtain ⟨q, es, ep, hq, h2, h3, h4, _, h5⟩ := dd'
  refine d_write I (by rw [hD]; exact True.intro) hs ⟨q, hq⟩ ⟨hl, hd, _, (rel.put k hb rv).keeps fun c ys ec => ?_, q, es, ep, hq, h2, h3, h4, h5⟩
  rw [upd_ne (ne_of ec hD (fun z => nomatch z))]
  exact ec
section
variable {X : Cx}
def tDcT (wi : TI) (g : TG) (tt : TT) (tk tv : TE) (vs : List Nat) : TE := fun σ H Q => wi σ H fun J H1 => ∀ D, H1 D = none → ∃ W : Nat → Nat → Hp → Prop, (∃ m, W 0 m (upd H1 D (.dT []))) ∧ ∀ i m H, W i m H →
  (J.stop i H ∧ Q (.ref D) H) ∨ (J.go i H ∧ ∃ Nx : Hp → Prop, (∀ H', Nx H' → ∃ m', m' < m ∧ W (i + 1) m' H') ∧ ∀ x H', J.yld i H x H' → g x (wipe σ vs) H' fun σ2 H2 => wipe σ2 vs = wipe σ vs ∧ tt σ2 H2 fun b H3 =>
    if b = true then tk σ2 H3 fun y H4 => tv σ2 H4 fun z H5 => ∃ (kvs : List (List Key × V)) (k : List Key) (b : Addr), y = .ref b ∧ H5 b = some (.tup (k.map kV)) ∧ H5 D = some (.dT kvs) ∧ kvs.length < sizeLine ∧ Nx (upd H5 D (.dT (putK kvs k z))) else Nx H3)
theorem dcT_core (hu : X.A.units < cLine) {pins : List (Addr × Obj)} {s : Shared} {σ : St} {H : Hp} {Q : VK} {kx vx tg iter : Expr} {ifs : List Expr} {scope : Scope} {own : List (Str × Nat)} {pos pos' : Pos} {wi : TI} {g : TG} {tt : TT} {tk tv : TE} {use : Option (Value → Sem Unit)} {Qf : Value → Shared → Prop}
    (hc : X.calm = true) (hN : X.N.Nodup) (I : Inv X pins σ H s) (hi : PI X tg iter wi) (ok : BlkOk X.N X.env.scope scope own)
    (hg : ∀ (s : Shared) (H : Hp) (C : Addr) (cl : List (Str × Addr)) (fp : List Addr), PG (X.blk s H scope (compEnvC scope cl C X.env) fp) tg g) (ht : ∀ (s : Shared) (H : Hp) (C : Addr) (cl : List (Str × Addr)) (fp : List Addr), PTs (X.blk s H scope (compEnvC scope cl C X.env) fp) ifs tt)
    (hk : ∀ (s : Shared) (H : Hp) (C : Addr) (cl : List (Str × Addr)) (fp : List Addr), PE (X.blk s H scope (compEnvC scope cl C X.env) fp) kx tk)
    (he : ∀ (s : Shared) (H : Hp) (C : Addr) (cl : List (Str × Addr)) (fp : List Addr), PE (X.blk s H scope (compEnvC scope cl C X.env) fp) vx tv) (hs : ∀ x, foldedSetIterable iter X.env x = pure x)
    (h : tDcT wi g tt tk tv (own.map (·.2)) σ H Q)
    (hRR : ∀ D C s' m H', Inv X pins σ H' s' → Q (.ref D) H' → s'.heap.Ns C m → FpOk X pins H' C → compPost (model X.prog X.w) X.A X.xe use Qf (.ref D) C (.ok .next) s') :
    wpAny (model X.prog X.w) X.A (comprehension (.DictComp kx vx [⟨tg, iter, ifs, 0⟩] scope pos) scope X.env pos' newDict false (eval iter X.env) use) Qf X.xe s := by
  have hfree : ∀ y ∈ scope.names, y.2 = .free → ∃ c, X.env.cells.lookup y.1 = some c := fun y hy e => by
    rcases ok.free y hy e with k | k
    · exact I.ok.has _ (.inl k)
    · exact I.ok.has _ (.inr k)
  refine wpAny_comprehension_free (use := use) rfl hs (closure_ok hfree) ok.kind (fun y hy e => by rw [ok.uniq y hy, e])
    (thn (hi.run pins s σ H _ I h) fun xv s1 hx => thn hx fun itv s2 h2 => ?_)
  obtain ⟨it, fp, tn, J, H2, e, I2, T, st2, f2, q⟩ := h2
  subst e
  refine wpAny_newObj_type (newEnv_comp ?_)
  generalize hD : s2.heap.objs.size = D
  have hDn : H2 D = none := I2.hok.fresh (Nat.le_of_eq hD)
  obtain ⟨W, ⟨m0, w0⟩, turn⟩ := q D hDn
  -- the new list
  generalize hs3 : ({ s2 with heap := s2.heap.push { cls := .type "dict", data := .dict #[] } } : Shared) = s3
  have I3 : Inv X pins σ (upd H2 D (.dT [])) s3 := by
    rw [← hs3]
    refine I2.laid (t' := s2.toks) (fun b o e => Heap.get?_push_of_some _ e) (Nat.le_of_eq hD) ?_
    rw [← hD]
    exact dt_empty s2.heap I2.big
  have h3 : s3.heap = s2.heap.push { cls := .type "dict", data := .dict #[] } := by rw [← hs3]
  have sz : ∀ b ∈ fp, b < s2.heap.objs.size := fun b hb => by
    obtain ⟨o, e, _⟩ := T.obj _ _ st2 b hb
    exact Heap.lt_size e
  have f3 : ∀ b ∈ fp, FpOk X pins (upd H2 D (.dT [])) b ∧ b < s3.heap.objs.size := fun b hb => by
    have hlt := sz b hb
    refine ⟨⟨?_, (f2 b hb).2⟩, by rw [h3, Heap.size_push]; exact Nat.lt_succ_of_lt hlt⟩
    rw [upd_ne (by rw [← hD]; exact Nat.ne_of_lt hlt)]
    exact (f2 b hb).1
  have st3 : tn 0 s3.heap := T.keep _ _ _ st2 fun b _ o e => by rw [h3]; exact Heap.get?_push_of_some _ e
  have I4 := block_start I3 ok hN f3
  have pg := hg s3 (upd H2 D (.dT [])) s3.heap.objs.size (cellsFrom (s3.heap.objs.size + 1) scope.names (cloFrom X.env.cells scope.names [])) fp
  have pt := ht s3 (upd H2 D (.dT [])) s3.heap.objs.size (cellsFrom (s3.heap.objs.size + 1) scope.names (cloFrom X.env.cells scope.names [])) fp
  have pk := hk s3 (upd H2 D (.dT [])) s3.heap.objs.size (cellsFrom (s3.heap.objs.size + 1) scope.names (cloFrom X.env.cells scope.names [])) fp
  have pe := he s3 (upd H2 D (.dT [])) s3.heap.objs.size (cellsFrom (s3.heap.objs.size + 1) scope.names (cloFrom X.env.cells scope.names [])) fp
  show codeAny _ _ (.compStart (.DictComp kx vx [⟨tg, iter, ifs, 0⟩] scope pos) 0 (.ref it) (.ref D) (compEnvC scope (cellsFrom (s3.heap.objs.size + 1) scope.names (cloFrom X.env.cells scope.names [])) s3.heap.objs.size X.env)) (compPost (model X.prog X.w) X.A X.xe use Qf (.ref D) s3.heap.objs.size) { s3 with heap := pushCells (s3.heap.push { cls := .type "dict", data := .dict #[] }) scope.names }
  have nfp : ∀ b ∈ fp, (upd H2 D (.dT [])) b = none := fun b hb => (f3 b hb).1.1
  generalize hce : compEnvC scope (cellsFrom (s3.heap.objs.size + 1) scope.names (cloFrom X.env.cells scope.names [])) s3.heap.objs.size X.env = ce at I4 pg pt pk pe ⊢
  have cL : ce.locals = s3.heap.objs.size := by subst hce; rfl
  generalize hH3 : upd H2 D (.dT []) = H3 at I3 I4 pg pt pk pe w0 nfp f3
  generalize hs4 : ({ s3 with heap := pushCells (s3.heap.push { cls := .type "dict", data := .dict #[] }) scope.names } : Shared) = s4 at I4 ⊢
  have st4 : tn 0 s4.heap := T.keep _ _ _ st3 fun b _ o e => by rw [← hs4]; exact pushCells_keeps _ _ _ _ (Heap.get?_push_of_some _ e)
  have stat : ∀ {σ' : St} {H' : Hp} {s' : Shared}, Inv (X.blk s3 H3 scope ce fp) [] σ' H' s' → (∀ b ∈ fp, H' b = none) → ∀ b ∈ fp, FpOk (X.blk s3 H3 scope ce fp) [] H' b := fun {σ' H' s'} I' hn b hb =>
    ⟨hn b hb, (I'.ok.exf b hb).1, I'.ok.exfs b hb, .inl hb, fun x c e => (I'.ok.exf b hb).2 x c e, fun p hp => absurd (show p ∈ ([] : List (Addr × Obj)) ++ [] from hp) (by simp)⟩
  have loop : codeAny (model X.prog X.w) X.A (.compLoop (.DictComp kx vx [⟨tg, iter, ifs, 0⟩] scope pos) 0 (.ref it) (.ref D) ce) (compPost (model X.prog X.w) X.A X.xe use Qf (.ref D) s3.heap.objs.size) s4 := by
    refine compLoop_anyD (fun n s' => ∃ i H', Inv (X.blk s3 H3 scope ce fp) [] (wipe σ (own.map (·.2))) H' s' ∧ tn i s'.heap ∧ (∀ b ∈ fp, H' b = none) ∧ W i n H') ?_ m0 ⟨0, H3, I4, st4, nfp, w0⟩
    rintro n s5 ⟨i, H5, I5, st5, n5, w5⟩
    rcases turn i n H5 w5 with ⟨stop, qq⟩ | ⟨go, Nx, hNx, step⟩
    · have td := T.done (X.blk s3 H3 scope ce fp) rfl rfl rfl hc i [] s5 _ H5 (fun _ _ => False) I5 (stat I5 n5) st5 stop
      refine thnF td fun r s6 ⟨hr, I6⟩ => ?_
      subst hr
      -- back in the def's context
      have I7 : Inv X pins σ H5 s6 := I3.call' (ch := fp) I6.os I6.base I6.hok I6.bare fun b hb => ⟨(f3 b hb).1.2.2.2.1, (f3 b hb).1.2.1, (f3 b hb).1.2.2.2.2.1, (f3 b hb).1.2.2.2.2.2⟩
      have nC : H5 s3.heap.objs.size = none := by
        have z : H5 ce.locals = none := I6.free
        rw [cL] at z
        exact z
      obtain ⟨m, hn, _⟩ := I6.loc
      have hn : s6.heap.Ns ce.locals m := hn
      rw [cL] at hn
      exact hRR D s3.heap.objs.size s6 m H5 I7 qq hn (I3.fpOk (Nat.le_refl _) nC)
    · have ti := T.item (X.blk s3 H3 scope ce fp) rfl rfl rfl hc i [] s5 _ H5 (fun _ _ => False) I5 (stat I5 n5) st5 go
      refine thnF ti fun r s6 ⟨u, hr, h6⟩ => ?_
      subst hr
      refine thnF h6 fun _ s7 ⟨x, H7, I7, r7, y7, st7, n7⟩ => ?_
      have I7' := I7.pinned (stat I7 n7) (T.obj _ _ st7)
      refine thnF (pg.run _ s7 _ H7 x u _ I7' r7 (step x H7 y7)) fun _ s8 ⟨σ8, H8, I8, hw8, q8⟩ => ?_
      refine thnF (pt.run _ s8 σ8 H8 _ I8 q8) fun b s9 ⟨H9, I9, q9⟩ => ?_
      -- the turn's end
      have fin : ∀ {s' : Shared} {H' : Hp}, Inv (X.blk s3 H3 scope ce fp) ([] ++ pinsAt fp s7.heap) σ8 H' s' → Nx H' → ∃ m, m < n ∧ ∃ i H', Inv (X.blk s3 H3 scope ce fp) [] (wipe σ (own.map (·.2))) H' s' ∧ tn i s'.heap ∧ (∀ b ∈ fp, H' b = none) ∧ W i m H' := fun {s' H'} I' nx => by
        obtain ⟨m', hm, w'⟩ := hNx H' nx
        have pin' : ∀ b ∈ fp, ∀ o, s7.heap.get? b = some o → s'.heap.get? b = some o ∧ H' b = none := fun b hb o e =>
          let z := I'.pin (b, o) (List.mem_append_right _ (List.mem_append_right _ (mem_pinsAt hb e)))
          ⟨z.1, z.2.1⟩
        have hl : (wipe σ (own.map (·.2))).length = σ8.length := by rw [← hw8, wipe_length]
        refine ⟨m', hm, i + 1, H', (I'.unpinned (pins := [])).weak hl (fun j v e => ?_), T.keep _ _ _ st7 fun b hb o e => (pin' b hb o e).1, fun b hb => ?_, w'⟩
        · rw [← hw8] at e
          exact (wipe_some e).1
        · obtain ⟨o, e, _⟩ := T.obj _ _ st7 b hb
          exact (pin' b hb o e).2
      cases b with
      | false =>
        simp only [Bool.false_eq_true, if_false] at q9 ⊢
        exact fin I9 q9
      | true =>
        simp only [if_true] at q9 ⊢
        refine thnF (pk.run _ s9 σ8 H9 _ I9 q9) fun z s10 ⟨yk, H10, I10, r10, q10⟩ => ?_
        refine thnF (pe.run _ s10 σ8 H10 _ I10 q10) fun z2 s11 ⟨yv, H11, I11, r11, kvs, k, b, ek, hb11, hD11, hz11, nx⟩ => ?_
        subst ek
        exact d_dictSetT (X := X.blk s3 H3 scope ce fp) hu I11 hD11 hb11 hz11 r10 r11 fun s12 I12 => fin I12 nx
  exact codeAny_compStart_dict loop (T.self X.A 0 _ _ _ st4 loop)
/-- as a value -/
theorem pe_dcT (hu : X.A.units < cLine) {kx vx tg iter : Expr} {ifs : List Expr} {scope : Scope} {own : List (Str × Nat)} {pos : Pos} {wi : TI} {g : TG} {tt : TT} {tk tv : TE} (hc : X.calm = true) (hN : X.N.Nodup) (hi : PI X tg iter wi) (ok : BlkOk X.N X.env.scope scope own)
    (hg : ∀ (s : Shared) (H : Hp) (C : Addr) (cl : List (Str × Addr)) (fp : List Addr), PG (X.blk s H scope (compEnvC scope cl C X.env) fp) tg g) (ht : ∀ (s : Shared) (H : Hp) (C : Addr) (cl : List (Str × Addr)) (fp : List Addr), PTs (X.blk s H scope (compEnvC scope cl C X.env) fp) ifs tt)
    (hk : ∀ (s : Shared) (H : Hp) (C : Addr) (cl : List (Str × Addr)) (fp : List Addr), PE (X.blk s H scope (compEnvC scope cl C X.env) fp) kx tk)
    (he : ∀ (s : Shared) (H : Hp) (C : Addr) (cl : List (Str × Addr)) (fp : List Addr), PE (X.blk s H scope (compEnvC scope cl C X.env) fp) vx tv) (hs : ∀ x, foldedSetIterable iter X.env x = pure x := by intro _; rfl) :
    PE X (.DictComp kx vx [⟨tg, iter, ifs, 0⟩] scope pos) (tDcT wi g tt tk tv (own.map (·.2))) := by
  refine ⟨fun pins s σ H Q I h => ?_⟩
  rw [arm_eval_DictComp]
  refine dcT_core hu hc hN I hi ok hg ht hk he hs h fun D C s' m H' I' q hn f => ⟨m, hn, fun h'' sb => ?_⟩
  obtain ⟨f0, f1, f2, f3, f4, f5⟩ := f
  exact ⟨.ref D, H', I'.turned (t' := s'.toks) (fun b o hb e => (sb.2 b hb).trans e) f0 f1 f3 f4 f5, rfl, q⟩
end
end DL

namespace DL
open PySem PySem.Spec L2
open PyProof.Rows hiding St
/-! ### dicts of our own, keys tuples of ints -/
def iKey : D → Option (List Int)
  | .tup l => unInts l
  | _ => none
theorem iKey_some {d : D} {ks : List Int} (h : iKey d = some ks) : d = .tup (ks.map .int) := by
  unfold iKey at h
  split at h
  · rw [unInts_some h]
  · cases h
def isKey (ks : List Int) : D → Bool
  | .tup [k, _] => decide (iKey k = some ks)
  | _ => false
def entV : D → Option D
  | .tup [_, v] => some v
  | _ => none
abbrev ent (ks : List Int) (d : D) : D := .tup [.tup (ks.map .int), d]
def putP (ds : List D) (ks : List Int) (d : D) : List D := if ds.any (isKey ks) = true then ds.map (fun e => if isKey ks e = true then ent ks d else e) else ds ++ [ent ks d]
def getP (ds : List D) (ks : List Int) : Option D := (ds.find? (isKey ks)).bind entV
def dat (M : Cells) (n : Nat) : Option (List D) := match M[n]? with
  | some (.tag .dic :: ds) => some ds
  | _ => none
theorem dat_some {M : Cells} {n : Nat} {ds : List D} (h : dat M n = some ds) : M[n]? = some (.tag .dic :: ds) := by
  unfold dat at h
  split at h
  · rename_i q; cases h; exact q
  · cases h
theorem inl_inj : ∀ {a b : List Int}, a.map (Sum.inl : Int → Key) = b.map Sum.inl → a = b
  | [], [], _ => rfl
  | [], _ :: _, e => by simp at e
  | _ :: _, [], e => by simp at e
  | x :: xs, y :: ys, e => by
    rw [List.map_cons, List.map_cons] at e
    injection e with e1 e2
    injection e1 with e1
    rw [e1, inl_inj e2]
section
variable {T : TPr} {mg : Str → Option Value} {W : WX} {σ : L2.St} {H : Hp} {N : Addr → Prop} {α : List Addr} {Dn : Ends}
theorem relP_key {d : D} {kv : List Key × V} {ks : List Int} (h : RelP H N α d kv) : isKey ks d = decide (kv.1 = ks.map Sum.inl) := by
  obtain ⟨ks', dv, rfl, e, _⟩ := h
  rw [e]
  show decide (unInts (ks'.map .int) = some ks) = _
  rw [unInts_map]
  by_cases q : ks' = ks
  · subst q; simp
  · rw [decide_eq_false (by simpa using q), decide_eq_false fun z => q (inl_inj z)]
theorem relP_any {ds : List D} {kvs : List (List Key × V)} {ks : List Int} (h : Paired (RelP H N α) ds kvs) : ds.any (isKey ks) = kvs.any fun kv => decide (kv.1 = ks.map Sum.inl) := by
  induction h with
  | nil => rfl
  | cons a t ih => rw [List.any_cons, List.any_cons, ih, relP_key a]
theorem paired_app {α β : Type} {F : α → β → Prop} {l1 : List α} {m1 : List β} (h1 : Paired F l1 m1) {l2 : List α} {m2 : List β} (h2 : Paired F l2 m2) : Paired F (l1 ++ l2) (m1 ++ m2) := by
  induction h1 with
  | nil => exact h2
  | cons a t ih => exact .cons a ih
theorem relP_put {ds : List D} {kvs : List (List Key × V)} {ks : List Int} {d : D} {v : V} (h : Paired (RelP H N α) ds kvs) (r : Rel H N α d v) : Paired (RelP H N α) (putP ds ks d) (putK kvs (ks.map Sum.inl) v) := by
  unfold putP putK
  rw [relP_any h]
  by_cases q : (kvs.any fun kv => decide (kv.1 = ks.map Sum.inl)) = true
  · rw [if_pos q, if_pos q]
    clear q
    induction h with
    | nil => exact .nil
    | @cons x kv ds kvs a t ih =>
      rw [List.map_cons, List.map_cons]
      refine .cons ?_ ih
      have e := relP_key (ks := ks) a
      by_cases z : kv.1 = ks.map Sum.inl
      · rw [if_pos (by rw [e]; exact decide_eq_true z), if_pos z]
        exact ⟨ks, d, rfl, z, r⟩
      · rw [if_neg (by rw [e, decide_eq_false z]; exact Bool.false_ne_true), if_neg z]
        exact a
  · rw [if_neg q, if_neg q]
    exact paired_app h (.cons ⟨ks, d, rfl, rfl, r⟩ .nil)
theorem relP_get {ds : List D} {kvs : List (List Key × V)} {ks : List Int} (h : Paired (RelP H N α) ds kvs) : (getP ds ks = none → valV kvs (ks.map Sum.inl) = none) ∧ ∀ d, getP ds ks = some d → ∃ v, valV kvs (ks.map Sum.inl) = some v ∧ Rel H N α d v := by
  induction h with
  | nil => exact ⟨fun _ => rfl, fun d e => by cases e⟩
  | @cons x kv ds kvs a t ih =>
    have e := relP_key (ks := ks) a
    unfold getP at ih ⊢
    rw [List.find?_cons]
    by_cases z : kv.1 = ks.map Sum.inl
    · rw [decide_eq_true z] at e
      rw [e, valV_pos z]
      obtain ⟨ks', dv, rfl, _, r⟩ := a
      exact ⟨fun q => (by cases q), fun d q => by cases q; exact ⟨_, rfl, r⟩⟩
    · rw [decide_eq_false z] at e
      rw [e, valV_neg z]
      exact ih
mutual
/-- a dict changes: no value tells of it -/
theorem Rel.wrT {p : Addr} {kvs kvs' : List (List Key × V)} (hp : H p = some (.dT kvs)) : ∀ {d : D} {v : V}, Rel H N α d v → Rel (upd H p (.dT kvs')) N α d v
  | .non, _, h => by unfold Rel at h ⊢; exact h
  | .bl _, _, h => by unfold Rel at h ⊢; exact h
  | .int _, _, h => by unfold Rel at h ⊢; exact h
  | .str _, _, h => by unfold Rel at h ⊢; exact h
  | .tup l, _, h => by
    unfold Rel at h ⊢
    obtain ⟨a, us, h1, h2, h3⟩ := h
    refine ⟨a, us, h1, ?_, Rels.wrT hp h3⟩
    rw [upd_ne (fun e => by subst e; rw [hp] at h2; cases h2)]; exact h2
  | .lst l, _, h => by
    unfold Rel at h ⊢
    obtain ⟨a, us, h1, h0, h2, h3⟩ := h
    refine ⟨a, us, h1, h0, ?_, Rels.wrT hp h3⟩
    rw [upd_ne (fun e => by subst e; rw [hp] at h2; cases h2)]; exact h2
  | .loc n, _, h => by unfold Rel at h ⊢; exact h
  | .adr _, _, h => by unfold Rel at h ⊢; exact h
  | .ty _, _, h => by unfold Rel at h ⊢; exact h
  | .scr l, _, h => by
    unfold Rel at h ⊢
    obtain ⟨a, o, us, h1, h2, h3⟩ := h
    refine ⟨a, o, us, h1, ?_, Rels.wrT hp h3⟩
    rw [upd_ne (fun e => by subst e; rw [hp] at h2; cases h2)]; exact h2
  | .fnv i o o', _, h => by
    unfold Rel at h ⊢
    obtain ⟨f, c, φ, φ', h1, h2, h3, h4, h5⟩ := h
    exact ⟨f, c, φ, φ', h1, h2, h3, by rw [upd_ne (fun e => by subst e; rw [hp, h2] at h4; cases h4)]; exact h4, by rw [upd_ne (fun e => by subst e; rw [hp, h3] at h5; cases h5)]; exact h5⟩
  | .tag _, _, h => by unfold Rel at h; exact h.elim
theorem Rels.wrT {p : Addr} {kvs kvs' : List (List Key × V)} (hp : H p = some (.dT kvs)) : ∀ {l : List D} {us : List V}, Rels H N α l us → Rels (upd H p (.dT kvs')) N α l us
  | [], _, h => by unfold Rels at h ⊢; exact h
  | d :: l, _, h => by
    unfold Rels at h ⊢
    obtain ⟨v, r, h1, h2, h3⟩ := h
    exact ⟨v, r, h1, Rel.wrT hp h2, Rels.wrT hp h3⟩
end
theorem tab_wrT {p : Addr} {kvs kvs' : List (List Key × V)} (hp : H p = some (.dT kvs)) (h : T.p H) : T.p (upd H p (.dT kvs')) := T.mono _ _ h fun b o e nl => by
  rw [upd_ne (fun z => by rw [z, hp] at e; cases e; rcases nl with ⟨_, q⟩ | ⟨_, q⟩ <;> cases q)]; exact e
theorem paired_mono {α β : Type} {F G : α → β → Prop} {l : List α} {m : List β} (h : Paired F l m) (k : ∀ a b, F a b → G a b) : Paired G l m := by
  induction h with
  | nil => exact .nil
  | cons a t ih => exact .cons (k _ _ a) ih
theorem relP_mono {H' : Hp} {N' : Addr → Prop} {α' : List Addr} (k : ∀ d v, Rel H N α d v → Rel H' N' α' d v) {d : D} {kv : List Key × V} (h : RelP H N α d kv) : RelP H' N' α' d kv := by
  obtain ⟨ks, dv, e1, e2, e3⟩ := h
  exact ⟨ks, dv, e1, e2, k _ _ e3⟩
/-- a dict that is no cell yet changes -/
theorem StR.wrT {s : Sx} {p : Addr} {kvs kvs' : List (List Key × V)} (h : StR T N H σ s α) (hn : p ∉ α) (hp : H p = some (.dT kvs)) : StR T N (upd H p (.dT kvs')) σ s α :=
  ⟨⟨h.c.nd, h.c.sub, fun a ha => nf_upd (fun _ z => by cases z) fun _ => h.c.som a ha, h.c.len, fun n l q => by
    obtain ⟨a, h1, h2⟩ := h.c.cel n l q
    have ne : a ≠ p := fun e => hn (by rw [← e]; exact List.mem_of_getElem? h1)
    exact ⟨a, h1, h2.all (fun o q _ _ => by rw [upd_ne ne]; exact q) fun d v q => Rel.wrT hp q⟩, tab_wrT hp h.c.tab⟩,
   fun i d q => by obtain ⟨v, h1, h2⟩ := h.slt i d q; exact ⟨v, h1, Rel.wrT hp h2⟩, h.lnr⟩
/-- a dict of ours changes -/
theorem StC.putT {M : Cells} {n : Nat} {a : Addr} {ds ds' : List D} {kvs kvs' : List (List Key × V)} (c : StC T N H M α) (h1 : α[n]? = some a) (h2' : dat M n = some ds) (e2 : H a = some (.dT kvs)) (r : Paired (RelP H N α) ds' kvs') :
    StC T N (upd H a (.dT kvs')) (M.set n (.tag .dic :: ds')) α ∧ Ext α N H α N (upd H a (.dT kvs')) := by
  have h2 := dat_some h2'
  have ha : a ∈ α := List.mem_of_getElem? h1
  have hnf : ∀ b, ¬ Fz H b → ¬ Fz (upd H a (.dT kvs')) b := fun b h => nf_upd (fun _ z => by cases z) fun _ => h
  refine ⟨⟨c.nd, c.sub, fun b h => hnf b (c.som b h), by rw [List.length_set]; exact c.len, fun m q hq => ?_, tab_wrT e2 c.tab⟩, ⟨⟨[], by simp, by simp⟩, fun _ h => h, fun _ h => .inl h, fun b o hb t u => ?_, hnf⟩⟩
  · have hq' : (M.set n (.tag .dic :: ds'))[m]? = some q := hq
    by_cases hm : n = m
    · subst hm
      have hlt : n < M.length := (List.getElem?_eq_some_iff.mp h2).1
      rw [List.getElem?_set_self hlt] at hq'
      cases hq'
      exact ⟨a, h1, .inr (.inr ⟨ds', kvs', rfl, upd_same, paired_mono r fun _ _ z => relP_mono (fun d v q => Rel.wrT e2 q) z⟩)⟩
    · rw [List.getElem?_set_ne hm] at hq'
      obtain ⟨b, f1, f2⟩ := c.cel m q hq'
      have ne : b ≠ a := fun z => by
        subst z
        obtain ⟨u1, v1⟩ := List.getElem?_eq_some_iff.mp h1
        obtain ⟨u2, v2⟩ := List.getElem?_eq_some_iff.mp f1
        exact hm ((List.getElem_inj c.nd).mp (v1.trans v2.symm))
      exact ⟨b, f1, f2.all (fun o q _ _ => by rw [upd_ne ne]; exact q) fun d v q => Rel.wrT e2 q⟩
  · rw [upd_ne (fun z => t (by rw [z, e2] at hb; rw [← Option.some.inj hb]; trivial) (by rw [z]; exact ha))]
    exact hb
theorem dic_rel {M : Cells} {n : Nat} {x : V} {ds : List D} (c : StC T N H M α) (r : Rel H N α (.loc n) x) (h : dat M n = some ds) : ∃ a kvs, x = .ref a ∧ α[n]? = some a ∧ H a = some (.dT kvs) ∧ Paired (RelP H N α) ds kvs := by
  unfold Rel at r
  obtain ⟨a, h1, h2⟩ := r
  obtain ⟨a', e1, e0⟩ := c.cel n _ (dat_some h)
  rw [h2] at e1; cases e1
  rcases e0 with ⟨vs, _, q⟩ | ⟨C, ns, ds', dx, vs, e, _⟩ | ⟨ds', kvs, e, q1, q2⟩
  · unfold Rels Rel at q
    obtain ⟨v, w, _, q, _⟩ := q
    exact q.elim
  · cases e
  · cases e
    exact ⟨a, kvs, h1, h2, q1, q2⟩
/-- a new dict becomes a cell -/
theorem StR.cellT {ρ : List (Option D)} {M : Cells} {p : Addr} {ds : List D} {kvs : List (List Key × V)} (s : StR T N H σ ⟨ρ, M⟩ α) (hN : N p) (hn : p ∉ α) (hp : H p = some (.dT kvs)) (r : Paired (RelP H N α) ds kvs) : StR T N H σ ⟨ρ, M ++ [.tag .dic :: ds]⟩ (α ++ [p]) := by
  have hl := s.c.len
  refine ⟨⟨?_, fun a ha => ?_, s.c.som, by simp [hl], fun n l' q => ?_, s.c.tab⟩, fun i d q => by obtain ⟨v, h1, h2⟩ := s.slt i d q; exact ⟨v, h1, Rel.more h2⟩, s.lnr⟩
  · rw [List.nodup_append]
    refine ⟨s.c.nd, by simp, fun a ha b hb e => ?_⟩
    simp at hb
    exact hn (by rw [← hb, ← e]; exact ha)
  · rcases List.mem_append.mp ha with z | z
    · exact s.c.sub a z
    · simp at z; rw [z]; exact hN
  · have q' : (M ++ [.tag .dic :: ds])[n]? = some l' := q
    by_cases hlt : n < M.length
    · rw [List.getElem?_append_left hlt] at q'
      obtain ⟨a, h1, h2⟩ := s.c.cel n l' q'
      exact ⟨a, pre_get h1 ⟨[p], rfl, trivial⟩, h2.all (fun o q _ _ => q) fun d v q => Rel.more q⟩
    · have e : n = M.length := by
        have := (List.getElem?_eq_some_iff.mp q').1
        simp at this; omega
      subst e
      rw [List.getElem?_append_right (Nat.le_refl _)] at q'
      simp at q'
      subst q'
      have hl' : α.length = M.length := hl
      exact ⟨p, by rw [List.getElem?_append_right (by omega)]; simp [hl'], .inr (.inr ⟨ds, kvs, rfl, hp, paired_mono r fun _ _ z => relP_mono (fun d v q => Rel.more q) z⟩)⟩
/-- what is given back: a new cell, at the end -/
theorem Post.cellT {ρ : List (Option D)} {M : Cells} {Q : VK} {p : Addr} {ds : List D} {kvs : List (List Key × V)} {α0 : List Addr} {N0 : Addr → Prop} {H0 : Hp} (h : Post T mg RelD N0 α0 H0 σ ρ W Q (.ok (.loc M.length) (M ++ [.tag .dic :: ds]))) (s : StR T N H σ ⟨ρ, M⟩ α) (e : Ext α0 N0 H0 α N H) (hN : N p) (hn : p ∉ α) (hf : Fz H0 p) (hp : H p = some (.dT kvs)) (r : Paired (RelP H N α) ds kvs) : Q (.ref p) H := by
  have hl : α.length = M.length := s.c.len
  obtain ⟨β, eβ, fβ⟩ := e.pre
  refine h (.ref p) H (α ++ [p]) N (s.cellT hN hn hp r) ⟨⟨β ++ [p], by rw [eβ, List.append_assoc], fun b hb => ?_⟩, e.nn, e.nb, e.keep, e.there⟩ ?_
  · rcases List.mem_append.mp hb with z | z
    · exact fβ b z
    · simp at z; rw [z]; exact hf
  · show Rel _ _ _ _ _
    unfold Rel
    exact ⟨p, rfl, by rw [List.getElem?_append_right (by omega)]; simp [hl]⟩
/-! {} -/
def fDNew : Sx → R D := fun s => .ok (.loc s.M.length) (s.M ++ [[.tag .dic]])
theorem dnew_imp {Q : VK} (h : tD T mg W fDNew σ H Q) : tDNewT σ H Q := by
  obtain ⟨s, α, N, hs, p⟩ := h
  intro a ha
  have k := new_keep (o := .dT []) ha
  have nn : ∀ b, N b → (N b ∨ b = a) := fun b h => .inl h
  have nb : ∀ b, (N b ∨ b = a) → N b ∨ Fz H b := fun b h => h.elim .inl fun z => .inr (by rw [z]; exact fz_of ha)
  refine Post.cellT (α := α) (N := fun b => N b ∨ b = a) (H := upd H a (.dT [])) (kvs := []) p (hs.growN k nn nb fun b hb => ?_) (Ext.growN k nn nb) (.inr rfl) (fun hm => hs.c.som a (hs.c.sub a hm) (fz_of ha)) (fz_of ha) upd_same .nil
  exact nf_upd (fun _ z => by cases z) fun z => hs.c.som b (hb.resolve_right z)
/-! {k: v for ..} -/
def fDcGo (g : D → Sx → Option Sx) (t : Sx → R Bool) (fk fv : Sx → R D) (ρ : List (Option D)) : List D → List D → Cells → R (List D)
  | acc, [], M => .ok acc M
  | acc, d :: r, M => match g d ⟨ρ, M⟩ with
    | none => .no
    | some s1 => match t s1 with
      | .ok b M1 => if b = true then (match fk ⟨s1.ρ, M1⟩ with
        | .ok k M2 => match fv ⟨s1.ρ, M2⟩ with
          | .ok v M3 => match iKey k with
            | some ks => fDcGo g t fk fv ρ (putP acc ks v) r M3
            | none => .no
          | _ => .no
        | _ => .no) else fDcGo g t fk fv ρ acc r M1
      | _ => .no
def fDc (fi : Sx → R (List D)) (g : D → Sx → Option Sx) (t : Sx → R Bool) (fk fv : Sx → R D) (vs : List Nat) : Sx → R D := fun s =>
  (fi s).bind fun ds M => if ds.length ≤ 100000 then (fDcGo g t fk fv (wipeD s.ρ vs) [] ds M).bind fun acc M' => .ok (.loc M'.length) (M' ++ [.tag .dic :: acc]) else .no
theorem putP_length {ds : List D} {ks : List Int} {d : D} : (putP ds ks d).length ≤ ds.length + 1 := by
  unfold putP
  split
  · rw [List.length_map]; omega
  · simp
theorem Ext.notinF {α1 : List Addr} {N1 : Addr → Prop} {H1 : Hp} (e : Ext α N H α1 N1 H1) {p : Addr} (hp : p ∉ α) (h : ¬ Fz H p) : p ∉ α1 := by
  obtain ⟨β, e1, f⟩ := e.pre
  rw [e1]
  intro hm
  rcases List.mem_append.mp hm with z | z
  · exact hp z
  · exact h (f p z)
theorem nfT {p : Addr} {kvs : List (List Key × V)} (h : H p = some (.dT kvs)) : ¬ Fz H p := nf_of (fun _ z => by cases z) h
theorem dc_imp {fi : Sx → R (List D)} {g : D → Sx → Option Sx} {t : Sx → R Bool} {fk fv : Sx → R D} {vs : List Nat} {Q : VK} (h : tD T mg W (fDc fi g t fk fv vs) σ H Q) :
    tDcT (tI T mg W fi) (tT T vs g) (tB' T mg W0 t) (tD T mg W0 fk) (tD T mg W0 fv) vs σ H Q := by
  obtain ⟨s, α, N, hs, p⟩ := h
  refine ⟨s, α, N, hs, ?_⟩
  unfold fDc at p
  cases q : fi s with
  | no => rw [q] at p; exact p
  | ex e M => rw [q] at p; exact p
  | ok ds M =>
    rw [q] at p
    intro J H1 α1 N1 s1 e1 it L hL
    obtain ⟨hz, p⟩ := Post.ite (show Post T mg RelD N α H σ s.ρ W Q (if ds.length ≤ 100000 then _ else .no) from p)
    have k := new_keep (o := .dT []) hL
    have nn : ∀ a, N1 a → (N1 a ∨ a = L) := fun a h => .inl h
    have nb : ∀ a, (N1 a ∨ a = L) → N1 a ∨ Fz H1 a := fun a h => h.elim .inl fun z => .inr (by rw [z]; exact fz_of hL)
    have eL : Ext α1 N1 H1 α1 (fun a => N1 a ∨ a = L) (upd H1 L (.dT [])) := Ext.growN k nn nb
    have sL : StR T (fun a => N1 a ∨ a = L) (upd H1 L (.dT [])) σ ⟨s.ρ, M⟩ α1 := s1.growN k nn nb fun a ha => nf_upd (fun _ z => by cases z) fun z => s1.c.som a (ha.resolve_right z)
    have nL : L ∉ α1 := fun hm => s1.c.som L (s1.c.sub L hm) (fz_of hL)
    refine ⟨fun i m H => m = ds.length - i ∧ i ≤ ds.length ∧ ∃ M α N acc kvs, StR T N H σ ⟨s.ρ, M⟩ α ∧ Ext α1 N1 H1 α N H ∧ H L = some (.dT kvs) ∧ N L ∧ L ∉ α ∧ Paired (RelP H N α) acc kvs ∧ acc.length ≤ i ∧ Post T mg RelD N1 α1 H1 σ s.ρ W Q ((fDcGo g t fk fv (wipeD s.ρ vs) acc (ds.drop i) M).bind fun acc M' => .ok (.loc M'.length) (M' ++ [.tag .dic :: acc])),
      ⟨ds.length, by simp, Nat.zero_le _, M, α1, _, [], [], sL, eL, upd_same, .inr rfl, nL, .nil, by simp, Post.later e1 p⟩, ?_⟩
    rintro i m H2 ⟨rfl, hi, M2, α2, N2, acc, kvs, t2, e2, hu, n1, n2, ra, la, p2⟩
    obtain ⟨hstop, hgo⟩ := it i α2 N2 H2 e2.toW t2.c.sub
    by_cases hlt : i < ds.length
    · have hd : ds[i]? = some ds[i] := by simp [hlt]
      obtain ⟨go, yl⟩ := hgo _ hd
      have hdr : ds.drop i = ds[i] :: ds.drop (i + 1) := List.drop_eq_getElem_cons hlt
      rw [hdr] at p2
      refine .inr ⟨go, fun H' => ∃ M α N acc kvs, StR T N H' σ ⟨s.ρ, M⟩ α ∧ Ext α1 N1 H1 α N H' ∧ H' L = some (.dT kvs) ∧ N L ∧ L ∉ α ∧ Paired (RelP H' N α) acc kvs ∧ acc.length ≤ i + 1 ∧ Post T mg RelD N1 α1 H1 σ s.ρ W Q ((fDcGo g t fk fv (wipeD s.ρ vs) acc (ds.drop (i + 1)) M).bind fun acc M' => .ok (.loc M'.length) (M' ++ [.tag .dic :: acc])),
        fun H' h' => ⟨ds.length - (i + 1), by omega, rfl, hlt, h'⟩, fun x H3 hy => ?_⟩
      obtain ⟨k3, r3⟩ := yl x H3 hy
      have t3 := t2.grow k3
      unfold fDcGo at p2
      cases qg : g ds[i] ⟨wipeD s.ρ vs, M2⟩ with
      | none => rw [qg] at p2; exact p2.elim
      | some sg =>
        rw [qg] at p2
        dsimp only at p2
        refine ⟨ds[i], ⟨wipeD s.ρ vs, M2⟩, α2, N2, sg, StR.wipe t3, r3, qg, fun σ4 H4 α4 N4 t4 e4 off => ⟨Off.wipe off, sg, α4, N4, t4, ?_⟩⟩
        have e24 : Ext α2 N2 H2 α4 N4 H4 := (Ext.grow k3).trans e4
        cases qt : t sg with
        | no => rw [qt] at p2; exact p2.elim
        | ex _ _ => rw [qt] at p2; exact p2.elim
        | ok b M5 =>
          rw [qt] at p2
          dsimp only at p2
          intro b' H5 α5 N5 t5 e5 hb
          cases hb
          have e25 := e24.trans e5
          cases b with
          | false =>
            rw [if_neg (by decide)] at p2 ⊢
            -- the dict's own object is kept by the test
            have hu5 : ∃ kvs', H5 L = some (.dT kvs') ∧ kvs' = kvs := ⟨kvs, e25.keep L _ hu (fun _ => n2) (fun _ z => by cases z), rfl⟩
            obtain ⟨_, hu5, rfl⟩ := hu5
            exact ⟨M5, α5, N5, acc, _, StC.keep t2 t5.c e25, e2.trans e25, hu5, e25.nn L n1, e25.notinF n2 (nfT hu), paired_mono ra fun _ _ z => relP_mono (fun d v q => Rel.mono t2.c.sub e25 q) z, by omega, p2⟩
          | true =>
            rw [if_pos rfl] at p2 ⊢
            refine ⟨⟨sg.ρ, M5⟩, α5, N5, t5, ?_⟩
            cases qk : fk ⟨sg.ρ, M5⟩ with
            | no => rw [qk] at p2; exact p2.elim
            | ex _ _ => rw [qk] at p2; exact p2.elim
            | ok y M6 =>
              rw [qk] at p2
              dsimp only at p2
              intro y' H6 α6 N6 t6 e6 ry
              refine ⟨⟨sg.ρ, M6⟩, α6, N6, t6, ?_⟩
              cases qv : fv ⟨sg.ρ, M6⟩ with
              | no => rw [qv] at p2; exact p2.elim
              | ex _ _ => rw [qv] at p2; exact p2.elim
              | ok z M7 =>
                rw [qv] at p2
                dsimp only at p2
                intro z' H7 α7 N7 t7 e7 rz
                cases qi : iKey y with
                | none => rw [qi] at p2; exact p2.elim
                | some ks =>
                  rw [qi] at p2
                  dsimp only at p2
                  have ey := iKey_some qi
                  subst ey
                  have ry7 := Rel.mono t6.c.sub e7 ry
                  unfold RelD Rel at ry7
                  obtain ⟨b, ws, rfl, hb7, hw⟩ := ry7
                  have hw' : ws = ks.map V.int := by
                    clear qi qk p2 ry hb7
                    induction ks generalizing ws with
                    | nil => have h : Rels H7 N7 α7 [] ws := hw; unfold Rels at h; exact h
                    | cons k ks ih =>
                      have h : Rels H7 N7 α7 (.int k :: ks.map .int) ws := hw
                      unfold Rels Rel at h
                      obtain ⟨v, r, rfl, rfl, h3⟩ := h
                      rw [ih _ h3]; rfl
                  have e27 := (e25.trans e6).trans e7
                  have hu7 := e27.keep L _ hu (fun _ => n2) (fun _ z => by cases z)
                  have n17 := e27.nn L n1
                  have n27 := e27.notinF n2 (nfT hu)
                  have ra7 := paired_mono ra fun _ _ z => relP_mono (fun d v q => Rel.mono t2.c.sub e27 q) z
                  have hl : acc.length = kvs.length := Paired.length ra
                  have s7 : StR T N7 H7 σ ⟨s.ρ, M7⟩ α7 := StC.keep t2 t7.c e27
                  refine ⟨kvs, ks.map Sum.inl, b, rfl, by rw [hb7, hw']; simp [kV], hu7, Nat.lt_of_lt_of_le (by omega : kvs.length < 100001) (by decide), M7, α7, N7, putP acc ks z, _, s7.wrT n27 hu7, (e2.trans e27).wr (fz_of hL) (fun _ z => by cases z), upd_same, n17, n27,
                    paired_mono (relP_put ra7 rz) fun _ _ z => relP_mono (fun d v q => Rel.wrT hu7 q) z, Nat.le_trans putP_length (by omega), p2⟩
    · have ei : i = ds.length := by omega
      refine .inl ⟨hstop ei, ?_⟩
      rw [ei, List.drop_length] at p2
      exact Post.cellT p2 t2 e2 n1 n2 (fz_of hL) hu ra
end
end DL

namespace DL
open PySem PySem.Spec L2
open PyProof.Rows hiding St
/-! ### dicts read, written, sorted -/
/-- sorted(d): its keys read as data -/
def rSortedDT (K : PySem.W.Frag) : List V → Hp → VK → Prop := fun vs H Q => ∃ (a : Addr) (kvs : List (List Key × V)), vs = [V.ref a] ∧ Rd H a (.dT kvs) ∧ ∀ bs, IsKeys H kvs bs → ∃ (β : Type) (zs : List (V × β)) (enc : β → PyData), bs.map V.ref = zs.map (·.1) ∧
  DpAll K H (zs.map (·.1)) (zs.map fun z => enc z.2) ∧ PySem.W.AllAlike (zs.map fun z => enc z.2) ∧ PySem.W.Sortable (zs.map fun z => enc z.2) ∧ (∀ z ∈ zs, (enc z.2).depth ≤ 60) ∧
  ∀ p, H p = none → Q (.ref p) (upd H p (.lst ((zs.mergeSort (PySem.W.dataLe false fun z => enc z.2)).map (·.1))))
theorem cr_sortedDT {X : Cx} (hc : X.calm = true) (hu : X.A.units + 64 < cLine) : CallR X (.builtin "sorted") (rSortedDT X.K) := by
  intro pins s σ H xs us Q I r h
  obtain ⟨d, kvs, rfl, hd, q⟩ := h
  obtain ⟨u, rfl, rx⟩ := r.one
  cases rx
  obtain ⟨z, hs, ks, pr, o, es, ep, ho, hx, hdt, he, hn⟩ := (show ObjOk X.prog X.w H s.heap d (.dT kvs) from hd.ok I.hok)
  have l1 : es.size = ks.length := size_of_entries he
  have l2 : kvs.length = ks.length := Paired.length pr
  refine Calls.call_function_entry PyProof.Rows.kind_sorted PyProof.Rows.plain_sorted PyProof.Rows.entry_sorted (PyProof.Rows.args_sorted1 _) ?_
  unfold Builtin.«sorted»
  refine wpAny_bind (m := checkCount "sorted" 1 1 _) (wpAny_pure ?_)
  refine wpAny_bind (PySem.W.kdu_collect (A := X.A.in1) (kdl_raw hs hx hdt) (I.ok.hd hc) ho (by omega) fun h' tk acc' hk it => ?_)
  have ea : acc'.toList = ks.map fun x => Value.ref x.2.1 := by
    have hl : acc'.toList.length = ks.length := by rw [Array.length_toList, it.1]; exact l1
    apply List.ext_getElem?
    intro j
    rw [List.getElem?_map]
    cases hj : acc'.toList[j]? with
    | none =>
      have h1 := List.getElem?_eq_none_iff.mp hj
      rw [List.getElem?_eq_none (by omega)]
      all_goals rfl
    | some v =>
      obtain ⟨en, hen, hv⟩ := it.2 j v (by rw [← Array.getElem?_toList]; exact hj)
      have qe := entry_at he j
      rw [hen] at qe
      cases hb : ks[j]? with
      | none =>
        rw [hb] at qe
        exact nomatch (show some en = none from qe)
      | some b =>
        rw [hb] at qe
        have e2 : en = entryOfKey (tupleKind (mixKind X.prog X.w)) b := Option.some.inj qe
        rw [hv, e2]
        all_goals rfl
  obtain ⟨β, zs, enc, ez, hdp, hal, hsk, hdep, fin⟩ := q _ (isKeys_of pr)
  have eb : acc'.toList = (ks.map fun x => x.2.1).map Value.ref := by rw [ea, List.map_map]; all_goals rfl
  have rv : Vals (zs.map (·.1)) acc'.toList := by rw [← ez, eb]; exact vals_refs _
  have hz' : zs.length ≤ sizeLine := by
    have := congrArg List.length ez
    simp only [List.length_map] at this
    omega
  have hal' : acc'.toList.length ≤ sizeLine := by rw [← rv.length, List.length_map]; exact hz'
  obtain ⟨as, hr⟩ := Dp.readsAll I _ _ acc'.toList hdp rv
  have I1 : Inv X pins σ H { s with heap := h', toks := tk } := I.kept hk
  refine wpAny_bind (wpAny_newList ?_ hal')
  have hoL : (h'.push (seqObj "list" acc'.toList.toArray 0)).get? h'.objs.size = some (seqObj "list" acc'.toList.toArray 0) := Heap.get?_push_size _ rfl
  have old : ∀ b u, s.heap.get? b = some u → (PySem.W.sortingHeap (h'.push (seqObj "list" acc'.toList.toArray 0)) h'.objs.size acc'.toList).get? b = some u := fun b u e =>
    PySem.W.sortingHeap_old (Nat.ne_of_lt (Heap.lt_size (hk b u e))) (Heap.get?_push_of_some _ (hk b u e))
  have er : PySem.W.EachIs (fun v (z : V × β) => ∃ as, Reads s.heap v (enc z.2) as) acc'.toList zs := PySem.W.readsAll_each (fun z : V × β => enc z.2) hr
  have er' : PySem.W.EachIs (fun v (z : V × β) => ∃ as, Reads (PySem.W.sortingHeap (h'.push (seqObj "list" acc'.toList.toArray 0)) h'.objs.size acc'.toList) v (enc z.2) as) acc'.toList zs :=
    er.mono fun _ _ ⟨as, r⟩ => ⟨as, PyProof.Rows.Reads.keeps old r⟩
  have dep : ∀ z, z ∈ zs → X.A.units + 2 + (enc z.2).depth < cLine := fun z hz => by have := hdep z hz; omega
  show wpAny _ _ _ _ _ { s with heap := h'.push (seqObj "list" acc'.toList.toArray 0), toks := tk }
  refine wpAny_bind (wpAny_holding (wpAny_call_entry PyProof.Rows.slot_list_sort ⟨_, hoL, rfl⟩ PyProof.Rows.entry_list_sort
    (PySem.W.list_sort_vals (κ := PySem.W.dataKind (PySem.W.sortingHeap (h'.push (seqObj "list" acc'.toList.toArray 0)) h'.objs.size acc'.toList) (zs.map fun z => enc z.2)) (s := { s with heap := h'.push (seqObj "list" acc'.toList.toArray 0), toks := tk }) hoL
      (PySem.W.SortsAt.data (s := { s with heap := PySem.W.sortingHeap (h'.push (seqObj "list" acc'.toList.toArray 0)) h'.objs.size acc'.toList, toks := tk }) (PySem.W.each_map (R := fun v d => ∃ as, Reads (PySem.W.sortingHeap (h'.push (seqObj "list" acc'.toList.toArray 0)) h'.objs.size acc'.toList) v d as) (fun z : V × β => enc z.2) er') hal hsk (PySem.W.bound_map dep)) hal' ⟨_, rfl, ?_⟩) (PyProof.Rows.args_list_sort _)))
  have ho2 := PySem.W.sortVals_data (h' := PySem.W.sortingHeap (h'.push (seqObj "list" acc'.toList.toArray 0)) h'.objs.size acc'.toList) (enc := fun z : V × β => enc z.2) false (each_of_paired rv) er' hal
  generalize PySem.W.sortVals (PySem.W.dataKind (PySem.W.sortingHeap (h'.push (seqObj "list" acc'.toList.toArray 0)) h'.objs.size acc'.toList) (zs.map fun z => enc z.2)) false acc'.toList acc'.toList = out at ho2 ⊢
  obtain ⟨e', he'⟩ := PyProof.Rows.sortedHeap_at (vs := acc'.toList) (out := out.toArray) hoL
  have hlen : ((zs.mergeSort (PySem.W.dataLe false fun z => enc z.2)).map (·.1)).length ≤ sizeLine := by
    rw [List.length_map, List.length_mergeSort]; exact hz'
  refine wpAny_pure ⟨_, rfl, .ref h'.objs.size, upd H h'.objs.size (.lst _), I1.laid (t' := tk) (fun b u e => ?_) (Nat.le_refl _)
    ⟨hlen, out, e', paired_of_each ho2, he'⟩, rfl, fin _ (I1.hok.fresh (Nat.le_refl _))⟩
  have hb : b < h'.objs.size := Heap.lt_size e
  rw [PyProof.Rows.sortedHeap_old (Nat.ne_of_lt hb) (by rw [size_push']; exact Nat.lt_succ_of_lt hb)]
  exact Heap.get?_push_of_some _ e
end DL

namespace DL
open PySem PySem.Spec L2
open PyProof.Rows hiding St
section
variable {T : TPr} {mg : Str → Option Value} {W : WX} {σ : L2.St} {H : Hp} {N : Addr → Prop} {α : List Addr} {Dn : Ends}
theorem ints_vals {ks : List Int} : ∀ {ws : List V}, Rels H N α (ks.map .int) ws → ws = ks.map V.int := by
  induction ks with
  | nil => intro ws h; have h : Rels H N α [] ws := h; unfold Rels at h; exact h
  | cons k ks ih =>
    intro ws h
    have h : Rels H N α (.int k :: ks.map .int) ws := h
    unfold Rels Rel at h
    obtain ⟨v, r, rfl, rfl, h3⟩ := h
    rw [ih h3]; rfl
theorem key_rel {d : D} {y : V} {ks : List Int} (r : Rel H N α d y) (h : iKey d = some ks) : ∃ b, y = .ref b ∧ H b = some (.tup ((ks.map Sum.inl).map kV)) := by
  rw [iKey_some h] at r
  unfold Rel at r
  obtain ⟨b, ws, rfl, hb, hw⟩ := r
  exact ⟨b, rfl, by rw [hb, ints_vals hw]; simp [kV]⟩
/-! d[k] -/
def gDGet : Cells → D → D → Option D := fun M o k => match o with
  | .loc n => match dat M n, iKey k with
    | some ds, some ks => getP ds ks
    | _, _ => none
  | _ => none
theorem dget_imp {fo fi : Sx → R D} {Q : VK} (h : tD T mg W (fOp gDGet fo fi) σ H Q) : tDGet (tD T mg W fo) (tD T mg W fi) σ H Q := by
  obtain ⟨s, α, N, hs, p⟩ := h
  refine ⟨s, α, N, hs, Post.mono (fun x H1 h1 => ?_) (Post.bind (G := RelD) p)⟩
  obtain ⟨M1, α1, N1, d, s1, e1, g1, p1⟩ := h1
  refine ⟨_, α1, N1, s1, Post.mono (fun y H2 h2 => ?_) (Post.bind (G := RelD) p1)⟩
  obtain ⟨M2, α2, N2, e, s2, e2, g2, p2⟩ := h2
  obtain ⟨z, hz, p3⟩ := p2.opt
  unfold gDGet at hz
  cases d <;> try (cases hz; done)
  rename_i n
  dsimp only at hz
  cases qd : dat M2 n with
  | none => rw [qd] at hz; cases hz
  | some ds =>
    cases qk : iKey e with
    | none => rw [qd, qk] at hz; cases hz
    | some ks =>
      rw [qd, qk] at hz
      obtain ⟨a, kvs, rfl, h1, h2, h3⟩ := dic_rel s2.c (Rel.mono s1.c.sub e2 g1) qd
      obtain ⟨b, rfl, hb⟩ := key_rel g2 qk
      obtain ⟨v, hv, rv⟩ := (relP_get h3).2 z hz
      exact ⟨a, v, rfl, by have := DGet.t h2 hb; rw [hv] at this; exact this, Post.now p3 s2 rv⟩
/-! k in d -/
def gDIn : Cells → D → D → Option D := fun M k o => match o with
  | .loc n => match dat M n, iKey k with
    | some ds, some ks => some (.bl (getP ds ks).isSome)
    | _, _ => none
  | _ => none
def gDNotIn : Cells → D → D → Option D := fun M k o => match o with
  | .loc n => match dat M n, iKey k with
    | some ds, some ks => some (.bl (!(getP ds ks).isSome))
    | _, _ => none
  | _ => none
def rDIn : R2 := fun y x H Q => ∃ a o, x = .ref a ∧ DGet H a y o ∧ Q (.bl o.isSome) H
def rDNotIn : R2 := fun y x H Q => ∃ a o, x = .ref a ∧ DGet H a y o ∧ Q (.bl (!o.isSome)) H
theorem op_dIn {X : Cx} (hu : X.A.units + 1 < cLine) : OpR X (compareOp .In) rDIn := by
  intro pins s σ H y x u v Q I ry rx h
  obtain ⟨a, o, rfl, g, q⟩ := h
  obtain rfl : v = Value.ref a := rx
  exact d_in hu I g ry fun s' I' => ⟨.bl o.isSome, H, I', rfl, q⟩
theorem op_dNotIn {X : Cx} (hu : X.A.units + 1 < cLine) : OpR X (compareOp .NotIn) rDNotIn := by
  intro pins s σ H y x u v Q I ry rx h
  obtain ⟨a, o, rfl, g, q⟩ := h
  obtain rfl : v = Value.ref a := rx
  exact d_notIn hu I g ry fun s' I' => ⟨.bl (!o.isSome), H, I', rfl, q⟩
theorem getP_some {ds : List D} {kvs : List (List Key × V)} {ks : List Int} (h : Paired (RelP H N α) ds kvs) : (valV kvs (ks.map Sum.inl)).isSome = (getP ds ks).isSome := by
  cases q : getP ds ks with
  | none => rw [(relP_get h).1 q]; rfl
  | some d => obtain ⟨v, hv, _⟩ := (relP_get h).2 d q; rw [hv]; rfl
theorem od_dIn : OpD T rDIn gDIn := by
  intro N H M α d e x y z Q c r1 r2 h k
  unfold gDIn at h
  cases e <;> try (cases h; done)
  rename_i n
  dsimp only at h
  cases qd : dat M n with
  | none => rw [qd] at h; cases h
  | some ds =>
    cases qk : iKey d with
    | none => rw [qd, qk] at h; cases h
    | some ks =>
      rw [qd, qk] at h
      cases h
      obtain ⟨a, kvs, rfl, h1, h2, h3⟩ := dic_rel c r2 qd
      obtain ⟨b, rfl, hb⟩ := key_rel r1 qk
      exact ⟨a, _, rfl, DGet.t h2 hb, by rw [getP_some h3]; exact k _ H c Ext.refl rel_bl⟩
theorem od_dNotIn : OpD T rDNotIn gDNotIn := by
  intro N H M α d e x y z Q c r1 r2 h k
  unfold gDNotIn at h
  cases e <;> try (cases h; done)
  rename_i n
  dsimp only at h
  cases qd : dat M n with
  | none => rw [qd] at h; cases h
  | some ds =>
    cases qk : iKey d with
    | none => rw [qd, qk] at h; cases h
    | some ks =>
      rw [qd, qk] at h
      cases h
      obtain ⟨a, kvs, rfl, h1, h2, h3⟩ := dic_rel c r2 qd
      obtain ⟨b, rfl, hb⟩ := key_rel r1 qk
      exact ⟨a, _, rfl, DGet.t h2 hb, by rw [getP_some h3]; exact k _ H c Ext.refl rel_bl⟩
/-! d[k] = v -/
def fDPut (fo fi fe : Sx → R D) : Sx → RS := fun s => (fe s).toS s.ρ fun d M1 => (fo ⟨s.ρ, M1⟩).toS s.ρ fun o M2 => (fi ⟨s.ρ, M2⟩).toS s.ρ fun i M3 => match o with
  | .loc n => match dat M3 n, iKey i with
    | some ds, some ks => if ds.length < 100000 then .nx ⟨s.ρ, M3.set n (.tag .dic :: putP ds ks d)⟩ else .no
    | _, _ => .no
  | _ => .no
theorem dput_imp {fo fi fe : Sx → R D} (h : tS T mg W (fDPut fo fi fe) Dn σ H) : sDPut (tD T mg W fo) (tD T mg W fi) (tD T mg W fe) Dn σ H := by
  obtain ⟨s, α, N, hs, p⟩ := h
  refine ⟨s, α, N, hs, Post.mono (fun v H1 h1 => ?_) (PostS.bind (G := RelD) p)⟩
  obtain ⟨M1, α1, N1, d, s1, e1, g1, p1⟩ := h1
  refine ⟨_, α1, N1, s1, Post.mono (fun x H2 h2 => ?_) (PostS.bind (G := RelD) p1)⟩
  obtain ⟨M2, α2, N2, o, s2, e2, g2, p2⟩ := h2
  refine ⟨_, α2, N2, s2, Post.mono (fun y H3 h3 => ?_) (PostS.bind (G := RelD) p2)⟩
  obtain ⟨M3, α3, N3, i, s3, e3, g3, p3⟩ := h3
  cases o <;> try (exact p3.elim)
  rename_i n
  dsimp only at p3
  cases qd : dat M3 n with
  | none => rw [qd] at p3; exact p3.elim
  | some ds =>
    cases qk : iKey i with
    | none => rw [qd, qk] at p3; exact p3.elim
    | some ks =>
      rw [qd, qk] at p3
      dsimp only at p3
      by_cases hl : ds.length < 100000
      · rw [if_pos hl] at p3
        obtain ⟨a, kvs, rfl, h1, h2, h3⟩ := dic_rel s3.c (Rel.mono s2.c.sub e3 g2) qd
        obtain ⟨b, rfl, hb⟩ := key_rel g3 qk
        have hl2 : ds.length = kvs.length := Paired.length h3
        have rd := Rel.mono s2.c.sub e3 (Rel.mono s1.c.sub e2 g1)
        obtain ⟨c', e'⟩ := s3.c.putT h1 qd h2 (relP_put (ks := ks) h3 rd)
        exact ⟨a, _, rfl, DPut.t h2 hb (sz_lt (by omega)), p3.later e' |>.nxNow (StC.keep s3 c' e')⟩
      · rw [if_neg hl] at p3; exact p3.elim
/-! len(d), sorted(d) -/
def gLenT : Cells → List D → Option D := fun M l => match l with
  | [.loc n] => (dat M n).map fun ds => .int ds.length
  | _ => none
theorem cd_lenT : CbD T rLenT gLenT := by
  intro N H M α l xs z Q c r h k
  match l, h, r with
  | [.loc n], h, r =>
    obtain ⟨x, rfl, r1⟩ := rels1 r
    unfold gLenT at h
    dsimp only at h
    cases qd : dat M n with
    | none => rw [qd] at h; cases h
    | some ds =>
      rw [qd] at h; cases h
      obtain ⟨a, kvs, rfl, h1, h2, h3⟩ := dic_rel c r1 qd
      have hl : ds.length = kvs.length := Paired.length h3
      exact ⟨a, kvs, rfl, h2, by rw [← hl]; exact k _ H c Ext.refl rel_int⟩
/-- the keys, if all are points -/
def entPt : D → Option Pt
  | .tup [.tup [.int x, .int y], _] => some (x, y)
  | _ => none
def entPts : List D → Option (List Pt)
  | [] => some []
  | d :: l => match entPt d, entPts l with
    | some p, some ps => some (p :: ps)
    | _, _ => none
def gSortedT : Cells → List D → Option D := fun M l => match l with
  | [.loc n] => match dat M n with
    | some ds => match entPts ds with
      | some ps => some (.lst ((ps.mergeSort lePt).map pt))
      | none => none
    | none => none
  | _ => none
theorem entPt_some {d : D} {p : Pt} (h : entPt d = some p) : ∃ v, d = .tup [.tup [.int p.1, .int p.2], v] := by
  unfold entPt at h
  split at h
  · cases h; exact ⟨_, rfl⟩
  · cases h
theorem keys_at : ∀ {ds : List D} {kvs : List (List Key × V)} {ps : List Pt} {bs : List Addr}, Paired (RelP H N α) ds kvs → entPts ds = some ps → IsKeys H kvs bs → ∃ zs : List (V × Pt), bs.map V.ref = zs.map (·.1) ∧ zs.map (·.2) = ps ∧ ∀ z ∈ zs, Rel H N α (pt z.2) z.1
  | [], _, _, _, h, hp, hk => by
    cases h
    unfold entPts at hp
    cases hp
    unfold IsKeys at hk
    cases hk
    exact ⟨[], rfl, rfl, by simp⟩
  | d :: ds, _, _, _, h, hp, hk => by
    cases h with
    | @cons _ kv _ kvs a t =>
      unfold IsKeys at hk
      cases hk with
      | @cons _ b _ bs hb hk =>
        unfold entPts at hp
        cases q1 : entPt d with
        | none => rw [q1] at hp; simp at hp
        | some p =>
          cases q2 : entPts ds with
          | none => rw [q1, q2] at hp; simp at hp
          | some qs =>
            rw [q1, q2] at hp; simp at hp; subst hp
            obtain ⟨zs, e1, e2, e3⟩ := keys_at t q2 hk
            obtain ⟨v, rfl⟩ := entPt_some q1
            obtain ⟨ks, dv, ed, ek, _⟩ := a
            simp only [D.tup.injEq, List.cons.injEq, and_true] at ed
            obtain ⟨ed, _⟩ := ed
            have ek2 : ks = [p.1, p.2] := by
              match ks, ed with
              | [x, y], ed => simp at ed; rw [ed.1, ed.2]
              | [], ed => simp at ed
              | [_], ed => simp at ed
              | _ :: _ :: _ :: _, ed => simp at ed
            refine ⟨(V.ref b, p) :: zs, by rw [List.map_cons, List.map_cons, e1], by rw [List.map_cons, e2], fun z hz => ?_⟩
            rcases List.mem_cons.mp hz with e | hz
            · rw [e]
              rw [ek, ek2] at hb
              show Rel H N α (.tup [.int p.1, .int p.2]) (V.ref b)
              unfold Rel
              refine ⟨b, _, rfl, hb, ?_⟩
              exact Rels.cons rel_int (Rels.one rel_int)
            · exact e3 z hz
theorem cd_sortedT {K : PySem.W.Frag} : CbD T (rSortedDT K) gSortedT := by
  intro N H M α l xs z Q c r h k
  match l, h, r with
  | [.loc n], h, r =>
    obtain ⟨x, rfl, r1⟩ := rels1 r
    unfold gSortedT at h
    dsimp only at h
    cases qd : dat M n with
    | none => rw [qd] at h; cases h
    | some ds =>
      rw [qd] at h
      dsimp only at h
      cases qp : entPts ds with
      | none => rw [qp] at h; cases h
      | some ps =>
        rw [qp] at h; cases h
        obtain ⟨a, kvs, rfl, h1, h2, h3⟩ := dic_rel c r1 qd
        refine ⟨a, kvs, rfl, .inl h2, fun bs hk => ?_⟩
        obtain ⟨zs, e1, e2, e3⟩ := keys_at h3 qp hk
        have enc : Pt → PyData := fun p => .tuple [.int p.1, .int p.2]
        have hpy : ∀ zs : List (V × Pt), (∀ z ∈ zs, Rel H N α (pt z.2) z.1) → DpAll K H (zs.map (·.1)) (zs.map fun z => PyData.tuple [.int z.2.1, .int z.2.2]) := by
          intro zs
          induction zs with
          | nil => intro _; exact .nil
          | cons z zs ih => intro h; exact .cons (py_rel (h z (by simp)) (by rfl)) (ih fun y hy => h y (by simp [hy]))
        refine ⟨Pt, zs, fun p => .tuple [.int p.1, .int p.2], e1, hpy zs e3, PySem.W.AllAlike.of fun z z' => rfl, PySem.W.Sortable.tuples fun z => ⟨_, _, rfl⟩, fun z _ => by simp [PyData.depth, PyData.depthAll], fun p hp => ?_⟩
        have hm : (zs.mergeSort (PySem.W.dataLe false fun z : V × Pt => .tuple [.int z.2.1, .int z.2.2])).map (·.2) = ps.mergeSort lePt := by
          rw [← e2]
          exact PySem.W.sort_maps (fun z : V × Pt => z.2) fun z _ y _ => congrFun (congrFun (PySem.W.dataLe_ii (β := V × Pt) (·.2.1) (·.2.2)) z) y
        have hr : Rels H N α ((zs.mergeSort (PySem.W.dataLe false fun z : V × Pt => .tuple [.int z.2.1, .int z.2.2])).map fun z => pt z.2) ((zs.mergeSort (PySem.W.dataLe false fun z : V × Pt => .tuple [.int z.2.1, .int z.2.2])).map (·.1)) := Rels.unzip fun z hz => e3 z (List.mem_mergeSort.mp hz)
        have hr2 : Rels H N α ((ps.mergeSort lePt).map pt) ((zs.mergeSort (PySem.W.dataLe false fun z : V × Pt => .tuple [.int z.2.1, .int z.2.2])).map (·.1)) := by
          rw [← hm, List.map_map]; exact hr
        exact k _ _ (c.grow (new_keep hp)) (Ext.grow (new_keep hp)) (lst_new hr2 c.sub c.som hp)
end
/-! ### the rules -/
section
variable {X : Cx} {T : TPr} {W : WX} {pos pos' : Pos} {k : Nat} {o i e kx vx tg iter : Expr} {ifs : List Expr} {scope : Scope} {own : List (Str × Nat)} {fo fi fe : Sx → R D} {fl : Sx → R (List D)} {g1 : D → Sx → Option Sx} {ft : Sx → R Bool} {fk fv : Sx → R D}
theorem e_dnew : PE X (.Dict [] [] pos) (tD T X.mg W fDNew) := pe_dnewT.imp fun _ _ _ => dnew_imp
theorem Bd.hu0 (B : Bd X W k) : X.A.units < cLine := B.rm.units0
theorem Bd.hu1 (B : Bd X W k) : X.A.units + 1 < cLine := by have := B.rm.units; omega
theorem e_dc (B : Bd X W k) (hc : X.calm = true) (hN : X.N.Nodup) (hi : PI X tg iter (tI T X.mg W fl)) (ok : BlkOk X.N X.env.scope scope own)
    (hg : ∀ (s : Shared) (H : Hp) (C : Addr) (cl : List (Str × Addr)) (fp : List Addr), PG (X.blk s H scope (compEnvC scope cl C X.env) fp) tg (tT T (own.map (·.2)) g1)) (ht : ∀ (s : Shared) (H : Hp) (C : Addr) (cl : List (Str × Addr)) (fp : List Addr), PTs (X.blk s H scope (compEnvC scope cl C X.env) fp) ifs (tB' T X.mg W0 ft))
    (hk : ∀ (s : Shared) (H : Hp) (C : Addr) (cl : List (Str × Addr)) (fp : List Addr), PE (X.blk s H scope (compEnvC scope cl C X.env) fp) kx (tD T X.mg W0 fk)) (hv : ∀ (s : Shared) (H : Hp) (C : Addr) (cl : List (Str × Addr)) (fp : List Addr), PE (X.blk s H scope (compEnvC scope cl C X.env) fp) vx (tD T X.mg W0 fv))
    (hs : ∀ x, foldedSetIterable iter X.env x = pure x := by intro _; rfl) :
    PE X (.DictComp kx vx [⟨tg, iter, ifs, 0⟩] scope pos) (tD T X.mg W (fDc fl g1 ft fk fv (own.map (·.2)))) := (pe_dcT B.hu0 hc hN hi ok hg ht hk hv hs).imp fun _ _ _ => dc_imp
theorem e_dget (B : Bd X W k) (ho : PE X o (tD T X.mg W fo)) (hi : PE X i (tD T X.mg W fi)) (hs : NoSl i := by exact fun _ _ => rfl) : PE X (.Subscript o i pos) (tD T X.mg W (fOp gDGet fo fi)) := (pe_dget B.hu1 ho hi hs).imp fun _ _ _ => dget_imp
theorem s_dput (B : Bd X W k) (ho : PE X o (tD T X.mg W fo)) (hi : PE X i (tD T X.mg W fi)) (he : PE X e (tD T X.mg W fe)) (hs : swapsWith e (some (.Subscript o i pos')) pos.line X.env = pure false := by rfl) : PS X (.Assign [.Subscript o i pos'] e pos) (tS T X.mg W (fDPut fo fi fe)) := (ps_dput B.hu1 ho hi he hs).imp fun _ _ _ => dput_imp
end
end DL

namespace DL
open PySem PySem.Spec L2
open PyProof.Rows hiding St

/-! ### an own error with a part: its __init__ says super().__init__(text); self.part = part -/
def spInit (C : Addr) : Sp := fun vs H Q _ => ∃ (a : Addr) (pv : V), vs = [.ref a, pv] ∧ H a = some (exo a C none) ∧ ∀ dx, H dx = none → dx ≠ a → Q .non (upd (upd H dx (exd dx [("part", pv)])) a (exo a C (some dx)))
abbrev initBody (m : Str) (j : Nat) (p0 p1 p2 p3 p4 p5 p6 p7 p8 p9 : Pos) : List Stmt :=
  [.Expr (.Call (.Attribute (.Call (.Name "super" p0) [] [] p1) "__init__" p2) [.Constant (.str m) j p3] [] p4) p5, .Assign [.Attribute (.Name "self" p6) "part" p7] (.Name "part" p8) p9]
/-- ValueError.__init__ bound to the exception, called -/
theorem call_mw {prog : Program} {w : World} {A : Around} {E : Value → Shared → Prop} {h : Heap} {g : Array GenState} {d : Drawn} {t : Nat} {os : OsState} {nm q : Str} {C N : Addr} {bs bm : List Value} {hdct : Bool} {sn : List Str} {sub : List Value} {ab : Bool} {col : Option Bool} {dd : Option Addr} {k0 k1 k2 k3 k5 : Option Value}
    {u e t0 : Addr} {rest : List Value} {Q : Value → Shared → Prop}
    (hC : h.get? C = some (excClassObj nm q C N bs bm hdct sn sub ab col dd k0 k1 k2 k3 k5 "ValueError.__new__")) (he : h.get? e = some (HandSPX.excO C t0)) (hu : h.get? u = some (PySem.W.kxs_mw "ValueError.__init__" e)) (hrest : rest.length ≤ sizeLine)
    (hq : ∀ h' t1, (∀ b o, b ≠ e → h.get? b = some o → h'.get? b = some o) → h'.get? e = some (HandSPX.excO C t1) → Q .none ⟨h', g, d, t, os⟩) :
    wpAny (model prog w) A (call (.ref u) rest) Q E ⟨h, g, d, t, os⟩ := by
  refine wpAny_call (codeAny_of_tree ?_)
  show wpAny _ A.in1 (callAny (.ref u) ⟨rest, []⟩) _ _ _
  simp only [callAny]
  refine wpAny_bind (wpAny_load hu ?_)
  simp only [PySem.W.kxs_mw, show (Value.type "method-wrapper" == Value.type "method" || Value.type "method-wrapper" == Value.type "builtin_function_or_method" || Value.type "method-wrapper" == Value.type "method-wrapper") = true by decide, if_true]
  refine PySem.W.KFB.if_so (by decide) ?_
  refine wpAny_bind (PySem.W.check_bound_init F.excBase_ValueError.toExcCallFacts hC he rfl ?_)
  refine wpAny_bind (wpAny_pure (wpAny_pure ?_))
  refine ⟨Code.quiet_builtin _ (by decide +kernel), codeAny_builtin F.excBase_ValueError.initEntry ?_⟩
  rw [Around.under_plainId F.excBase_ValueError.init.plain _]
  wp_walk
  refine hq _ h.objs.size (fun b o hb ho => ?_) ?_
  · rw [Heap.get?_update_other _ _ (Ne.symm hb)]
    exact Heap.get?_push_of_some _ ho
  · rw [Heap.get?_update_self _ (Heap.get?_push_of_some _ he) rfl]
    rfl
/-- super().__init__(text), the exception's state between -/
theorem super_init {X : Cx} {s : Shared} {H : Hp} {σ : L2.St} {body : List Stmt} {C fI c cc a : Addr} {of oc : Obj} {fd : FuncData} {ar : Arg} {vs : Array Value} {file m : Str} {tf : Tok} {j : Nat} {p0 p1 p2 p3 p4 p5 : Pos} {cl : Value} {cld : Option Addr} {csl : Array (Option Value)} {Q : Shared → Prop}
    (I : Inv X [] σ H s) (T : OexC X.K C) (hσ : σ[0]? = some (some (.ref a))) (hN0 : X.N[0]? = some ("self" : Str)) (ea : H a = some (exo a C none))
    (hks : X.env.kindOf "super" = some .globalImplicit) (hkc : X.env.kindOf "__class__" = some .free) (hkself : X.env.kindOf "self" = some .local) (hfu : X.env.func = some fI) (hf : X.K.lookup fI = some of) (hfd : of.data = .func fd)
    (hp : (fd.params.posonlyargs ++ fd.params.args).head? = some ar) (har : ar.arg = ("self" : Str)) (hco : X.env.code = .ref c) (hcc : X.K.lookup c = some oc) (hoc : oc.data = .fields vs) (hvs : vs[2]? = some (.str file tf))
    (hfile : ((X.prog.main.file : Str) == file) = true) (htop : (X.prog.main.scope.names.lookup ("super" : Str)).isSome = false)
    (hcls : X.env.cells.lookup ("__class__" : Str) = some cc) (hcell : X.K.lookup cc = some ⟨cl, cld, .cell (some (.ref C)), csl⟩) (hsuper : X.mg "super" = none) (hboot : bootBuiltins "super" = some (.type "super"))
    (hmro : PySem.W.mroIn X.K C (.ref C) = some true) (hm : PySem.W.ks_superIn X.K C C "__init__" = some (some (.builtin "ValueError.__init__"))) (hsubV : PySem.W.subIn X.K (.ref C) (.type "ValueError") = some true)
    (ho : PySem.W.nsIn X.K cStatics "thirdparty.any" = some none) (hint : interactive X.env = false) (hpos : (p2.endLine == p4.line) = true)
    (hq : ∀ s', Inv X [] σ H s' → Q s') (hsw : swapsWith (.Call (.Attribute (.Call (.Name "super" p0) [] [] p1) "__init__" p2) [.Constant (.str m) j p3] [] p4) none p5.line X.env = pure false) {E : Value → Shared → Prop} :
    PySem.wpAt (model X.prog X.w) X.A (.func body X.env) (exec (.Expr (.Call (.Attribute (.Call (.Name "super" p0) [] [] p1) "__init__" p2) [.Constant (.str m) j p3] [] p4) p5) X.env) (fun f s' => f = .next ∧ Q s') E s := by
  refine ks_wpAt_Expr_any ?_ hint hsw
  have he : eval (.Call (.Attribute (.Call (.Name "super" p0) [] [] p1) "__init__" p2) [.Constant (.str m) j p3] [] p4) X.env = (do
      let ov ← attributeBase (.Call (.Name "super" p0) [] [] p1) "__init__" X.env (eval (.Call (.Name "super" p0) [] [] p1) X.env)
      standAt p2.atName
      let (f, first) ← holding [ov] (getMethod ov "__init__" (do return (← importBound (.Call (.Name "super" p0) [] [] p1) X.env).getD true))
      callWith p4 f first (backTo p4 (starEach [.Constant (.str m) j p3] X.env)) []) := by
    show (attributeBase (.Call (.Name "super" p0) [] [] p1) "__init__" X.env (eval (.Call (.Name "super" p0) [] [] p1) X.env) >>= fun ov => standAt p2.atName >>= fun _ =>
      methodCall (.Call (.Name "super" p0) [] [] p1) "__init__" p2 p4 X.env ov 1 (backTo p4 (starEach [.Constant (.str m) j p3] X.env)) []) = _
    unfold methodCall methodCallPos
    rw [hpos]
    rfl
  refine ks_wpAt_MethodCall ?_ he
  have X0 := I.kIn
  obtain ⟨oD, hD1, hD2⟩ : ∃ oD, s.heap.get? C = some oD ∧ ∃ cd, oD.data = .cls cd := by
    obtain ⟨nm, q, N, bs, bm, sn, sub, ab, col, dd, k0, k1, k2, k3, k5, hC, hbm⟩ := T.cls
    exact ⟨_, X0 _ _ hC, _, rfl⟩
  obtain ⟨cdD, hD2⟩ := hD2
  refine ks_wpAt_super_base (env := X.env) hks hkc rfl hfu (X0 _ _ hf) hfd hp hco (X0 _ _ hcc) hoc hvs hfile htop ?_
  obtain ⟨mb, hb1, hb2⟩ := I.mod.blt
  refine PySem.W.ks_loadName_global I.ok.kind hks (Calls.loadGlobal_builtin (by rw [I.ok.glob]; exact I.mod.glob.keeps I.bk) hsuper (by rw [I.ok.blt]; exact hb1.keeps I.bk) ((hb2 _ (by decide)).trans hboot) ⟨rfl, ?_⟩)
  refine wpAny_loadName_free I.ok.kind hkc hcls ⟨_, X0 _ _ hcell, rfl⟩ ?_
  obtain ⟨m0, hns, look⟩ := I.loc
  obtain ⟨u, ru, hl⟩ := look 0 _ _ hN0 hσ (.inl hkself)
  obtain rfl : u = Value.ref a := ru
  have hl : m0 ar.arg = some (.ref a) := by
    rcases hl with ⟨_, h⟩ | ⟨h, _⟩
    · rw [har]; exact h
    · rw [show X.env.kindOf ("self" : Str) = some .local from hkself] at h; rcases h with h | h <;> cases h
  refine wpAny_loadName_local I.ok.kind (by rw [har]; exact hkself) hns hl ?_
  refine ks_wpAny_isType_cls hD1 hD2 ⟨rfl, ?_⟩
  obtain ⟨t1, hx⟩ := exo_at I.hok ea
  obtain ⟨hp0, g, d, t, os⟩ := s
  refine ks_wpAny_call_super hD1 hD2 hx rfl (fun c e => by cases e) (PySem.W.looks_mroIn X0 hmro) (fun h1 e1 k1 => ?_)
  have I1 : Inv X [] σ H ⟨h1, g, d, t, os⟩ := I.kept k1
  have X1 := I1.kIn
  have hx1 := k1 _ _ hx
  have hxC : a ≠ C := fun z => by
    obtain ⟨nm, q, N, bs, bm, sn, sub, ab, col, dd, k0, k1, k2, k3, k5, hC, hbm⟩ := T.cls
    have h2 := X1 _ _ hC
    rw [← z, hx1] at h2
    cases h2
  cases hc : PySem.W.clsIn X.K C with
  | none => unfold PySem.W.ks_superIn at hm; rw [hc] at hm; cases hm
  | some cd =>
    unfold PySem.W.ks_superIn at hm
    rw [hc] at hm
    have hI : PySem.W.Looks (model X.prog X.w) h1 (isInstance (.ref a) (.type "ValueError")) true :=
      (show PySem.W.InstAt h1 a _ C none from ⟨hx1, rfl, rfl, trivial⟩).type.andThen (PySem.W.looks_subIn X1 hsubV)
    refine PySem.W.kxs_getMethod PySem.W.kxs_ValueError e1 (PySem.W.looks_opaque X1 ho) (l₀ := cd.mro) (fun A Q E s k q => wpAny_bind ((PySem.W.looks_clsIn X1 hc) A _ E s k (wpAny_pure q))) rfl X1 hm hI hxC rfl ?_
    have I2 : Inv X [] σ H ⟨h1.push (PySem.W.kxs_mw "ValueError.__init__" a), g, d, t + 1, os⟩ := I1.kept (t' := t + 1) fun b o e => Heap.get?_push_of_some _ e
    have hu : (h1.push (PySem.W.kxs_mw "ValueError.__init__" a)).get? h1.objs.size = some (PySem.W.kxs_mw "ValueError.__init__" a) := Heap.get?_push_size _ rfl
    have I3 : Inv X [(h1.objs.size, PySem.W.kxs_mw "ValueError.__init__" a)] σ H ⟨h1.push (PySem.W.kxs_mw "ValueError.__init__" a), g, d, t + 1, os⟩ := I2.pins_of fun p hp => by
      have : p = (h1.objs.size, PySem.W.kxs_mw "ValueError.__init__" a) := by simpa using hp
      subst this
      exact ⟨hu, I1.hok.fresh (Nat.le_refl _), Nat.ne_of_gt I1.lt, I1.nofs (Nat.le_refl _), fun v z => by cases z⟩
    show wpAny _ _ (callWith p4 (.ref h1.objs.size) [] (backTo p4 (starEach [.Constant (.str m) j p3] X.env)) []) _ _ _
    refine PySem.W.kxs_callWith (i := "ValueError.__init__") (x := a) rfl (PySem.Calls.evalArgs_plain (thn ((pa_cons (pe_str (pos := p3) (x := m) (j := j)) pa_nil).run p4 _ _ σ H (fun vs H1 => vs = [.str m] ∧ H1 = H) I3 ⟨rfl, rfl⟩) fun us s1 ⟨vs1, H1, I4, r1, ev, eH⟩ => ?_))
    subst ev
    rw [eH] at I4
    have hu4 : s1.heap.get? h1.objs.size = some (PySem.W.kxs_mw "ValueError.__init__" a) := (I4.pin (h1.objs.size, PySem.W.kxs_mw "ValueError.__init__" a) (List.mem_append_right _ (by simp))).1
    refine ⟨hu4, ?_⟩
    obtain ⟨t4, hx4⟩ := exo_at I4.hok ea
    obtain ⟨nm, q, N, bs, bm, sn, sub, ab, col, dd, k0, k1', k2, k3, k5, hC, hbm⟩ := T.cls
    have I5 : Inv X [] σ H s1 := I4.pins_of fun p hp => by simp at hp
    obtain ⟨hp1, g1, d1, tk1, os1⟩ := s1
    have hus : us.length ≤ sizeLine := by
      rw [← Paired.length r1, sizeLine_eq]
      simp
    refine call_mw (I4.kIn _ _ hC) hx4 hu4 hus fun h' t2 k hx => ?_
    have J := I5.write (t' := tk1) (x := a) (e := a) (o := exo a C none) (by rw [ea]; exact True.intro) (.inl rfl) k ⟨_, hx⟩ (exo_ok hx)
    have eu : upd H a (exo a C none) = H := by
      funext b
      by_cases hb : b = a
      · rw [hb, upd_same, ea]
      · rw [upd_ne hb]
    rw [eu] at J
    exact ⟨rfl, hq _ J⟩
theorem look_one {x y : Str} {c c' : Addr} (e : ([(x, c)] : List (Str × Addr)).lookup y = some c') : y = x ∧ c' = c := by
  rw [List.lookup_cons] at e
  split at e
  · rename_i q
    cases e
    exact ⟨eq_of_beq q, rfl⟩
  · cases e
theorem cl_one {x : Str} {cc : Addr} {h : Heap} {H : Hp} (n : H cc = none) (v : ∃ v, h.IsCell cc v) : NdefX.CellsAt [(x, cc)] [x] [none] h H where
  len := rfl
  all := fun y c e => by
    obtain ⟨_, rfl⟩ := look_one e
    exact ⟨n, v⟩
  inj := fun y z c e1 e2 => by
    rw [(look_one e1).1, (look_one e2).1]
  has := fun i y e => by
    match i, e with
    | 0, e =>
      cases e
      exact ⟨cc, by simp [List.lookup_cons], fun v z => by cases z⟩
/-- the promise of such an __init__ -/
theorem part_init {P : Program} {w : World} {K : PySem.W.Frag} {mg : Str → Option Value} {base : Heap} {k : Nat} {C fI c cc : Addr} {qual file m : Str} {params : Arguments} {body : List Stmt} {scope : Scope} {doc pm ct : Value} {oc : Value} {od : Option Addr} {osl : Array (Option Value)} {ar : Arg} {vs : Array Value} {tf : Tok} {j : Nat} {oco : Obj} {cl : Value} {cld : Option Addr} {csl : Array (Option Value)}
    {p0 p1 p2 p3 p4 p5 p6 p7 p8 p9 : Pos} (lk : K.lookup fI = some ⟨oc, od, .func (PySem.W.fnX "__init__" qual params body scope [("__class__", cc)] .none .none doc pm none (.ref c) ct), osl⟩) (hcd : PySem.W.codeIn K (.ref c) qual = true)
    (S : NdefX.NScope ["self", "part", "__class__"] ["self", "part"] ["__class__"] scope) (hbody : body = initBody m j p0 p1 p2 p3 p4 p5 p6 p7 p8 p9) (hpos : (p2.endLine == p4.line) = true)
    (hp : (params.posonlyargs ++ params.args).head? = some ar) (har : ar.arg = ("self" : Str)) (hcc : K.lookup c = some oco) (hoc : oco.data = .fields vs) (hvs : vs[2]? = some (.str file tf))
    (hfile : ((P.main.file : Str) == file) = true) (htop : (P.main.scope.names.lookup ("super" : Str)).isSome = false) (hcell : K.lookup cc = some ⟨cl, cld, .cell (some (.ref C)), csl⟩) (hsuper : mg "super" = none)
    (hks : scope.names.lookup ("super" : Str) = some .globalImplicit)
    (T : OexC K C) (hmro : PySem.W.mroIn K C (.ref C) = some true) (hm : PySem.W.ks_superIn K C C "__init__" = some (some (.builtin "ValueError.__init__"))) (hsubV : PySem.W.subIn K (.ref C) (.type "ValueError") = some true)
    (ho : PySem.W.nsIn K cStatics "thirdparty.any" = some none) (hno : PySem.W.findIn K (.ref C) "part" = some none) :
    FnOk P w K mg base (L2.CX P w) (k + 1) fI (PySem.W.fnX "__init__" qual params body scope [("__class__", cc)] .none .none doc pm none (.ref c) ct) ["self", "part"] (spInit C) := by
  refine ⟨fun vs H Q E h => by obtain ⟨a, pv, rfl, _⟩ := h; rfl, fun A outer s H args us vs Q E hr e0 hb r hsp => ?_⟩
  have KX : K.In s.heap := e0.mod.kin.keeps fun b o e => (e0.bs b o e).1
  obtain ⟨a, pv, rfl, ea, hq⟩ := hsp
  have lim : s.heap.NoLimit := e0.mod.nolimit.keeps fun b o e => (e0.bs b o e).1
  refine codeAny_call_function hr.depth (KX _ _ lk) rfl S.co S.gen rfl (PySem.W.codeRec_of KX hcd) (hb _ _ _ _ ?_)
  refine wpAny_newFunctionEnv S.nocell (fun ⟨n, _⟩ hy => S.par n (List.of_mem_zip hy).1) (fun h₁ hns hsb => ⟨lim.fresh _ hsb, ?_⟩) S.kind
  let FN : NdefX.NF := ⟨"__init__", qual, params, body, scope, [("__class__", cc)], c⟩
  show codeAny _ _ (.func body (NdefX.envF FN fI s.heap.objs.size)) _ _
  have kp : ∀ b o, s.heap.get? b = some o → h₁.get? b = some o := fun b o e => hsb.extBut b o (Nat.ne_of_lt (Heap.lt_size e)) (Heap.get?_push_of_some _ e)
  have hH0 : ∀ b o, K.lookup b = some o → H b = none := fun b o e => (e0.bs b o (e0.mod.kin _ _ e)).2
  have Cl : NdefX.CellsAt FN.cl ["__class__"] [none] s.heap H := cl_one (hH0 _ _ hcell) ⟨_, _, KX _ _ hcell, rfl⟩
  have I : Inv (NdefX.ncx (L2.CX P w) P w K mg base ["self", "part", "__class__"] FN fI A outer s H E) [] (NdefX.startF ["self", "part", "__class__"] [.ref a, pv] [none]) H { s with heap := h₁, toks := s.toks + ((["self", "part"] : List Str).zip us).length } :=
    NdefX.inv_startN S hr.hd e0 rfl r Cl hns kp
  subst hbody
  refine ks_codeAny_funcAt ?_
  refine ks_wpAt_execs_cons (ks_wpAt_mono (super_init I T rfl rfl ea hks (S.frk _ (by simp)) (S.par _ (by simp)) rfl lk rfl hp har rfl hcc hoc hvs hfile htop (by show ([("__class__", cc)] : List (Str × Addr)).lookup _ = _; simp [List.lookup_cons]) hcell hsuper (by kernel_rfl) hmro hm hsubV ho I.quiet hpos (Q := fun s' => Inv (NdefX.ncx (L2.CX P w) P w K mg base ["self", "part", "__class__"] FN fI A outer s H E) [] (NdefX.startF ["self", "part", "__class__"] [.ref a, pv] [none]) H s') (fun s' J => J) rfl) (fun f s' h => ?_) fun _ _ z => z)
  obtain ⟨rfl, J⟩ := h
  let X : Cx := NdefX.ncx (L2.CX P w) P w K mg base ["self", "part", "__class__"] FN fI A outer s H E
  show PySem.wpAt _ _ _ (execs [_] _) _ _ _
  refine ks_wpAt_execs_cons (wpAt_of_wpAny ?_)
  have hps : PS X (.Assign [.Attribute (.Name "self" p6) "part" p7] (.Name "part" p8) p9) (tOst X.K "part" (tVar 0) (tVar 1)) := ps_ost (pe_var (X := X) (i := 0) (x := "self") (pos := p6) rfl (.inl (S.par _ (by simp)))) (pe_var (X := X) (i := 1) (x := "part") (pos := p8) rfl (.inl (S.par _ (by simp)))) (hs := rfl)
  refine wpAny_mono (hps.run [] s' (NdefX.startF ["self", "part", "__class__"] [.ref a, pv] [none]) H { nx := fun _ H' => Q .non H', rt := Q } J ⟨pv, rfl, .ref a, rfl, a, C, rfl, T, hno, .inl ⟨ea, fun dx n ne => hq dx n ne⟩⟩) (fun fl s2 hs => ?_) fun e s2 hs => ?_
  · cases fl with
    | next =>
      obtain ⟨σ', H', J2, q⟩ := hs
      refine wpAt_of_wpAny (wpAny_execs_nil ?_)
      exact ⟨.non, H', J2.os, J2.bare, J2.base, J2.hok, rfl, q⟩
    | ret u =>
      obtain ⟨v, σ', H', J2, rv, q⟩ := hs
      exact ⟨v, H', J2.os, J2.bare, J2.base, J2.hok, rv, q⟩
    | brk =>
      obtain ⟨_, _, _, q⟩ := hs
      exact False.elim q
    | cont =>
      obtain ⟨_, _, _, q⟩ := hs
      exact False.elim q
  · exact hs
/-! ### the tests -/
def oexB0 (K : PySem.W.Frag) (C : Addr) : Bool := match K.lookup C with
  | some ⟨.type t, _, .cls cd, sl⟩ => (match cd.mro, sl.toList with
    | .ref C' :: bm, [_, _, _, _, some (.builtin n), _] => decide (t = "type") && (decide (C' = C) && (decide (n = "ValueError.__new__") && (!cd.hasDel && (cd.hasDict && PySem.HandSPX.refsVE bm))))
    | _, _ => false)
  | _ => false
theorem ba {a b : Bool} (h : (a && b) = true) : a = true ∧ b = true := Bool.and_eq_true_iff.mp h
theorem oexB0_ok {K : PySem.W.Frag} {C : Addr} (h : oexB0 K C = true) : ∃ nm q N bs bm sn sub ab col dd k0 k1 k2 k3 k5, K.lookup C = some (excClassObj nm q C N bs bm true sn sub ab col dd k0 k1 k2 k3 k5 "ValueError.__new__") ∧ PySem.HandSPX.refsVE bm = true := by
  unfold oexB0 at h
  split at h
  · rename_i t dd cd sl ho
    split at h
    · rename_i C' bm k0 k1 k2 k3 n k5 hm hs
      obtain ⟨h1, h⟩ := ba h
      obtain ⟨h2, h⟩ := ba h
      obtain ⟨h3, h⟩ := ba h
      obtain ⟨h4, h⟩ := ba h
      obtain ⟨h5, h6⟩ := ba h
      have h1 := of_decide_eq_true h1
      have h2 := of_decide_eq_true h2
      have h3 := of_decide_eq_true h3
      obtain ⟨nm, bs, mro, ns, qn, hd, sn, sub, ab, col, del⟩ := cd
      dsimp only at hm h4 h5
      subst h1 h2 h3 h5 hm
      have h4 : del = false := by cases del with | true => cases h4 | false => rfl
      subst h4
      obtain ⟨sl⟩ := sl
      have hs : sl = _ := hs
      subst hs
      exact ⟨nm, qn, ns, bs, bm, sn, sub, ab, col, dd, k0, k1, k2, k3, k5, ho, h6⟩
    · cases h
  · cases h
def partF (P : Program) (K : PySem.W.Frag) (C : Addr) : FuncData → Bool
  | ⟨name, qual, ⟨[], [⟨s6, _, _⟩, ⟨s7, _, _⟩], none, [], [], none, []⟩, .stmts [.Expr (.Call (.Attribute (.Call (.Name s0 _) [] [] _) s1 p2) [.Constant (.str _) _ _] [] p4) _, .Assign [.Attribute (.Name s2 _) s3 _] (.Name s4 _) _], scope, g, [(s5, cc)], .none, .none, _, _, none, .ref c, _, b⟩ =>
    decide (name = ("__init__" : Str)) && (decide (s0 = ("super" : Str)) && (decide (s1 = ("__init__" : Str)) && (decide (s2 = ("self" : Str)) && (decide (s3 = ("part" : Str)) && (decide (s4 = ("part" : Str)) && (decide (s5 = ("__class__" : Str)) && (decide (s6 = ("self" : Str)) && (decide (s7 = ("part" : Str)) &&
    (decide (g = mainGlobals) && (decide (b = builtinsNs) && ((p2.endLine == p4.line) && (NdefX.nscB ["self", "part", "__class__"] ["self", "part"] ["__class__"] scope && (decide (scope.names.lookup ("super" : Str) = some .globalImplicit) && (PySem.W.codeIn K (.ref c) qual &&
    ((match K.lookup c with
      | some ⟨_, _, .fields vs, _⟩ => (match (Array.getD vs 2 Value.none) with
        | .str file _ => (P.main.file : Str) == file
        | _ => false)
      | _ => false) && (match K.lookup cc with
      | some ⟨_, _, .cell (some (.ref C')), _⟩ => decide (C' = C)
      | _ => false))))))))))))))))
  | _ => false
/-- the class x with a part, in one test -/
def partB (P : Program) (K : PySem.W.Frag) (x : Str) : Bool := oexB0 K (He.ga K x) && (decide (PySem.W.findIn K (.ref (He.ga K x)) "__setattr__" = some (some (.builtin "object.__setattr__"))) && (decide (PySem.W.subIn K (.ref (He.ga K x)) (.type "BaseException") = some true) &&
  (decide (PySem.W.typeIn K (.ref (He.ga K x)) = some (.type "type")) && (PySem.W.keepIn K (.ref (He.ga K x)) && (decide (PySem.W.findIn K (.ref (He.ga K x)) "__init__" = some (some (.ref (He.ma K (He.ga K x) "__init__")))) &&
  (decide (PySem.W.typeIn K (.ref (He.ma K (He.ga K x) "__init__")) = some (.type "function")) && (decide (PySem.W.mroIn K (He.ga K x) (.ref (He.ga K x)) = some true) && (decide (PySem.W.ks_superIn K (He.ga K x) (He.ga K x) "__init__" = some (some (.builtin "ValueError.__init__"))) &&
  (decide (PySem.W.subIn K (.ref (He.ga K x)) (.type "ValueError") = some true) && (decide (PySem.W.nsIn K cStatics "thirdparty.any" = some none) && (decide (PySem.W.findIn K (.ref (He.ga K x)) "part" = some none) && (!(P.main.scope.names.lookup ("super" : Str)).isSome && (xfB K (He.ga K x) &&
  match K.lookup (He.ma K (He.ga K x) "__init__") with
  | some ⟨_, _, .func fd, _⟩ => partF P K (He.ga K x) fd
  | _ => false)))))))))))))
/-- an own error's class with a part -/
structure PartC (P : Program) (w : World) (K : PySem.W.Frag) (mg : Str → Option Value) (base : Heap) (x : Str) : Prop where
  ex : ∃ (C fI : Addr) (fd : FuncData), mg x = some (.ref C) ∧ OexC K C ∧ PySem.W.findIn K (.ref C) "__init__" = some (some (.ref fI)) ∧ PySem.W.typeIn K (.ref fI) = some (.type "function") ∧ Binds K fd ["self", "part"] [] ∧ FnOk P w K mg base (L2.CX P w) 1 fI fd ["self", "part"] (spInit C) ∧ XfC K C ∧ PySem.W.findIn K (.ref C) "part" = some none
theorem partC_of {P : Program} {w : World} {K : PySem.W.Frag} {mg : Str → Option Value} {base : Heap} {x : Str} (g : mg x = some (.ref (He.ga K x))) (gs : mg "super" = none) (h : partB P K x = true) : PartC P w K mg base x := by
  unfold partB at h
  obtain ⟨h1, h⟩ := ba h
  obtain ⟨h2, h⟩ := ba h
  obtain ⟨h3, h⟩ := ba h
  obtain ⟨h4, h⟩ := ba h
  obtain ⟨h5, h⟩ := ba h
  obtain ⟨h6, h⟩ := ba h
  obtain ⟨h7, h⟩ := ba h
  obtain ⟨h8, h⟩ := ba h
  obtain ⟨h9, h⟩ := ba h
  obtain ⟨h10, h⟩ := ba h
  obtain ⟨h11, h⟩ := ba h
  obtain ⟨h12, h⟩ := ba h
  obtain ⟨h13, h⟩ := ba h
  obtain ⟨h14, h⟩ := ba h
  have T : OexC K (He.ga K x) := ⟨oexB0_ok h1, of_decide_eq_true h2, of_decide_eq_true h3, of_decide_eq_true h4, h5⟩
  split at h
  · rename_i oc od fd osl lk
    unfold partF at h
    split at h
    · rename_i fd name qual s6 _ _ s7 _ _ s0 _ _ s1 p2 _ _ _ p4 _ s2 _ s3 _ s4 _ _ scope g' s5 cc doc pm c ct b
      obtain ⟨q1, h⟩ := ba h
      obtain ⟨q2, h⟩ := ba h
      obtain ⟨q3, h⟩ := ba h
      obtain ⟨q4, h⟩ := ba h
      obtain ⟨q5, h⟩ := ba h
      obtain ⟨q6, h⟩ := ba h
      obtain ⟨q7, h⟩ := ba h
      obtain ⟨q8, h⟩ := ba h
      obtain ⟨q9, h⟩ := ba h
      obtain ⟨q10, h⟩ := ba h
      obtain ⟨q11, h⟩ := ba h
      obtain ⟨q12, h⟩ := ba h
      obtain ⟨q13, h⟩ := ba h
      obtain ⟨q14, h⟩ := ba h
      obtain ⟨q15, h⟩ := ba h
      obtain ⟨q16, q17⟩ := ba h
      have q1 := of_decide_eq_true q1
      have q2 := of_decide_eq_true q2
      have q3 := of_decide_eq_true q3
      have q4 := of_decide_eq_true q4
      have q5 := of_decide_eq_true q5
      have q6 := of_decide_eq_true q6
      have q7 := of_decide_eq_true q7
      have q8 := of_decide_eq_true q8
      have q9 := of_decide_eq_true q9
      have q10 := of_decide_eq_true q10
      have q11 := of_decide_eq_true q11
      subst q1 q2 q3 q4 q5 q6 q7 q8 q9 q10 q11
      cases hc : K.lookup c with
      | none => rw [hc] at q16; cases q16
      | some oco =>
        obtain ⟨cc1, cc2, cd, cc3⟩ := oco
        rw [hc] at q16
        cases cd with
        | fields vs =>
          dsimp only at q16
          cases hv : vs.getD 2 .none with
          | str file tf =>
            rw [hv] at q16
            dsimp only at q16
            have hvs : vs[2]? = some (.str file tf) := by
              rw [Array.getD_eq_getD_getElem?] at hv
              cases e : vs[2]? with
              | none => rw [e] at hv; cases hv
              | some u => rw [e] at hv; exact congrArg some hv
            cases hcc : K.lookup cc with
            | none => rw [hcc] at q17; cases q17
            | some occ =>
              obtain ⟨d1, d2, d3, d4⟩ := occ
              rw [hcc] at q17
              cases d3 with
              | cell v =>
                cases v with
                | none => cases q17
                | some v =>
                  cases v with
                  | ref C' =>
                    have q17 : C' = He.ga K x := of_decide_eq_true q17
                    subst q17
                    refine ⟨_, _, _, g, T, of_decide_eq_true h6, of_decide_eq_true h7, ?_, part_init (S := NdefX.nscope_by q13) lk q15 rfl q12 rfl rfl hc rfl hvs q16 (by simpa using h13) hcc gs (of_decide_eq_true q14) T (of_decide_eq_true h8) (of_decide_eq_true h9) (of_decide_eq_true h10) (of_decide_eq_true h11) (of_decide_eq_true h12), xfB_ok h14, of_decide_eq_true h12⟩
                    exact .all fun us hl => match us, hl with | [_, _], _ => rfl
                  | _ => cases q17
              | _ => cases q17
          | _ => rw [hv] at q16; cases q16
        | _ => cases q16
    · cases h
  · cases h
/-! ### raise x(e) -/
def fRaiseP (x : Str) (f : Sx → R D) : Sx → RS := fun s => (f s).toS s.ρ fun d M => .ex ⟨x, some d⟩ ⟨s.ρ, M⟩
section
variable {T : TPr} {mg : Str → Option Value} {W : WX} {σ : L2.St} {H : Hp} {N : Addr → Prop} {α : List Addr} {Dn : Ends}
theorem raiseP_imp {x : Str} {C : Addr} {f : Sx → R D} (hm : mg x = some (.ref C)) (h : tS T mg W (fRaiseP x f) Dn σ H) : tMkO C (spInit C) [] (tL T mg W (fCons f fNil)) σ H (fun cls d H' => W cls d σ H') := by
  obtain ⟨s, α, N, hs, p⟩ := h
  refine ⟨s, α, N, hs, ?_⟩
  unfold fRaiseP at p
  unfold fCons fNil
  cases q : f s with
  | no => rw [q] at p; exact p
  | ex e M => rw [q] at p; exact fun cls dd H' α' N' s2 e2 x => p cls dd σ H' α' N' s2 e2 x
  | ok d M =>
    rw [q] at p
    intro vs H1 α1 N1 s1 e1 g1
    obtain ⟨v, rfl, rv⟩ := rels1 g1
    refine ⟨by simp, fun a ha => ⟨a, v, rfl, upd_same, fun dx hd hda => ⟨rfl, dx, [("part", v)], upd_same, by rw [upd_ne hda, upd_same], by rwa [upd_ne hda] at hd, ?_⟩⟩⟩
    have hd1 : H1 dx = none := by rwa [upd_ne hda] at hd
    have eH : upd (del (upd (upd (upd H1 a (exo a C none)) dx (exd dx [("part", v)])) a (exo a C (some dx))) a) dx (.xd [("part", v)]) = upd H1 dx (.xd [("part", v)]) := by
      funext b
      by_cases hb : b = dx
      · subst hb; rw [upd_same, upd_same]
      · rw [upd_ne hb, upd_ne hb]
        by_cases hba : b = a
        · subst hba; rw [del_same, ha]
        · rw [del_ne hba, upd_ne hba, upd_ne hb, upd_ne hba]
    rw [eH]
    have k := new_keep (o := .xd [("part", v)]) hd1
    refine p (.ref C) (some dx) σ _ α1 N1 (StC.keep s1 (s1.c.grow k) (Ext.grow k)) (e1.trans (Ext.grow k)) ⟨hm, dx, v, rfl, upd_same, Rel.mono s1.c.sub (Ext.grow k) rv⟩
end
theorem s_raiseP {X : Cx} {T : TPr} {W : WX} {k : Nat} {x : Str} {pos p p3 : Pos} {e : Expr} {f : Sx → R D} (B : Bd X W (k + 2)) (Z : PartC X.prog X.w X.K X.mg X.base x) (hg : Gl X x) (he : PE X e (tD T X.mg W f)) (hc : X.calm = true := by rfl) (hdb : (x == ("__debug__" : Str)) = false := by decide)
    (hst : starEach [e] X.env = (false, eval e X.env) :: starEach [] X.env := by rfl) :
    PS X (.Raise (some (.Call (.Name x p) [e] [] p3)) none pos) (tS T X.mg W (fRaiseP x f)) := by
  obtain ⟨C, fI, fd, h1, h2, h3, h4, h5, h6, h7, h8⟩ := Z.ex
  exact (ps_raise hc B.tk (pmk_oex (ds := []) (dvs := []) h2 h3 h4 h6 (B.rm.mono (by omega)) h5 .nil (fun _ _ _ _ _ _ _ z => (cx_no z).elim) hg h1 (a_cons he a_nil hst) hdb hst)).imp fun _ _ _ => raiseP_imp h1
end DL

namespace DL
open PySem PySem.Spec L2
open PyProof.Rows hiding St

/-! ### try -/
/-- what an except clause of the class x says of the errors' names: taken, not taken -/
structure TryC (K : PySem.W.Frag) (mg : Str → Option Value) (x : Str) (mt : List (Str × Bool)) : Prop where
  ex : ∃ C, mg x = some (.ref C) ∧ ∀ y b, mt.lookup y = some b → ∃ Cy, mg y = some (.ref Cy) ∧ PySem.W.exmOne K (.ref Cy) (.ref C) = some b
/-- try: .. except x: .. -/
def fTry (mt : List (Str × Bool)) (fb fh : Sx → RS) : Sx → RS := fun s => match fb s with
  | .ex e s1 => match mt.lookup e.name with
    | some true => (match fh s1 with
      | .ex _ _ => .no
      | r => r)
    | some false => .ex e s1
    | none => .no
  | r => r
/-- try: .. except x as n: return n.part -/
def fTryP (x : Str) (i : Nat) (mt : List (Str × Bool)) (fb : Sx → RS) : Sx → RS := fun s => match fb s with
  | .ex e s1 => match mt.lookup e.name with
    | some true => if e.name = x ∧ i < s1.ρ.length then (match e.part with
      | some d => .rt d s1
      | none => .no) else .no
    | some false => .ex e s1
    | none => .no
  | r => r
section
variable {T : TPr} {mg : Str → Option Value} {W W' : WX} {σ : L2.St} {H : Hp} {N : Addr → Prop} {α : List Addr} {Dn : Ends}
theorem PostS.wx {r : RS} (hr : ∀ e s, r ≠ .ex e s) (h : PostS T mg N α H W Dn r) : PostS T mg N α H W' Dn r := by
  cases r with
  | ex e s => exact (hr e s rfl).elim
  | nx s => exact h
  | bk s => exact h
  | ct s => exact h
  | rt d s => exact h
  | no => exact h
theorem try_imp {K : PySem.W.Frag} {x : Str} {C : Addr} {mt : List (Str × Bool)} {fb fh : Sx → RS} (hm : mg x = some (.ref C)) (hmt : ∀ y b, mt.lookup y = some b → ∃ Cy, mg y = some (.ref Cy) ∧ PySem.W.exmOne K (.ref Cy) (.ref C) = some b) (h : tS T mg W (fTry mt fb fh) Dn σ H) :
    tS T mg (wOnly K (.ref C) (fun _ _ _ => tS T mg W0 fh) W Dn) fb Dn σ H := by
  obtain ⟨s, α, N, hs, p⟩ := h
  refine ⟨s, α, N, hs, ?_⟩
  unfold fTry at p
  cases q : fb s with
  | ex e s1 =>
    rw [q] at p
    dsimp only at p
    intro cls dd σ' H' α' N' s' e' xr
    cases qm : mt.lookup e.name with
    | none => rw [qm] at p; exact p.elim
    | some b =>
      obtain ⟨Cy, g1, g2⟩ := hmt _ _ qm
      have hc : cls = .ref Cy := Option.some.inj (xr.1.symm.trans g1)
      rw [qm] at p
      refine ⟨b, by rw [hc]; exact g2, fun hb a _ => ?_, fun hb => ?_⟩
      · subst hb
        dsimp only at p
        refine ⟨s1, α', N', s', ?_⟩
        have p := PostS.later e' p
        cases r : fh s1 with
        | ex e2 s2 => rw [r] at p; exact p.elim
        | nx s2 => rw [r] at p; exact p
        | bk s2 => rw [r] at p; exact p
        | ct s2 => rw [r] at p; exact p
        | rt d s2 => rw [r] at p; exact p
        | no => rw [r] at p; exact p
      · subst hb
        exact p cls dd σ' H' α' N' s' e' xr
  | nx s1 => rw [q] at p; exact p
  | bk s1 => rw [q] at p; exact p
  | ct s1 => rw [q] at p; exact p
  | rt d s1 => rw [q] at p; exact p
  | no => rw [q] at p; exact p
theorem tryP_imp {K : PySem.W.Frag} {x : Str} {i : Nat} {C : Addr} {mt : List (Str × Bool)} {fb : Sx → RS} (hm : mg x = some (.ref C)) (hmt : ∀ y b, mt.lookup y = some b → ∃ Cy, mg y = some (.ref Cy) ∧ PySem.W.exmOne K (.ref Cy) (.ref C) = some b) (h : tS T mg W (fTryP x i mt fb) Dn σ H) :
    tS T mg (wAs K (.ref C) i (fun a cls d => tRet (tXf a cls d C "part" (tVar i))) W Dn) fb Dn σ H := by
  obtain ⟨s, α, N, hs, p⟩ := h
  refine ⟨s, α, N, hs, ?_⟩
  unfold fTryP at p
  cases q : fb s with
  | ex e s1 =>
    rw [q] at p
    dsimp only at p
    intro cls dd σ' H' α' N' s' e' xr
    cases qm : mt.lookup e.name with
    | none => rw [qm] at p; exact p.elim
    | some b =>
      obtain ⟨Cy, g1, g2⟩ := hmt _ _ qm
      have hc : cls = .ref Cy := Option.some.inj (xr.1.symm.trans g1)
      rw [qm] at p
      refine ⟨b, by rw [hc]; exact g2, fun hb a _ => ?_, fun hb => ?_⟩
      · subst hb
        dsimp only at p
        by_cases hx : e.name = x ∧ i < s1.ρ.length
        · rw [if_pos hx] at p
          obtain ⟨hx, hi⟩ := hx
          obtain ⟨x1, x2⟩ := xr
          cases qp : e.part with
          | none => rw [qp] at p; exact p.elim
          | some d =>
            rw [qp] at p x2
            dsimp only at p
            obtain ⟨ax, v, y1, y2, y3⟩ := x2
            have hcC : cls = .ref C := by
              rw [hx, hm] at x1
              exact (Option.some.inj x1).symm
            refine ⟨.ref a, ?_, rfl, hcC, ax, _, v, y1, y2, rfl, p v σ' H' α' N' s' e' y3⟩
            have : i < σ'.length := by rw [← s'.lnr]; exact hi
            rw [List.getElem?_set_self this]
        · rw [if_neg hx] at p; exact p.elim
      · subst hb
        exact p cls dd σ' H' α' N' s' e' xr
  | nx s1 => rw [q] at p; exact p
  | bk s1 => rw [q] at p; exact p
  | ct s1 => rw [q] at p; exact p
  | rt d s1 => rw [q] at p; exact p
  | no => rw [q] at p; exact p
end
section
variable {X : Cx} {T : TPr} {W : WX} {k : Nat} {x n : Str} {i : Nat} {mt : List (Str × Bool)} {body suite : List Stmt} {b₀ : Stmt} {np pos pos' p1 p2 p3 : Pos} {fb fh : Sx → RS}
theorem Bd.tr (B : Bd X W k) {W' : WX} {pn : List (Addr × Obj)} {xe : Value → Shared → Prop} (tk : Takes (X.tr pn xe) W') : Bd (X.tr pn xe) W' k := ⟨tk, B.rm⟩
theorem s_try (B : Bd X W k) (Z : TryC X.K X.mg x mt) (hg : Gl X x)
    (hb : ∀ (W' : WX) (pn : List (Addr × Obj)) (xe : Value → Shared → Prop), Bd (X.tr pn xe) W' k → PassesOwn (model X.prog X.w) X.A X.env xe → PSs (X.tr pn xe) body (tS T X.mg W' fb))
    (hsu : ∀ (a : Addr) (oe : Obj) (pn : List (Addr × Obj)), PSs (X.suite a ((a, oe) :: pn)) (b₀ :: suite) (tS T X.mg W0 fh)) (hs : X.stack = X.env :: X.outer := by rfl) (hf : X.env.frame = some X.env.locals := by rfl) (hdb : (x == ("__debug__" : Str)) = false := by decide) :
    PS X (.Try body [.ExceptHandler (some (.Name x np)) none (b₀ :: suite) pos'] [] [] pos) (tS T X.mg W (fTry mt fb fh)) := by
  obtain ⟨C, h1, h2⟩ := Z.ex
  exact (ps_try_only (c := .ref C) hs hf ⟨hg, hdb, .inl h1⟩ B.tk (fun W' pn xe tk po => hb W' pn xe (B.tr tk) po) (fun a oe cls d pn _ _ => hsu a oe pn)).imp fun _ _ _ => try_imp h1 h2
theorem s_tryP (B : Bd X W k) (Z : TryC X.K X.mg x mt) (P : PartC X.prog X.w X.K X.mg X.base x) (hg : Gl X x) (hN : X.N.Nodup) (hi : X.N[i]? = some n) (hln : X.env.kindOf n = some .local)
    (hb : ∀ (W' : WX) (pn : List (Addr × Obj)) (xe : Value → Shared → Prop), Bd (X.tr pn xe) W' k → PassesOwn (model X.prog X.w) X.A X.env xe → PSs (X.tr pn xe) body (tS T X.mg W' fb))
    (hs : X.stack = X.env :: X.outer := by rfl) (hf : X.env.frame = some X.env.locals := by rfl) (hdb : (x == ("__debug__" : Str)) = false := by decide) (hdn : (n == ("__debug__" : Str)) = false := by decide) (hcn : (n == ("__classdict__" : Str)) = false := by decide) :
    PS X (.Try body [.ExceptHandler (some (.Name x np)) (some n) [.Return (some (.Attribute (.Name n p1) "part" p2)) p3] pos'] [] [] pos) (tS T X.mg W (fTryP x i mt fb)) := by
  obtain ⟨C, h1, h2⟩ := Z.ex
  obtain ⟨C', fI, fd, g1, g2, g3, g4, g5, g6, g7, g8⟩ := P.ex
  have e : C = C' := by rw [h1] at g1; cases g1; rfl
  subst e
  exact (ps_try_as (c := .ref C) hs hf hN hi hln ⟨hg, hdb, .inl h1⟩ B.tk (fun W' pn xe tk po => hb W' pn xe (B.tr tk) po)
    (fun a oe cls d pn hz hf => pss_one (ps_ret (pos := p3) (pe_xf (pos := p2) g7 g8 hz hf (pe_var (X := X.suite a ((a, oe) :: pn)) (pos := p1) hi (.inl hln) hdn hcn))))).imp fun _ _ _ => tryP_imp h1 h2
end
inductive TryL (K : PySem.W.Frag) (mg : Str → Option Value) (C : Addr) : List (Str × Bool) → Prop where
  | nil : TryL K mg C []
  | cons {y : Str} {b : Bool} {l : List (Str × Bool)} : (∃ Cy, mg y = some (.ref Cy) ∧ PySem.W.exmOne K (.ref Cy) (.ref C) = some b) → TryL K mg C l → TryL K mg C ((y, b) :: l)
theorem TryL.get {K : PySem.W.Frag} {mg : Str → Option Value} {C : Addr} : ∀ {l : List (Str × Bool)}, TryL K mg C l → ∀ y b, l.lookup y = some b → ∃ Cy, mg y = some (.ref Cy) ∧ PySem.W.exmOne K (.ref Cy) (.ref C) = some b
  | _, .nil, y, b, e => by cases e
  | _, .cons (y := z) h t, y, b, e => by
    rw [List.lookup_cons] at e
    split at e
    · rename_i q
      cases e
      rw [eq_of_beq q]
      exact h
    · exact t.get y b e
theorem tryC_of {K : PySem.W.Frag} {mg : Str → Option Value} {x : Str} {C : Addr} {mt : List (Str × Bool)} (g : mg x = some (.ref C)) (h : TryL K mg C mt) : TryC K mg x mt := ⟨C, g, h.get⟩
/-- what no call reaches -/
theorem s_never {X : Cx} {T : TPr} {W : WX} {st : Stmt} : PS X st (tS T X.mg W fun _ => .no) := ⟨fun pins s σ H D I h => by
  obtain ⟨_, _, _, _, p⟩ := h
  exact p.elim⟩
theorem e_never {X : Cx} {T : TPr} {W : WX} {e : Expr} : PE X e (tD T X.mg W fun _ => .no) := ⟨fun pins s σ H Q I h => by
  obtain ⟨_, _, _, _, p⟩ := h
  exact p.elim⟩
/-! ### a if c else b, as a test -/
def fIfB (c f g : Sx → R Bool) : Sx → R Bool := fun s => (c s).bind fun b M => if b = true then f ⟨s.ρ, M⟩ else g ⟨s.ρ, M⟩
def tIfT (tA ta tb : TT) : TT := fun σ H Q => tA σ H fun c H1 => if c = true then ta σ H1 Q else tb σ H1 Q
theorem pt_ifExp {X : Cx} {c a b : Expr} {pos : Pos} {tA ta tb : TT} (hc : PT X c tA) (ha : PT X a ta) (hb : PT X b tb) : PT X (.IfExp c a b pos) (tIfT tA ta tb) := by
  refine ⟨fun pins s σ H Q I h => ?_⟩
  show wpAny _ _ (isTrue c X.env (eval c X.env) >>= fun d => if d = true then isTrue a X.env (eval a X.env) else isTrue b X.env (eval b X.env)) _ _ _
  refine wpAny_bind (thn (hc.run pins s σ H _ I h) fun d s1 ⟨H1, I1, q1⟩ => ?_)
  cases d with
  | true => exact ha.run pins s1 σ H1 Q I1 q1
  | false => exact hb.run pins s1 σ H1 Q I1 q1
theorem t_if {X : Cx} {T : TPr} {W : WX} {c a b : Expr} {pos : Pos} {fc fa fb : Sx → R Bool} (hc : PT X c (tB' T X.mg W fc)) (ha : PT X a (tB' T X.mg W fa)) (hb : PT X b (tB' T X.mg W fb)) : PT X (.IfExp c a b pos) (tB' T X.mg W (fIfB fc fa fb)) :=
  (pt_ifExp hc ha hb).imp fun σ H Q h => by
    obtain ⟨s, α, N, hs, p⟩ := h
    refine ⟨s, α, N, hs, Post.mono (fun x H1 h1 => ?_) (Post.bind (G := RelB) p)⟩
    obtain ⟨M1, α1, N1, b, s1, e1, g1, p1⟩ := h1
    cases g1
    cases x with
    | true => exact ⟨_, α1, N1, s1, p1⟩
    | false => exact ⟨_, α1, N1, s1, p1⟩
end DL

namespace DL
open PySem PySem.Spec L2 RZ RT
open PyProof.Rows hiding St
open AutoSeq1 (wpAny_loadPart')

/-! ### enumerate over a tuple -/
theorem meets_enumT (l : Addr) (items : Array Value) (n : Nat) (dct : Option Addr) (sl : Array (Option Value)) :
    Meets (Builtin.«enumerate.__new__» ⟨[.type "enumerate", .ref l], []⟩) (fun _ R s => s.heap.get? l = some { cls := .type "tuple", dict := dct, data := .seq items n, slots := sl } ∧
      R (.ok (.ret (.ref (s.heap.push { cls := .type "tuple_iterator", data := .fields #[.ref l, .int 0 0] }).objs.size)))
        { s with heap := (s.heap.push { cls := .type "tuple_iterator", data := .fields #[.ref l, .int 0 0] }).push { cls := .type "enumerate", data := .fields #[.none, .bool false, .ref s.heap.objs.size, rawInt 0, .none, .none] } }) :=
  .of_wp fun prog w A R s h => by
    obtain ⟨hp, g, d, tk, os⟩ := s; obtain ⟨hl, h⟩ := h
    have hsub := sub_enumerate
    have hL : Heap.IsTuple (Shared.heap ⟨hp, g, d, tk, os⟩) l items := ⟨_, hl, rfl, n, rfl⟩
    wp_walk using wpAny_loadPart' hl
    refine wpAny_stack_any fun st => wpAny_pure ?_
    split
    · rename_i c _ _ _ _ _
      cases (c == Value.type "enumerate")
      · wp_walk using wpAny_loadPart' hl, wpAny_pyIter_tuple hL
        exact ⟨_, rfl, h⟩
      · wp_walk using wpAny_loadPart' hl, wpAny_pyIter_tuple hL
        exact ⟨_, rfl, h⟩
    · wp_walk using wpAny_loadPart' hl, wpAny_pyIter_tuple hL
      exact ⟨_, rfl, h⟩
theorem call_enumT {prog : Program} {w : World} {A : Around} {E : Value → Shared → Prop} {s : Shared} {l : Addr} {items : Array Value} {Q : Value → Shared → Prop} (hL : s.heap.IsTuple l items)
    (h : ∀ h', IsEnum h' (s.heap.objs.size + 1) s.heap.objs.size 0 .none → h'.IsTupleIter s.heap.objs.size l 0 → h'.objs.size = s.heap.objs.size + 2 →
      (∀ b o, s.heap.get? b = some o → h'.get? b = some o) → Q (.ref (s.heap.objs.size + 1)) { s with heap := h' }) :
    wpAny (model prog w) A (call (.type "enumerate") [.ref l]) Q E s := by
  obtain ⟨⟨c, dct, dt, sl⟩, hl, hc, n, hd⟩ := hL
  have hc : c = .type "tuple" := hc
  have hd : dt = .seq items n := hd
  subst hc hd
  refine callType_new F.called_enumerate (by decide) (F.typeCall_enumerate_1 _) (F.newCall_enumerate_1 _) (fun obj => F.args_object_init_2 obj _) F.entry_enumerate_new (meets_enumT l items n dct sl) ⟨hl, ?_⟩
  have hz : (s.heap.push { cls := .type "tuple_iterator", data := .fields #[.ref l, .int 0 0] }).objs.size = s.heap.objs.size + 1 := Heap.size_push ..
  show _ ∧ _
  rw [hz]
  have he : IsEnum ((s.heap.push { cls := .type "tuple_iterator", data := .fields #[.ref l, .int 0 0] }).push
      { cls := .type "enumerate", data := .fields #[.none, .bool false, .ref s.heap.objs.size, rawInt 0, .none, .none] }) (s.heap.objs.size + 1) s.heap.objs.size 0 .none := by
    have := Heap.get?_push_size (s.heap.push { cls := .type "tuple_iterator", data := .fields #[.ref l, .int 0 0] })
      (o := { cls := .type "enumerate", data := .fields #[.none, .bool false, .ref s.heap.objs.size, rawInt 0, .none, .none] }) rfl
    rw [hz] at this; exact this
  exact ⟨⟨_, he, rfl⟩, h _ he ⟨_, Heap.get?_push_of_some _ (Heap.get?_push_size _ rfl), rfl, rfl⟩ (by rw [Heap.size_push, hz]) fun b o x => Heap.get?_push_of_some _ (Heap.get?_push_of_some _ x)⟩
def IteT (K : PySem.W.Frag) (a : Addr) : It :=
  ⟨fun i H => ∃ (xs : List V) (x : V), SqT K H a xs ∧ xs[i]? = some x, fun i H v H' => ∃ T x, v = .ref T ∧ H T = none ∧ H' = upd H T (.tup [.int (i : Nat), x]) ∧ ∀ xs, SqT K H a xs → xs[i]? = some x, fun i H => ∃ xs : List V, SqT K H a xs ∧ xs.length ≤ i⟩
theorem turn_enumT {P : Program} {w : World} {K : PySem.W.Frag} {elts : List Expr} {kk : Nat} {tpos : Pos} (a e it : Addr) :
    Turn P w K (.Tuple elts kk tpos) (IteT K a) [e, it] e (fun i h => (∃ old, IsEnum h e it ((i : Nat) : Int) old) ∧ h.IsTupleIter it a i ∧ e ≠ it) where
  mem := by simp
  obj := fun i h st b hb => by
    obtain ⟨⟨old, he⟩, ⟨o, ho, hc, hd⟩, _⟩ := st
    have e' : b = e ∨ b = it := by simpa using hb
    rcases e' with z | z
    · rw [z]; exact ⟨_, he, fun v q => nomatch q⟩
    · rw [z]; exact ⟨o, ho, fun v q => by rw [hd] at q; cases q⟩
  keep := fun i h h' st k => let ⟨⟨old, he⟩, hi, hne⟩ := st; ⟨⟨old, k e (by simp) _ he⟩, hi.at fun o q => k it (by simp) o q, hne⟩
  item := by
    intro X hP hw hK hc i pins s σ H E I hf st hg
    subst hP hw hK
    obtain ⟨⟨old, he⟩, hit, hne⟩ := st
    obtain ⟨xs, x, hq, hx⟩ := hg
    obtain ⟨its, rv, p, hz⟩ := I.tuple hq
    obtain ⟨u, hu, ru⟩ := rv.get hx
    have hel : e < s.heap.objs.size := Heap.lt_size he
    have hil : it < s.heap.objs.size := by obtain ⟨_, q, _⟩ := hit; exact Heap.lt_size q
    have pt : s.heap.IsTuple a its.toArray := p
    have hat : a ≠ it := fun z => by
      obtain ⟨o1, e1, c1, _⟩ := pt
      obtain ⟨o2, e2, c2, _⟩ := hit
      rw [z, e2] at e1
      cases e1
      rw [c2] at c1
      exact absurd (Value.type.inj c1) (by decide)
    have hea : e ∉ [it, a] := fun z => by
      have z : e = it ∨ e = a := by simpa using z
      rcases z with z | z
      · exact hne z
      · obtain ⟨o1, e1, c1, _⟩ := pt
        rw [← z, he] at e1
        cases e1
        exact absurd (Value.type.inj c1) (by decide)
    have hlt : i < its.toArray.size := by
      have := (List.getElem?_eq_some_iff.mp hu).1
      simpa using this
    refine wpAny_pyNext_enum_itemD (Draws.tuple (A := X.A.in1) (I.ok.hd hc) it a hat its.toArray) he ⟨hit, pt⟩ hlt hne hea fun x' h' tk hx' ho st' hT hsz hk => ?_
    have hx' : x' = u := by
      have e1 : its.toArray[i]? = some x' := hx'
      have e2 : its.toArray[i]? = some u := by simpa using hu
      rw [e1] at e2
      exact Option.some.inj e2
    subst hx'
    refine ⟨_, rfl, wpAny_letOwnedTupleGo_enum (s := { s with heap := h', toks := tk + 1 }) ho fun h'' he' sb => ?_⟩
    have hT2 : h''.get? s.heap.objs.size = some { cls := .type "tuple", data := .seq #[.int i tk, x'] } := (sb.2 _ (Nat.ne_of_gt hel)).trans hT
    have new : ObjOk X.prog X.w (upd H s.heap.objs.size (.tup [.int (i : Nat), x])) h'' s.heap.objs.size (.tup [.int (i : Nat), x]) :=
      ⟨by show 2 ≤ sizeLine; decide, [.int i tk, x'], .cons ⟨_, rfl⟩ (.cons ru .nil), ⟨_, hT2, rfl, _, rfl⟩⟩
    have I1 : Inv X pins σ (upd H s.heap.objs.size (.tup [.int (i : Nat), x])) { s with heap := h'', toks := tk + 1 } :=
      I.turnedNew (ch := [e, it]) (fun b ob hb q => (sb.2 b (fun z => hb (by simp [z]))).trans (hk b ob (fun z => hb (by simp [z])) (fun z => hb (by simp [z])) q)) hf (Nat.le_refl _) new
    refine ⟨.ref s.heap.objs.size, _, I1, rfl, ⟨_, x, rfl, I.hok.fresh (Nat.le_refl _), rfl, fun ys hy => by rw [I.tuple_inj hy hq]; exact hx⟩, ⟨⟨x', ?_⟩, st'.1.at fun o q => (sb.2 it (Ne.symm hne)).trans q, hne⟩, fun b hb => ?_⟩
    · have e1 : ((i + 1 : Nat) : Int) = (i : Int) + 1 := by omega
      rw [e1]; exact he'
    · have hb' : b < s.heap.objs.size := by
        have e' : b = e ∨ b = it := by simpa using hb
        rcases e' with z | z
        · rw [z]; exact hel
        · rw [z]; exact hil
      rw [upd_ne (Nat.ne_of_lt hb')]
      exact (hf b hb).1
  done := by
    intro X hP hw hK hc i pins s σ H E I hf st hg
    subst hP hw hK
    obtain ⟨⟨old, he⟩, hit, hne⟩ := st
    obtain ⟨xs, hq, hx⟩ := hg
    obtain ⟨its, rv, p, hz⟩ := I.tuple hq
    obtain ⟨f0, f1, f2, f3, f4, f5⟩ := hf it (by simp)
    have hl := rv.length
    have pt : s.heap.IsTuple a its.toArray := p
    have hT : s.TypeIs (.ref e) "enumerate" := ⟨_, he, rfl⟩
    unfold pyNext
    refine wpAny_bind (wpAny_attempt (wpAny_callSpecial?_slot (name := Str.ofString "__next__") hT F.slot_enumerate_next (wpAny_call_entry F.slot_enumerate_next hT F.entry_enumerate_next ?_ (F.args_enumerate_next_1 _))))
    show wpAny _ _ (field (.ref e) 2 >>= _) _ _ _
    refine wpAny_bind (wpAny_field he rfl (x := .ref it) rfl ?_)
    refine wpAny_bind (wpAny_nextOf_tuple_end (I.ok.hd hc) hit pt (by simp; omega) fun h' x he' hx' => ?_)
    obtain ⟨o, ho, hcc⟩ := hx'
    refine wpAny_bind (wpAny_isInstance (T := "StopIteration") (b := true) ⟨o, ho, hcc⟩ isSubtype_stop ?_)
    exact wpAny_pure ⟨rfl, I.turned (t' := s.toks) (fun b o hb q => he' b o hb q) f0 f1 f3 f4 f5⟩
  self := fun A i s Q E st h => let ⟨⟨_, he⟩, _⟩ := st; wpAny_pyIter_enum he h
def iEnumA (K : PySem.W.Frag) (ta : TA) : TI := fun σ H R => ta σ H fun vs H1 => ∃ a xs, vs = [.ref a] ∧ ((SqL K H1 a xs ∧ R (Ite K a) H1) ∨ (SqT K H1 a xs ∧ R (IteT K a) H1))
theorem pi_enumA {X : Cx} {e : Expr} {ta : TA} {p pos tpos : Pos} {elts : List Expr} {kk : Nat} (hg : Gl X "enumerate") (hm : X.mg "enumerate" = none) (ha : PA X [e] ta) (hs : starEach [e] X.env = [(false, eval e X.env)] := by rfl) :
    PI X (.Tuple elts kk tpos) (.Call (.Name "enumerate" p) [e] [] pos) (iEnumA X.K ta) := by
  refine ⟨fun pins s σ H R I h => ?_⟩
  refine Call_ (ld_blt I hg hm boot_enumerate (PyProof.Rows.callWith_type1 (thn (ha.run pos pins s σ H _ I h) fun us s1 ⟨vs, H1, I1, r1, q1⟩ => ?_) hs rfl))
  obtain ⟨a, xs, ex, q1⟩ := q1
  subst ex
  cases r1 with
  | cons r rr =>
    cases rr
    cases r
    have fin : ∀ b ∈ [s1.heap.objs.size + 1, s1.heap.objs.size], FpOk X pins H1 b := fun b hb => by
      have e' : b = s1.heap.objs.size + 1 ∨ b = s1.heap.objs.size := by simpa using hb
      have hle : s1.heap.objs.size ≤ b := by
        rcases e' with z | z
        · rw [z]; exact Nat.le_add_right _ _
        · rw [z]; exact Nat.le_refl _
      exact I1.fpOk hle (I1.hok.fresh hle)
    rcases q1 with ⟨hq, q⟩ | ⟨hq, q⟩
    · obtain ⟨its, rv, p', hz⟩ := I1.list hq
      refine call_enumerate_list p'.isList fun h' he hit hsz hk => wpAny_pyIter_enum he ?_
      have I2 : Inv X pins σ H1 { s1 with heap := h' } := I1.kept (t' := s1.toks) hk
      exact ⟨s1.heap.objs.size + 1, [s1.heap.objs.size + 1, s1.heap.objs.size], _, _, H1, rfl, I2, turn_enum a (s1.heap.objs.size + 1) s1.heap.objs.size, ⟨⟨.none, he⟩, hit, Nat.succ_ne_self _⟩, fin, q⟩
    · obtain ⟨its, rv, p', hz⟩ := I1.tuple hq
      refine call_enumT (show s1.heap.IsTuple a its.toArray from p') fun h' he hit hsz hk => wpAny_pyIter_enum he ?_
      have I2 : Inv X pins σ H1 { s1 with heap := h' } := I1.kept (t' := s1.toks) hk
      exact ⟨s1.heap.objs.size + 1, [s1.heap.objs.size + 1, s1.heap.objs.size], _, _, H1, rfl, I2, turn_enumT a (s1.heap.objs.size + 1) s1.heap.objs.size, ⟨⟨.none, he⟩, hit, Nat.succ_ne_self _⟩, fin, q⟩
/-! ### the walks, as data -/
def enumD (l : List D) : List D := l.zipIdx.map fun p => .tup [.int (p.2 : Nat), p.1]
theorem enumD_get {l : List D} {i : Nat} {d : D} (h : (enumD l)[i]? = some d) : ∃ e, l[i]? = some e ∧ d = .tup [.int (i : Nat), e] := by
  unfold enumD at h
  rw [List.getElem?_map, List.getElem?_zipIdx] at h
  cases q : l[i]? with
  | none => rw [q] at h; cases h
  | some e =>
    rw [q] at h
    have h : D.tup [.int ((0 + i : Nat) : Int), e] = d := by simpa using h
    refine ⟨e, rfl, ?_⟩
    rw [← h, Nat.zero_add]
def zipD (l m : List D) : List D := (l.zip m).map fun p => .tup [p.1, p.2]
theorem zipD_get {l m : List D} {i : Nat} {d : D} (h : (zipD l m)[i]? = some d) : ∃ e f, l[i]? = some e ∧ m[i]? = some f ∧ d = .tup [e, f] := by
  unfold zipD at h
  rw [List.getElem?_map] at h
  cases q : (l.zip m)[i]? with
  | none => rw [q] at h; cases h
  | some p =>
    rw [q] at h
    rw [List.getElem?_zip_eq_some] at q
    cases h
    exact ⟨_, _, q.1, q.2, rfl⟩
section
variable {T : TPr} {mg : Str → Option Value} {W : WX} {σ : L2.St} {H : Hp} {N : Addr → Prop} {α : List Addr}
theorem rels_two {a b : D} {x y : V} (r1 : Rel H N α a x) (r2 : Rel H N α b y) : Rels H N α [a, b] [x, y] := Rels.cons r1 (Rels.one r2)
theorem it_enumL {K : PySem.W.Frag} {ds : List D} {vs : List V} {a : Addr} (sub : ∀ b ∈ α, N b) (hn : ¬ N a) (h : H a = some (.lst vs)) (r : Rels H N α ds vs) : ItD T (Ite K a) (enumD ds) α N H := by
  intro i α2 N2 H2 e2 s2
  have h2 : SqL K H2 a vs := rd_sqL (keepLW e2 (fun z => hn (sub a z)) hn h)
  have r2 := Rels.monoW sub e2 r
  have hl := Rels.length r
  refine ⟨fun hi => ⟨vs, h2, by rw [hi]; unfold enumD; simp [hl]⟩, fun d hd => ?_⟩
  obtain ⟨e, he, rfl⟩ := enumD_get hd
  obtain ⟨v, g1, g2⟩ := Rels.get r2 he
  refine ⟨⟨vs, v, h2, g1⟩, fun x H3 hy => ?_⟩
  obtain ⟨t, v', rfl, ht, rfl, y⟩ := hy
  have := y vs h2
  rw [g1] at this
  cases this
  exact ⟨new_keep ht, tup_new (rels_two rel_int g2) s2 ht⟩
theorem it_enumT {K : PySem.W.Frag} {ds : List D} {vs : List V} {a : Addr} (sub : ∀ b ∈ α, N b) (h : H a = some (.tup vs)) (r : Rels H N α ds vs) : ItD T (IteT K a) (enumD ds) α N H := by
  intro i α2 N2 H2 e2 s2
  have h2 : SqT K H2 a vs := rd_sqT (keepTW e2 h)
  have r2 := Rels.monoW sub e2 r
  have hl := Rels.length r
  refine ⟨fun hi => ⟨vs, h2, by rw [hi]; unfold enumD; simp [hl]⟩, fun d hd => ?_⟩
  obtain ⟨e, he, rfl⟩ := enumD_get hd
  obtain ⟨v, g1, g2⟩ := Rels.get r2 he
  refine ⟨⟨vs, v, h2, g1⟩, fun x H3 hy => ?_⟩
  obtain ⟨t, v', rfl, ht, rfl, y⟩ := hy
  have := y vs h2
  rw [g1] at this
  cases this
  exact ⟨new_keep ht, tup_new (rels_two rel_int g2) s2 ht⟩
theorem it_zipL {K : PySem.W.Frag} {ds es : List D} {vs ws : List V} {a b : Addr} (sub : ∀ b ∈ α, N b) (hn : ¬ N a) (hn2 : ¬ N b) (h : H a = some (.lst vs)) (h' : H b = some (.lst ws)) (r : Rels H N α ds vs) (r' : Rels H N α es ws) : ItD T (Itz K a b) (zipD ds es) α N H := by
  intro i α2 N2 H2 e2 s2
  have h2 : SqL K H2 a vs := rd_sqL (keepLW e2 (fun z => hn (sub a z)) hn h)
  have h2' : SqL K H2 b ws := rd_sqL (keepLW e2 (fun z => hn2 (sub b z)) hn2 h')
  have r2 := Rels.monoW sub e2 r
  have r2' := Rels.monoW sub e2 r'
  have hl := Rels.length r
  have hl' := Rels.length r'
  refine ⟨fun hi => ⟨vs, ws, h2, h2', by rw [hi]; unfold zipD; simp [hl, hl']; omega⟩, fun d hd => ?_⟩
  obtain ⟨e, f, he, hf, rfl⟩ := zipD_get hd
  obtain ⟨v, g1, g2⟩ := Rels.get r2 he
  obtain ⟨v2, g1', g2'⟩ := Rels.get r2' hf
  refine ⟨⟨vs, ws, v, v2, h2, h2', g1, g1'⟩, fun x H3 hy => ?_⟩
  obtain ⟨t, x', y', rfl, ht, rfl, y1, y2⟩ := hy
  have := y1 vs h2
  rw [g1] at this
  cases this
  have := y2 ws h2'
  rw [g1'] at this
  cases this
  exact ⟨new_keep ht, tup_new (rels_two g2 g2') s2 ht⟩
theorem it_zipT {K : PySem.W.Frag} {ds es : List D} {vs ws : List V} {a b : Addr} (sub : ∀ b ∈ α, N b) (h : H a = some (.tup vs)) (h' : H b = some (.tup ws)) (r : Rels H N α ds vs) (r' : Rels H N α es ws) : ItD T (ItzT K a b) (zipD ds es) α N H := by
  intro i α2 N2 H2 e2 s2
  have h2 : SqT K H2 a vs := rd_sqT (keepTW e2 h)
  have h2' : SqT K H2 b ws := rd_sqT (keepTW e2 h')
  have r2 := Rels.monoW sub e2 r
  have r2' := Rels.monoW sub e2 r'
  have hl := Rels.length r
  have hl' := Rels.length r'
  refine ⟨fun hi => ⟨vs, ws, h2, h2', by rw [hi]; unfold zipD; simp [hl, hl']; omega⟩, fun d hd => ?_⟩
  obtain ⟨e, f, he, hf, rfl⟩ := zipD_get hd
  obtain ⟨v, g1, g2⟩ := Rels.get r2 he
  obtain ⟨v2, g1', g2'⟩ := Rels.get r2' hf
  refine ⟨⟨vs, ws, v, v2, h2, h2', g1, g1'⟩, fun x H3 hy => ?_⟩
  obtain ⟨t, x', y', rfl, ht, rfl, y1, y2⟩ := hy
  have := y1 vs h2
  rw [g1] at this
  cases this
  have := y2 ws h2'
  rw [g1'] at this
  cases this
  exact ⟨new_keep ht, tup_new (rels_two g2 g2') s2 ht⟩
theorem it_revL {K : PySem.W.Frag} {ds : List D} {vs : List V} {a : Addr} (sub : ∀ b ∈ α, N b) (hn : ¬ N a) (h : H a = some (.lst vs)) (r : Rels H N α ds vs) : ItD T (Itv K a vs.length) ds.reverse α N H := by
  intro i α2 N2 H2 e2 s2
  have h2 : SqL K H2 a vs := rd_sqL (keepLW e2 (fun z => hn (sub a z)) hn h)
  have r2 := Rels.monoW sub e2 r
  have hl := Rels.length r
  refine ⟨fun hi => by show vs.length ≤ i; rw [hi]; simp [hl], fun d hd => ?_⟩
  have hi : i < ds.length := by have := (List.getElem?_eq_some_iff.mp hd).1; simpa using this
  rw [List.getElem?_reverse hi] at hd
  obtain ⟨v, g1, g2⟩ := Rels.get r2 hd
  rw [hl] at g1
  refine ⟨⟨by omega, vs, v, h2, g1⟩, fun x H3 hy => ?_⟩
  obtain ⟨e, y⟩ := hy
  subst e
  refine ⟨fun _ _ q => q, ?_⟩
  have := y vs h2
  rw [g1] at this
  cases this
  exact g2
theorem it_revT {K : PySem.W.Frag} {ds : List D} {vs : List V} {a : Addr} (sub : ∀ b ∈ α, N b) (h : H a = some (.tup vs)) (r : Rels H N α ds vs) : ItD T (ItvT K a vs.length) ds.reverse α N H := by
  intro i α2 N2 H2 e2 s2
  have h2 : SqT K H2 a vs := rd_sqT (keepTW e2 h)
  have r2 := Rels.monoW sub e2 r
  have hl := Rels.length r
  refine ⟨fun hi => by show vs.length ≤ i; rw [hi]; simp [hl], fun d hd => ?_⟩
  have hi : i < ds.length := by have := (List.getElem?_eq_some_iff.mp hd).1; simpa using this
  rw [List.getElem?_reverse hi] at hd
  obtain ⟨v, g1, g2⟩ := Rels.get r2 hd
  rw [hl] at g1
  refine ⟨⟨by omega, vs, v, h2, g1⟩, fun x H3 hy => ?_⟩
  obtain ⟨e, y⟩ := hy
  subst e
  refine ⟨fun _ _ q => q, ?_⟩
  have := y vs h2
  rw [g1] at this
  cases this
  exact g2
def asEnum : List D → Option (List D)
  | [.lst l] => some (enumD l)
  | [.tup l] => some (enumD l)
  | _ => none
theorem enum_imp {K : PySem.W.Frag} {f : Sx → R (List D)} {Q : It → Hp → Prop} (h : tI T mg W (fIts asEnum f) σ H Q) : iEnumA K (tL T mg W f) σ H Q := by
  obtain ⟨s, α, N, hs, p⟩ := h
  refine ⟨s, α, N, hs, Post.mono (fun v H1 h1 => ?_) (PostI.of' (G := RelL) p)⟩
  obtain ⟨M1, α1, N1, d, ds, s1, e1, g1, k1, q⟩ := h1
  match d, k1, g1 with
  | [.lst l], k1, g1 =>
    cases k1
    obtain ⟨x, rfl, r1⟩ := rels1 g1
    unfold Rel at r1
    obtain ⟨a, vs, rfl, h0, h2, h3⟩ := r1
    exact ⟨a, vs, rfl, .inl ⟨rd_sqL h2, q _ (it_enumL s1.c.sub h0 h2 h3)⟩⟩
  | [.tup l], k1, g1 =>
    cases k1
    obtain ⟨x, rfl, r1⟩ := rels1 g1
    unfold Rel at r1
    obtain ⟨a, vs, rfl, h2, h3⟩ := r1
    exact ⟨a, vs, rfl, .inr ⟨rd_sqT h2, q _ (it_enumT s1.c.sub h2 h3)⟩⟩
def asZip : List D → Option (List D)
  | [.lst l, .lst m] => some (zipD l m)
  | [.tup l, .tup m] => some (zipD l m)
  | _ => none
theorem zip_imp {K : PySem.W.Frag} {f : Sx → R (List D)} {Q : It → Hp → Prop} (h : tI T mg W (fIts asZip f) σ H Q) : iZipA K (tL T mg W f) σ H Q := by
  obtain ⟨s, α, N, hs, p⟩ := h
  refine ⟨s, α, N, hs, Post.mono (fun v H1 h1 => ?_) (PostI.of' (G := RelL) p)⟩
  obtain ⟨M1, α1, N1, d, ds, s1, e1, g1, k1, q⟩ := h1
  match d, k1, g1 with
  | [.lst l, .lst m], k1, g1 =>
    cases k1
    obtain ⟨x, y, rfl, r1, r2⟩ := rels2 g1
    unfold Rel at r1 r2
    obtain ⟨a, vs, rfl, h0, h2, h3⟩ := r1
    obtain ⟨b, ws, rfl, h0', h2', h3'⟩ := r2
    exact ⟨a, b, vs, ws, rfl, .inl ⟨rd_sqL h2, rd_sqL h2', q _ (it_zipL s1.c.sub h0 h0' h2 h2' h3 h3')⟩⟩
  | [.tup l, .tup m], k1, g1 =>
    cases k1
    obtain ⟨x, y, rfl, r1, r2⟩ := rels2 g1
    unfold Rel at r1 r2
    obtain ⟨a, vs, rfl, h2, h3⟩ := r1
    obtain ⟨b, ws, rfl, h2', h3'⟩ := r2
    exact ⟨a, b, vs, ws, rfl, .inr ⟨rd_sqT h2, rd_sqT h2', q _ (it_zipT s1.c.sub h2 h2' h3 h3')⟩⟩
def asRev : D → Option (List D)
  | .lst l => some l.reverse
  | .tup l => some l.reverse
  | _ => none
theorem rev_imp {K : PySem.W.Frag} {f : Sx → R D} {Q : It → Hp → Prop} (h : tI T mg W (fIt asRev f) σ H Q) : iRevA K (tD T mg W f) σ H Q := by
  obtain ⟨s, α, N, hs, p⟩ := h
  refine ⟨s, α, N, hs, Post.mono (fun v H1 h1 => ?_) (PostI.of (G := RelD) p)⟩
  obtain ⟨M1, α1, N1, d, ds, s1, e1, g1, k1, q⟩ := h1
  cases d <;> try (cases k1; done)
  · cases k1
    unfold RelD Rel at g1
    obtain ⟨a, vs, h1, h2, h3⟩ := g1
    exact ⟨a, vs, h1, .inr ⟨rd_sqT h2, q _ (it_revT s1.c.sub h2 h3)⟩⟩
  · cases k1
    unfold RelD Rel at g1
    obtain ⟨a, vs, h1, h0, h2, h3⟩ := g1
    exact ⟨a, vs, h1, .inl ⟨rd_sqL h2, q _ (it_revL s1.c.sub h0 h2 h3)⟩⟩
end
section
variable {X : Cx} {T : TPr} {W : WX} {tg e e2 : Expr} {p pos tpos : Pos} {elts : List Expr} {kk : Nat} {fl : Sx → R (List D)} {fe : Sx → R D}
theorem i_enum (hg : Gl X "enumerate") (hm : X.mg "enumerate" = none) (ha : PA X [e] (tL T X.mg W fl)) (hs : starEach [e] X.env = [(false, eval e X.env)] := by rfl) : PI X (.Tuple elts kk tpos) (.Call (.Name "enumerate" p) [e] [] pos) (tI T X.mg W (fIts asEnum fl)) :=
  ⟨fun pins s σ H R I q => (pi_enumA hg hm ha hs).run pins s σ H R I (enum_imp q)⟩
theorem i_zip (hg : Gl X "zip") (hm : X.mg "zip" = none) (ha : PA X [e, e2] (tL T X.mg W fl)) (hs : starEach [e, e2] X.env = (false, eval e X.env) :: starEach [e2] X.env := by rfl) (hpl : (backTo pos (starEach [e2] X.env)).any (·.1) = false := by rfl) :
    PI X (.Tuple elts kk tpos) (.Call (.Name "zip" p) [e, e2] [] pos) (tI T X.mg W (fIts asZip fl)) :=
  ⟨fun pins s σ H R I q => (pi_zipA hg hm ha hs hpl).run pins s σ H R I (zip_imp q)⟩
theorem i_rev (hg : Gl X "reversed") (hm : X.mg "reversed" = none) (he : PE X e (tD T X.mg W fe)) (hs : starEach [e] X.env = (false, eval e X.env) :: starEach [] X.env := by rfl) : PI X tg (.Call (.Name "reversed" p) [e] [] pos) (tI T X.mg W (fIt asRev fe)) :=
  ⟨fun pins s σ H R I q => (pi_revA hg hm he hs).run pins s σ H R I (rev_imp q)⟩
end
end DL

namespace DL
open PySem PySem.Spec L2
open PyProof.Rows hiding St

/-! ### a promise that shows all cells -/
def spX (T : TPr) (mg : Str → Option Value) (n : Nat) (fM : List D → Cells → R D) : Sp := fun vs H Q E => ∃ ds M α N, ds.length = n ∧ StC T N H M α ∧ Rels H N α ds vs ∧ match fM ds M with
  | .ok d M' => ∀ v H' α' N', StC T N' H' M' α' → Ext α N H α' N' H' → Rel H' N' α' d v → Q v H'
  | .ex e M' => ∀ cls dd H' α' N', StC T N' H' M' α' → Ext α N H α' N' H' → XR mg e cls dd H' N' α' → E cls dd H'
  | .no => False
def RS.outX : RS → R D
  | .nx s => .ok .non s.M
  | .rt d s => .ok d s.M
  | .ex e s => .ex e s.M
  | _ => .no
def autX (n : Nat) (Nm : List Str) (g : Sx → RS) : List D → Cells → R D := fun ds M => if ds.length = n then RS.outX (g ⟨init0 Nm ds, M⟩) else .no
theorem autX_len {n : Nat} {Nm : List Str} {g : Sx → RS} (ds : List D) (M : Cells) (h : autX n Nm g ds M ≠ .no) : ds.length = n := by
  unfold autX at h
  by_cases hl : ds.length = n
  · exact hl
  · rw [if_neg hl] at h; exact (h rfl).elim
theorem fn_autX {T : TPr} {P : Program} {w : World} {K : PySem.W.Frag} {mg : Str → Option Value} {base : Heap} {x qual : Str} {params : Arguments} {body : List Stmt} {scope : Scope} {f : Addr} {fd : FuncData} {Nm ps : List Str} {dvs : List V} {kws : List (Str × V)} {k : Nat} {g : Sx → RS}
    (F : FunD K x qual params body scope dvs kws f fd) (S : FnScope Nm ps scope)
    (hb : ∀ (cdv : Value), fd.code = cdv → ∀ (A : Around) (outer : List Env) (s : Shared) (H : Hp) (E : XK), Room k (A.deeper (envOfC qual scope s.heap.objs.size f cdv)) →
      PSs (cxOf (L2.CX P w) P w K mg base Nm qual scope f cdv A outer s H E) body (tS T mg (fun cls d _ H => E cls d H) g)) :
    FnOk P w K mg base (L2.CX P w) (k + 1) f fd ps (spX T mg ps.length (autX ps.length Nm g)) := by
  refine F.okC S (fun vs H Q E h => ?_) (fun cdv hcdv A outer s H vs Q E hr hsp => ?_)
  · obtain ⟨ds, M, α, N, h1, _, h2, _⟩ := h
    rw [← Rels.length h2]; exact h1
  · obtain ⟨ds, M, α, N, h1, c, r, post⟩ := hsp
    refine ⟨_, hb cdv hcdv A outer s H E hr, ⟨init0 Nm ds, M⟩, α, N, ⟨c, init_slt r, ?_⟩, ?_⟩
    · have := Rels.length r
      unfold init0 L2.start
      simp; omega
    · unfold autX at post
      rw [if_pos h1] at post
      cases q : g ⟨init0 Nm ds, M⟩ with
      | no => rw [q] at post; exact post
      | bk s1 => rw [q] at post; exact post.elim
      | ct s1 => rw [q] at post; exact post.elim
      | nx s1 =>
        rw [q] at post
        intro σ' H' α' N' s' e
        exact post .non H' α' N' s'.c e rel_non
      | rt d s1 =>
        rw [q] at post
        intro v σ' H' α' N' s' e rv
        exact post v H' α' N' s'.c e rv
      | ex x s1 =>
        rw [q] at post
        intro cls dd σ' H' α' N' s' e xr
        exact post cls dd H' α' N' s'.c e xr
structure CalX (T : TPr) (P : Program) (w : World) (K : PySem.W.Frag) (mg : Str → Option Value) (base : Heap) (k : Nat) (x : Str) (n : Nat) (fM : List D → Cells → R D) : Prop where
  ex : ∃ (f : Addr) (fd : FuncData) (ps : List Str), mg x = some (.ref f) ∧ PySem.W.keepIn K (.ref f) = true ∧ Binds K fd ps [] ∧ FnOk P w K mg base (L2.CX P w) k f fd ps (spX T mg n fM)
theorem CalX.mono {T : TPr} {P : Program} {w : World} {K : PySem.W.Frag} {mg : Str → Option Value} {base : Heap} {j k : Nat} {x : Str} {n : Nat} {fM : List D → Cells → R D} (c : CalX T P w K mg base j x n fM) (h : j ≤ k) : CalX T P w K mg base k x n fM := by
  obtain ⟨f, fd, ps, h1, h2, h3, h4⟩ := c.ex
  exact ⟨f, fd, ps, h1, h2, h3, h4.mono h⟩
def fCallX (fM : List D → Cells → R D) (f : Sx → R (List D)) : Sx → R D := fun s => (f s).bind fun ds M => fM ds M
section
variable {T : TPr} {mg : Str → Option Value} {W : WX} {σ : L2.St} {H : Hp} {N : Addr → Prop} {α : List Addr} {Dn : Ends}
theorem StR.again {ρ : List (Option D)} {M M' : Cells} {α' : List Addr} {N' : Addr → Prop} {H' : Hp} (s : StR T N H σ ⟨ρ, M⟩ α) (c : StC T N' H' M' α') (e : Ext α N H α' N' H') : StR T N' H' σ ⟨ρ, M'⟩ α' :=
  ⟨c, fun i d q => by obtain ⟨v, h1, h2⟩ := s.slt i d q; exact ⟨v, h1, Rel.mono s.c.sub e h2⟩, s.lnr⟩
/-- the promise, of what the caller holds -/
theorem spX_post {ρ : List (Option D)} {M : Cells} {n : Nat} {fM : List D → Cells → R D} {ds : List D} {vs : List V} {Q : VK} (hn : ∀ ds M, fM ds M ≠ .no → ds.length = n) (s : StR T N H σ ⟨ρ, M⟩ α) (r : Rels H N α ds vs) (p : Post T mg RelD N α H σ ρ W Q (fM ds M)) : spX T mg n fM vs H Q (WE W σ) := by
  refine ⟨ds, M, α, N, hn ds M fun z => by rw [z] at p; exact p, s.c, r, ?_⟩
  cases hp : fM ds M with
  | no => rw [hp] at p; exact p
  | ok d M' =>
    rw [hp] at p
    exact fun v H' α' N' c e rv => p v H' α' N' (s.again c e) e rv
  | ex x M' =>
    rw [hp] at p
    exact fun cls dd H' α' N' c e rv => p cls dd H' α' N' (s.again c e) e rv
theorem callX_imp {n : Nat} {fM : List D → Cells → R D} {f : Sx → R (List D)} (hn : ∀ ds M, fM ds M ≠ .no → ds.length = n) {Q : VK} (h : tD T mg W (fCallX fM f) σ H Q) : tCallS (spX T mg n fM) (WE W) (tL T mg W f) σ H Q := by
  obtain ⟨s, α, N, hs, q⟩ := h
  refine ⟨s, α, N, hs, Post.mono (fun vs H1 h1 => ?_) (Post.bind (G := RelL) q)⟩
  obtain ⟨M1, α1, N1, ds, s1, e1, g1, p1⟩ := h1
  exact spX_post hn s1 g1 p1
end
section
variable {X : Cx} {T : TPr} {W : WX} {pos p : Pos} {k n : Nat} {x : Str} {e : Expr} {es : List Expr} {fl : Sx → R (List D)}
theorem e_callX {fM : List D → Cells → R D} (B : Bd X W k) (F : CalX T X.prog X.w X.K X.mg X.base k x n fM) (hn : ∀ ds M, fM ds M ≠ .no → ds.length = n) (hg : Gl X x) (ha : PA X (e :: es) (tL T X.mg W fl)) (hdb : (x == ("__debug__" : Str)) = false := by decide)
    (he : starEach (e :: es) X.env = (false, eval e X.env) :: starEach es X.env := by rfl) (hpl : (backTo pos (starEach es X.env)).any (·.1) = false := by rfl) : PE X (.Call (.Name x p) (e :: es) [] pos) (tD T X.mg W (fCallX fM fl)) := by
  obtain ⟨f, fd, ps, h1, h2, h3, h4⟩ := F.ex
  exact (pe_callS h4 B.rm hg h1 h2 h3 (fun σ => passAt B.tk σ) ha hdb he hpl).imp fun _ _ _ => callX_imp hn
end

/-! ### instances: fields -/
def insAt (M : Cells) (C : Addr) (n : Nat) : Option (List Str × List D) := match M[n]? with
  | some (.tag (.ins C' ns) :: ds) => if C' = C ∧ ds.length = ns.length then some (ns, ds) else none
  | _ => none
def gFld (C : Addr) (f : Str) : Cells → D → Option D := fun M d => match d with
  | .loc n => match insAt M C n with
    | some (ns, ds) => (ns.zip ds).lookup f
    | none => none
  | _ => none
def fFld (C : Addr) (f : Str) (fo : Sx → R D) : Sx → R D := fun s => (fo s).bind fun d M => opt (gFld C f M d) M
def putN (f : Str) : List Str → List Str
  | [] => [f]
  | g :: ns => if g = f then g :: ns else g :: putN f ns
def putV {γ : Type} (f : Str) (y : γ) : List Str → List γ → List γ
  | g :: ns, x :: xs => if g = f then y :: xs else x :: putV f y ns xs
  | _, _ => [y]
/-- o.f = e -/
def fFldPut (C : Addr) (f : Str) (fo fe : Sx → R D) : Sx → RS := fun s => (fe s).toS s.ρ fun d M1 => (fo ⟨s.ρ, M1⟩).toS s.ρ fun o M2 => match o with
  | .loc n => match insAt M2 C n with
    | some (ns, ds) => if ns.length < 900 then .nx ⟨s.ρ, M2.set n (.tag (.ins C (putN f ns)) :: putV f d ns ds)⟩ else .no
    | none => .no
  | _ => .no
theorem putF_zip {f : Str} {y : V} : ∀ {ns : List Str} {vs : List V}, ns.length = vs.length → putF f y (ns.zip vs) = (putN f ns).zip (putV f y ns vs)
  | [], [], _ => rfl
  | g :: ns, v :: vs, h => by
    show (if g = f then (g, y) :: ns.zip vs else (g, v) :: putF f y (ns.zip vs)) = (if g = f then g :: ns else g :: putN f ns).zip (if g = f then y :: vs else v :: putV f y ns vs)
    by_cases q : g = f
    · rw [if_pos q, if_pos q, if_pos q]; rfl
    · rw [if_neg q, if_neg q, if_neg q, putF_zip (by simpa using h)]; rfl
  | [], _ :: _, h => by simp at h
  | _ :: _, [], h => by simp at h
theorem putV_length {γ : Type} {f : Str} {y : γ} : ∀ {ns : List Str} {vs : List γ}, vs.length = ns.length → (putV f y ns vs).length = (putN f ns).length
  | [], [], _ => rfl
  | g :: ns, v :: vs, h => by
    show (if g = f then y :: vs else v :: putV f y ns vs).length = (if g = f then g :: ns else g :: putN f ns).length
    by_cases q : g = f
    · rw [if_pos q, if_pos q]; simpa using h
    · rw [if_neg q, if_neg q, List.length_cons, List.length_cons, putV_length (by simpa using h)]
  | [], _ :: _, h => by simp at h
  | _ :: _, [], h => by simp at h
section
variable {T : TPr} {mg : Str → Option Value} {W : WX} {σ : L2.St} {H : Hp} {N : Addr → Prop} {α : List Addr} {Dn : Ends}
theorem putV_rels {f : Str} {d : D} {v : V} (rd : Rel H N α d v) : ∀ {ns : List Str} {ds : List D} {vs : List V}, ds.length = ns.length → Rels H N α ds vs → Rels H N α (putV f d ns ds) (putV f v ns vs)
  | [], [], _, _, h => by unfold Rels at h; subst h; exact Rels.one rd
  | g :: ns, e :: ds, _, hl, h => by
    unfold Rels at h
    obtain ⟨w, r, rfl, h1, h2⟩ := h
    show Rels H N α (if g = f then d :: ds else e :: putV f d ns ds) (if g = f then v :: r else w :: putV f v ns r)
    by_cases q : g = f
    · rw [if_pos q, if_pos q]; exact Rels.cons rd h2
    · rw [if_neg q, if_neg q]; exact Rels.cons h1 (putV_rels rd (by simpa using hl) h2)
  | [], _ :: _, _, h, _ => by simp at h
  | _ :: _, [], _, h, _ => by simp at h
theorem zip_rels {f : Str} {d : D} : ∀ {ns : List Str} {ds : List D} {vs : List V}, Rels H N α ds vs → (ns.zip ds).lookup f = some d → ∃ v, (ns.zip vs).lookup f = some v ∧ Rel H N α d v
  | [], _, _, _, h => by simp at h
  | g :: ns, [], _, _, h => by simp at h
  | g :: ns, e :: ds, _, r, h => by
    unfold Rels at r
    obtain ⟨w, r', rfl, h1, h2⟩ := r
    rw [List.zip_cons_cons, List.lookup_cons] at h
    rw [List.zip_cons_cons]
    split at h
    · rename_i q
      cases h
      exact ⟨w, by rw [List.lookup_cons, q], h1⟩
    · rename_i q
      obtain ⟨v, a, b⟩ := zip_rels (ns := ns) h2 h
      exact ⟨v, by rw [List.lookup_cons, q]; exact a, b⟩
theorem ins_rel {M : Cells} {C : Addr} {n : Nat} {x : V} {ns : List Str} {ds : List D} (c : StC T N H M α) (r : Rel H N α (.loc n) x) (h : insAt M C n = some (ns, ds)) :
    ∃ a dx vs, x = .ref a ∧ α[n]? = some a ∧ n < M.length ∧ H a = some (.ins C dx (ns.zip vs)) ∧ ds.length = ns.length ∧ Rels H N α ds vs := by
  unfold Rel at r
  obtain ⟨a, h1, h2⟩ := r
  unfold insAt at h
  split at h
  · rename_i C' ns' ds' hM
    by_cases hc : C' = C ∧ ds'.length = ns'.length
    · rw [if_pos hc] at h
      cases h
      obtain ⟨rfl, hl⟩ := hc
      obtain ⟨a', e1, e0⟩ := c.cel n _ hM
      rw [h2] at e1; cases e1
      rcases e0 with ⟨vs, _, q⟩ | ⟨C2, ns2, ds2, dx, vs, e, q1, q2, q3⟩ | ⟨ds2, kvs, e, q1, q2⟩
      · unfold Rels Rel at q
        obtain ⟨v, w, _, q, _⟩ := q
        exact q.elim
      · cases e
        exact ⟨a, dx, vs, h1, h2, (List.getElem?_eq_some_iff.mp hM).1, q1, hl, q3⟩
      · cases e
    · rw [if_neg hc] at h; cases h
  · cases h
theorem fld_imp {K : PySem.W.Frag} {C : Addr} {f : Str} {fo : Sx → R D} {Q : VK} (cl : Cls K C) (na : NoAttr K C f) (h : tD T mg W (fFld C f fo) σ H Q) : tFld K (tD T mg W fo) f σ H Q := by
  obtain ⟨s, α, N, hs, p⟩ := h
  refine ⟨s, α, N, hs, Post.mono (fun x H1 h1 => ?_) (Post.bind (G := RelD) p)⟩
  obtain ⟨M1, α1, N1, d, s1, e1, g1, p1⟩ := h1
  obtain ⟨z, hz, p4⟩ := p1.opt
  unfold gFld at hz
  cases d <;> try (cases hz; done)
  rename_i n
  dsimp only at hz
  cases qi : insAt M1 C n with
  | none => rw [qi] at hz; cases hz
  | some nd =>
    obtain ⟨ns, ds⟩ := nd
    rw [qi] at hz
    obtain ⟨a, dx, vs, rfl, h2, h3, h4, h5, h6⟩ := ins_rel s1.c g1 qi
    obtain ⟨v, hv, rv⟩ := zip_rels h6 hz
    exact ⟨a, C, dx, _, v, rfl, h4, cl, na, hv, p4 v H1 α1 N1 s1 Ext.refl rv⟩
/-- objects that data name: they stand when an instance changes -/
def Named : HO → Prop
  | .tup _ => True
  | .lst _ => True
  | .frz _ _ => True
  | .ext _ => True
  | _ => False
mutual
theorem Rel.named {H' : Hp} (k : ∀ b o, H b = some o → Named o → H' b = some o) : ∀ {d : D} {v : V}, Rel H N α d v → Rel H' N α d v
  | .non, _, h => by unfold Rel at h ⊢; exact h
  | .bl _, _, h => by unfold Rel at h ⊢; exact h
  | .int _, _, h => by unfold Rel at h ⊢; exact h
  | .str _, _, h => by unfold Rel at h ⊢; exact h
  | .tup l, _, h => by
    unfold Rel at h ⊢
    obtain ⟨a, vs, h1, h2, h3⟩ := h
    exact ⟨a, vs, h1, k _ _ h2 trivial, Rels.named k h3⟩
  | .lst l, _, h => by
    unfold Rel at h ⊢
    obtain ⟨a, vs, h1, h0, h2, h3⟩ := h
    exact ⟨a, vs, h1, h0, k _ _ h2 trivial, Rels.named k h3⟩
  | .loc n, _, h => by unfold Rel at h ⊢; exact h
  | .adr _, _, h => by unfold Rel at h ⊢; exact h
  | .ty _, _, h => by unfold Rel at h ⊢; exact h
  | .scr l, _, h => by
    unfold Rel at h ⊢
    obtain ⟨a, o, vs, h1, h2, h3⟩ := h
    exact ⟨a, o, vs, h1, k _ _ h2 trivial, Rels.named k h3⟩
  | .fnv i o o', _, h => by
    unfold Rel at h ⊢
    obtain ⟨f, c, φ, φ', h1, h2, h3, h4, h5⟩ := h
    exact ⟨f, c, φ, φ', h1, h2, h3, k _ _ h4 (by rw [h2]; trivial), k _ _ h5 (by rw [h3]; trivial)⟩
  | .tag _, _, h => by unfold Rel at h; exact h.elim
theorem Rels.named {H' : Hp} (k : ∀ b o, H b = some o → Named o → H' b = some o) : ∀ {l : List D} {us : List V}, Rels H N α l us → Rels H' N α l us
  | [], _, h => by unfold Rels at h ⊢; exact h
  | d :: l, _, h => by
    unfold Rels at h ⊢
    obtain ⟨v, r, h1, h2, h3⟩ := h
    exact ⟨v, r, h1, Rel.named k h2, Rels.named k h3⟩
end
theorem StC.setI {M : Cells} {n : Nat} {a C dx : Addr} {fs fs' : List (Str × V)} {l' : List D} (c : StC T N H M α) (h1 : α[n]? = some a) (hn : n < M.length) (e2 : H a = some (.ins C dx fs)) (r : CelOk (upd H a (.ins C dx fs')) N α a l') :
    StC T N (upd H a (.ins C dx fs')) (M.set n l') α ∧ Ext α N H α N (upd H a (.ins C dx fs')) ∧ ∀ d v, Rel H N α d v → Rel (upd H a (.ins C dx fs')) N α d v := by
  have ha : a ∈ α := List.mem_of_getElem? h1
  have hnf : ∀ b, ¬ Fz H b → ¬ Fz (upd H a (.ins C dx fs')) b := fun b h => nf_upd (fun _ z => by cases z) fun _ => h
  have kn : ∀ b o, H b = some o → Named o → upd H a (.ins C dx fs') b = some o := fun b o h q => by
    rw [upd_ne fun z => by rw [z, e2] at h; cases h; exact q]; exact h
  refine ⟨⟨c.nd, c.sub, fun b h => hnf b (c.som b h), by rw [List.length_set]; exact c.len, fun m q hq => ?_, T.mono _ _ c.tab fun b o e nl => ?_⟩, ⟨⟨[], by simp, by simp⟩, fun _ h => h, fun _ h => .inl h, fun b o hb t u => ?_, hnf⟩, fun d v q => Rel.named kn q⟩
  · by_cases hm : n = m
    · subst hm
      rw [List.getElem?_set_self hn] at hq
      cases hq
      exact ⟨a, h1, r⟩
    · rw [List.getElem?_set_ne hm] at hq
      obtain ⟨b, f1, f2⟩ := c.cel m q hq
      have ne : b ≠ a := fun z => by
        subst z
        obtain ⟨u1, v1⟩ := List.getElem?_eq_some_iff.mp h1
        obtain ⟨u2, v2⟩ := List.getElem?_eq_some_iff.mp f1
        exact hm ((List.getElem_inj c.nd).mp (v1.trans v2.symm))
      exact ⟨b, f1, f2.all (fun o q _ _ => by rw [upd_ne ne]; exact q) fun d v q => Rel.named kn q⟩
  · rw [upd_ne (fun z => by rw [z, e2] at e; cases e; rcases nl with ⟨_, q⟩ | ⟨_, q⟩ <;> cases q)]; exact e
  · rw [upd_ne (fun z => t (by rw [z, e2] at hb; rw [← Option.some.inj hb]; trivial) (by rw [z]; exact ha))]
    exact hb
theorem fldPut_imp {K : PySem.W.Frag} {C : Addr} {f : Str} {fo fe : Sx → R D} (cl : Cls K C) (na : NoAttr K C f) (h : tS T mg W (fFldPut C f fo fe) Dn σ H) : sFld K (tD T mg W fo) (tD T mg W fe) f Dn σ H := by
  obtain ⟨s, α, N, hs, p⟩ := h
  refine ⟨s, α, N, hs, Post.mono (fun y H1 h1 => ?_) (PostS.bind (G := RelD) p)⟩
  obtain ⟨M1, α1, N1, d, s1, e1, g1, p1⟩ := h1
  refine ⟨_, α1, N1, s1, Post.mono (fun x H2 h2 => ?_) (PostS.bind (G := RelD) p1)⟩
  obtain ⟨M2, α2, N2, o, s2, e2, g2, p2⟩ := h2
  cases o <;> try (exact p2.elim)
  rename_i n
  dsimp only at p2
  cases qi : insAt M2 C n with
  | none => rw [qi] at p2; exact p2.elim
  | some nd =>
    obtain ⟨ns, ds⟩ := nd
    rw [qi] at p2
    dsimp only at p2
    obtain ⟨a, dx, vs, rfl, h2, h3, h4, h5, h6⟩ := ins_rel s2.c g2 qi
    have hl := Rels.length h6
    by_cases hk : ns.length < 900
    · rw [if_pos hk] at p2
      have rd := Rel.mono s1.c.sub e2 g1
      refine ⟨a, C, dx, _, rfl, h4, cl, na, by rw [List.length_zip]; omega, ?_⟩
      rw [putF_zip (by omega)]
      have kn : ∀ b o, H2 b = some o → Named o → upd H2 a (.ins C dx ((putN f ns).zip (putV f y ns vs))) b = some o := fun b o h q => by
        rw [upd_ne fun z => by rw [z, h4] at h; cases h; exact q]; exact h
      obtain ⟨c', e', rr⟩ := s2.c.setI (fs' := (putN f ns).zip (putV f y ns vs)) (l' := .tag (.ins C (putN f ns)) :: putV f d ns ds) h2 h3 h4
        (.inr (.inl ⟨C, putN f ns, _, dx, putV f y ns vs, rfl, upd_same, putV_length h5, Rels.named kn (putV_rels rd h5 h6)⟩))
      exact (p2.later e').nxNow ⟨c', fun i d q => by obtain ⟨v, h1, h2⟩ := s2.slt i d q; exact ⟨v, h1, rr _ _ h2⟩, s2.lnr⟩
    · rw [if_neg hk] at p2; exact p2.elim
end
section
variable {X : Cx} {T : TPr} {W : WX} {o e : Expr} {f : Str} {C : Addr} {pos pos' : Pos} {fo fe : Sx → R D}
theorem e_fld (cl : Cls X.K C) (na : NoAttr X.K C f) (ho : PE X o (tD T X.mg W fo)) (hb : attributeBase o f X.env (eval o X.env) = eval o X.env := by rfl) : PE X (.Attribute o f pos) (tD T X.mg W (fFld C f fo)) := (pe_fld ho hb).imp fun _ _ _ => fld_imp cl na
theorem s_fld (cl : Cls X.K C) (na : NoAttr X.K C f) (ho : PE X o (tD T X.mg W fo)) (he : PE X e (tD T X.mg W fe)) (hs : swapsWith e (some (.Attribute o f pos')) pos.line X.env = pure false := by rfl) : PS X (.Assign [.Attribute o f pos'] e pos) (tS T X.mg W (fFldPut C f fo fe)) := (ps_fld ho he hs).imp fun _ _ _ => fldPut_imp cl na
end

/-! ### instances: made, methods -/
/-- C(..) -/
def fMake (C : Addr) (fM : List D → Cells → R D) (f : Sx → R (List D)) : Sx → R D := fun s => (f s).bind fun ds M => match fM (.loc M.length :: ds) (M ++ [[.tag (.ins C [])]]) with
  | .ok .non M' => .ok (.loc M.length) M'
  | .ex e M' => .ex e M'
  | _ => .no
/-- o.m(..) -/
def fMeth (C : Addr) (m : Str) (fM : List D → Cells → R D) (fo : Sx → R D) (f : Sx → R (List D)) : Sx → R D := fun s => (fo s).bind fun o M1 => match o with
  | .loc n => (match insAt M1 C n with
    | some (ns, _) => if m ∈ ns then .no else (f ⟨s.ρ, M1⟩).bind fun ds M => fM (.loc n :: ds) M
    | none => .no)
  | _ => .no
def tMakeS (C : Addr) (sp : Sp) (E : St → XK) (t : TA) : TE := fun σ H Q => t σ H fun vs H1 => ∀ x dx, H1 x = none → H1 dx = none → dx ≠ x →
  sp (.ref x :: vs) (upd (upd H1 dx (.own x)) x (.ins C dx [])) (fun v H2 => v = .non ∧ Q (.ref x) H2) (E σ)
def tMethS (C : Addr) (m : Str) (sp : Sp) (E : St → XK) (ta : TE) (t : TA) : TE := fun σ H Q => ta σ H fun x H1 => ∃ a dx fs, x = .ref a ∧ H1 a = some (.ins C dx fs) ∧ fs.lookup m = none ∧ t σ H1 fun vs H2 => sp (x :: vs) H2 Q (E σ)
section
variable {X : Cx} {CX : CXT} {k : Nat} {f C : Addr} {fd : FuncData} {ps : List Str} {sp : Sp} {E : St → XK} {x m : Str} {p pos apos : Pos} {o e : Expr} {es : List Expr} {ta : TE} {t : TA}
theorem run_makeS {pins : List (Addr × Obj)} {σ : St} {H : Hp} {s : Shared} {Q : VK} {us : List Value} {vs : List V} (M : Mk X.K C f) (F : FnOk X.prog X.w X.K X.mg X.base CX k f fd ps sp) (hr : Room (k + 1) X.A) (hb : Binds X.K fd ps [])
    (hx : PassesAt CX X σ (E σ)) (I : Inv X pins σ H s) (r : Vals vs us)
    (h : ∀ x dx, H x = none → H dx = none → dx ≠ x → sp (.ref x :: vs) (upd (upd H dx (.own x)) x (.ins C dx [])) (fun v H2 => v = .non ∧ Q (.ref x) H2) (E σ)) :
    wpAny (model X.prog X.w) X.A (call (.ref C) us) (EP X pins σ Q) X.xe s := by
  have hq := h (s.heap.objs.size + 1) s.heap.objs.size (I.hok.fresh (Nat.le_succ _)) (I.hok.fresh (Nat.le_refl _)) (Nat.ne_of_lt (Nat.lt_succ_self _))
  have I2 := Inv.made (C := C) I
  have r2 : Vals (V.ref (s.heap.objs.size + 1) :: vs) (Value.ref (s.heap.objs.size + 1) :: us) := .cons rfl r
  have hl : (Value.ref (s.heap.objs.size + 1) :: us).length = ps.length := by
    rw [← r2.length]
    exact F.len _ _ _ _ hq
  have b := hb _ (Value.ref (s.heap.objs.size + 1) :: us) I2.kIn (by rw [List.append_nil]; exact hl)
  rw [List.append_nil] at b
  refine wpAny_call (make_map (f := f) I.kIn M.makes M.init (beq_iff_eq.mp M.fn) (codeAny_mono (F.run _ X.stack _ _ ⟨Value.ref (s.heap.objs.size + 1) :: us, []⟩ (Value.ref (s.heap.objs.size + 1) :: us) _ _ (E σ) (hr.make C us [])
    (I2.env0.make C us []) b r2 hq) fun r s' hq' => ?_))
  cases r with
  | error e => exact hx pins _ _ e s' I2 hq'
  | ok fl =>
    cases fl with
    | ret u =>
      obtain ⟨v, H', I3, rv, ev, q3⟩ := I2.after hq'
      subst ev
      exact ⟨rv, ⟨V.ref (s.heap.objs.size + 1), H', I3, rfl, q3⟩⟩
    | next => exact False.elim hq'
    | brk => exact False.elim hq'
    | cont => exact False.elim hq'
theorem pe_makeS (M : Mk X.K C f) (F : FnOk X.prog X.w X.K X.mg X.base CX k f fd ps sp) (hr : Room (k + 1) X.A) (hg : Gl X x) (hm : X.mg x = some (.ref C)) (hb : Binds X.K fd ps []) (hx : ∀ σ, PassesAt CX X σ (E σ))
    (ha : PA X (e :: es) t) (hdb : (x == ("__debug__" : Str)) = false := by decide) (he : starEach (e :: es) X.env = (false, eval e X.env) :: starEach es X.env := by rfl) (hpl : (backTo pos (starEach es X.env)).any (·.1) = false := by rfl) :
    PE X (.Call (.Name x p) (e :: es) [] pos) (tMakeS C sp E t) := by
  refine ⟨fun pins s σ H Q I h => ?_⟩
  refine wpAny_Call_Name_kw (ld_glob I hg hm ?_ hdb)
  refine PySem.W.callWith_K (h₀ := X.base) I.ok.mod.kin M.kp (thn (ha.run pos pins s σ H _ I h) fun us s1 ⟨vs, H1, I1, r, q⟩ => ⟨I1.kIn, ?_⟩) he hpl
  exact run_makeS M F hr hb (hx σ) I1 r q
theorem pe_makeS0 (M : Mk X.K C f) (F : FnOk X.prog X.w X.K X.mg X.base CX k f fd ps sp) (hr : Room (k + 1) X.A) (hg : Gl X x) (hm : X.mg x = some (.ref C)) (hb : Binds X.K fd ps []) (hx : ∀ σ, PassesAt CX X σ (E σ))
    (hdb : (x == ("__debug__" : Str)) = false := by decide) : PE X (.Call (.Name x p) [] [] pos) (tMakeS C sp E tNil) := by
  refine ⟨fun pins s σ H Q I h => ?_⟩
  refine wpAny_Call_Name_kw (ld_glob I hg hm ?_ hdb)
  exact PySem.W.callWith_K0 I.kIn M.kp (run_makeS (us := []) M F hr hb (hx σ) I .nil h)
theorem pe_methS {pl : Sem Bool} (he : PE X o ta) (c : Cls X.K C) (hm : Meth X.K C m f) (F : FnOk X.prog X.w X.K X.mg X.base CX k f fd ps sp) (hr : Room k X.A) (hb : Binds X.K fd ps []) (hx : ∀ σ, PassesAt CX X σ (E σ)) (ha : PA X (e :: es) t)
    (hst : starEach (e :: es) X.env = (false, eval e X.env) :: starEach es X.env := by rfl) (hpl : (backTo pos (starEach es X.env)).any (·.1) = false := by rfl)
    (ht : eval (.Call (.Attribute o m apos) (e :: es) [] pos) X.env = (do
      let ov ← eval o X.env
      standAt apos.atName
      let (f, first) ← holding [ov] (getMethod ov m pl)
      callWith pos f first (backTo pos (starEach (e :: es) X.env)) (backToKw pos (keywordEach [] X.env))) := by rfl) :
    PE X (.Call (.Attribute o m apos) (e :: es) [] pos) (tMethS C m sp E ta t) := by
  refine ⟨fun pins s σ H Q I h => ?_⟩
  refine PySem.W.methodCall_KW (pl := pl) (thn (he.run pins s σ H _ I h) fun u s1 ⟨x, H1, I1, rx, a, dx, fs, ex, ea, l, q⟩ => ?_) ht
  subst ex
  obtain rfl : u = Value.ref a := rx
  refine getmeth_ok I1 ea c hm l ?_
  refine PySem.W.callWith_K (first := [.ref a]) (h₀ := X.base) I.ok.mod.kin hm.kp (thn (ha.run pos pins s1 σ H1 _ I1 q) fun us s2 ⟨vs, H2, I2, r, q2⟩ => ⟨I2.kIn, ?_⟩) hst hpl
  exact run_fnS (us := .ref a :: us) (vs := .ref a :: vs) F hr hb (hx σ) I2 (.cons rfl r) q2
theorem pe_methS0 {pl : Sem Bool} (he : PE X o ta) (c : Cls X.K C) (hm : Meth X.K C m f) (F : FnOk X.prog X.w X.K X.mg X.base CX k f fd ps sp) (hr : Room k X.A) (hb : Binds X.K fd ps []) (hx : ∀ σ, PassesAt CX X σ (E σ))
    (ht : eval (.Call (.Attribute o m apos) [] [] pos) X.env = (do
      let ov ← eval o X.env
      standAt apos.atName
      let (f, first) ← holding [ov] (getMethod ov m pl)
      callWith pos f first (backTo pos (starEach [] X.env)) (backToKw pos (keywordEach [] X.env))) := by rfl) :
    PE X (.Call (.Attribute o m apos) [] [] pos) (tMethS C m sp E ta tNil) := by
  refine ⟨fun pins s σ H Q I h => ?_⟩
  refine PySem.W.methodCall_KW (pl := pl) (thn (he.run pins s σ H _ I h) fun u s1 ⟨x, H1, I1, rx, a, dx, fs, ex, ea, l, q⟩ => ?_) ht
  subst ex
  obtain rfl : u = Value.ref a := rx
  refine getmeth_ok I1 ea c hm l ?_
  exact PySem.W.callWith_K0 (first := [.ref a]) I1.kIn hm.kp (run_fnS (us := [.ref a]) (vs := [.ref a]) F hr hb (hx σ) I1 (.cons rfl .nil) q)
end
theorem zip_none {γ : Type} {f : Str} : ∀ {ns : List Str} {vs : List γ}, f ∉ ns → (ns.zip vs).lookup f = none
  | [], _, _ => rfl
  | g :: ns, [], _ => rfl
  | g :: ns, v :: vs, h => by
    rw [List.zip_cons_cons, List.lookup_cons]
    have : (f == g) = false := by
      rw [beq_eq_false_iff_ne]
      exact fun z => h (by rw [z]; exact List.mem_cons_self)
    rw [this]
    exact zip_none fun z => h (List.mem_cons_of_mem _ z)
section
variable {T : TPr} {mg : Str → Option Value} {W : WX} {σ : L2.St} {H : Hp} {N : Addr → Prop} {α : List Addr} {Dn : Ends}
theorem make_imp {n : Nat} {C : Addr} {fM : List D → Cells → R D} {f : Sx → R (List D)} (hn : ∀ ds M, fM ds M ≠ .no → ds.length = n) {Q : VK} (h : tD T mg W (fMake C fM f) σ H Q) : tMakeS C (spX T mg n fM) (WE W) (tL T mg W f) σ H Q := by
  obtain ⟨s, α, N, hs, q⟩ := h
  refine ⟨s, α, N, hs, Post.mono (fun vs H1 h1 => ?_) (Post.bind (G := RelL) q)⟩
  obtain ⟨M1, α1, N1, ds, s1, e1, g1, p1⟩ := h1
  intro x dx hx hd hne
  have k1 := new_keep (o := .own x) hd
  have hx1 : upd H1 dx (.own x) x = none := by rw [upd_ne (Ne.symm hne)]; exact hx
  have k2 := new_keep (o := .ins C dx []) hx1
  have k : ∀ b o, H1 b = some o → upd (upd H1 dx (.own x)) x (.ins C dx []) b = some o := fun b o e => k2 b o (k1 b o e)
  have nn : ∀ a, N1 a → (N1 a ∨ a = x) := fun a h => .inl h
  have nb : ∀ a, (N1 a ∨ a = x) → N1 a ∨ Fz H1 a := fun a h => h.elim .inl fun z => .inr (by rw [z]; exact fz_of hx)
  have som : ∀ a, (N1 a ∨ a = x) → ¬ Fz (upd (upd H1 dx (.own x)) x (.ins C dx [])) a := fun a h => nf_upd (fun _ z => by cases z) fun z => nf_upd (fun _ z => by cases z) fun _ => s1.c.som a (h.resolve_right z)
  have eL : Ext α1 N1 H1 α1 (fun a => N1 a ∨ a = x) (upd (upd H1 dx (.own x)) x (.ins C dx [])) := Ext.growN k nn nb
  have sL : StR T (fun a => N1 a ∨ a = x) (upd (upd H1 dx (.own x)) x (.ins C dx [])) σ ⟨s.ρ, M1⟩ α1 := s1.growN k nn nb som
  have nL : x ∉ α1 := fun hm => s1.c.som x (s1.c.sub x hm) (fz_of hx)
  have hl : α1.length = M1.length := s1.c.len
  have c2 : StC T (fun a => N1 a ∨ a = x) (upd (upd H1 dx (.own x)) x (.ins C dx [])) (M1 ++ [[.tag (.ins C [])]]) (α1 ++ [x]) := by
    refine ⟨?_, fun a ha => ?_, som, by simp [hl], fun j l q => ?_, sL.c.tab⟩
    · rw [List.nodup_append]
      exact ⟨s1.c.nd, by simp, fun a ha b hb e => nL (by rw [List.mem_singleton.mp hb] at e; rw [← e]; exact ha)⟩
    · rcases List.mem_append.mp ha with z | z
      · exact nn a (s1.c.sub a z)
      · exact .inr (List.mem_singleton.mp z)
    · by_cases hlt : j < M1.length
      · rw [List.getElem?_append_left hlt] at q
        obtain ⟨a, h1, h2⟩ := sL.c.cel j l q
        exact ⟨a, pre_get h1 ⟨[x], rfl, trivial⟩, h2.all (fun o q _ _ => q) fun d v q => Rel.more q⟩
      · have e : j = M1.length := by
          have := (List.getElem?_eq_some_iff.mp q).1
          simp at this; omega
        subst e
        rw [List.getElem?_append_right (Nat.le_refl _)] at q
        simp at q
        subst q
        exact ⟨x, by rw [List.getElem?_append_right (by omega)]; simp [hl], .inr (.inl ⟨C, [], [], dx, [], rfl, upd_same, rfl, by unfold Rels; rfl⟩)⟩
  have e2 : Ext α1 N1 H1 (α1 ++ [x]) (fun a => N1 a ∨ a = x) (upd (upd H1 dx (.own x)) x (.ins C dx [])) := ⟨⟨[x], rfl, fun b hb => by rw [List.mem_singleton.mp hb]; exact fz_of hx⟩, eL.nn, eL.nb, eL.keep, eL.there⟩
  have r2 : Rels (upd (upd H1 dx (.own x)) x (.ins C dx [])) (fun a => N1 a ∨ a = x) (α1 ++ [x]) (.loc M1.length :: ds) (.ref x :: vs) := by
    refine Rels.cons ?_ (Rels.mono s1.c.sub e2 g1)
    unfold Rel
    exact ⟨x, rfl, by rw [List.getElem?_append_right (by omega)]; simp [hl]⟩
  refine ⟨_, _, _, _, ?_, c2, r2, ?_⟩
  · refine hn _ (M1 ++ [[.tag (.ins C [])]]) fun z => ?_
    rw [z] at p1
    exact p1
  · cases hp : fM (.loc M1.length :: ds) (M1 ++ [[.tag (.ins C [])]]) with
    | no => rw [hp] at p1; exact p1
    | ex e M' =>
      rw [hp] at p1
      exact fun cls dd H' α' N' c e rv => p1 cls dd H' α' N' (s1.again c (e2.trans e)) (e2.trans e) rv
    | ok d M' =>
      rw [hp] at p1
      cases d <;> try (exact p1.elim)
      intro v H' α' N' c e rv
      unfold Rel at rv
      refine ⟨rv, p1 (.ref x) H' α' N' (s1.again c (e2.trans e)) (e2.trans e) ?_⟩
      show Rel _ _ _ _ _
      unfold Rel
      obtain ⟨β, eβ, _⟩ := e.pre
      exact ⟨x, rfl, by rw [eβ]; rw [List.append_assoc, List.getElem?_append_right (by omega)]; simp [hl]⟩
theorem meth_imp {n : Nat} {C : Addr} {m : Str} {fM : List D → Cells → R D} {fo : Sx → R D} {f : Sx → R (List D)} (hn : ∀ ds M, fM ds M ≠ .no → ds.length = n) {Q : VK} (h : tD T mg W (fMeth C m fM fo f) σ H Q) : tMethS C m (spX T mg n fM) (WE W) (tD T mg W fo) (tL T mg W f) σ H Q := by
  obtain ⟨s, α, N, hs, q⟩ := h
  refine ⟨s, α, N, hs, Post.mono (fun x H1 h1 => ?_) (Post.bind (G := RelD) q)⟩
  obtain ⟨M1, α1, N1, o, s1, e1, g1, p1⟩ := h1
  cases o <;> try (exact p1.elim)
  rename_i j
  dsimp only at p1
  cases qi : insAt M1 C j with
  | none => rw [qi] at p1; exact p1.elim
  | some nd =>
    obtain ⟨ns, ds⟩ := nd
    rw [qi] at p1
    dsimp only at p1
    obtain ⟨a, dx, vs, rfl, h2, h3, h4, h5, h6⟩ := ins_rel s1.c g1 qi
    by_cases hm : m ∈ ns
    · rw [if_pos hm] at p1; exact p1.elim
    · rw [if_neg hm] at p1
      refine ⟨a, dx, _, rfl, h4, zip_none hm, _, α1, N1, s1, Post.mono (fun vs H2 h2' => ?_) (Post.bind (G := RelL) p1)⟩
      obtain ⟨M2, α2, N2, ds2, s2, e2, g2, p2⟩ := h2'
      exact spX_post hn s2 (Rels.cons (Rel.mono s1.c.sub e2 g1) g2) p2
end
/-- a class of the program: made, its methods -/
structure MkX (T : TPr) (P : Program) (w : World) (K : PySem.W.Frag) (mg : Str → Option Value) (base : Heap) (k : Nat) (x : Str) (C : Addr) (n : Nat) (fM : List D → Cells → R D) : Prop where
  ex : ∃ (f : Addr) (fd : FuncData) (ps : List Str), mg x = some (.ref C) ∧ Mk K C f ∧ Binds K fd ps [] ∧ FnOk P w K mg base (L2.CX P w) k f fd ps (spX T mg n fM)
structure MtX (T : TPr) (P : Program) (w : World) (K : PySem.W.Frag) (mg : Str → Option Value) (base : Heap) (k : Nat) (C : Addr) (m : Str) (n : Nat) (fM : List D → Cells → R D) : Prop where
  cl : Cls K C
  ex : ∃ (f : Addr) (fd : FuncData) (ps : List Str), Meth K C m f ∧ Binds K fd ps [] ∧ FnOk P w K mg base (L2.CX P w) k f fd ps (spX T mg n fM)
section
variable {T : TPr} {P : Program} {w : World} {K : PySem.W.Frag} {mg : Str → Option Value} {base : Heap} {j k n : Nat} {x m : Str} {C : Addr} {fM : List D → Cells → R D}
theorem MkX.mono (c : MkX T P w K mg base j x C n fM) (h : j ≤ k) : MkX T P w K mg base k x C n fM := by
  obtain ⟨f, fd, ps, h1, h2, h3, h4⟩ := c.ex
  exact ⟨f, fd, ps, h1, h2, h3, h4.mono h⟩
theorem MtX.mono (c : MtX T P w K mg base j C m n fM) (h : j ≤ k) : MtX T P w K mg base k C m n fM := by
  obtain ⟨f, fd, ps, h1, h2, h3⟩ := c.ex
  exact ⟨c.cl, f, fd, ps, h1, h2, h3.mono h⟩
end
section
variable {X : Cx} {T : TPr} {W : WX} {pos p apos : Pos} {k n : Nat} {x m : Str} {C : Addr} {o e : Expr} {es : List Expr} {fo : Sx → R D} {fl : Sx → R (List D)} {fM : List D → Cells → R D}
theorem e_make (B : Bd X W (k + 1)) (F : MkX T X.prog X.w X.K X.mg X.base k x C n fM) (hn : ∀ ds M, fM ds M ≠ .no → ds.length = n) (hg : Gl X x) (ha : PA X (e :: es) (tL T X.mg W fl)) (hdb : (x == ("__debug__" : Str)) = false := by decide)
    (he : starEach (e :: es) X.env = (false, eval e X.env) :: starEach es X.env := by rfl) (hpl : (backTo pos (starEach es X.env)).any (·.1) = false := by rfl) : PE X (.Call (.Name x p) (e :: es) [] pos) (tD T X.mg W (fMake C fM fl)) := by
  obtain ⟨f, fd, ps, h1, h2, h3, h4⟩ := F.ex
  exact (pe_makeS h2 h4 B.rm hg h1 h3 (fun σ => passAt B.tk σ) ha hdb he hpl).imp fun _ _ _ => make_imp hn
theorem e_make0 (B : Bd X W (k + 1)) (F : MkX T X.prog X.w X.K X.mg X.base k x C n fM) (hn : ∀ ds M, fM ds M ≠ .no → ds.length = n) (hg : Gl X x) (hdb : (x == ("__debug__" : Str)) = false := by decide) : PE X (.Call (.Name x p) [] [] pos) (tD T X.mg W (fMake C fM fNil)) := by
  obtain ⟨f, fd, ps, h1, h2, h3, h4⟩ := F.ex
  exact (pe_makeS0 h2 h4 B.rm hg h1 h3 (fun σ => passAt B.tk σ) hdb).imp fun σ H Q h => by
    have h2 := make_imp hn h
    intro x dx hx hd hne
    obtain ⟨s, α, N, hs, q⟩ := h2
    exact q [] H α N hs Ext.refl (by show Rels _ _ _ _ _; unfold Rels; rfl) x dx hx hd hne
theorem e_meth {pl : Sem Bool} (B : Bd X W k) (F : MtX T X.prog X.w X.K X.mg X.base k C m n fM) (hn : ∀ ds M, fM ds M ≠ .no → ds.length = n) (ho : PE X o (tD T X.mg W fo)) (ha : PA X (e :: es) (tL T X.mg W fl))
    (hst : starEach (e :: es) X.env = (false, eval e X.env) :: starEach es X.env := by rfl) (hpl : (backTo pos (starEach es X.env)).any (·.1) = false := by rfl)
    (ht : eval (.Call (.Attribute o m apos) (e :: es) [] pos) X.env = (do
      let ov ← eval o X.env
      standAt apos.atName
      let (f, first) ← holding [ov] (getMethod ov m pl)
      callWith pos f first (backTo pos (starEach (e :: es) X.env)) (backToKw pos (keywordEach [] X.env))) := by rfl) :
    PE X (.Call (.Attribute o m apos) (e :: es) [] pos) (tD T X.mg W (fMeth C m fM fo fl)) := by
  obtain ⟨f, fd, ps, h1, h2, h3⟩ := F.ex
  exact (pe_methS (pl := pl) ho F.cl h1 h3 B.rm h2 (fun σ => passAt B.tk σ) ha hst hpl ht).imp fun _ _ _ => meth_imp hn
theorem e_meth0 {pl : Sem Bool} (B : Bd X W k) (F : MtX T X.prog X.w X.K X.mg X.base k C m n fM) (hn : ∀ ds M, fM ds M ≠ .no → ds.length = n) (ho : PE X o (tD T X.mg W fo))
    (ht : eval (.Call (.Attribute o m apos) [] [] pos) X.env = (do
      let ov ← eval o X.env
      standAt apos.atName
      let (f, first) ← holding [ov] (getMethod ov m pl)
      callWith pos f first (backTo pos (starEach [] X.env)) (backToKw pos (keywordEach [] X.env))) := by rfl) :
    PE X (.Call (.Attribute o m apos) [] [] pos) (tD T X.mg W (fMeth C m fM fo fNil)) := by
  obtain ⟨f, fd, ps, h1, h2, h3⟩ := F.ex
  refine (pe_methS0 (pl := pl) ho F.cl h1 h3 B.rm h2 (fun σ => passAt B.tk σ) ht).imp fun σ H Q h => ?_
  have h2 := meth_imp hn h
  obtain ⟨s, α, N, hs, q⟩ := h2
  refine ⟨s, α, N, hs, Post.mono (fun x H1 h1 => ?_) q⟩
  obtain ⟨a, dx, fs, e1, e2, e3, s2, α2, N2, hs2, q2⟩ := h1
  exact ⟨a, dx, fs, e1, e2, e3, q2 [] H1 α2 N2 hs2 Ext.refl (by show Rels _ _ _ _ _; unfold Rels; rfl)⟩
end
end DL

namespace DL
open PySem PySem.Spec L2
open PyProof.Rows hiding St

/-! ### lambdas that are kept -/
def LamO (q : Str) (params : Arguments) (body : Expr) (scope : Scope) (cl : List (Str × Addr)) (f c' : Addr) : HO := .ext fun h => ∃ pm ctv, h.get? f = some (PySem.W.kla_obj "<lambda>" q params body scope cl pm c' ctv)
theorem lamO_at {P : Program} {w : World} {H : Hp} {h : Heap} {q : Str} {params : Arguments} {body : Expr} {scope : Scope} {cl : List (Str × Addr)} {f c' : Addr} (hok : HOk P w H h) (e : H f = some (LamO q params body scope cl f c')) : ∃ pm ctv, h.get? f = some (PySem.W.kla_obj "<lambda>" q params body scope cl pm c' ctv) := (hok f _ e).1
section
variable {X : Cx} {pins : List (Addr × Obj)} {σ : L2.St} {H : Hp} {s : Shared}
theorem lamO_laid {q : Str} {params : Arguments} {body : Expr} {scope : Scope} {cl : List (Str × Addr)} {pm ctv : Value} {c' : Addr} {t' : Nat} (I : Inv X pins σ H s) :
    Inv X pins σ (upd H s.heap.objs.size (LamO q params body scope cl s.heap.objs.size c')) { s with heap := s.heap.push (PySem.W.kla_obj "<lambda>" q params body scope cl pm c' ctv), toks := t' } := by
  have hg : (s.heap.push (PySem.W.kla_obj "<lambda>" q params body scope cl pm c' ctv)).get? s.heap.objs.size = some (PySem.W.kla_obj "<lambda>" q params body scope cl pm c' ctv) := Heap.get?_push_size _ rfl
  exact I.laid (a := s.heap.objs.size) (t' := t') (fun b u e => Heap.get?_push_of_some _ e) (Nat.le_refl _) ⟨⟨pm, ctv, hg⟩, ⟨_, hg⟩, fun h1 h2 ⟨pm, ctv, e⟩ st => ⟨pm, ctv, st _ e⟩⟩
/-- a lambda is made; it is known from now on -/
theorem lam_make3 {TL : List (Addr × Str)} {c P : Addr} {params : Arguments} {body : Expr} {scope : Scope} {pos : Pos} {E : Value → Shared → Prop} {Q : Value → Shared → Prop} (I : Inv X pins σ H s) (TB : LamX.TabB X.base X.mg c P) (hcode : X.env.code = .ref c)
    (hm : (P, X.env.qual ++ "<lambda>") ∈ TL) (hu : ∀ p ∈ TL, p.1 = P → p.2 = X.env.qual ++ "<lambda>") (hT : LamX.Tabs TL H) (hdef : defaultsOf params X.env = ([], [])) (hfree : ∀ y ∈ scope.names, y.2 = .free → ∃ c, X.env.cells.lookup y.1 = some c)
    (h : ∀ (f c' : Addr) (H1 : Hp) (s' : Shared), LamX.ExtN H H1 → LamX.Tabs TL H1 → H1 f = none → Inv X pins σ (upd H1 f (LamO (X.env.qual ++ "<lambda>") params body scope (cloFrom X.env.cells scope.names []) f c')) s' → H1 c' = some (LamX.CodeO c' (X.env.qual ++ "<lambda>")) → Q (.ref f) s') :
    wpAny (model X.prog X.w) X.A (eval (.Lambda params body scope pos) X.env) Q E s := by
  obtain ⟨ps, hP, ht, ha⟩ := hT _ hm
  refine PySem.W.kla_eval hdef ?_
  have bP : s.heap.BuiltinsAt X.mg P := TB.bm.keeps I.bk
  have hP' : s.heap.get? P = some { cls := .none, data := .fields ps } := I.hok P _ hP
  cases hc : codeAmong pos ps.toList with
  | none =>
    refine PySem.W.kla_makeFunction (mg := X.mg) (c := c) (P := P) (ps := ps) (closure_ok hfree) I.ok.glob (I.mod.glob.keeps I.bk) hcode (TB.code.keeps I.bk) hP' ht hc TB.gP bP fun c' ctv h' tk hx hge hlt hrec htb => ?_
    obtain ⟨c2, oc, vs, t, e2, hoc, hd, hv⟩ := hrec
    cases e2
    have nC : H c' = none := I.hok.fresh hge
    have I1 := LamX.inv_table (t' := tk) (more := #[rawInt pos.line, rawInt pos.col, .ref c']) (h' := h') (q := X.env.qual ++ "<lambda>") I hP hx htb hge ⟨oc, vs, t, hoc, hd, hv⟩
    have hE : LamX.ExtN H (upd (upd H P (.tbl (ps ++ #[rawInt pos.line, rawInt pos.col, .ref c']))) c' (LamX.CodeO c' (X.env.qual ++ "<lambda>"))) := fun b o e n => by
      rw [upd_ne (ne_of_none e nC), upd_ne (fun z => n ps (Option.some.inj (e.symm.trans (by rw [z]; exact hP))))]
      exact e
    have eL : (ps ++ #[rawInt pos.line, rawInt pos.col, .ref c']).toList = ps.toList ++ [rawInt pos.line, rawInt pos.col, .ref c'] := by simp
    refine h h'.objs.size c' _ _ hE (fun p hp => ?_) (I1.hok.fresh (Nat.le_refl _)) (lamO_laid (t' := tk) I1) upd_same
    by_cases hb : p.1 = P
    · rw [hu p hp hb, hb]
      refine ⟨_, by rw [upd_ne (ne_of_none hP nC), upd_same], by rw [eL]; exact PySem.TriplesOk_snoc _ _ _ _ ht, fun p' cv hcv => ?_⟩
      rw [eL] at hcv
      rcases LamX.among_app _ ht hcv with z | z
      · obtain ⟨c0, e1, e2⟩ := ha p' cv z
        exact ⟨c0, e1, hE _ _ e2 LamX.codeO_ne⟩
      · exact ⟨c', z, upd_same⟩
    · obtain ⟨ps', a1, a2, a3⟩ := hT p hp
      refine ⟨ps', by rw [upd_ne (ne_of_none a1 nC), upd_ne hb]; exact a1, a2, fun p' cv hcv => ?_⟩
      obtain ⟨c0, e1, e2⟩ := a3 p' cv hcv
      exact ⟨c0, e1, hE _ _ e2 LamX.codeO_ne⟩
  | some cv =>
    obtain ⟨c', e, hco⟩ := ha pos cv hc
    subst e
    refine PySem.W.kla_makeFunctionHit (mg := X.mg) (c := c) (P := P) (ps := ps) (closure_ok hfree) I.ok.glob (I.mod.glob.keeps I.bk) hcode (TB.code.keeps I.bk) hP' ht hc bP fun ctv h' tk hx hsz => ?_
    have I1 : Inv X pins σ H { s with heap := h', toks := tk } := I.kept fun b o e => hx b o e
    exact h h'.objs.size c' H _ (LamX.ExtN.refl H) hT (I1.hok.fresh (Nat.le_refl _)) (lamO_laid (t' := tk) I1) hco
end
/-- lambda: .., the i-th one that is kept -/
def fLam (i : Nat) (o : Addr → Addr → HO) (o' : Addr → HO) : Sx → R D := fun s => .ok (.fnv i o o') s.M
theorem e_lam {X : Cx} {TL : List (Addr × Str)} {W : WX} {c P : Addr} {params : Arguments} {body : Expr} {scope : Scope} {pos : Pos} (i : Nat) (TB : LamX.TabB X.base X.mg c P) (hcode : X.env.code = .ref c)
    (hm : (P, X.env.qual ++ "<lambda>") ∈ TL) (hu : ∀ p ∈ TL, p.1 = P → p.2 = X.env.qual ++ "<lambda>") (L : LamX.LamS X.env.scope scope) (hdef : defaultsOf params X.env = ([], []) := by rfl) :
    PE X (.Lambda params body scope pos) (tD (tabT TL) X.mg W (fLam i (LamO (X.env.qual ++ "<lambda>") params body scope (cloFrom X.env.cells scope.names [])) (fun c' => LamX.CodeO c' (X.env.qual ++ "<lambda>")))) := by
  refine ⟨fun pins s σ H Q I h => ?_⟩
  obtain ⟨sx, α, N, hs, p⟩ := h
  refine lam_make3 I TB hcode hm hu hs.c.tab hdef (L.has I.ok) fun f c' H1 s' eN T1 hf I1 hco => ?_
  obtain ⟨e1, s1⟩ := tab_grow hs eN T1
  have k := new_keep (o := LamO (X.env.qual ++ "<lambda>") params body scope (cloFrom X.env.cells scope.names []) f c') hf
  refine ⟨.ref f, _, I1, rfl, p _ _ α N (StC.keep s1 (s1.c.grow k) (Ext.grow k)) (e1.trans (Ext.grow k)) ?_⟩
  show Rel _ _ _ _ _
  unfold Rel
  exact ⟨f, c', _, _, rfl, rfl, rfl, upd_same, k _ _ hco⟩
end DL

namespace DL
open PySem PySem.Spec L2
open PyProof.Rows hiding St

/-! ### isinstance of what was caught -/
def rIsX (K : PySem.W.Frag) (D a : Addr) (d : Option Addr) : List V → Hp → VK → Prop := fun xs H Q => ∃ (c : V) (cv : Value) (b : Bool), xs = [.ref a, c] ∧ (∀ u, RelV c u → u = cv) ∧ PySem.W.kitOne K (.ref D) cv = some b ∧ (d = none ∨ ∃ dd fs, d = some dd ∧ H dd = some (.xd fs)) ∧ Q (.bl b) H
theorem call_isX {X : Cx} {a D : Addr} {d : Option Addr} {oe : Obj} {pn : List (Addr × Obj)} (C : ExcC X.K D) (hz : Zc (.ref D) d oe) (hf : ∃ vs, oe.data = .fields vs) : CallR (X.suite a ((a, oe) :: pn)) (.builtin "isinstance") (rIsX X.K D a d) := by
  intro pins s σ H xs us Q I r h
  obtain ⟨c, cv, b, rfl, hcv, e, hd, q⟩ := h
  cases r with
  | cons rx rr =>
    cases rr with
    | cons rt rr =>
      cases rr
      cases rx
      have ec := hcv _ rt
      subst ec
      obtain ⟨hget, _⟩ := I.pin (a, oe) (List.mem_append.mpr (.inl List.mem_cons_self))
      obtain ⟨vs, hv⟩ := hf
      have J : ∃ od, PySem.W.InstAt s.heap a oe D od := by
        obtain ⟨oc, odt, oda, osl⟩ := oe
        obtain ⟨h1, h2⟩ := hz
        dsimp only at h1 h2 hv
        subst h1 h2 hv
        rcases hd with rfl | ⟨dd, fs, rfl, hdd⟩
        · exact ⟨none, hget, rfl, rfl, trivial⟩
        · obtain ⟨mA, hns, _⟩ := (show ObjOk X.prog X.w H s.heap dd (.xd fs) from I.hok dd _ hdd)
          obtain ⟨od, ho, _⟩ := lookIn_ns hns
          exact ⟨some od, hget, rfl, rfl, ho⟩
      obtain ⟨od, J⟩ := J
      have hcl : (PySem.W.clsIn X.K D).isSome = true := by
        obtain ⟨cd, hc, _⟩ := PySem.W.any_some C.hd
        rw [hc]; rfl
      exact PySem.W.kia_one (PySem.W.kitx_exc (gt := none) hcl C.hg C.hk C.hs C.ha C.hn C.ht C.hm) I.kIn J e (fun z => nomatch z) fun tk => ⟨.bl b, H, I.kept (t' := tk) fun _ _ z => z, rfl, q⟩

/-! ### what() of a lambda that was kept -/
section
variable {X : Cx} {pins : List (Addr × Obj)} {σ : L2.St} {H : Hp} {s : Shared}
theorem pe_actK {CXg : CXT} {Eg : XK} {Ng : List Str} {qg : Str} {sg : Scope} {g f c' : Addr} {cdg : Value} {params : Arguments} {body : Expr} {scope : Scope} {k i : Nat} {a : Str} {pn : List (Addr × Obj)} {xe : Value → Shared → Prop} {W : WX} {tb : XK → TE} {p1 p2 : Pos}
    (I : Inv X pins σ H s) (L : LamX.LamS X.env.scope scope)
    (hbind : ∀ (q : Str) (cl : List (Str × Addr)) (pm cv ctv : Value), bindArgs (PySem.W.kla_fn "<lambda>" q params body scope cl pm cv ctv) ⟨[], []⟩ = pure [])
    (tk : Takes ((cxOf CXg X.prog X.w X.K X.mg X.base Ng qg sg g cdg X.A X.stack s H Eg).tr pn xe) W) (hr : Room (k + 1) (X.A.deeper (envOfC qg sg s.heap.objs.size g cdg)))
    (hbody : ∀ (A : Around) (outer : List Env) (s : Shared) (H : Hp) (E : XK), Room k (A.deeper (LamX.lamEnv X scope s.heap.objs.size f c')) → PE (LamX.lamCx X A outer s H E scope f c') body (tb E))
    (hN : Ng[i]? = some a) (hv : Vis sg a) (hd : (a == ("__debug__" : Str)) = false := by decide) (hcd : (a == ("__classdict__" : Str)) = false := by decide) :
    PE ((cxOf CXg X.prog X.w X.K X.mg X.base Ng qg sg g cdg X.A X.stack s H Eg).tr pn xe) (.Call (.Name a p1) [] [] p2)
      (fun σZ HZ Q => σZ[i]? = some (some (.ref f)) ∧ HZ f = some (LamO (X.env.qual ++ "<lambda>") params body scope (cloFrom X.env.cells scope.names []) f c') ∧ HZ c' = some (LamX.CodeO c' (X.env.qual ++ "<lambda>")) ∧ tb (WE W σZ) σ HZ Q) := by
  refine ⟨fun pinsZ sZ σZ HZ Q IZ h => ?_⟩
  obtain ⟨hs, hfz, hc, ht⟩ := h
  refine wpAny_Call_Name_kw (thn ((pe_var (pos := p1) (i := i) hN hv hd hcd).run pinsZ sZ σZ HZ (fun v H1 => v = .ref f ∧ H1 = HZ) IZ ⟨.ref f, hs, rfl, rfl⟩) fun u s1 ⟨v, H1, I1, r1, q1⟩ => ?_)
  obtain ⟨ev, eH⟩ := q1
  subst ev
  rw [eH] at I1
  obtain rfl : u = Value.ref f := r1
  obtain ⟨pm, ctv, of1⟩ := lamO_at I1.hok hfz
  refine PySem.W.callWith_F0 ⟨_, _, _, _, of1⟩ ?_
  have un : Un (frs X.stack) [] H HZ s.heap s1.heap := I1.base
  obtain ⟨⟨oc, vs, t, hoc, hdc, hvc⟩, _, _⟩ := I1.hok c' _ hc
  have rc : codeAny (model X.prog X.w) (X.A.deeper (envOfC qg sg s.heap.objs.size g cdg)) (.call (.ref f) ⟨[], []⟩) (CR (L2.CX X.prog X.w) (envOfC qg sg s.heap.objs.size g cdg :: X.stack) X.prog X.w HZ s1 Q (WE W σZ)) s1 := by
    refine PySem.W.kla_callFunE hr.depth of1 rfl L.co L.gen rfl ⟨c', oc, vs, t, rfl, hoc, hdc, hvc⟩ ?_
    rw [hbind]
    refine wpAny_pure (wpAny_newFunctionEnv (fun y hy => (L.own y hy).2) (fun y hy => absurd hy (by simp)) (fun h₁ hns hsb => ⟨I1.nolimit.fresh _ hsb, ?_⟩) L.kind)
    show codeAny _ _ (.expr body (LamX.lamEnv X scope s1.heap.objs.size f c')) _ _
    have kp : ∀ b o, s1.heap.get? b = some o → h₁.get? b = some o := fun b o e => hsb.extBut b o (Nat.ne_of_lt (Heap.lt_size e)) (Heap.get?_push_of_some _ e)
    have J : Inv (LamX.lamCx X (X.A.deeper (envOfC qg sg s.heap.objs.size g cdg)) (envOfC qg sg s.heap.objs.size g cdg :: X.stack) s1 HZ (WE W σZ) scope f c') [] σ HZ { s1 with heap := h₁, toks := s1.toks + ([] : List (Str × Value)).length } :=
      LamX.lam_start2 I L I1.env0 hr.hd un hns kp
    refine PySem.W.kla_codeExpr (wpAny_mono ((hbody _ _ s1 HZ (WE W σZ) (hr.deeper _)).run [] _ _ HZ Q J ht) (fun v s' hq => ?_) fun e s' hq => hq)
    obtain ⟨w', H', J', rv, q⟩ := hq
    exact ⟨w', H', J'.os, J'.bare, J'.base, J'.hok, rv, q⟩
  refine wpAny_call (codeAny_mono rc fun r s' hq => ?_)
  cases r with
  | error e => exact passAt tk σZ pinsZ HZ s1 e s' I1 hq
  | ok fl =>
    cases fl with
    | ret u => exact I1.after hq
    | next => exact False.elim hq
    | brk => exact False.elim hq
    | cont => exact False.elim hq
end
/-! ### told: what() / except x as e: which of the errors it is -/
/-- the seven classes as values -/
structure CV7 (v1 v2 v3 v4 v5 v6 v7 : V) (u1 u2 u3 u4 u5 u6 u7 : Value) : Prop where
  c : (∀ w, RelV v1 w → w = u1) ∧ (∀ w, RelV v2 w → w = u2) ∧ (∀ w, RelV v3 w → w = u3) ∧ (∀ w, RelV v4 w → w = u4) ∧ (∀ w, RelV v5 w → w = u5) ∧ (∀ w, RelV v6 w → w = u6) ∧ (∀ w, RelV v7 w → w = u7)
/-- .. the suite's wish -/
def WSui (K : PySem.W.Frag) (CS : Addr) (u1 u2 u3 u4 u5 u6 u7 : Value) (Q : VK) (cls : Value) (dd : Option Addr) (H : Hp) : Prop := ∃ (D0 : Addr) (b1 b2 b3 b4 b5 b6 b7 : Bool), cls = .ref D0 ∧ PySem.W.exmOne K cls (.ref CS) = some true ∧ ExcC K D0 ∧ (dd = none ∨ ∃ d0 fs, dd = some d0 ∧ H d0 = some (.xd fs)) ∧
  PySem.W.kitOne K (.ref D0) u1 = some b1 ∧ PySem.W.kitOne K (.ref D0) u2 = some b2 ∧ PySem.W.kitOne K (.ref D0) u3 = some b3 ∧ PySem.W.kitOne K (.ref D0) u4 = some b4 ∧ PySem.W.kitOne K (.ref D0) u5 = some b5 ∧ PySem.W.kitOne K (.ref D0) u6 = some b6 ∧ PySem.W.kitOne K (.ref D0) u7 = some b7 ∧
  ∀ p1 p2 p3, H p1 = none → upd H p1 (.lst [.bl b1, .bl b2, .bl b3, .bl b4]) p2 = none → upd (upd H p1 (.lst [.bl b1, .bl b2, .bl b3, .bl b4])) p2 (.lst [.bl b5, .bl b6, .bl b7]) p3 = none →
    Q (.ref p3) (upd (upd (upd H p1 (.lst [.bl b1, .bl b2, .bl b3, .bl b4])) p2 (.lst [.bl b5, .bl b6, .bl b7])) p3 (.lst [.bl b1, .bl b2, .bl b3, .bl b4, .bl b5, .bl b6, .bl b7]))
def TTI (K : PySem.W.Frag) (CS : Addr) (u1 u2 u3 u4 u5 u6 u7 : Value) : (XK → Hp → VK → Prop) → Hp → VK → Prop := fun tl H Q =>
  tl (WSui K CS u1 u2 u3 u4 u5 u6 u7 Q) H fun _ H' => ∀ p, H' p = none → Q (.ref p) (upd H' p (.lst []))
/-- a def that calls what it got, a lambda that was kept -/
def GivesK (X : Cx) (Ng : List Str) (x : Str) (sg : Scope) (g : Addr) (cdg : Value) (bg : List Stmt) (a : Str) (TT : (XK → Hp → VK → Prop) → Hp → VK → Prop) : Prop :=
  ∀ (f : Addr) (s : Shared) (H : Hp) (Q : VK) (tl : XK → Hp → VK → Prop) (pre : Hp → Prop), (∀ E E' H Q, (∀ cls d H', E cls d H' → E' cls d H') → tl E H Q → tl E' H Q) → (∀ E H Q Q', (∀ v H', Q v H' → Q' v H') → tl E H Q → tl E H Q') →
    (∀ (W : WX) (pn : List (Addr × Obj)) (xe : Value → Shared → Prop) (p1 p2 : Pos), Takes ((cxOf C8.CX0 X.prog X.w X.K X.mg X.base Ng x sg g cdg X.A X.stack s H C8.E0).tr pn xe) W →
      PE ((cxOf C8.CX0 X.prog X.w X.K X.mg X.base Ng x sg g cdg X.A X.stack s H C8.E0).tr pn xe) (.Call (.Name a p1) [] [] p2) (fun σZ HZ Q => σZ[0]? = some (some (.ref f)) ∧ pre HZ ∧ tl (WE W σZ) HZ Q)) →
    pre H → TT tl H Q →
    ∃ t, PSs (cxOf C8.CX0 X.prog X.w X.K X.mg X.base Ng x sg g cdg X.A X.stack s H C8.E0).nox bg t ∧ t { nx := fun _ H' => Q .non H', rt := Q } (L2.start Ng [.ref f]) H
theorem pss_ex {X : Cx} {K : PySem.W.Frag} {cls : Value} {st : List Stmt} {t : Addr → TS} (h : ∀ D0, cls = .ref D0 → ExcC K D0 → PSs X st (t D0)) : PSs X st (fun D σ H => ∃ D0, cls = .ref D0 ∧ ExcC K D0 ∧ t D0 D σ H) :=
  ⟨fun pins s σ H D I ⟨D0, e, c, q⟩ => (h D0 e c).run pins s σ H D I q⟩
theorem isx_go {K : PySem.W.Frag} {D a : Addr} {d : Option Addr} {σ : L2.St} {H : Hp} {v : V} {u : Value} {b : Bool} {Q : VK} (hs : σ[1]? = some (some (.ref a))) (hv : ∀ u', RelV v u' → u' = u) (hk : PySem.W.kitOne K (.ref D) u = some b) (hd : d = none ∨ ∃ dd fs, d = some dd ∧ H dd = some (.xd fs)) (q : Q (.bl b) H) :
    tCB (rIsX K D a d) (tCons (tVar 1) (tCons (tC v) tNil)) σ H Q := ⟨.ref a, hs, v, u, b, rfl, hv, hk, hd, q⟩
def tsX (K : PySem.W.Frag) (a : Addr) (d : Option Addr) (v1 v2 v3 v4 v5 v6 v7 : V) (D0 : Addr) : TS := tSeq (tAsg (tLst (tCons (tCB (rIsX K D0 a d) (tCons (tVar 1) (tCons (tC v1) tNil))) (tCons (tCB (rIsX K D0 a d) (tCons (tVar 1) (tCons (tC v2) tNil))) (tCons (tCB (rIsX K D0 a d) (tCons (tVar 1) (tCons (tC v3) tNil))) (tCons (tCB (rIsX K D0 a d) (tCons (tVar 1) (tCons (tC v4) tNil))) tNil))))) (gName 2))
      (tRet (tOp rCat (tVar 2) (tLst (tCons (tCB (rIsX K D0 a d) (tCons (tVar 1) (tCons (tC v5) tNil))) (tCons (tCB (rIsX K D0 a d) (tCons (tVar 1) (tCons (tC v6) tNil))) (tCons (tCB (rIsX K D0 a d) (tCons (tVar 1) (tCons (tC v7) tNil))) tNil))))))
theorem toldI_gives {X : Cx} {x e : Str} {sg : Scope} {g CS : Addr} {cdg : Value} {v1 v2 v3 v4 v5 v6 v7 : V} {u1 u2 u3 u4 u5 u6 u7 : Value} {m1 m2 m3 m4 m5 m6 m7 : Str} {rd1 rd2 rd3 rd4 rd5 rd6 rd7 : Pos} {q0 q1 q2 q3 q4 q5 q6 q7 q8 q9 q10 q11 q12 q13 q14 : Pos} {ra1 rb1 rc1 : Pos} {ra2 rb2 rc2 : Pos} {ra3 rb3 rc3 : Pos} {ra4 rb4 rc4 : Pos} {ra5 rb5 rc5 : Pos} {ra6 rb6 rc6 : Pos} {ra7 rb7 rc7 : Pos}
    (Cv : CV7 v1 v2 v3 v4 v5 v6 v7 u1 u2 u3 u4 u5 u6 u7) (hge : sg.names.lookup e = some .globalImplicit) (hme : X.mg e = some (.ref CS)) (hde : (e == ("__debug__" : Str)) = false) (hloc : sg.names.lookup ("e" : Str) = some .local) (hsome : sg.names.lookup ("some" : Str) = some .local) (hgI : sg.names.lookup ("isinstance" : Str) = some .globalImplicit) (hmI : X.mg "isinstance" = none)
    (hn : ∀ (Y : Cx) (a : Addr) (oe : Obj) (pn : List (Addr × Obj)), Y.env.scope = sg → Y.mg = X.mg → PE (Y.suite a ((a, oe) :: pn)) (.Name m1 rd1) (tC v1) ∧ PE (Y.suite a ((a, oe) :: pn)) (.Name m2 rd2) (tC v2) ∧ PE (Y.suite a ((a, oe) :: pn)) (.Name m3 rd3) (tC v3) ∧ PE (Y.suite a ((a, oe) :: pn)) (.Name m4 rd4) (tC v4) ∧ PE (Y.suite a ((a, oe) :: pn)) (.Name m5 rd5) (tC v5) ∧ PE (Y.suite a ((a, oe) :: pn)) (.Name m6 rd6) (tC v6) ∧ PE (Y.suite a ((a, oe) :: pn)) (.Name m7 rd7) (tC v7)) :
    GivesK X ["what", "e", "some"] x sg g cdg [.Try [.Expr (.Call (.Name "what" q0) [] [] q1) q2] [.ExceptHandler (some (.Name e q3)) (some "e") [.Assign [.Name "some" q4] (.List [.Call (.Name "isinstance" ra1) [.Name "e" rb1, .Name m1 rd1] [] rc1, .Call (.Name "isinstance" ra2) [.Name "e" rb2, .Name m2 rd2] [] rc2, .Call (.Name "isinstance" ra3) [.Name "e" rb3, .Name m3 rd3] [] rc3, .Call (.Name "isinstance" ra4) [.Name "e" rb4, .Name m4 rd4] [] rc4] q5) q6, .Return (some (.BinOp (.Name "some" q7) .Add (.List [.Call (.Name "isinstance" ra5) [.Name "e" rb5, .Name m5 rd5] [] rc5, .Call (.Name "isinstance" ra6) [.Name "e" rb6, .Name m6 rd6] [] rc6, .Call (.Name "isinstance" ra7) [.Name "e" rb7, .Name m7 rd7] [] rc7] q8) q9)) q10] q11] [] [] q12, .Return (some (.List [] q13)) q14] "what" (TTI X.K CS u1 u2 u3 u4 u5 u6 u7) := by
  intro f s H Q tl pre mE mQ act hp h
  let Y : Cx := (cxOf C8.CX0 X.prog X.w X.K X.mg X.base ["what", "e", "some"] x sg g cdg X.A X.stack s H C8.E0).nox
  have hgl : Gl Y e := hge
  have hsu : ∀ (a : Addr) (oe : Obj) (cls : Value) (d : Option Addr) (pn : List (Addr × Obj)), Zc cls d oe → (∃ vs, oe.data = .fields vs) → (PSs (Y.suite a ((a, oe) :: pn)) [.Assign [.Name "some" q4] (.List [.Call (.Name "isinstance" ra1) [.Name "e" rb1, .Name m1 rd1] [] rc1, .Call (.Name "isinstance" ra2) [.Name "e" rb2, .Name m2 rd2] [] rc2, .Call (.Name "isinstance" ra3) [.Name "e" rb3, .Name m3 rd3] [] rc3, .Call (.Name "isinstance" ra4) [.Name "e" rb4, .Name m4 rd4] [] rc4] q5) q6, .Return (some (.BinOp (.Name "some" q7) .Add (.List [.Call (.Name "isinstance" ra5) [.Name "e" rb5, .Name m5 rd5] [] rc5, .Call (.Name "isinstance" ra6) [.Name "e" rb6, .Name m6 rd6] [] rc6, .Call (.Name "isinstance" ra7) [.Name "e" rb7, .Name m7 rd7] [] rc7] q8) q9)) q10] (fun D σ H => ∃ D0, cls = .ref D0 ∧ ExcC X.K D0 ∧ tsX X.K a d v1 v2 v3 v4 v5 v6 v7 D0 D σ H)) := by
    intro a oe cls d pn hz hf
    obtain ⟨hn1, hn2, hn3, hn4, hn5, hn6, hn7⟩ := hn Y a oe pn rfl rfl
    refine pss_ex fun D0 ec hC => ?_
    subst ec
    refine pss_cons (ps_set (X := Y.suite a ((a, oe) :: pn)) (i := 2) (x := "some") (pos := q6) (pos' := q4) (show (["what", "e", "some"] : List Str).Nodup by decide) rfl (.inl hsome) (pe_lst (pos := q5) (pa_cons (pe_callB (pos := rc1) (call_isX hC hz hf) hgI hmI (by decide +kernel) (pa_cons (pe_var (X := Y.suite a ((a, oe) :: pn)) (i := 1) (pos := rb1) rfl (.inl hloc)) (pa_cons hn1 pa_nil rfl) rfl) (by decide) (by decide) rfl rfl) (pa_cons (pe_callB (pos := rc2) (call_isX hC hz hf) hgI hmI (by decide +kernel) (pa_cons (pe_var (X := Y.suite a ((a, oe) :: pn)) (i := 1) (pos := rb2) rfl (.inl hloc)) (pa_cons hn2 pa_nil rfl) rfl) (by decide) (by decide) rfl rfl) (pa_cons (pe_callB (pos := rc3) (call_isX hC hz hf) hgI hmI (by decide +kernel) (pa_cons (pe_var (X := Y.suite a ((a, oe) :: pn)) (i := 1) (pos := rb3) rfl (.inl hloc)) (pa_cons hn3 pa_nil rfl) rfl) (by decide) (by decide) rfl rfl) (pa_cons (pe_callB (pos := rc4) (call_isX hC hz hf) hgI hmI (by decide +kernel) (pa_cons (pe_var (X := Y.suite a ((a, oe) :: pn)) (i := 1) (pos := rb4) rfl (.inl hloc)) (pa_cons hn4 pa_nil rfl) rfl) (by decide) (by decide) rfl rfl) pa_nil rfl) rfl) rfl) rfl)) rfl (.inr hsome)) (pss_one (ps_ret (pos := q10) (pe_op (pos := q9) op_cat (pe_var (X := Y.suite a ((a, oe) :: pn)) (i := 2) (pos := q7) rfl (.inl hsome)) (pe_lst (pos := q8) (pa_cons (pe_callB (pos := rc5) (call_isX hC hz hf) hgI hmI (by decide +kernel) (pa_cons (pe_var (X := Y.suite a ((a, oe) :: pn)) (i := 1) (pos := rb5) rfl (.inl hloc)) (pa_cons hn5 pa_nil rfl) rfl) (by decide) (by decide) rfl rfl) (pa_cons (pe_callB (pos := rc6) (call_isX hC hz hf) hgI hmI (by decide +kernel) (pa_cons (pe_var (X := Y.suite a ((a, oe) :: pn)) (i := 1) (pos := rb6) rfl (.inl hloc)) (pa_cons hn6 pa_nil rfl) rfl) (by decide) (by decide) rfl rfl) (pa_cons (pe_callB (pos := rc7) (call_isX hC hz hf) hgI hmI (by decide +kernel) (pa_cons (pe_var (X := Y.suite a ((a, oe) :: pn)) (i := 1) (pos := rb7) rfl (.inl hloc)) (pa_cons hn7 pa_nil rfl) rfl) (by decide) (by decide) rfl rfl) pa_nil rfl) rfl) rfl)))))
  refine ⟨_, pss_cons (ps_try_as (X := Y) (c := .ref CS) (i := 1) (n := "e") (pos := q12) (tb := fun W D σ H' => H' = H ∧ σ = L2.start ["what", "e", "some"] [.ref f] ∧ tl (WE W σ) H fun _ H' => D.nx σ H') (ts := fun a cls d D σ H => ∃ D0, cls = .ref D0 ∧ ExcC X.K D0 ∧ tsX X.K a d v1 v2 v3 v4 v5 v6 v7 D0 D σ H)
    (Wout := fun _ _ _ _ => False) rfl rfl (show (["what", "e", "some"] : List Str).Nodup by decide) rfl hloc ⟨hgl, hde, .inl hme⟩ LamX.takes0 (fun W pn xe tk _ => ?_) hsu) (pss_one (ps_ret (pos := q14) (pe_lst (pos := q13) pa_nil))), ?_⟩
  · refine ⟨fun pins s' σ H' D I h' => ?_⟩
    obtain ⟨rfl, rfl, h3⟩ := h'
    exact (pss_one (ps_expr (pos := q2) (act W pn xe q0 q1 tk) rfl)).run pins s' _ _ D I ⟨rfl, hp, h3⟩
  · refine ⟨rfl, rfl, mE _ _ _ _ (fun cls dd H' w => ?_) (mQ _ _ _ _ (fun v H' q => ?_) h)⟩
    · obtain ⟨D0, b1, b2, b3, b4, b5, b6, b7, rfl, em, hC, hd, k1, k2, k3, k4, k5, k6, k7, fin⟩ := w
      obtain ⟨c1, c2, c3, c4, c5, c6, c7⟩ := Cv.c
      refine ⟨true, em, fun _ a _ => ⟨D0, rfl, hC, ?_⟩, fun z => by cases z⟩
      have hs : ((L2.start (["what", "e", "some"] : List Str) [V.ref f]).set 1 (some (.ref a)))[1]? = some (some (.ref a)) := rfl
      show tCB _ _ _ _ _
      refine isx_go hs c1 k1 hd (isx_go hs c2 k2 hd (isx_go hs c3 k3 hd (isx_go hs c4 k4 hd ?_)))
      refine ⟨by show 4 ≤ sizeLine; decide, fun p1 hp1 => ⟨.ref p1, rfl, ?_⟩⟩
      have kp := new_keep (o := .lst [.bl b1, .bl b2, .bl b3, .bl b4]) hp1
      have hd2 : dd = none ∨ ∃ d0 fs, dd = some d0 ∧ upd H' p1 (.lst [.bl b1, .bl b2, .bl b3, .bl b4]) d0 = some (.xd fs) := hd.imp id fun ⟨d0, fs, e, q⟩ => ⟨d0, fs, e, kp _ _ q⟩
      have hs2 : (((L2.start (["what", "e", "some"] : List Str) [V.ref f]).set 1 (some (.ref a))).set 2 (some (.ref p1)))[1]? = some (some (.ref a)) := rfl
      show tCB _ _ _ _ _
      refine isx_go hs2 c5 k5 hd2 (isx_go hs2 c6 k6 hd2 (isx_go hs2 c7 k7 hd2 ?_))
      refine ⟨by show 3 ≤ sizeLine; decide, fun p2 hp2 => ⟨p1, p2, [.bl b1, .bl b2, .bl b3, .bl b4], [.bl b5, .bl b6, .bl b7], rfl, rfl, ?_, upd_same, by show 7 ≤ sizeLine; decide, fun p3 hp3 => fin p1 p2 p3 hp1 hp2 hp3⟩⟩
      exact new_keep hp2 _ _ upd_same
    · exact ⟨by show 0 ≤ sizeLine; decide, q⟩

/-! ### told(e), e a lambda that was kept -/
/-- which of the seven each error is -/
structure ToldI (K : PySem.W.Frag) (mg : Str → Option Value) (CS : Addr) (u1 u2 u3 u4 u5 u6 u7 : Value) (hs : List (Str × List Bool)) : Prop where
  is : ∀ x bs, hs.lookup x = some bs → ∃ (D0 : Addr) (b1 b2 b3 b4 b5 b6 b7 : Bool), mg x = some (.ref D0) ∧ bs = [b1, b2, b3, b4, b5, b6, b7] ∧ PySem.W.exmOne K (.ref D0) (.ref CS) = some true ∧ ExcC K D0 ∧
    PySem.W.kitOne K (.ref D0) u1 = some b1 ∧ PySem.W.kitOne K (.ref D0) u2 = some b2 ∧ PySem.W.kitOne K (.ref D0) u3 = some b3 ∧ PySem.W.kitOne K (.ref D0) u4 = some b4 ∧ PySem.W.kitOne K (.ref D0) u5 = some b5 ∧ PySem.W.kitOne K (.ref D0) u6 = some b6 ∧ PySem.W.kitOne K (.ref D0) u7 = some b7
abbrev LamK := Nat → (Addr → Addr → HO) × (Addr → HO)
open Classical in
noncomputable def fToldI (hs : List (Str × List Bool)) (θ : LamK) (gb : Nat → Sx → R D) (n : Nat) (fe : Sx → R D) : Sx → R D := fun s => (fe s).bind fun d M => match d with
  | .fnv i o o' => if i < n ∧ o = (θ i).1 ∧ o' = (θ i).2 then (match gb i ⟨s.ρ, M⟩ with
    | .ok _ M' => .ok (.lst []) M'
    | .ex e M' => (match hs.lookup e.name with
      | some bs => .ok (.lst (bs.map .bl)) M'
      | none => .no)
    | .no => .no) else .no
  | _ => .no
section
variable {T : TPr} {mg : Str → Option Value} {W : WX} {σ : L2.St} {H : Hp} {N : Addr → Prop} {α : List Addr} {Dn : Ends}
theorem rels_bls : ∀ bs : List Bool, Rels H N α (bs.map .bl) (bs.map V.bl)
  | [] => by simp [Rels]
  | b :: r => Rels.cons rel_bl (rels_bls r)
theorem toldI_imp {K : PySem.W.Frag} {CS : Addr} {u1 u2 u3 u4 u5 u6 u7 : Value} {hs : List (Str × List Bool)} (Z : ToldI K mg CS u1 u2 u3 u4 u5 u6 u7 hs) {ρ : List (Option D)} {M : Cells} {gb : Sx → R D} {Q : VK} (s : StR T N H σ ⟨ρ, M⟩ α)
    (p : Post T mg RelD N α H σ ρ W Q (match gb ⟨ρ, M⟩ with
    | .ok _ M' => .ok (.lst []) M'
    | .ex e M' => (match hs.lookup e.name with
      | some bs => .ok (.lst (bs.map .bl)) M'
      | none => .no)
    | .no => .no)) : TTI K CS u1 u2 u3 u4 u5 u6 u7 (fun E H Q => tD T mg (fun cls d _ H => E cls d H) gb σ H Q) H Q := by
  refine ⟨⟨ρ, M⟩, α, N, s, ?_⟩
  cases q : gb ⟨ρ, M⟩ with
  | no => rw [q] at p; exact p
  | ok d M' =>
    rw [q] at p
    intro v H' α' N' s' e' rv x hx
    have k := new_keep (o := .lst []) hx
    exact p _ _ α' N' (StC.keep s' (s'.c.grow k) (Ext.grow k)) (e'.trans (Ext.grow k)) (lst_new (by unfold Rels; rfl) s'.c.sub s'.c.som hx)
  | ex e M' =>
    rw [q] at p
    dsimp only at p
    intro cls dd H' α' N' s' e' xr
    cases ql : hs.lookup e.name with
    | none => rw [ql] at p; exact p.elim
    | some bs =>
      rw [ql] at p
      obtain ⟨D0, b1, b2, b3, b4, b5, b6, b7, g1, rfl, g2, g3, k1, k2, k3, k4, k5, k6, k7⟩ := Z.is _ _ ql
      obtain ⟨x1, x2⟩ := xr
      have hc : cls = .ref D0 := Option.some.inj (x1.symm.trans g1)
      subst hc
      refine ⟨D0, b1, b2, b3, b4, b5, b6, b7, rfl, g2, g3, ?_, k1, k2, k3, k4, k5, k6, k7, fun p1 p2 p3 h1 h2 h3 => ?_⟩
      · cases qp : e.part with
        | none => rw [qp] at x2; exact .inl x2
        | some d =>
          rw [qp] at x2
          obtain ⟨a, v, y1, y2, _⟩ := x2
          exact .inr ⟨a, _, y1, y2⟩
      · have j1 := new_keep (o := .lst [.bl b1, .bl b2, .bl b3, .bl b4]) h1
        have j2 := new_keep (o := .lst [.bl b5, .bl b6, .bl b7]) h2
        have j3 := new_keep (o := .lst [.bl b1, .bl b2, .bl b3, .bl b4, .bl b5, .bl b6, .bl b7]) h3
        have c2 := (s'.c.grow j1).grow j2
        have j : ∀ b o, H' b = some o → upd (upd (upd H' p1 (.lst [.bl b1, .bl b2, .bl b3, .bl b4])) p2 (.lst [.bl b5, .bl b6, .bl b7])) p3 (.lst [.bl b1, .bl b2, .bl b3, .bl b4, .bl b5, .bl b6, .bl b7]) b = some o := fun b o q => j3 b o (j2 b o (j1 b o q))
        exact p _ _ α' N' (StC.keep s' (s'.c.grow j) (Ext.grow j)) (e'.trans (Ext.grow j)) (lst_new (vs := [b1, b2, b3, b4, b5, b6, b7].map V.bl) (rels_bls _) c2.sub c2.som h3)
end
section
variable {X : Cx} {W : WX} {k : Nat}
theorem e_toldI {TL : List (Addr × Str)} {x a : Str} {st : Stmt} {g CS : Addr} {fd : FuncData} {pr : Nat → Arguments} {bd : Nat → Expr} {sc : Nat → Scope} {e : Expr} {p pos : Pos} {hs : List (Str × List Bool)} {gb : Nat → Sx → R D} {n : Nat} {fe : Sx → R D} {Ng : List Str} {u1 u2 u3 u4 u5 u6 u7 : Value}
    (B : Bd X W (k + 2)) (Z : ToldI X.K X.mg CS u1 u2 u3 u4 u5 u6 u7 hs) (F : FunD X.K x x (defArgs st) (defBody st) (defScope st) [] [] g fd) (hm : X.mg x = some (.ref g)) (bn : Binds X.K fd [a] []) (Sg : FnScope Ng [a] (defScope st)) (hNg : Ng[0]? = some a) (hva : Vis (defScope st) a)
    (hG : ∀ cdg, GivesK X Ng x (defScope st) g cdg (defBody st) a (TTI X.K CS u1 u2 u3 u4 u5 u6 u7)) (hg : Gl X x) (he : PE X e (tD (tabT TL) X.mg W fe))
    (hbody : ∀ i, i < n → ∀ (A : Around) (outer : List Env) (s : Shared) (H : Hp) (E : XK) (f c' : Addr), Room k (A.deeper (LamX.lamEnv X (sc i) s.heap.objs.size f c')) → PE (LamX.lamCx X A outer s H E (sc i) f c') (bd i) (tD (tabT TL) X.mg (fun cls d _ H => E cls d H) (gb i)))
    (L : ∀ i, i < n → LamX.LamS X.env.scope (sc i)) (hbind : ∀ i, i < n → ∀ (q : Str) (cl : List (Str × Addr)) (pm cv ctv : Value), bindArgs (PySem.W.kla_fn "<lambda>" q (pr i) (bd i) (sc i) cl pm cv ctv) ⟨[], []⟩ = pure [])
    (hst : starEach [e] X.env = (false, eval e X.env) :: starEach [] X.env := by rfl)
    (hdb : (x == ("__debug__" : Str)) = false := by decide) (hd : (a == ("__debug__" : Str)) = false := by decide) (hcd : (a == ("__classdict__" : Str)) = false := by decide) :
    PE X (.Call (.Name x p) [e] [] pos) (tD (tabT TL) X.mg W (fToldI hs (fun i => (LamO (X.env.qual ++ "<lambda>") (pr i) (bd i) (sc i) (cloFrom X.env.cells (sc i).names []), fun c' => LamX.CodeO c' (X.env.qual ++ "<lambda>"))) gb n fe)) := by
  obtain ⟨oc, od, dV, kV, doc, pm, an, cdv, ct, osl, rfl, lk, hcd2, hD, hK⟩ := F.ex
  refine ⟨fun pins s σ H Q I h => ?_⟩
  refine wpAny_Call_Name_kw (ld_glob I hg hm ?_ hdb)
  refine PySem.W.callWith_K (h₀ := X.base) I.ok.mod.kin F.kp ?_ hst (by rfl)
  rw [hst]
  show wpAny _ _ (spliced ((false, eval e X.env) :: backTo pos (starEach [] X.env))) _ _ s
  obtain ⟨sx, α, N, hs0, pp⟩ := h
  refine Calls.spliced_cons (thn (he.run pins s σ H _ I ⟨sx, α, N, hs0, Post.bind (G := RelD) pp⟩) fun u s1 ⟨v, H1, I1, r1, q1⟩ => ?_)
  refine Calls.spliced_nil ⟨I1.kIn, ?_⟩
  obtain ⟨M1, α1, N1, d, st1, e1, g1, p1⟩ := q1
  cases d <;> try (exact p1.elim)
  rename_i i o o'
  dsimp only at p1
  by_cases hi : i < n ∧ o = LamO (X.env.qual ++ "<lambda>") (pr i) (bd i) (sc i) (cloFrom X.env.cells (sc i).names []) ∧ o' = fun c' => LamX.CodeO c' (X.env.qual ++ "<lambda>")
  · rw [if_pos hi] at p1
    obtain ⟨hi, rfl, rfl⟩ := hi
    unfold RelD Rel at g1
    obtain ⟨f, c', φ, φ', rfl, _, _, hf, hc⟩ := g1
    cases r1
    have rc : codeAny (model X.prog X.w) X.A (.call (.ref g) ⟨[.ref f], []⟩) (CR C8.CX0 X.stack X.prog X.w H1 s1 Q C8.E0) s1 := by
      refine LamX.run_ofS (N := Ng) (ps := [a]) (us := [.ref f]) (vs := [.ref f]) lk hcd2 Sg B.rm I1.env0 (bn s1 [.ref f] I1.kIn rfl) (.cons rfl .nil) rfl fun hr' => ?_
      obtain ⟨t', ht', hq'⟩ := hG cdv f s1 H1 Q (fun E H' Q' => tD (tabT TL) X.mg (fun cls d _ H => E cls d H) (gb i) σ H' Q') (fun HZ => HZ f = some (LamO (X.env.qual ++ "<lambda>") (pr i) (bd i) (sc i) (cloFrom X.env.cells (sc i).names []) f c') ∧ HZ c' = some (LamX.CodeO c' (X.env.qual ++ "<lambda>")))
        (fun E E' H Q hE ⟨s, α, N, a, b⟩ => ⟨s, α, N, a, by
          cases q : gb i s with
          | no => rw [q] at b; exact b
          | ok d M => rw [q] at b; exact b
          | ex e M => rw [q] at b; exact fun cls dd H' α' N' s' e' xr => hE _ _ _ (b cls dd H' α' N' s' e' xr)⟩)
        (fun E H Q Q' hQ ⟨s, α, N, a, b⟩ => ⟨s, α, N, a, Post.mono hQ b⟩)
        (fun W pn xe p1 p2 tk => (pe_actK (i := 0) (tb := fun E => tD (tabT TL) X.mg (fun cls d _ H => E cls d H) (gb i)) I1 (L i hi) (hbind i hi) tk hr' (fun A outer s H E hr2 => hbody i hi A outer s H E f c' hr2) hNg hva hd hcd).imp fun _ _ _ ⟨a, ⟨b, c⟩, d⟩ => ⟨a, b, c, d⟩)
        ⟨hf, hc⟩ (toldI_imp (gb := gb i) Z st1 p1)
      exact ⟨t', ht'.nox, hq'⟩
    refine wpAny_call (codeAny_mono rc fun r s2 hq => ?_)
    cases r with
    | error e => exact (show False from hq).elim
    | ok fl =>
      cases fl with
      | ret u => exact I1.after hq
      | next => exact False.elim hq
      | brk => exact False.elim hq
      | cont => exact False.elim hq
  · rw [if_neg hi] at p1
    exact p1.elim
end
end DL

namespace DL
open PySem PySem.Spec L2
open PyProof.Rows hiding St

/-! ### the lambdas of a def, as they stand in its text -/
def lamsE : Expr → List (Arguments × Expr × Scope)
  | .Lambda p b s _ => [(p, b, s)]
  | _ => []
/-- name = [lambda: .., ..], anywhere in the statements -/
def lamsL (n : Nat) (l : List Stmt) : List (Arguments × Expr × Scope) := match n with
  | 0 => []
  | n + 1 => l.flatMap fun st => match st with
    | .Assign _ (.List es _) _ => es.flatMap lamsE
    | .For _ _ b e _ => lamsL n b ++ lamsL n e
    | .If _ b e _ => lamsL n b ++ lamsL n e
    | .While _ b e _ => lamsL n b ++ lamsL n e
    | _ => []
def lamsS (st : Stmt) : List (Arguments × Expr × Scope) := lamsL 10 (defBody st)
def lam0 : Arguments × Expr × Scope := (⟨[], [], none, [], [], none, []⟩, .Constant .none 0 ⟨0, 0, 0, 0⟩, default)
/-- the objects of the lambdas made in the frame of X -/
def thX (X : Cx) (pr : Nat → Arguments) (bd : Nat → Expr) (sc : Nat → Scope) : LamK := fun i => (LamO (X.env.qual ++ "<lambda>") (pr i) (bd i) (sc i) (cloFrom X.env.cells (sc i).names []), fun c' => LamX.CodeO c' (X.env.qual ++ "<lambda>"))
theorem fn_lawT {Θ : Type} {P : Program} {w : World} {K : PySem.W.Frag} {mg : Str → Option Value} {base : Heap} {x qual : Str} {st : Stmt} {fd : FuncData} {Nm : List Str} {k : Nat} {p : Str × Option Str} {TL : List (Addr × Str)} {g : Option (Addr × List Int) → Θ → Sx → RS}
    (F : FunD K x qual (defArgs st) (defBody st) (defScope st) [] [] (He.fAd K p) fd) (S : FnScope Nm ["script"] (defScope st))
    (hb : ∀ (sk : Option (Addr × List Int)), KSt K sk → ∀ (A : Around) (outer : List Env) (s : Shared) (H : Hp) (E : XK), Room k (A.deeper (envOfC qual (defScope st) s.heap.objs.size (He.fAd K p) (.ref (He.codeOf K p)))) →
      ∃ θ, PSs (cxOf (L2.CX P w) P w K mg base Nm qual (defScope st) (He.fAd K p) (.ref (He.codeOf K p)) A outer s H E) (defBody st) (tS (tabT TL) mg (fun cls d _ H => E cls d H) (g sk θ)))
    (hok : ∀ sk d ns θ, Scr sk d ns → ns.length ≤ 63 → ∃ s1, g sk θ ⟨init0 Nm [d], []⟩ = .rt (.bl true) s1) :
    FnOk P w K mg base (L2.CX P w) (k + 1) (He.fAd K p) fd ["script"] (spLaw K TL) := by
  obtain ⟨oc, od, dV, kV, doc, pm, an, cdv, ct, osl, rfl, lk, hcd, hD, hK⟩ := F.ex
  obtain ⟨c', rfl⟩ := He.codeIn_ref hcd
  have ec : He.codeOf K p = c' := He.codeOf_eq lk rfl
  rw [ec] at hb
  refine fn_of lk hcd S (fun vs H Q E h => ?_) fun A outer s H vs Q E hr hsp => ?_
  · obtain ⟨a, ns, rfl, _⟩ := h; rfl
  · obtain ⟨a, ns, rfl, hS, hl, hT, q⟩ := hsp
    obtain ⟨sk, d, hk, hd, rd⟩ : ∃ (sk : Option (Addr × List Int)) (d : D), KSt K sk ∧ Scr sk d ns ∧ Rel H (fun _ => False) [] d (.ref a) := by
      rcases hS with (h | ⟨o, h⟩) | h
      · exact ⟨none, _, (fun _ _ z => by cases z), Scr.lst, by unfold Rel; exact ⟨a, _, rfl, fun z => z, h, rels_ints ns⟩⟩
      · exact ⟨none, _, (fun _ _ z => by cases z), Scr.frz, by unfold Rel; exact ⟨a, o, _, rfl, h, rels_ints ns⟩⟩
      · exact ⟨some (a, ns), _, (fun _ _ z H' => by cases z; exact .inr h), Scr.mod, by unfold Rel; rfl⟩
    obtain ⟨θ, hps⟩ := hb sk hk A outer s H E hr
    obtain ⟨s1, hg⟩ := hok sk d ns θ hd hl
    refine ⟨_, hps, ⟨init0 Nm [d], []⟩, [], fun _ => False, ⟨⟨by simp, by simp, fun a z => z.elim, rfl, fun n l z => by simp at z, hT⟩, init_slt (Rels.one rd), ?_⟩, ?_⟩
    · unfold init0 L2.start
      simp
    · rw [hg]
      intro v σ' H' α' N' s' e rv
      unfold Rel at rv
      rw [rv]
      exact q H'
/-! ### what the head must tell of told -/
theorem told_nm {X Y : Cx} {sg : Scope} {a c : Addr} {oe : Obj} {pn : List (Addr × Obj)} {x : Str} {p : Pos} (hs : Y.env.scope = sg) (hm : Y.mg = X.mg) (hg : sg.names.lookup x = some .globalImplicit) (h : X.mg x = some (.ref c)) (hd : (x == ("__debug__" : Str)) = false := by decide) : PE (Y.suite a ((a, oe) :: pn)) (.Name x p) (tC (.ref c)) :=
  pe_glob (X := Y.suite a ((a, oe) :: pn)) (u := .ref c) (show Y.env.scope.names.lookup x = some .globalImplicit by rw [hs]; exact hg) (by show Y.mg x = _; rw [hm]; exact h) rfl hd
theorem told_bt {X Y : Cx} {sg : Scope} {a : Addr} {n : String} {oe : Obj} {pn : List (Addr × Obj)} {x : Str} {p : Pos} (hs : Y.env.scope = sg) (hm : Y.mg = X.mg) (hg : sg.names.lookup x = some .globalImplicit) (h : X.mg x = none) (hv : bootBuiltins x = some (.type n)) (hn : x ≠ "__name__" := by decide) (hd : (x == ("__debug__" : Str)) = false := by decide) : PE (Y.suite a ((a, oe) :: pn)) (.Name x p) (tC (.ty n)) :=
  pe_bltn (X := Y.suite a ((a, oe) :: pn)) (u := .type n) (show Y.env.scope.names.lookup x = some .globalImplicit by rw [hs]; exact hg) (by show Y.mg x = _; rw [hm]; exact h) hv rfl hn hd
def excCB (K : PySem.W.Frag) (D : Addr) : Bool := decide (PySem.W.findIn K (.ref D) "__getattribute__" = some (some (.builtin "BaseException.__getattribute__"))) && (decide (PySem.W.findIn K (.ref D) "__getattr__" = some none) && (decide (PySem.W.subIn K (.ref D) (.type "BaseException") = some true) &&
  (PySem.W.hasDictIn K D && (decide (PySem.W.findIn K (.ref D) "__class__" = some (some (.builtin "object.__class__"))) && (decide (PySem.W.specialIn K (.builtin "object.__class__") "__get__" = some (some (.builtin "getset_descriptor.__get__"))) && (decide (PySem.W.takesIn K (.builtin "object.__class__") = some true) && decide (PySem.W.mroIn K D (.type "object") = some true)))))))
theorem excCB_ok {K : PySem.W.Frag} {D : Addr} (h : excCB K D = true) : ExcC K D := by
  obtain ⟨h1, h⟩ := ba h
  obtain ⟨h2, h⟩ := ba h
  obtain ⟨h3, h⟩ := ba h
  obtain ⟨h4, h⟩ := ba h
  obtain ⟨h5, h⟩ := ba h
  obtain ⟨h6, h⟩ := ba h
  obtain ⟨h7, h8⟩ := ba h
  exact ⟨of_decide_eq_true h1, of_decide_eq_true h2, of_decide_eq_true h3, h4, of_decide_eq_true h5, of_decide_eq_true h6, of_decide_eq_true h7, of_decide_eq_true h8⟩
/-- the errors, by six own classes and one built-in -/
def toldIB (K : PySem.W.Frag) (cs : List Str) (hs : List (Str × List Bool)) : Bool := hs.all fun p => excCB K (He.ga K p.1) && decide ((cs.map (fun c => Value.ref (He.ga K c)) ++ [Value.type "ValueError"]).map (fun v => PySem.W.kitOne K (.ref (He.ga K p.1)) v) = p.2.map some)
inductive TlI (K : PySem.W.Frag) (mg : Str → Option Value) (CS : Addr) : List (Str × List Bool) → Prop where
  | nil : TlI K mg CS []
  | cons {x : Str} {bs : List Bool} {l : List (Str × List Bool)} : (mg x = some (.ref (He.ga K x)) ∧ PySem.W.exmOne K (.ref (He.ga K x)) (.ref CS) = some true) → TlI K mg CS l → TlI K mg CS ((x, bs) :: l)
theorem TlI.get {K : PySem.W.Frag} {mg : Str → Option Value} {CS : Addr} : ∀ {l : List (Str × List Bool)}, TlI K mg CS l → ∀ x bs, l.lookup x = some bs → (x, bs) ∈ l ∧ mg x = some (.ref (He.ga K x)) ∧ PySem.W.exmOne K (.ref (He.ga K x)) (.ref CS) = some true
  | _, .nil, y, b, e => by cases e
  | _, .cons (x := z) h t, y, b, e => by
    rw [List.lookup_cons] at e
    split at e
    · rename_i q
      cases e
      have q := eq_of_beq q
      subst q
      exact ⟨List.mem_cons_self, h⟩
    · obtain ⟨a, b, c⟩ := t.get y b e
      exact ⟨List.mem_cons_of_mem _ a, b, c⟩
theorem toldI_of {K : PySem.W.Frag} {mg : Str → Option Value} {CS : Addr} {c1 c2 c3 c4 c5 c6 : Str} {hs : List (Str × List Bool)} (h : toldIB K [c1, c2, c3, c4, c5, c6] hs = true) (t : TlI K mg CS hs) :
    ToldI K mg CS (.ref (He.ga K c1)) (.ref (He.ga K c2)) (.ref (He.ga K c3)) (.ref (He.ga K c4)) (.ref (He.ga K c5)) (.ref (He.ga K c6)) (.type "ValueError") hs := ⟨fun x bs e => by
  obtain ⟨hm, g1, g2⟩ := t.get x bs e
  obtain ⟨h1, h2⟩ := ba (List.all_eq_true.mp h _ hm)
  have h2 := of_decide_eq_true h2
  match bs, h2 with
  | [b1, b2, b3, b4, b5, b6, b7], h2 =>
    simp only [List.map_cons, List.map_nil, List.cons_append, List.nil_append, List.cons.injEq, and_true] at h2
    obtain ⟨k1, k2, k3, k4, k5, k6, k7⟩ := h2
    exact ⟨_, b1, b2, b3, b4, b5, b6, b7, g1, rfl, g2, excCB_ok h1, k1, k2, k3, k4, k5, k6, k7⟩
  | [], h2 => simp at h2
  | [_], h2 => simp at h2
  | [_, _], h2 => simp at h2
  | [_, _, _], h2 => simp at h2
  | [_, _, _, _], h2 => simp at h2
  | [_, _, _, _, _], h2 => simp at h2
  | [_, _, _, _, _, _], h2 => simp at h2
  | _ :: _ :: _ :: _ :: _ :: _ :: _ :: _ :: _, h2 => simp at h2⟩
end DL

namespace DL
open PySem PySem.Spec L2
open PyProof.Rows hiding St

/-! ### a new list of two fors -/
def R.thenL (r : R (List D)) (k : Cells → R (List D)) : R (List D) := match r with
  | .ok l M => (k M).bind fun l2 M2 => .ok (l ++ l2) M2
  | _ => .no
theorem thenL_nil {M : Cells} {k : Cells → R (List D)} : R.thenL (.ok [] M) k = k M := by
  unfold R.thenL
  show (k M).bind (fun l2 M2 => .ok ([] ++ l2) M2) = k M
  cases h : k M <;> rfl
theorem pre_thenL {acc : List D} {y : D} {r : R (List D)} {k : Cells → R (List D)} : R.pre acc (R.thenL (r.bind fun l M => .ok (y :: l) M) k) = R.pre (acc ++ [y]) (R.thenL r k) := by
  cases r with
  | no => rfl
  | ex _ _ => rfl
  | ok l M =>
    simp only [R.bind, R.thenL]
    cases k M <;> simp [R.pre, R.bind]
def fLc2Go (g : D → Sx → Option Sx) (t : Sx → R Bool) (fi1 : Sx → R (List D)) (g1 : D → Sx → Option Sx) (t1 : Sx → R Bool) (e : Sx → R D) (vs1 : List Nat) (ρ : List (Option D)) : List D → Cells → R (List D)
  | [], M => .ok [] M
  | d :: r, M => match g d ⟨ρ, M⟩ with
    | none => .no
    | some s1 => match t s1 with
      | .ok b M1 => if b = true then (match fi1 ⟨s1.ρ, M1⟩ with
        | .ok ds M2 => if ds.length ≤ 300 then R.thenL (fLcGo g1 t1 e (wipeD s1.ρ vs1) ds M2) (fLc2Go g t fi1 g1 t1 e vs1 ρ r) else .no
        | _ => .no) else fLc2Go g t fi1 g1 t1 e vs1 ρ r M1
      | _ => .no
def fLc2 (fi : Sx → R (List D)) (g : D → Sx → Option Sx) (t : Sx → R Bool) (fi1 : Sx → R (List D)) (g1 : D → Sx → Option Sx) (t1 : Sx → R Bool) (e : Sx → R D) (vs vs1 : List Nat) : Sx → R (List D) := fun s =>
  (fi s).bind fun ds M => if ds.length ≤ 300 then fLc2Go g t fi1 g1 t1 e vs1 (wipeD s.ρ vs) ds M else .no
section
variable {T : TPr} {mg : Str → Option Value} {W : WX} {σ : St} {H : Hp}
theorem lc2_imp {fi fi1 : Sx → R (List D)} {g g1 : D → Sx → Option Sx} {t t1 : Sx → R Bool} {e : Sx → R D} {vs vs1 : List Nat} {Q : VK} (h : tFL T mg W (fLc2 fi g t fi1 g1 t1 e vs vs1) σ H Q) :
    tLc2 (tI T mg W fi) (tT T vs g) (tB' T mg W0 t) (tI T mg W0 fi1) (tT T vs1 g1) (tB' T mg W0 t1) (tD T mg W0 e) vs vs1 σ H Q := by
  obtain ⟨s, α, N, hs, p⟩ := h
  refine ⟨s, α, N, hs, ?_⟩
  unfold fLc2 at p
  cases q : fi s with
  | no => rw [q] at p; exact p
  | ex e M => rw [q] at p; exact p
  | ok ds M =>
    rw [q] at p
    intro J H1 α1 N1 s1 e1 it L hL
    have p : PostL T mg N α H σ s.ρ W Q (if ds.length ≤ 300 then fLc2Go g t fi1 g1 t1 e vs1 (wipeD s.ρ vs) ds M else .no) := p
    by_cases hz : ds.length ≤ 300
    case neg => rw [if_neg hz] at p; exact p.elim
    rw [if_pos hz] at p
    have hL0 : Fz H L := e1.back (fz_of hL)
    have k := new_keep (o := .lst []) hL
    have nn : ∀ a, N1 a → (N1 a ∨ a = L) := fun a h => .inl h
    have nb : ∀ a, (N1 a ∨ a = L) → N1 a ∨ Fz H1 a := fun a h => h.elim .inl fun z => .inr (by rw [z]; exact fz_of hL)
    have eL : Ext α1 N1 H1 α1 (fun a => N1 a ∨ a = L) (upd H1 L (.lst [])) := Ext.growN k nn nb
    have sL : StR T (fun a => N1 a ∨ a = L) (upd H1 L (.lst [])) σ ⟨s.ρ, M⟩ α1 := s1.growN k nn nb fun a ha => nf_upd (fun _ z => by cases z) fun z => s1.c.som a (ha.resolve_right z)
    have nL : L ∉ α1 := fun hm => s1.c.som L (s1.c.sub L hm) (fz_of hL)
    generalize hgo2 : fLc2Go g t fi1 g1 t1 e vs1 (wipeD s.ρ vs) = go2 at p
    have pL : PostL T mg N1 α1 H1 σ s.ρ W Q (R.pre [] (go2 ds M)) := by
      have : R.pre [] (go2 ds M) = go2 ds M := by cases go2 ds M <;> simp [R.pre, R.bind]
      rw [this]; exact PostL.later e1 p
    refine ⟨fun i m H => m = ds.length - i ∧ i ≤ ds.length ∧ ∃ M α N acc us, StR T N H σ ⟨s.ρ, M⟩ α ∧ Ext α1 N1 H1 α N H ∧ H L = some (.lst us) ∧ N L ∧ L ∉ α ∧ Rels H N α acc us ∧ acc.length ≤ i * 300 ∧ PostL T mg N1 α1 H1 σ s.ρ W Q (R.pre acc (go2 (ds.drop i) M)),
      ⟨ds.length, by simp, Nat.zero_le _, M, α1, _, [], [], sL, eL, upd_same, .inr rfl, nL, by unfold Rels; rfl, by simp, pL⟩, ?_⟩
    rintro i m H2 ⟨rfl, hi, M2, α2, N2, acc, us, t2, e2, hu, n1, n2, ra, la, p2⟩
    obtain ⟨hstop, hgo⟩ := it i α2 N2 H2 e2.toW t2.c.sub
    by_cases hlt : i < ds.length
    · have hd : ds[i]? = some ds[i] := by simp [hlt]
      obtain ⟨go, yl⟩ := hgo _ hd
      have hdr : ds.drop i = ds[i] :: ds.drop (i + 1) := List.drop_eq_getElem_cons hlt
      rw [hdr] at p2
      refine .inr ⟨go, fun H' => ∃ M α N acc us, StR T N H' σ ⟨s.ρ, M⟩ α ∧ Ext α1 N1 H1 α N H' ∧ H' L = some (.lst us) ∧ N L ∧ L ∉ α ∧ Rels H' N α acc us ∧ acc.length ≤ (i + 1) * 300 ∧ PostL T mg N1 α1 H1 σ s.ρ W Q (R.pre acc (go2 (ds.drop (i + 1)) M)),
        fun H' h' => ⟨ds.length - (i + 1), by omega, rfl, hlt, h'⟩, fun x H3 hy => ?_⟩
      obtain ⟨k3, r3⟩ := yl x H3 hy
      have t3 := t2.grow k3
      rw [← hgo2] at p2
      unfold fLc2Go at p2
      rw [hgo2] at p2
      cases qg : g ds[i] ⟨wipeD s.ρ vs, M2⟩ with
      | none => rw [qg] at p2; exact p2.elim
      | some sg =>
        rw [qg] at p2
        dsimp only at p2
        refine ⟨ds[i], ⟨wipeD s.ρ vs, M2⟩, α2, N2, sg, StR.wipe t3, r3, qg, fun σ4 H4 α4 N4 t4 e4 off => ⟨Off.wipe off, sg, α4, N4, t4, ?_⟩⟩
        have e24 : Ext α2 N2 H2 α4 N4 H4 := (Ext.grow k3).trans e4
        cases qt : t sg with
        | no => rw [qt] at p2; exact p2.elim
        | ex _ _ => rw [qt] at p2; exact p2.elim
        | ok b M5 =>
          rw [qt] at p2
          dsimp only at p2
          intro b' H5 α5 N5 t5 e5 hb
          cases hb
          have e25 := e24.trans e5
          cases b with
          | false =>
            rw [if_neg (by decide)] at p2 ⊢
            refine ⟨M5, α5, N5, acc, us, StC.keep t2 t5.c e25, e2.trans e25, e25.keep L _ hu (fun _ => n2) (fun _ z => by cases z), e25.nn L n1, e25.notin n2 hu, Rels.mono t2.c.sub e25 ra, by omega, p2⟩
          | true =>
            rw [if_pos rfl] at p2 ⊢
            refine ⟨⟨sg.ρ, M5⟩, α5, N5, t5, ?_⟩
            cases qi : fi1 ⟨sg.ρ, M5⟩ with
            | no => rw [qi] at p2; exact p2.elim
            | ex _ _ => rw [qi] at p2; exact p2.elim
            | ok ds1 M6 =>
              rw [qi] at p2
              dsimp only at p2
              intro J1 H6 α6 N6 t6 e6 it1
              have e26 := e25.trans e6
              by_cases hz1 : ds1.length ≤ 300
              case neg => rw [if_neg hz1] at p2; exact p2.elim
              rw [if_pos hz1] at p2
              have hu6 := e26.keep L _ hu (fun _ => n2) (fun _ z => by cases z)
              have n16 := e26.nn L n1
              have n26 := e26.notin n2 hu
              have ra6 := Rels.mono t2.c.sub e26 ra
              have s6 : StR T N6 H6 σ ⟨s.ρ, M6⟩ α6 := StC.keep t2 t6.c e26
              refine ⟨fun j k H => k = ds1.length - j ∧ j ≤ ds1.length ∧ ∃ M α N acc us, StR T N H σ ⟨s.ρ, M⟩ α ∧ StR T N H σ4 ⟨sg.ρ, M⟩ α ∧ Ext α1 N1 H1 α N H ∧ Wxt α6 N6 H6 α N H ∧ H L = some (.lst us) ∧ N L ∧ L ∉ α ∧ Rels H N α acc us ∧ acc.length ≤ i * 300 + j ∧
                  PostL T mg N1 α1 H1 σ s.ρ W Q (R.pre acc (R.thenL (fLcGo g1 t1 e (wipeD sg.ρ vs1) (ds1.drop j) M) (go2 (ds.drop (i + 1))))),
                ⟨ds1.length, by simp, Nat.zero_le _, M6, α6, N6, acc, us, s6, t6, e2.trans e26, Ext.refl.toW, hu6, n16, n26, ra6, by omega, p2⟩, ?_⟩
              rintro j kk H7 ⟨rfl, hj, M7, α7, N7, acc7, us7, s7, t7, e17, e67, hu7, n17, n27, ra7, la7, p7⟩
              obtain ⟨hstop1, hgo1⟩ := it1 j α7 N7 H7 e67 s7.c.sub
              by_cases hlt1 : j < ds1.length
              · have hd1 : ds1[j]? = some ds1[j] := by simp [hlt1]
                obtain ⟨go1, yl1⟩ := hgo1 _ hd1
                have hdr1 : ds1.drop j = ds1[j] :: ds1.drop (j + 1) := List.drop_eq_getElem_cons hlt1
                rw [hdr1] at p7
                refine .inr ⟨go1, fun H => ∃ M α N acc us, StR T N H σ ⟨s.ρ, M⟩ α ∧ StR T N H σ4 ⟨sg.ρ, M⟩ α ∧ Ext α1 N1 H1 α N H ∧ Wxt α6 N6 H6 α N H ∧ H L = some (.lst us) ∧ N L ∧ L ∉ α ∧ Rels H N α acc us ∧ acc.length ≤ i * 300 + (j + 1) ∧
                    PostL T mg N1 α1 H1 σ s.ρ W Q (R.pre acc (R.thenL (fLcGo g1 t1 e (wipeD sg.ρ vs1) (ds1.drop (j + 1)) M) (go2 (ds.drop (i + 1))))),
                  fun H' h' => ⟨ds1.length - (j + 1), by omega, rfl, hlt1, h'⟩, fun x H8 hy1 => ?_⟩
                obtain ⟨k8, r8⟩ := yl1 x H8 hy1
                have t8 := t7.grow k8
                unfold fLcGo at p7
                cases qg1 : g1 ds1[j] ⟨wipeD sg.ρ vs1, M7⟩ with
                | none => rw [qg1] at p7; exact p7.elim
                | some sh =>
                  rw [qg1] at p7
                  dsimp only at p7
                  refine ⟨ds1[j], ⟨wipeD sg.ρ vs1, M7⟩, α7, N7, sh, StR.wipe t8, r8, qg1, fun σ9 H9 α9 N9 t9 e9 off1 => ⟨Off.wipe off1, sh, α9, N9, t9, ?_⟩⟩
                  have e79 : Ext α7 N7 H7 α9 N9 H9 := (Ext.grow k8).trans e9
                  cases qt1 : t1 sh with
                  | no => rw [qt1] at p7; exact p7.elim
                  | ex _ _ => rw [qt1] at p7; exact p7.elim
                  | ok b1 M10 =>
                    rw [qt1] at p7
                    dsimp only at p7
                    intro b' H10 α10 N10 t10 e10 hb
                    cases hb
                    have e710 := e79.trans e10
                    cases b1 with
                    | false =>
                      rw [if_neg (by decide)] at p7 ⊢
                      exact ⟨M10, α10, N10, acc7, us7, StC.keep s7 t10.c e710, StC.keep t7 t10.c e710, e17.trans e710, e67.trans e710.toW, e710.keep L _ hu7 (fun _ => n27) (fun _ z => by cases z), e710.nn L n17, e710.notin n27 hu7, Rels.mono s7.c.sub e710 ra7, by omega, p7⟩
                    | true =>
                      rw [if_pos rfl] at p7 ⊢
                      refine ⟨⟨sh.ρ, M10⟩, α10, N10, t10, ?_⟩
                      cases qe : e ⟨sh.ρ, M10⟩ with
                      | no => rw [qe] at p7; exact p7.elim
                      | ex _ _ => rw [qe] at p7; exact p7.elim
                      | ok y M11 =>
                        rw [qe] at p7
                        dsimp only at p7
                        rw [pre_thenL] at p7
                        intro y' H11 α11 N11 t11 e11 ry
                        have e711 := e710.trans e11
                        have hu11 := e711.keep L _ hu7 (fun _ => n27) (fun _ z => by cases z)
                        have n111 := e711.nn L n17
                        have n211 := e711.notin n27 hu7
                        have ra11 := Rels.mono s7.c.sub e711 ra7
                        have hl := Rels.length ra7
                        have s11 : StR T N11 H11 σ ⟨s.ρ, M11⟩ α11 := StC.keep s7 t11.c e711
                        have t11' : StR T N11 H11 σ4 ⟨sg.ρ, M11⟩ α11 := StC.keep t7 t11.c e711
                        have nL6 : Fz H1 L := fz_of hL
                        refine ⟨us7, hu11, Nat.lt_of_lt_of_le (by omega : us7.length < 100001) (by decide), M11, α11, N11, acc7 ++ [y], us7 ++ [y'], s11.wr n111 n211 hu11, t11'.wr n111 n211 hu11, (e17.trans e711).wr (fz_of hL) (fun _ z => by cases z), ?_, upd_same, n111, n211, Rels.wr n111 hu11 (Rels.append (Rels.one ry) ra11), by simp; omega, p7⟩
                        exact (e67.trans e711.toW).wr n16 hu6 (fun _ z => by cases z)
              · have ej : j = ds1.length := by omega
                refine .inl ⟨hstop1 ej, ?_⟩
                rw [ej, List.drop_length] at p7
                unfold fLcGo at p7
                rw [thenL_nil] at p7
                exact ⟨M7, α7, N7, acc7, us7, s7, e17, hu7, n17, n27, ra7, by omega, p7⟩
    · have ei : i = ds.length := by omega
      refine .inl ⟨hstop ei, ?_⟩
      rw [ei, List.drop_length] at p2
      rw [← hgo2] at p2
      unfold fLc2Go at p2
      have p3 : PostL T mg N1 α1 H1 σ s.ρ W Q (.ok (acc ++ []) M2) := p2
      rw [List.append_nil] at p3
      exact p3 L us H2 α2 N2 t2 e2 n1 n2 (fz_of hL) hu ra
end
end DL

namespace DL
open PySem PySem.Spec L2
open PyProof.Rows hiding St

/-! ### min, max of a list or a tuple of ints, of points -/
/-- the better of two: lt y a says that y takes a's place -/
def bestL {β : Type} (lt : β → β → Bool) (b : β) (bs : List β) : β := bs.foldl (fun a y => if lt y a then y else a) b
def rBestD (K : PySem.W.Frag) (mn : Bool) : List V → Hp → VK → Prop := fun vs H Q => ∃ (a : Addr) (β : Type) (z : V × β) (zs : List (V × β)) (enc : β → PyData), vs = [V.ref a] ∧ (SqL K H a (z.1 :: zs.map (·.1)) ∨ SqT K H a (z.1 :: zs.map (·.1))) ∧
  DpAll K H (z.1 :: zs.map (·.1)) (enc z.2 :: zs.map fun z => enc z.2) ∧ (∀ b b', PySem.W.alike (enc b) (enc b') = true ∧ enc b ≠ .none) ∧ (∀ z, (enc z).depth ≤ 60) ∧
  Q (bestL (fun y x : V × β => if mn then PySem.W.dataLt (enc y.2) (enc x.2) else PySem.W.dataLt (enc x.2) (enc y.2)) z zs).1 H
theorem depthAll_le {xs : List PyData} {n : Nat} (h : ∀ x ∈ xs, x.depth ≤ n) : PyData.depthAll xs ≤ n := by
  induction xs with
  | nil => exact Nat.zero_le _
  | cons x xs ih =>
    show max x.depth (PyData.depthAll xs) ≤ n
    exact Nat.max_le.mpr ⟨h x (by simp), ih fun y hy => h y (by simp [hy])⟩
theorem vals_at : ∀ {vs : List V} {us : List Value} {i : Nat} {u : Value}, Vals vs us → us[i]? = some u → ∃ v, vs[i]? = some v ∧ RelV v u
  | _, _, i, u, .nil, h => by simp at h
  | _, _, 0, u, .cons a t, h => by simp at h; subst h; exact ⟨_, rfl, a⟩
  | _, _, i + 1, u, .cons a t, h => by
    obtain ⟨v, h1, h2⟩ := vals_at t (by simpa using h)
    exact ⟨v, by simpa using h1, h2⟩
section
variable {prog : Program} {w : World} {A : Around} {s : Shared}
theorem best_cmp {β : Type} {vs : Array Value} {z : V × β} {zs : List (V × β)} {enc : β → PyData} {as : List Addr} (mn : Bool) (hr : PySem.ReadsAll s.heap vs.toList (enc z.2 :: zs.map fun z => enc z.2) as)
    (ha : ∀ b b', PySem.W.alike (enc b) (enc b') = true ∧ enc b ≠ .none) (hd : ∀ b, (enc b).depth ≤ 60) (hu : A.units + 62 < cLine) :
    CmpIn prog w A (if mn then .Lt else .Gt) s.heap (fun i v => vs[i]? = some v) (fun i j => (fun y x : V × β => if mn then PySem.W.dataLt (enc y.2) (enc x.2) else PySem.W.dataLt (enc x.2) (enc y.2)) ((z :: zs).getD i z) ((z :: zs).getD j z)) := by
  have al : PySem.W.AlikeAll (enc z.2 :: zs.map fun z => enc z.2) := by
    have e : (enc z.2 :: zs.map fun z => enc z.2) = (z :: zs).map fun z => enc z.2 := rfl
    rw [e]
    refine ⟨fun x hx y hy => ?_, fun x hx => ?_⟩
    · obtain ⟨p, _, rfl⟩ := List.mem_map.mp hx
      obtain ⟨q, _, rfl⟩ := List.mem_map.mp hy
      exact (ha _ _).1
    · obtain ⟨p, _, rfl⟩ := List.mem_map.mp hx
      exact (ha p.2 p.2).2
  have dp : PyData.depthAll (enc z.2 :: zs.map fun z => enc z.2) ≤ 60 := depthAll_le fun x hx => by
    have e : (enc z.2 :: zs.map fun z => enc z.2) = (z :: zs).map fun z => enc z.2 := rfl
    rw [e] at hx
    obtain ⟨p, _, rfl⟩ := List.mem_map.mp hx
    exact hd _
  have hn := PySem.W.readsAll_len hr
  have key : ∀ i v, vs[i]? = some v → (enc z.2 :: zs.map fun z => enc z.2).getD i .none = enc ((z :: zs).getD i z).2 := by
    intro i v hv
    have e : (enc z.2 :: zs.map fun z => enc z.2) = (z :: zs).map fun z => enc z.2 := rfl
    have hi : i < vs.size := by
      rcases Nat.lt_or_ge i vs.size with h | h
      · exact h
      · rw [Array.getElem?_eq_none h] at hv; cases hv
    have hi2 : i < (z :: zs).length := by rw [hn] at hi; simpa using hi
    rw [e, List.getD_eq_getElem?_getD, List.getD_eq_getElem?_getD, List.getElem?_map, List.getElem?_eq_getElem hi2]
    rfl
  intro i j vi vj s' Q E hk hi hj hq
  cases mn with
  | true =>
    refine PySem.W.cmpIn_lt hr al (by omega) i j vi vj s' Q E hk hi hj ?_
    show Q (.bool (PySem.W.dataLt ((enc z.2 :: zs.map fun z => enc z.2).getD i .none) ((enc z.2 :: zs.map fun z => enc z.2).getD j .none))) s'
    rw [key i vi hi, key j vj hj]
    exact hq
  | false =>
    refine PySem.W.cmpIn_gt hr al (by omega) i j vi vj s' Q E hk hi hj ?_
    show Q (.bool (PySem.W.dataLt ((enc z.2 :: zs.map fun z => enc z.2).getD j .none) ((enc z.2 :: zs.map fun z => enc z.2).getD i .none))) s'
    rw [key i vi hi, key j vj hj]
    exact hq
end
theorem best_val {β : Type} {f : V × β → V × β → Bool} {z : V × β} {zs : List (V × β)} {us : List Value} {n : Nat} {v : Value} (rv : Vals (z.1 :: zs.map (·.1)) us) (hn : n = zs.length)
    (h : us[argBest (fun i j => f ((z :: zs).getD i z) ((z :: zs).getD j z)) n]? = some v) : RelV (bestL f z zs).1 v := by
  subst hn
  have e := (PySem.W.argBest_fold f z z zs zs.length (Nat.le_refl _))
  rw [List.take_length] at e
  obtain ⟨e1, e2⟩ := e
  obtain ⟨x, h1, h2⟩ := vals_at rv h
  have hh : ((z :: zs).map (·.1))[argBest (fun i j => f ((z :: zs).getD i z) ((z :: zs).getD j z)) zs.length]? = some x := h1
  have hi2 : argBest (fun i j => f ((z :: zs).getD i z) ((z :: zs).getD j z)) zs.length < (z :: zs).length := by simpa using Nat.lt_succ_of_le e1
  rw [List.getElem?_map, List.getElem?_eq_getElem hi2] at hh
  rw [List.getD_eq_getElem?_getD, List.getElem?_eq_getElem hi2] at e2
  have e3 : (z :: zs)[argBest (fun i j => f ((z :: zs).getD i z) ((z :: zs).getD j z)) zs.length] = bestL f z zs := e2
  rw [e3] at hh
  cases hh
  exact h2
theorem cr_best {X : Cx} (mn : Bool) (hc : X.calm = true) (hu : X.A.units + 64 < cLine) : CallR X (.builtin (if mn then "min" else "max")) (rBestD X.K mn) := by
  intro pins s σ H vs us Q I r h
  obtain ⟨a, β, z, zs, enc, rfl, hs, hd, hal, hdep, q⟩ := h
  rw [Vals.ref1 r]
  have hl1 : ∀ its : List Value, Vals (z.1 :: zs.map (·.1)) its → its.toArray.size - 1 = zs.length := fun its rv => by
    have := Vals.length rv
    simp at this ⊢
    omega
  rcases hs with hs | hs
  · obtain ⟨its, rv, hl, hz⟩ := I.list hs
    obtain ⟨as, hr⟩ := Dp.readsAll I _ _ its hd rv
    have n1 := hl1 its rv
    cases mn with
    | true =>
      refine call_min_walkH (PySem.W.iter_listW (A := X.A.in1) (I.ok.hd hc) hl.isList fun s₂ e W st hfp hw hk => ?_)
      refine ⟨_, _, _, _, _, _, _, s.heap, _, rfl, W, st, hfp, by have := Vals.length rv; simp at this ⊢; omega, hw, hk, best_cmp (A := X.A.in1) true hr hal hdep (by show X.A.units + 1 + 62 < _; omega), fun v s' hP m => ?_⟩
      obtain ⟨h', tk, rfl, hk'⟩ := PySem.W.moved_old e rfl m
      exact ⟨_, H, I.kept hk', best_val rv n1 (by rw [← List.getElem?_toArray]; exact hP), q⟩
    | false =>
      refine call_max_walkH (PySem.W.iter_listW (A := X.A.in1) (I.ok.hd hc) hl.isList fun s₂ e W st hfp hw hk => ?_)
      refine ⟨_, _, _, _, _, _, _, s.heap, _, rfl, W, st, hfp, by have := Vals.length rv; simp at this ⊢; omega, hw, hk, best_cmp (A := X.A.in1) false hr hal hdep (by show X.A.units + 1 + 62 < _; omega), fun v s' hP m => ?_⟩
      obtain ⟨h', tk, rfl, hk'⟩ := PySem.W.moved_old e rfl m
      exact ⟨_, H, I.kept hk', best_val rv n1 (by rw [← List.getElem?_toArray]; exact hP), q⟩
  · obtain ⟨its, rv, hl, hz⟩ := I.tuple hs
    obtain ⟨as, hr⟩ := Dp.readsAll I _ _ its hd rv
    have n1 := hl1 its rv
    cases mn with
    | true =>
      refine call_min_walkH (PySem.W.iter_tupleW (A := X.A.in1) (I.ok.hd hc) hl fun s₂ e W st hfp hw hk => ?_)
      refine ⟨_, _, _, _, _, _, _, s.heap, _, rfl, W, st, hfp, by have := Vals.length rv; simp at this ⊢; omega, hw, hk, best_cmp (A := X.A.in1) true hr hal hdep (by show X.A.units + 1 + 62 < _; omega), fun v s' hP m => ?_⟩
      obtain ⟨h', tk, rfl, hk'⟩ := PySem.W.moved_old e rfl m
      exact ⟨_, H, I.kept hk', best_val rv n1 (by rw [← List.getElem?_toArray]; exact hP), q⟩
    | false =>
      refine call_max_walkH (PySem.W.iter_tupleW (A := X.A.in1) (I.ok.hd hc) hl fun s₂ e W st hfp hw hk => ?_)
      refine ⟨_, _, _, _, _, _, _, s.heap, _, rfl, W, st, hfp, by have := Vals.length rv; simp at this ⊢; omega, hw, hk, best_cmp (A := X.A.in1) false hr hal hdep (by show X.A.units + 1 + 62 < _; omega), fun v s' hP m => ?_⟩
      obtain ⟨h', tk, rfl, hk'⟩ := PySem.W.moved_old e rfl m
      exact ⟨_, H, I.kept hk', best_val rv n1 (by rw [← List.getElem?_toArray]; exact hP), q⟩
def ltPt (p q : Pt) : Bool := decide (p.1 < q.1 ∨ (p.1 = q.1 ∧ p.2 < q.2))
def gBest (mn : Bool) : Cells → List D → Option D := fun M l => match l with
  | [d] => match seqOf M d with
    | some (_, l) => match unPts l with
      | some (p :: ps) => some (pt (bestL (fun y x => if mn then ltPt y x else ltPt x y) p ps))
      | some [] => none
      | none => match unInts l with
        | some (i :: is) => some (.int (bestL (fun y x => if mn then decide (y < x) else decide (x < y)) i is))
        | _ => none
    | none => none
  | _ => none
theorem dataLt_pt {p q : Pt} : PySem.W.dataLt (.tuple [.int p.1, .int p.2]) (.tuple [.int q.1, .int q.2]) = ltPt p q := by
  unfold ltPt
  exact PySem.W.dataLt_ii ..
theorem bestL_map {β γ : Type} {f : γ → γ → Bool} {g : β → β → Bool} {h : β → γ} (e : ∀ x y, f (h x) (h y) = g x y) : ∀ (bs : List β) (b : β), bestL f (h b) (bs.map h) = h (bestL g b bs)
  | [], _ => rfl
  | y :: bs, b => by
    show bestL f (if f (h y) (h b) then h y else h b) (bs.map h) = h (bestL g (if g y b then y else b) bs)
    rw [e]
    have e2 : (if g y b = true then h y else h b) = h (if g y b = true then y else b) := by split <;> rfl
    rw [e2]
    exact bestL_map e bs _
theorem bestL_mem {β : Type} {f : β → β → Bool} : ∀ (bs : List β) (b : β), bestL f b bs ∈ b :: bs
  | [], b => by simp [bestL]
  | y :: bs, b => by
    have := bestL_mem (f := f) bs (if f y b then y else b)
    show bestL f (if f y b then y else b) bs ∈ _
    rcases List.mem_cons.mp this with h | h
    · rw [h]; split <;> simp
    · simp [h]
section
variable {T : TPr} {H : Hp} {N : Addr → Prop} {α : List Addr}
theorem best_go {K : PySem.W.Frag} {mn : Bool} {β : Type} {M : Cells} {f : β → D} {enc : β → PyData} {lt : β → β → Bool} {a : Addr} {vs : List V} {b : β} {bs : List β} {Q : VK} (c : StC T N H M α) (hs : SqL K H a vs ∨ SqT K H a vs) (r : Rels H N α ((b :: bs).map f) vs)
    (hp : ∀ b, pyOf (f b) = some (enc b)) (hal : ∀ b b', PySem.W.alike (enc b) (enc b') = true ∧ enc b ≠ .none) (hd : ∀ b, (enc b).depth ≤ 60)
    (hlt : ∀ b b', lt b b' = PySem.W.dataLt (enc b) (enc b')) (k : ∀ v H', StC T N H' M α → Ext α N H α N H' → Rel H' N α (f (bestL (fun y x => if mn then lt y x else lt x y) b bs)) v → Q v H') : rBestD K mn [V.ref a] H Q := by
  obtain ⟨zs, e1, e2, e3⟩ := Rels.zip r
  match zs, e1, e2, e3 with
  | [], _, e2, _ => cases e2
  | z :: zs, e1, e2, e3 =>
    have hpy : ∀ zs : List (V × β), (∀ z ∈ zs, Rel H N α (f z.2) z.1) → DpAll K H (zs.map (·.1)) (zs.map fun z => enc z.2) := by
      intro zs
      induction zs with
      | nil => intro _; exact .nil
      | cons z zs ih => intro h; exact .cons (py_rel (h z (by simp)) (hp _)) (ih fun y hy => h y (by simp [hy]))
    refine ⟨a, β, z, zs, enc, rfl, by rw [show (z.1 :: zs.map (·.1)) = vs from e1]; exact hs, hpy (z :: zs) e3, hal, hd, ?_⟩
    have eb : b = z.2 := by have := e2; simp at this; exact this.1.symm
    have es : bs = zs.map (·.2) := by have := e2; simp at this; exact this.2.symm
    have hm := bestL_mem (f := fun y x : V × β => if mn then PySem.W.dataLt (enc y.2) (enc x.2) else PySem.W.dataLt (enc x.2) (enc y.2)) zs z
    have hb : bestL (fun y x => if mn then lt y x else lt x y) b bs = (bestL (fun y x : V × β => if mn then PySem.W.dataLt (enc y.2) (enc x.2) else PySem.W.dataLt (enc x.2) (enc y.2)) z zs).2 := by
      rw [eb, es]
      exact bestL_map (h := fun z : V × β => z.2) (fun x y => by rw [hlt, hlt]) zs z
    exact k _ H c Ext.refl (by rw [hb]; exact e3 _ hm)
theorem cd_best {K : PySem.W.Frag} {mn : Bool} : CbD T (rBestD K mn) (gBest mn) := by
  intro N H M α l xs z Q c r h k
  match l, h, r with
  | [d], h, r =>
    obtain ⟨x, rfl, r1⟩ := rels1 r
    unfold gBest at h
    dsimp only at h
    cases q : seqOf M d with
    | none => rw [q] at h; cases h
    | some bl =>
      obtain ⟨b, l⟩ := bl
      rw [q] at h
      dsimp only at h
      obtain ⟨a, vs, h1, h2, h3, h4⟩ := seq_rel c r1 q
      rw [h1]
      cases qp : unPts l with
      | some ps =>
        rw [qp] at h
        rw [unPts_some qp] at h4
        cases ps with
        | nil => cases h
        | cons p ps =>
          cases h
          exact best_go c (seq_sq h2 h3) h4 (enc := fun p => .tuple [.int p.1, .int p.2]) (fun p => rfl) (fun p p' => ⟨rfl, by simp⟩) (fun p => by simp [PyData.depth, PyData.depthAll]) (fun p p' => dataLt_pt.symm) k
      | none =>
        rw [qp] at h
        dsimp only at h
        cases qi : unInts l with
        | none => rw [qi] at h; cases h
        | some is =>
          rw [qi] at h
          rw [unInts_some qi] at h4
          cases is with
          | nil => cases h
          | cons i is =>
            cases h
            exact best_go c (seq_sq h2 h3) h4 (enc := fun p => .int p) (fun p => rfl) (fun p p' => ⟨rfl, by simp⟩) (fun p => by simp [PyData.depth]) (fun p p' => by rw [PySem.W.dataLt_int]) k
  | [], h, _ => cases h
  | _ :: _ :: _, h, _ => cases h
end

/-! ### sum of a list of ints -/
def rSumI (K : PySem.W.Frag) : List V → Hp → VK → Prop := fun vs H Q => ∃ (a : Addr) (is : List Int), vs = [V.ref a] ∧ (SqL K H a (is.map V.int) ∨ SqT K H a (is.map V.int)) ∧ Q (.int is.sum) H
theorem preSum_list {is : List Int} : ∀ n, n ≤ is.length → preSum (fun i => is.getD i 0) n = (is.take n).sum
  | 0, _ => by simp [preSum]
  | n + 1, h => by
    have ih := preSum_list (is := is) n (Nat.le_of_succ_le h)
    have hx : is[n]? = some is[n] := List.getElem?_eq_getElem h
    unfold preSum
    rw [ih, List.take_add_one, hx, List.sum_append, List.getD_eq_getElem?_getD, hx]
    simp
theorem sum_at {is : List Int} {us : List Value} (rv : Vals (is.map V.int) us) (i : Nat) (v : Value) (h : us[i]? = some v) : ∃ t, v = .int (is.getD i 0) t := by
  obtain ⟨x, h1, h2⟩ := vals_at rv h
  rw [List.getElem?_map] at h1
  rw [List.getD_eq_getElem?_getD]
  cases e : is[i]? with
  | none => rw [e] at h1; cases h1
  | some k =>
    rw [e] at h1
    cases h1
    obtain ⟨t, rfl⟩ := h2
    exact ⟨_, rfl⟩
theorem cr_sumI {X : Cx} (hc : X.calm = true) : CallR X (.builtin "sum") (rSumI X.K) := by
  intro pins s σ H vs us Q I r h
  obtain ⟨a, is, rfl, hs, q⟩ := h
  rw [Vals.ref1 r]
  rcases hs with hs | hs
  · obtain ⟨its, rv, hl, hz⟩ := I.list hs
    have n1 : its.toArray.size = is.length := by have := Vals.length rv; simp at this ⊢; omega
    refine call_sum_walkAnyS (PySem.W.iter_listW (A := X.A.in1) (I.ok.hd hc) hl.isList fun s₂ e W st hfp hw hk => ?_)
    refine ⟨_, _, _, _, _, _, _, fun i => is.getD i 0, rfl, W, st, hfp, fun i v hv => sum_at rv i v (by rw [← List.getElem?_toArray]; exact hv), fun s' t' m => ?_⟩
    obtain ⟨h', tk, rfl, hk'⟩ := PySem.W.moved_old e rfl m
    refine ⟨.int _, H, I.kept hk', ?_, q⟩
    rw [n1, preSum_list _ (Nat.le_refl _), List.take_length]
    exact ⟨_, rfl⟩
  · obtain ⟨its, rv, hl, hz⟩ := I.tuple hs
    have n1 : its.toArray.size = is.length := by have := Vals.length rv; simp at this ⊢; omega
    refine call_sum_walkAnyS (PySem.W.iter_tupleW (A := X.A.in1) (I.ok.hd hc) hl fun s₂ e W st hfp hw hk => ?_)
    refine ⟨_, _, _, _, _, _, _, fun i => is.getD i 0, rfl, W, st, hfp, fun i v hv => sum_at rv i v (by rw [← List.getElem?_toArray]; exact hv), fun s' t' m => ?_⟩
    obtain ⟨h', tk, rfl, hk'⟩ := PySem.W.moved_old e rfl m
    refine ⟨.int _, H, I.kept hk', ?_, q⟩
    rw [n1, preSum_list _ (Nat.le_refl _), List.take_length]
    exact ⟨_, rfl⟩
def gSumL : Cells → List D → Option D := fun M l => match l with
  | [d] => match seqOf M d with
    | some (_, l) => match unInts l with
      | some is => some (.int is.sum)
      | none => none
    | none => none
  | _ => none
theorem rels_intsV {H : Hp} {N : Addr → Prop} {α : List Addr} : ∀ {is : List Int} {vs : List V}, Rels H N α (is.map D.int) vs → vs = is.map V.int
  | [], _, h => by
    have h' : Rels H N α [] _ := h
    unfold Rels at h'; exact h'
  | i :: is, _, h => by
    have h' : Rels H N α (D.int i :: is.map D.int) _ := h
    unfold Rels at h'
    obtain ⟨v, r, h1, h2, h3⟩ := h'
    unfold Rel at h2
    rw [h1, h2, rels_intsV h3]; rfl
theorem cd_sumL {T : TPr} {K : PySem.W.Frag} : CbD T (rSumI K) gSumL := by
  intro N H M α l xs z Q c r h k
  match l, h, r with
  | [d], h, r =>
    obtain ⟨x, rfl, r1⟩ := rels1 r
    unfold gSumL at h
    dsimp only at h
    cases q : seqOf M d with
    | none => rw [q] at h; cases h
    | some bl =>
      obtain ⟨b, l⟩ := bl
      rw [q] at h
      dsimp only at h
      obtain ⟨a, vs, h1, h2, h3, h4⟩ := seq_rel c r1 q
      rw [h1]
      cases qi : unInts l with
      | none => rw [qi] at h; cases h
      | some is =>
        rw [qi] at h
        cases h
        rw [unInts_some qi] at h4
        have e := rels_intsV h4
        rw [e] at h2 h3
        exact ⟨a, is, rfl, by first | exact seq_sq h2 h3 | (rw [e] at *; exact seq_sq h2 h3), k _ H c Ext.refl rel_int⟩
  | [], h, _ => cases h
  | _ :: _ :: _, h, _ => cases h
end DL

namespace DL
open PySem PySem.Spec L2 RZ RT
open PyProof.Rows hiding St
open Sem (wp)

/-! ### a list, a tuple made of what an iterator gives -/
section
variable {prog : Program} {w : World} {A : Around} {s : Shared} {R : Result → Shared → Prop}
variable {I : Addr} {fp wr : List Addr} {G : Array GenState → Array GenState → Prop} {n : Nat} {P : Nat → Value → Prop} {St : Nat → Shared → Prop} {Ty : String}
/-- the hint of an iterator's length changes nothing -/
def Hinted (prog : Program) (w : World) (A : Around) (I : Addr) (St : Nat → Shared → Prop) : Prop :=
  ∀ (s : Shared) (Q : Bool → Shared → Prop) (E : Value → Shared → Prop), St 0 s → (∀ b tk, s.toks ≤ tk → Q b { s with toks := tk }) → wpAny (model prog w) A (Builtin.List.listLengthHint (.ref I)) Q E s
theorem extend_it (W : WalksS prog w A.in1 I fp wr G n P St) (hH : Hinted prog w A.in1 I St) (hT : ∀ s, St 0 s → s.TypeIs (.ref I) Ty) (hL : (Value.type Ty == Value.type "list") = false) (hU : (Value.type Ty == Value.type "tuple") = false)
    (S : Addr) (res : Value) (c₀ : Nat) (hst : St 0 s) (hSf : S ∉ fp) (hI : I ∈ fp) (hS : s.heap.get? S = some { cls := .type "list", data := .seq #[] c₀ })
    (hR : ∀ s' acc' c', Moved (S :: wr) G s s' → s'.heap.get? S = some { cls := .type "list", dict := none, data := .seq acc' c', slots := #[] } → ItemsOf P acc' n → R (.ok (.ret res)) s') (hn : n ≤ sizeLine) :
    wpAny (model prog w) A.in1 (Builtin.List.listExtendWith (.ref S) (.ref I) res)
      (fun fin s' => match fin with | .done f => R (.ok f) s' | .again c' => c'.quiet = true ∧ codeAny (model prog w) A c' R s') (fun e s' => R (.error e) s') s := by
  have hSI : S ≠ I := fun e => hSf (e ▸ hI)
  unfold Builtin.List.listExtendWith
  refine wpAny_bind (wpAny_typeOf (hT _ hst) ?_)
  have h1 : Builtin.List.listSameRef (.ref S) (.ref I) = false := by simp [Builtin.List.listSameRef, hSI]
  simp only [h1, hL, hU, Bool.or_false, Bool.false_eq_true, if_false]
  refine wpAny_bind (W.self 0 _ _ _ hst ?_)
  refine wpAny_bind (wpAny_holding ?_)
  refine hH _ _ _ hst fun b tk htk => ?_
  have hst1 : St 0 { s with toks := tk } := W.frame 0 s s.heap tk hst htk fun _ _ _ e => e
  have m1 : Moved (S :: wr) G s { s with toks := tk } := (Moved.refl W.grefl).then_heap htk fun b o hb e => e
  split
  · show wpAny _ A.in1 (rule "list.extend.makes-room" >>= fun _ => Builtin.List.listTouch (.ref S) >>= fun _ =>
      again (.builtin "list.extend.loop" ⟨[.ref S, .ref I, res], []⟩)) _ _ _
    refine wpAny_bind (wpAny_rule ?_)
    refine wpAny_bind ?_
    show wpAny _ A.in1 (updateSeq S (·.push .none) >>= fun _ => updateSeq S (·.pop)) _ _ _
    refine wpAny_bind (wpAny_updateSeq hS rfl ?_)
    have hS₂ := Heap.get?_update_self (Obj.mapSeq (·.push Value.none)) hS rfl
    refine wpAny_updateSeq (hz := by seq_fits) hS₂ rfl ?_
    have hS₃ := Heap.get?_update_self (Obj.mapSeq (·.pop)) hS₂ rfl
    have oth : ∀ b o, b ≠ S → s.heap.get? b = some o → ((s.heap.update S (Obj.mapSeq (·.push Value.none))).update S (Obj.mapSeq (·.pop))).get? b = some o :=
      fun b o hb e => (Heap.get?_update_other _ _ (Ne.symm hb)).trans ((Heap.get?_update_other _ _ (Ne.symm hb)).trans e)
    refine wpAny_pure ⟨plainId_quiet F.plain_extend_loop _, codeAny_extend_loopS W hn _ hSf _ n 0 _ _ _ rfl (Nat.zero_le _)
      (W.frame 0 s _ tk hst htk fun b hb o e => oth b o (fun h => hSf (h ▸ hb)) e) hS₃ (ItemsOf.nil P) fun s' acc' c' hm hS' hacc => ?_⟩
    exact hR s' acc' c' (Moved.trans W.gtrans ((Moved.refl W.grefl).then_heap htk fun b o hb e => oth b o (fun h => hb (h ▸ List.mem_cons_self)) e) hm) hS' hacc
  · refine wpAny_pure ⟨plainId_quiet F.plain_extend_loop _, codeAny_extend_loopS W hn _ hSf _ n 0 _ _ _ rfl (Nat.zero_le _) hst1 hS (ItemsOf.nil P) fun s' acc' c' hm hS' hacc => ?_⟩
    exact hR s' acc' c' (Moved.trans W.gtrans m1 hm) hS' hacc
theorem iadd_it (W : WalksS prog w A.in1 I fp wr G n P St) (hH : Hinted prog w A.in1 I St) (hT : ∀ s, St 0 s → s.TypeIs (.ref I) Ty) (hL : (Value.type Ty == Value.type "list") = false) (hU : (Value.type Ty == Value.type "tuple") = false)
    (S : Addr) (c₀ : Nat) (hst : St 0 s) (hSf : S ∉ fp) (hI : I ∈ fp) (hS : s.heap.get? S = some { cls := .type "list", data := .seq #[] c₀ })
    (hR : ∀ s' acc' c', Moved (S :: wr) G s s' → s'.heap.get? S = some { cls := .type "list", dict := none, data := .seq acc' c', slots := #[] } → ItemsOf P acc' n → R (.ok (.ret (.ref S))) s') (hn : n ≤ sizeLine) :
    codeAny (model prog w) A (.builtin "list.__iadd__" ⟨[.ref S, .ref I], []⟩) R s := by
  refine codeAny_builtin F.entry_list_iadd ?_
  rw [Around.under_plainId F.plain_list_iadd _]
  show wpAny _ A.in1 (Builtin.List.listExtendWith (.ref S) (.ref I) (.ref S)) _ _ _
  exact extend_it W hH hT hL hU S _ c₀ hst hSf hI hS hR hn
end
section
variable {prog : Program} {w : World} {A : Around} {E : Value → Shared → Prop} {s : Shared}
variable {I : Addr} {fp wr : List Addr} {G : Array GenState → Array GenState → Prop} {n : Nat} {P : Nat → Value → Prop} {St : Nat → Shared → Prop} {Ty : String}
theorem collect_it (W : WalksS prog w A.in1 I fp wr G n P St) (hH : Hinted prog w A.in1 I St) (hT : ∀ s, St 0 s → s.TypeIs (.ref I) Ty) (hL : (Value.type Ty == Value.type "list") = false) (hU : (Value.type Ty == Value.type "tuple") = false)
    (hst : St 0 s) (hfp : ∀ b ∈ fp, b < s.heap.objs.size) (hI : I ∈ fp) (hn : n ≤ sizeLine) {Q : List Value → Shared → Prop}
    (hQ : ∀ s' acc, Moved (s.heap.objs.size :: wr) G { s with heap := s.heap.push { cls := .type "list", data := .seq ([] : List Value).toArray } } s' → ItemsOf P acc n → Q acc.toList s') :
    wpAny (model prog w) A (collect (.ref I)) Q E s := by
  have hSf : s.heap.objs.size ∉ fp := fun hm => Nat.lt_irrefl _ (hfp _ hm)
  unfold collect
  refine wpAny_bind (wpAny_runValue (codeAny_builtin F.entry_proto_collect ?_))
  rw [Around.under_plainId F.plain_proto_collect _]
  show wpAny _ A.in1 (newList [] >>= fun l' => again (.builtin "list.__iadd__" ⟨[l', .ref I], []⟩)) _ _ s
  refine wpAny_bind (wpAny_newObj_type ?_)
  have hS₁ : (s.heap.push { cls := .type "list", data := .seq ([] : List Value).toArray }).get? s.heap.objs.size = some { cls := .type "list", data := .seq ([] : List Value).toArray } := Heap.get?_push_size _ rfl
  refine wpAny_pure ⟨plainId_quiet F.plain_list_iadd _, iadd_it W hH hT hL hU _ _ (W.frame 0 s _ s.toks hst (Nat.le_refl _) fun b _ o e => Heap.get?_push_of_some _ e) hSf hI hS₁ (fun s' acc' c' hm hS' hacc => ?_) hn⟩
  show wpAny _ A (load s.heap.objs.size >>= _) _ _ s'
  refine wpAny_bind (wpAny_load hS' ?_)
  refine wpAny_pure ?_
  exact hQ s' acc' hm hacc
theorem code_tuple_it (W : WalksS prog w A.in1.in1 I fp wr G n P St) (hH : Hinted prog w A.in1.in1 I St) (hT : ∀ s, St 0 s → s.TypeIs (.ref I) Ty) (hL : (Value.type Ty == Value.type "list") = false) (hU : (Value.type Ty == Value.type "tuple") = false)
    (hst : St 0 s) (hfp : ∀ b ∈ fp, b < s.heap.objs.size) (hI : I ∈ fp) (hn : n ≤ sizeLine) {Q₁ : Value → Shared → Prop}
    (h : ∀ s' acc, Moved (s.heap.objs.size :: wr) G { s with heap := s.heap.push { cls := .type "list", data := .seq ([] : List Value).toArray } } s' → ItemsOf P acc n →
      Q₁ (.ref s'.heap.objs.size) { s' with heap := s'.heap.push { cls := .type "tuple", data := .seq acc } }) :
    codeAny (model prog w) A (.call (.builtin "tuple.__new__") ⟨[.type "tuple", .ref I], []⟩) (wants Q₁ E) s := by
  refine codeAny_of_tree ?_
  show wpAny _ A.in1 (do checkBuiltinCall "tuple.__new__" ⟨[.type "tuple", .ref I], []⟩; again (.builtin "tuple.__new__" ⟨[.type "tuple", .ref I], []⟩)) _ _ s
  refine wpAny_bind (wpAny_of_eq (F.newCall_tuple_1 _) (wpAny_pure ⟨plainId_quiet F.plain_tuple_new _, codeAny_builtin F.entry_tuple_new ?_⟩))
  rw [Around.under_plainId F.plain_tuple_new _]
  have hsub := sub_tuple_self
  have hinit := init_tuple_lookup
  have hmh := madeHere_tuple
  have hTI : s.TypeIs (.ref I) Ty := hT _ hst
  wp_walk using wpAny_typeOf hTI, collect_it (A := A.in1) W hH hT hL hU hst hfp hI hn
  intro s' acc hk hacc
  show wpAny _ _ (Builtin.Tuple.tupleExact acc.toList.toArray >>= fun v => ret v) _ _ _
  unfold Builtin.Tuple.tupleExact
  refine wpAny_bind (wpAny_newObj_type ?_ (by show acc.toList.toArray.size ≤ sizeLine; simp only [Array.toArray_toList]; rw [hacc.1]; exact hn))
  refine wpAny_pure ?_
  have e : acc.toList.toArray = acc := by simp
  rw [e]
  exact h s' acc hk hacc
theorem call_tuple_it (W : WalksS prog w A.in1.in1.in1 I fp wr G n P St) (hH : Hinted prog w A.in1.in1.in1 I St) (hT : ∀ s, St 0 s → s.TypeIs (.ref I) Ty) (hL : (Value.type Ty == Value.type "list") = false) (hU : (Value.type Ty == Value.type "tuple") = false)
    (hst : St 0 s) (hfp : ∀ b ∈ fp, b < s.heap.objs.size) (hI : I ∈ fp) (hn : n ≤ sizeLine) {Q : Value → Shared → Prop}
    (hQ : ∀ s' acc, Moved (s.heap.objs.size :: wr) G { s with heap := s.heap.push { cls := .type "list", data := .seq ([] : List Value).toArray } } s' → ItemsOf P acc n →
      Q (.ref s'.heap.objs.size) { s' with heap := s'.heap.push { cls := .type "tuple", data := .seq acc } }) :
    wpAny (model prog w) A (call (.type "tuple") [.ref I]) Q E s := by
  refine callType_codes (Q₁ := fun obj s₁ => s₁.TypeIs obj "tuple" ∧ Q obj s₁) F.called_tuple (F.typeCall_tuple_1 _) F.entry_object_init
    (code_tuple_it (A := A.in1) W hH hT hL hU hst hfp hI hn fun s' acc hk hacc => ⟨⟨_, Heap.get?_push_size _ rfl, rfl⟩, hQ s' acc hk hacc⟩) fun obj s₁ h₁ => ?_
  exact ⟨h₁.1, F.args_object_init_2 obj _, object_init_meets F.called_tuple.init.lookup F.called_tuple.made (by decide) prog w A.in1 _ s₁ ⟨h₁.1, rfl, h₁.2⟩⟩
theorem call_list_it (W : WalksS prog w A.in1.in1 I fp wr G n P St) (hH : Hinted prog w A.in1.in1 I St) (hT : ∀ s, St 0 s → s.TypeIs (.ref I) Ty) (hL : (Value.type Ty == Value.type "list") = false) (hU : (Value.type Ty == Value.type "tuple") = false)
    (hst : St 0 s) (hfp : ∀ b ∈ fp, b < s.heap.objs.size) (hI : I ∈ fp) (hn : n ≤ sizeLine) {Q : Value → Shared → Prop}
    (hQ : ∀ s' acc' c', Moved (s.heap.objs.size :: wr) G { s with heap := s.heap.push { cls := .type "list", data := .seq #[] } } s' →
      s'.heap.get? s.heap.objs.size = some { cls := .type "list", dict := none, data := .seq acc' c', slots := #[] } → ItemsOf P acc' n → Q (.ref s.heap.objs.size) s') :
    wpAny (model prog w) A (call (.type "list") [.ref I]) Q E s := by
  have hSf : s.heap.objs.size ∉ fp := fun hm => Nat.lt_irrefl _ (hfp _ hm)
  refine callType_codes (Q₁ := fun obj s₁ => obj = .ref s.heap.objs.size ∧ s₁ = { s with heap := s.heap.push { cls := .type "list", data := .seq #[] } }) F.called_list (F.typeCall_list_1 _) F.entry_list_init
    (code_list_new _ ⟨rfl, rfl⟩) fun obj s₁ h₁ => ?_
  obtain ⟨rfl, rfl⟩ := h₁
  have hS : (s.heap.push { cls := .type "list", data := .seq #[] }).get? s.heap.objs.size = some { cls := .type "list", data := .seq #[] } := Heap.get?_push_size _ rfl
  refine ⟨⟨_, hS, rfl⟩, F.args_list_init_2 _ _, ?_⟩
  show wpAny _ A.in1.in1 (do let old ← Builtin.List.listItems (.ref s.heap.objs.size); Builtin.List.listUpdate (.ref s.heap.objs.size) (fun _ => #[]); letGo old.toList.reverse; Builtin.List.listExtendWith (.ref s.heap.objs.size) (.ref I) .none) _ _ _
  refine wpAny_bind ?_
  unfold Builtin.List.listItems
  refine wpAny_bind (wpAny_seqItems hS rfl (wpAny_pure ?_))
  show wpAny _ A.in1.in1 (updateSeq s.heap.objs.size (fun _ => #[]) >>= fun _ => letGo (#[] : Array Value).toList.reverse >>= fun _ => Builtin.List.listExtendWith (.ref s.heap.objs.size) (.ref I) .none) _ _ _
  refine wpAny_bind (wpAny_updateSeq hS rfl ?_)
  have hS₂ := Heap.get?_update_self (Obj.mapSeq (fun _ => (#[] : Array Value))) hS rfl
  have oth : ∀ b o, b ≠ s.heap.objs.size → (s.heap.push { cls := .type "list", data := .seq #[] }).get? b = some o → ((s.heap.push { cls := .type "list", data := .seq #[] }).update s.heap.objs.size (Obj.mapSeq (fun _ => (#[] : Array Value)))).get? b = some o :=
    fun b o hb e => (Heap.get?_update_other _ _ (Ne.symm hb)).trans e
  refine wpAny_bind (wpAny_letGo ?_)
  refine extend_it (A := A.in1) W hH hT hL hU _ .none _ (W.frame 0 s _ s.toks hst (Nat.le_refl _) fun b hb o e => oth b o (fun h => hSf (h ▸ hb)) (Heap.get?_push_of_some _ e)) hSf hI hS₂ (fun s' acc' c' hm hS' hacc => ?_) hn
  refine ⟨rfl, hQ s' acc' c' (Moved.trans W.gtrans ((Moved.refl W.grefl).then_heap (Nat.le_refl _) fun b o hb e => oth b o (fun h => hb (h ▸ List.mem_cons_self)) e) hm) hS' hacc⟩
end
end DL

namespace DL
open PySem PySem.Spec L2 RZ RT
open PyProof.Rows hiding St
open Sem (wp)

/-! ### reversed(t), t a tuple: the iterator -/
theorem nolen_rt : typeLookup (.type "reversed") "__len__" = pure none := by rw [typeLookup_type, builtinLookup_eq_fast]; kernel_rfl
theorem slot_rt_hint : Slot "reversed" "__length_hint__" "reversed.__length_hint__" :=
  .of (owner := "reversed") (n := "__length_hint__") (by rw [typeLookup_type, builtinLookup_eq_fast]; kernel_rfl) (by decide +kernel) (by decide +kernel) (by decide +kernel)
    (by first | exact .inl (by decide +kernel) | exact .inr (by decide +kernel)) (by rw [isSubtype_type]; kernel_rfl)
theorem entry_rt_hint : entryFor table "reversed.__length_hint__" = some Builtin.«reversed.__length_hint__» := entryFor_of_tree (by kernel_rfl)
theorem args_rt_hint (a : Value) : argsOk "reversed.__length_hint__" ⟨[a], []⟩ := by
  unfold argsOk; rw [signature?_of (id := "reversed.__length_hint__") (n := ['_', '_', 't', 'n', 'i', 'h', '_', 'h', 't', 'g', 'n', 'e', 'l', '_', '_']) (o := ['d', 'e', 's', 'r', 'e', 'v', 'e', 'r']) (by kernel_rfl) owner_rt]; kernel_rfl
section
variable {prog : Program} {w : World} {A : Around} {E : Value → Shared → Prop} {s : Shared}
def StRt (it t : Addr) (items : Array Value) : Nat → Shared → Prop := fun i s => i ≤ items.size ∧ IsRt s.heap it t ((items.size : Int) - 1 - (i : Int)) ∧ IsTup s.heap t items
theorem walks_rt (hh : A.handled = none) (it t : Addr) (hne : t ≠ it) (items : Array Value) (hsz : items.size ≤ sizeLine) :
    WalksS prog w A it [it, t] [it] (fun a b => b = a) items.size (fun i v => items[items.size - 1 - i]? = some v) (StRt it t items) where
  sub := fun b hb => by simp at hb; simp [hb]
  grefl := fun _ => rfl
  gtrans := fun _ _ _ a b => b.trans a
  frame := fun _ s h' tk x _ hk => ⟨x.1, x.2.1.at fun o e => hk it (by simp) o e, by
    obtain ⟨o, ho, r⟩ := x.2.2
    exact ⟨o, hk t (by simp) o ho, r⟩⟩
  item := fun i s Q E hi x hQ => by
    have e : (items.size : Int) - 1 - (i : Int) = ((items.size - 1 - i : Nat) : Int) := by omega
    have hit := x.2.1
    rw [e] at hit
    have hx : items[items.size - 1 - i]? = some (items[items.size - 1 - i]'(by omega)) := Array.getElem?_eq_getElem (by omega)
    refine next_rt_item hit x.2.2 hx hsz fun h' hit' hs' => ?_
    have e2 : ((items.size - 1 - i : Nat) : Int) - 1 = (items.size : Int) - 1 - ((i + 1 : Nat) : Int) := by omega
    rw [e2] at hit'
    refine hQ _ _ hx ⟨hi, hit', by obtain ⟨o, ho, r⟩ := x.2.2; exact ⟨o, (hs'.2 t hne).trans ho, r⟩⟩ ?_
    exact ⟨fun b o hb eo => hs'.extBut b o (fun h => hb (by simp [h])) eo, rfl, rfl, rfl, Nat.le_succ _⟩
  done := fun s Q E x hQ => by
    have e : (items.size : Int) - 1 - (items.size : Int) = -1 := by omega
    have hit := x.2.1
    rw [e] at hit
    exact next_rt_end hh hit fun h' he' => hQ _ ⟨fun b o hb eo => he' b o (fun h => hb (by simp [h])) eo, rfl, rfl, rfl, Nat.le_refl _⟩
  self := fun _ _ _ _ x hQ => iter_rt x.2.1 hQ
theorem hint_rt (it t : Addr) (items : Array Value) (hsz : items.size ≤ 1000000) : Hinted prog w A it (StRt it t items) := by
  intro s Q E st h
  obtain ⟨_, hit, ht⟩ := st
  have e0 : ((items.size : Nat) : Int) - 1 - ((0 : Nat) : Int) = (items.size : Int) - 1 := by omega
  rw [e0] at hit
  obtain ⟨o, ho, hc, hd⟩ := id hit
  have hT : s.TypeIs (.ref it) "reversed" := hit.typeIs
  unfold Builtin.List.listLengthHint
  refine wpAny_bind (wpAny_specialOf hT nolen_rt ?_)
  show wpAny _ A (specialOf (Value.ref it) (Str.ofString "__length_hint__") >>= _) _ _ _
  refine wpAny_bind (wpAny_specialOf hT slot_rt_hint.lookup ?_)
  generalize hid : ("reversed.__length_hint__" : String) = id0
  wp_delta
  rw [show splitId id0 = some ("reversed", "__length_hint__") from by subst hid; decide +kernel]
  subst hid
  refine wpAny_bind (wpAny_isInstance (b := true) hT (by rw [isSubtype_type]; kernel_rfl) ?_)
  rw [if_neg (by decide)]
  rw [if_neg (by decide +kernel)]
  refine wpAny_bind (wpAny_rule ?_)
  refine wpAny_bind (wpAny_of_eq (slot_rt_hint.bind _) ?_)
  try dsimp only
  refine wpAny_bind (wpAny_attempt (wpAny_call_entry slot_rt_hint hT entry_rt_hint ?_ (args_rt_hint _)))
  unfold Builtin.«reversed.__length_hint__»
  refine wpAny_bind (wpAny_of_eq (a := Value.ref it) rfl ?_)
  refine wpAny_bind (wpAny_field ho hd (x := .ref t) rfl ?_)
  rw [if_neg (show ¬ (Value.ref t == Value.none) = true from Bool.false_ne_true)]
  refine wpAny_bind (PyProof.Rows.len_tuple ht (by omega) ?_)
  refine wpAny_bind (wpAny_of_eq (a := some (items.size : Int)) rfl ?_)
  try dsimp only
  refine wpAny_bind (wpAny_field (s := { s with toks := s.toks + 1 + 1 }) ho hd (x := rawInt ((items.size : Int) - 1)) rfl ?_)
  show wpAny _ _ (if (items.size : Int) < (items.size : Int) - 1 + 1 then _ else retInt ((items.size : Int) - 1 + 1)) _ _ _
  rw [if_neg (by omega)]
  refine wpAny_bind (wpAny_mkInt ?_)
  refine wpAny_pure ⟨_, rfl, ?_⟩
  show wpAny _ _ (asInt? (.int ((items.size : Int) - 1 + 1) _) >>= _) _ _ _
  refine wpAny_bind (wpAny_of_eq (a := some ((items.size : Int) - 1 + 1)) rfl ?_)
  have en : (items.size : Int) - 1 + 1 = (items.size : Int) := by omega
  rw [en]
  have f1 : Builtin.List.listFitsIndex (items.size : Int) = true := by
    unfold Builtin.List.listFitsIndex
    simp
    omega
  have f2 : Builtin.List.listTooLong ((items.size : Int)).toNat = false := by
    unfold Builtin.List.listTooLong
    rw [sizeLine_eq]
    simp
    omega
  try dsimp only
  rw [f1, f2]
  rw [if_neg (by decide), if_neg (by omega), if_neg (by decide)]
  refine wpAny_pure (h _ _ ?_)
  show s.toks ≤ _
  omega
theorem hint_lri2 (it l : Addr) (items : Array Value) : Hinted prog w A it (fun i s => i ≤ items.size ∧ s.heap.IsRevIter it l ((items.size : Int) - 1 - (i : Int)) ∧ s.heap.IsList l items) := by
  intro s Q E st h
  have hT : s.TypeIs (.ref it) "list_reverseiterator" := Heap.IsRevIter.typeIs st.2.1
  unfold Builtin.List.listLengthHint
  refine wpAny_bind (wpAny_specialOf hT nolen_lri ?_)
  show wpAny _ A (specialOf (Value.ref it) (Str.ofString "__length_hint__") >>= _) _ _ _
  refine wpAny_bind (wpAny_specialOf hT hint_lri ?_)
  generalize hid : ("list_reverseiterator.__length_hint__" : String) = id0
  wp_delta
  rw [show splitId id0 = some ("list_reverseiterator", "__length_hint__") from by subst hid; decide +kernel]
  subst hid
  refine wpAny_bind (wpAny_isInstance (b := true) hT (by rw [isSubtype_type]; kernel_rfl) ?_)
  refine wpAny_pure ?_
  exact h false s.toks (Nat.le_refl _)
end
section
variable {X : Cx}
/-- the items of a list or a tuple, from behind, as a new tuple (tp) or a new list -/
def tRevOf (K : PySem.W.Frag) (tp : Bool) (te : TE) : TE := fun σ H Q => te σ H fun v H1 => ∃ (a : Addr) (xs : List V), v = .ref a ∧ (SqL K H1 a xs ∨ SqT K H1 a xs) ∧ xs.length ≤ 1000000 ∧ ∀ q, H1 q = none → Q (.ref q) (upd H1 q (if tp then .tup xs.reverse else .lst xs.reverse))
theorem moved_kept {s1 s' : Shared} {G : Array GenState → Array GenState → Prop} {o : Obj} {it : Addr} {h0 : Heap} {tk0 : Nat} (hG : ∀ a b, G a b → b = a) (hit : s1.heap.objs.size ≤ it) (hk : ∀ b o, s1.heap.get? b = some o → h0.get? b = some o) (hn : s1.heap.objs.size ≤ h0.objs.size)
    (m : Moved (h0.objs.size :: [it]) G { s1 with heap := h0.push o, toks := tk0 } s') : (∀ b o, s1.heap.get? b = some o → s'.heap.get? b = some o) ∧ s' = { s1 with heap := s'.heap, toks := s'.toks } := by
  refine ⟨fun b ob e => m.heap b ob (fun hm => ?_) (Heap.get?_push_of_some _ (hk b ob e)), ?_⟩
  · have hb := Heap.lt_size e
    rcases List.mem_cons.mp hm with q | q
    · rw [q] at hb; exact absurd hb (Nat.not_lt.mpr hn)
    · rw [List.mem_singleton.mp q] at hb; exact absurd hb (Nat.not_lt.mpr hit)
  · have h1 := hG _ _ m.gens
    have h2 := m.drawn
    have h3 := m.os
    obtain ⟨hp, g, d, tk, os⟩ := s'
    simp at h1 h2 h3
    subst h1
    subst h2
    subst h3
    rfl
theorem pe_revOf {e : Expr} {te : TE} {p p2 pos pos2 : Pos} (tp : Bool) {nm : Str} (hnm : nm = if tp then "tuple" else "list") (hc : X.calm = true) (hg : Gl X nm) (hm : X.mg nm = none) (hg2 : Gl X "reversed") (hm2 : X.mg "reversed" = none) (he : PE X e te)
    (hs : starEach [e] X.env = (false, eval e X.env) :: starEach [] X.env := by rfl)
    (hs2 : starEach [.Call (.Name "reversed" p2) [e] [] pos2] X.env = (false, eval (.Call (.Name "reversed" p2) [e] [] pos2) X.env) :: starEach [] X.env := by rfl) :
    PE X (.Call (.Name nm p) [.Call (.Name "reversed" p2) [e] [] pos2] [] pos) (tRevOf X.K tp te) := by
  refine ⟨fun pins s σ H Q I h => ?_⟩
  cases tp with
  | true =>
    obtain rfl : nm = "tuple" := hnm
    refine Call_ (ld_blt I hg hm boot_tuple (PyProof.Rows.callWith_type1 (args_cons (Call_ (ld_blt I hg2 hm2 PyProof.Rows.boot_reversed (PyProof.Rows.callWith_type1 (args_cons (thn (he.run pins s σ H _ I h) fun u s1 ⟨v, H1, I1, r1, q1⟩ => args_nil ?_) hs) hs rfl))) hs2) hs2 rfl))
    obtain ⟨a, xs, ev, hq, hz0, q⟩ := q1
    subst ev
    obtain rfl : u = Value.ref a := r1
    rcases hq with hq | hq
    · obtain ⟨its, rv, p', hz⟩ := I1.list hq
      refine call_reversed_list p'.isList (args_nil ?_)
      have hl := p'.isList
      obtain ⟨ol, hol, _⟩ := id hl
      have hlt := Heap.lt_size hol
      have hne : a ≠ s1.heap.objs.size := Nat.ne_of_lt hlt
      have hn : its.toArray.size ≤ sizeLine := by rw [List.size_toArray, ← rv.length]; exact hz
      have e0 : ((its.toArray.size : Nat) : Int) - 1 - ((0 : Nat) : Int) = (its.toArray.size : Int) - 1 := by omega
      refine call_tuple_it (Ty := "list_reverseiterator") ((Walks.listRev (prog := X.prog) (w := X.w) (A := X.A.in1.in1.in1) (I1.ok.hd hc) s1.heap.objs.size a hne its.toArray).toS) (hint_lri2 _ _ _) (fun s st => Heap.IsRevIter.typeIs st.2.1) rfl rfl ⟨Nat.zero_le _, by rw [e0]; exact ⟨_, Heap.get?_push_size _ rfl, rfl, rfl⟩, hl.push _⟩ (fun b hb => ?_) (by simp) hn fun s' acc m hi => ?_
      · show b < (s1.heap.push _).objs.size
        rw [Heap.size_push]
        rcases List.mem_cons.mp hb with q | q
        · rw [q]; exact Nat.lt_succ_self _
        · rw [List.mem_singleton.mp q]; exact Nat.lt_succ_of_lt hlt
      · obtain ⟨k, es⟩ := moved_kept (s1 := s1) (fun _ _ e => e) (Nat.le_refl _) (fun b o e => Heap.get?_push_of_some _ e) (by rw [Heap.size_push]; omega) m
        rw [es]
        have I3 : Inv X pins σ H1 { s1 with heap := s'.heap, toks := s'.toks } := I1.kept (t' := s'.toks) k
        refine ⟨.ref s'.heap.objs.size, upd H1 s'.heap.objs.size (.tup xs.reverse), I3.laid (t' := s'.toks) (fun c o e => Heap.get?_push_of_some _ e) (Nat.le_refl _) (show ObjOk X.prog X.w _ _ _ (.tup xs.reverse) from ⟨by rw [List.length_reverse]; exact hz, acc.toList, vals_rev rv hi, ?_⟩), rfl, q _ (I3.hok.fresh (Nat.le_refl _))⟩
        rw [Array.toArray_toList]
        exact IsTup.new _ _
    · obtain ⟨its, rv, p', hz⟩ := I1.tuple hq
      have hn63 := line63
      have hlen := rv.length
      refine call_reversed_tup p' (fun A E Q k => PyProof.Rows.len_tuple p' (by simp only [List.size_toArray]; omega) k) (args_nil ?_)
      have hl := p'
      obtain ⟨ol, hol, _⟩ := id hl
      have hlt := Heap.lt_size hol
      have hne : a ≠ s1.heap.objs.size := Nat.ne_of_lt hlt
      have hn : its.toArray.size ≤ sizeLine := by rw [List.size_toArray, ← rv.length]; exact hz
      have e0 : ((its.toArray.size : Nat) : Int) - 1 - ((0 : Nat) : Int) = (its.toArray.size : Int) - 1 := by omega
      refine call_tuple_it (Ty := "reversed") (walks_rt (prog := X.prog) (w := X.w) (A := X.A.in1.in1.in1) (I1.ok.hd hc) s1.heap.objs.size a hne its.toArray hn) (hint_rt _ _ _ (by simp only [List.size_toArray]; omega)) (fun s st => st.2.1.typeIs) rfl rfl ⟨Nat.zero_le _, by rw [e0]; exact ⟨_, Heap.get?_push_size _ rfl, rfl, rfl⟩, hl.push _⟩ (fun b hb => ?_) (by simp) hn fun s' acc m hi => ?_
      · show b < (s1.heap.push _).objs.size
        rw [Heap.size_push]
        rcases List.mem_cons.mp hb with q | q
        · rw [q]; exact Nat.lt_succ_self _
        · rw [List.mem_singleton.mp q]; exact Nat.lt_succ_of_lt hlt
      · obtain ⟨k, es⟩ := moved_kept (s1 := s1) (fun _ _ e => e) (Nat.le_refl _) (fun b o e => Heap.get?_push_of_some _ e) (by rw [Heap.size_push]; omega) m
        rw [es]
        have I3 : Inv X pins σ H1 { s1 with heap := s'.heap, toks := s'.toks } := I1.kept (t' := s'.toks) k
        refine ⟨.ref s'.heap.objs.size, upd H1 s'.heap.objs.size (.tup xs.reverse), I3.laid (t' := s'.toks) (fun c o e => Heap.get?_push_of_some _ e) (Nat.le_refl _) (show ObjOk X.prog X.w _ _ _ (.tup xs.reverse) from ⟨by rw [List.length_reverse]; exact hz, acc.toList, vals_rev rv hi, ?_⟩), rfl, q _ (I3.hok.fresh (Nat.le_refl _))⟩
        rw [Array.toArray_toList]
        exact IsTup.new _ _
  | false =>
    obtain rfl : nm = "list" := hnm
    refine Call_ (ld_blt I hg hm boot_list (PyProof.Rows.callWith_type1 (args_cons (Call_ (ld_blt I hg2 hm2 PyProof.Rows.boot_reversed (PyProof.Rows.callWith_type1 (args_cons (thn (he.run pins s σ H _ I h) fun u s1 ⟨v, H1, I1, r1, q1⟩ => args_nil ?_) hs) hs rfl))) hs2) hs2 rfl))
    obtain ⟨a, xs, ev, hq, hz0, q⟩ := q1
    subst ev
    obtain rfl : u = Value.ref a := r1
    rcases hq with hq | hq
    · obtain ⟨its, rv, p', hz⟩ := I1.list hq
      refine call_reversed_list p'.isList (args_nil ?_)
      have hl := p'.isList
      obtain ⟨ol, hol, _⟩ := id hl
      have hlt := Heap.lt_size hol
      have hne : a ≠ s1.heap.objs.size := Nat.ne_of_lt hlt
      have hn : its.toArray.size ≤ sizeLine := by rw [List.size_toArray, ← rv.length]; exact hz
      have e0 : ((its.toArray.size : Nat) : Int) - 1 - ((0 : Nat) : Int) = (its.toArray.size : Int) - 1 := by omega
      refine call_list_it (Ty := "list_reverseiterator") ((Walks.listRev (prog := X.prog) (w := X.w) (A := X.A.in1.in1) (I1.ok.hd hc) s1.heap.objs.size a hne its.toArray).toS) (hint_lri2 _ _ _) (fun s st => Heap.IsRevIter.typeIs st.2.1) rfl rfl ⟨Nat.zero_le _, by rw [e0]; exact ⟨_, Heap.get?_push_size _ rfl, rfl, rfl⟩, hl.push _⟩ (fun b hb => ?_) (by simp) hn fun s' acc c' m hS hi => ?_
      · show b < (s1.heap.push _).objs.size
        rw [Heap.size_push]
        rcases List.mem_cons.mp hb with q | q
        · rw [q]; exact Nat.lt_succ_self _
        · rw [List.mem_singleton.mp q]; exact Nat.lt_succ_of_lt hlt
      · obtain ⟨k, es⟩ := moved_kept (s1 := s1) (fun _ _ e => e) (Nat.le_refl _) (fun b o e => Heap.get?_push_of_some _ e) (by rw [Heap.size_push]; omega) m
        rw [es]
        have hge : s1.heap.objs.size ≤ (s1.heap.push (revObj a ((its.toArray.size : Int) - 1))).objs.size := by rw [Heap.size_push]; omega
        refine ⟨.ref _, upd H1 _ (.lst xs.reverse), I1.laid (t' := s'.toks) k hge (show ObjOk X.prog X.w _ _ _ (.lst xs.reverse) from ⟨by rw [List.length_reverse]; exact hz, acc.toList, c', vals_rev rv hi, ?_⟩), rfl, q _ (I1.hok.fresh hge)⟩
        rw [Array.toArray_toList]
        exact hS
    · obtain ⟨its, rv, p', hz⟩ := I1.tuple hq
      have hn63 := line63
      have hlen := rv.length
      refine call_reversed_tup p' (fun A E Q k => PyProof.Rows.len_tuple p' (by simp only [List.size_toArray]; omega) k) (args_nil ?_)
      have hl := p'
      obtain ⟨ol, hol, _⟩ := id hl
      have hlt := Heap.lt_size hol
      have hne : a ≠ s1.heap.objs.size := Nat.ne_of_lt hlt
      have hn : its.toArray.size ≤ sizeLine := by rw [List.size_toArray, ← rv.length]; exact hz
      have e0 : ((its.toArray.size : Nat) : Int) - 1 - ((0 : Nat) : Int) = (its.toArray.size : Int) - 1 := by omega
      refine call_list_it (Ty := "reversed") (walks_rt (prog := X.prog) (w := X.w) (A := X.A.in1.in1) (I1.ok.hd hc) s1.heap.objs.size a hne its.toArray hn) (hint_rt _ _ _ (by simp only [List.size_toArray]; omega)) (fun s st => st.2.1.typeIs) rfl rfl ⟨Nat.zero_le _, by rw [e0]; exact ⟨_, Heap.get?_push_size _ rfl, rfl, rfl⟩, hl.push _⟩ (fun b hb => ?_) (by simp) hn fun s' acc c' m hS hi => ?_
      · show b < (s1.heap.push _).objs.size
        rw [Heap.size_push]
        rcases List.mem_cons.mp hb with q | q
        · rw [q]; exact Nat.lt_succ_self _
        · rw [List.mem_singleton.mp q]; exact Nat.lt_succ_of_lt hlt
      · obtain ⟨k, es⟩ := moved_kept (s1 := s1) (fun _ _ e => e) (Nat.le_refl _) (fun b o e => Heap.get?_push_of_some _ e) (by rw [Heap.size_push]; omega) m
        rw [es]
        have hge : s1.heap.objs.size ≤ (s1.heap.push (rtObj a ((its.toArray.size : Int) - 1))).objs.size := by rw [Heap.size_push]; omega
        refine ⟨.ref _, upd H1 _ (.lst xs.reverse), I1.laid (t' := s'.toks) k hge (show ObjOk X.prog X.w _ _ _ (.lst xs.reverse) from ⟨by rw [List.length_reverse]; exact hz, acc.toList, c', vals_rev rv hi, ?_⟩), rfl, q _ (I1.hok.fresh hge)⟩
        rw [Array.toArray_toList]
        exact hS
end
end DL

namespace DL
open PySem PySem.Spec L2 RZ RT
open PyProof.Rows hiding St

/-! ### in, not in: a list or a tuple -/
def rInA (K : PySem.W.Frag) (neg : Bool) : R2 := fun x y H Q => ∃ d ds, Dp K H x d ∧ (Dp K H y (.list ds) ∨ Dp K H y (.tuple ds)) ∧ SeqAt.shaped d = true ∧ (SeqAt.shaped (.list ds) = true ∧ SeqAt.shaped (.tuple ds) = true) ∧ Q (.bl (neg != ds.any fun z => PyData.eqv z d)) H
section
variable {X : Cx}
theorem op_inA (hu : X.A.units + 65 < cLine) : OpR X (compareOp .In) (rInA X.K false) := by
  intro pins s σ H x y v u Q I rx ry h
  obtain ⟨d, ds, hd, he, sd, se, q⟩ := h
  obtain ⟨as, r1⟩ := Dp.reads I d x v hd rx
  rw [Bool.false_bne] at q
  rcases he with he | he
  · obtain ⟨bs, r2⟩ := Dp.reads I (.list ds) y u he ry
    exact SeqAt.in_list_reads r2 r1 (SeqAt.canLay_of_shaped se.1) (SeqAt.canLay_of_shaped sd) (room_in_shaped sd hu) ⟨.bl _, H, I, rfl, q⟩
  · obtain ⟨bs, r2⟩ := Dp.reads I (.tuple ds) y u he ry
    exact SeqAt.in_tuple_reads r2 r1 (SeqAt.canLay_of_shaped se.1) (SeqAt.canLay_of_shaped sd) (room_in_shaped sd hu) ⟨.bl _, H, I, rfl, q⟩
theorem op_notInA (hu : X.A.units + 65 < cLine) : OpR X (compareOp .NotIn) (rInA X.K true) := by
  intro pins s σ H x y v u Q I rx ry h
  obtain ⟨d, ds, hd, he, sd, se, q⟩ := h
  obtain ⟨as, r1⟩ := Dp.reads I d x v hd rx
  rw [Bool.true_bne] at q
  rcases he with he | he
  · obtain ⟨bs, r2⟩ := Dp.reads I (.list ds) y u he ry
    exact SeqAt.notIn_list_reads r2 r1 (SeqAt.canLay_of_shaped se.1) (SeqAt.canLay_of_shaped sd) (room_in_shaped sd hu) ⟨.bl _, H, I, rfl, q⟩
  · obtain ⟨bs, r2⟩ := Dp.reads I (.tuple ds) y u he ry
    exact SeqAt.notIn_tuple_reads r2 r1 (SeqAt.canLay_of_shaped se.1) (SeqAt.canLay_of_shaped sd) (room_in_shaped sd hu) ⟨.bl _, H, I, rfl, q⟩
end
def dInA (M : Cells) (d e : D) : Option Bool := match pyAt M d, pyAt M e with
  | some p, some (.list qs) => if SeqAt.shaped p && (SeqAt.shaped (.list qs) && SeqAt.shaped (.tuple qs)) then some (qs.any fun z => PyData.eqv z p) else none
  | some p, some (.tuple qs) => if SeqAt.shaped p && (SeqAt.shaped (.list qs) && SeqAt.shaped (.tuple qs)) then some (qs.any fun z => PyData.eqv z p) else none
  | _, _ => none
def gInA (neg : Bool) : Cells → D → D → Option D := fun M d e => (dInA M d e).map fun b => .bl (neg != b)
section
variable {T : TPr} {H : Hp} {N : Addr → Prop} {α : List Addr}
theorem od_inA {K : PySem.W.Frag} {neg : Bool} : OpD T (rInA K neg) (gInA neg) := by
  intro N H M α d e x y z Q c r1 r2 h k
  unfold gInA dInA at h
  split at h
  · rename_i p qs q1 q2
    by_cases hs : (SeqAt.shaped p && (SeqAt.shaped (.list qs) && SeqAt.shaped (.tuple qs))) = true
    · rw [if_pos hs] at h
      cases h
      obtain ⟨s1, s2⟩ := Bool.and_eq_true_iff.mp hs
      obtain ⟨s2, s3⟩ := Bool.and_eq_true_iff.mp s2
      exact ⟨p, qs, pyAt_rel c r1 q1, .inl (pyAt_rel c r2 q2), s1, ⟨s2, s3⟩, k _ H c Ext.refl rel_bl⟩
    · rw [if_neg hs] at h; cases h
  · rename_i p qs q1 q2
    by_cases hs : (SeqAt.shaped p && (SeqAt.shaped (.list qs) && SeqAt.shaped (.tuple qs))) = true
    · rw [if_pos hs] at h
      cases h
      obtain ⟨s1, s2⟩ := Bool.and_eq_true_iff.mp hs
      obtain ⟨s2, s3⟩ := Bool.and_eq_true_iff.mp s2
      exact ⟨p, qs, pyAt_rel c r1 q1, .inr (pyAt_rel c r2 q2), s1, ⟨s2, s3⟩, k _ H c Ext.refl rel_bl⟩
    · rw [if_neg hs] at h; cases h
  · cases h
/-- the first place of an equal one -/
def placeOf (d : PyData) : List PyData → Option Nat
  | [] => none
  | z :: r => if PyData.eqv z d = true then some 0 else (placeOf d r).map (· + 1)
theorem placeOf_some {d : PyData} : ∀ {ds : List PyData} {j : Nat}, placeOf d ds = some j → (∃ z, ds[j]? = some z ∧ PyData.eqv z d = true) ∧ ∀ (m : Nat) (z' : PyData), m < j → ds[m]? = some z' → PyData.eqv z' d = false
  | [], _, h => by cases h
  | z :: r, j, h => by
    unfold placeOf at h
    by_cases e : PyData.eqv z d = true
    · rw [if_pos e] at h
      cases h
      exact ⟨⟨z, rfl, e⟩, fun m z' hm => absurd hm (Nat.not_lt_zero m)⟩
    · rw [if_neg e] at h
      cases q : placeOf d r with
      | none => rw [q] at h; cases h
      | some i =>
        rw [q] at h
        simp at h
        subst h
        obtain ⟨⟨y, h1, h2⟩, h3⟩ := placeOf_some q
        refine ⟨⟨y, by simpa using h1, h2⟩, fun m z' hm hz => ?_⟩
        cases m with
        | zero => simp at hz; subst hz; simpa using e
        | succ m => exact h3 m z' (by omega) (by simpa using hz)
def gIndex : Cells → D → List D → Option (D × Cells) := fun M e l => match l with
  | [d] => match pyAt M d, pyAt M e, e with
    | some p, some (.list qs), .lst _ => if (SeqAt.shaped p && SeqAt.shaped (.list qs)) = true then (placeOf p qs).map fun j => (.int j, M) else none
    | some p, some (.list qs), .loc _ => if (SeqAt.shaped p && SeqAt.shaped (.list qs)) = true then (placeOf p qs).map fun j => (.int j, M) else none
    | _, _, _ => none
  | _ => none
theorem dp_ref {K : PySem.W.Frag} {v : V} {qs : List PyData} (h : Dp K H v (.list qs)) : ∃ a, v = .ref a := by
  cases h with
  | lst _ _ => exact ⟨_, rfl⟩
theorem md_index {K : PySem.W.Frag} : MtD T (rIndexD K) gIndex := by
  intro N H M α e l x xs z M' Q c r1 r2 h k
  match l, h, r2 with
  | [d], h, r2 =>
    obtain ⟨y, rfl, r3⟩ := rels1 r2
    unfold gIndex at h
    dsimp only at h
    have go : ∀ p qs, pyAt M d = some p → pyAt M e = some (.list qs) → ((if (SeqAt.shaped p && SeqAt.shaped (.list qs)) = true then (placeOf p qs).map fun j => (D.int j, M) else none) = some (z, M')) → rIndexD K x [y] H Q := by
      intro p qs q1 q2 h
      by_cases hs : (SeqAt.shaped p && SeqAt.shaped (.list qs)) = true
      · rw [if_pos hs] at h
        obtain ⟨s1, s2⟩ := Bool.and_eq_true_iff.mp hs
        cases q : placeOf p qs with
        | none => rw [q] at h; cases h
        | some j =>
          rw [q] at h
          cases h
          obtain ⟨⟨w, h1, h2⟩, h3⟩ := placeOf_some q
          have dl := pyAt_rel (K := K) c r1 q2
          obtain ⟨a, rfl⟩ := dp_ref dl
          exact ⟨a, y, p, qs, j, w, rfl, rfl, dl, pyAt_rel c r3 q1, s2, s1, h1, h2, h3, k _ H c Ext.refl rel_int⟩
      · rw [if_neg hs] at h; cases h
    cases q1 : pyAt M d with
    | none => rw [q1] at h; cases h
    | some p =>
      cases q2 : pyAt M e with
      | none => rw [q1, q2] at h; cases h
      | some w =>
        rw [q1, q2] at h
        cases w <;> try (cases h; done)
        rename_i qs
        cases e <;> first | exact go p qs q1 q2 h | (cases h; done)
  | [], h, _ => cases h
  | _ :: _ :: _, h, _ => cases h
/-! ### tuple(reversed(x)), list(reversed(x)) -/
theorem Rels.rev {H : Hp} {N : Addr → Prop} {α : List Addr} : ∀ {l : List D} {vs : List V}, Rels H N α l vs → Rels H N α l.reverse vs.reverse
  | [], _, h => by unfold Rels at h; rw [h]; unfold Rels; rfl
  | d :: l, _, h => by
    unfold Rels at h
    obtain ⟨v, r, h1, h2, h3⟩ := h
    rw [h1, List.reverse_cons, List.reverse_cons]
    exact Rels.append (Rels.one h2) (Rels.rev h3)
def rRev (K : PySem.W.Frag) (tp : Bool) : V → Hp → VK → Prop := fun v H1 Q => ∃ (a : Addr) (xs : List V), v = .ref a ∧ (SqL K H1 a xs ∨ SqT K H1 a xs) ∧ xs.length ≤ 1000000 ∧ ∀ q, H1 q = none → Q (.ref q) (upd H1 q (if tp then .tup xs.reverse else .lst xs.reverse))
def gRev (tp : Bool) : Cells → D → Option D := fun M d => match seqOf M d with
  | some (_, l) => if l.length ≤ 1000000 then some (if tp then .tup l.reverse else .lst l.reverse) else none
  | none => none
theorem ud_rev {K : PySem.W.Frag} {tp : Bool} : UnD T (rRev K tp) (gRev tp) := by
  intro N H M α d x z Q c r h k
  unfold gRev at h
  cases q : seqOf M d with
  | none => rw [q] at h; cases h
  | some p =>
    obtain ⟨b, l⟩ := p
    rw [q] at h
    dsimp only at h
    by_cases hl : l.length ≤ 1000000
    · rw [if_pos hl] at h
      cases h
      obtain ⟨a, vs, h1, h2, h3, h4⟩ := seq_rel c r q
      refine ⟨a, vs, h1, seq_sq h2 h3, by rw [← Rels.length h4]; exact hl, fun p hp => ?_⟩
      cases tp with
      | true => exact k _ _ (c.grow (new_keep hp)) (Ext.grow (new_keep hp)) (tup_new h4.rev c.sub hp)
      | false => exact k _ _ (c.grow (new_keep hp)) (Ext.grow (new_keep hp)) (lst_new h4.rev c.sub c.som hp)
    · rw [if_neg hl] at h; cases h
end
section
variable {X : Cx} {T : TPr} {W : WX} {e : Expr} {f : Sx → R D}
theorem e_tupRev {p p2 pos pos2 : Pos} (hc : X.calm = true) (hg : Gl X "tuple") (hm : X.mg "tuple" = none) (hg2 : Gl X "reversed") (hm2 : X.mg "reversed" = none) (he : PE X e (tD T X.mg W f))
    (hs : starEach [e] X.env = (false, eval e X.env) :: starEach [] X.env := by rfl)
    (hs2 : starEach [.Call (.Name "reversed" p2) [e] [] pos2] X.env = (false, eval (.Call (.Name "reversed" p2) [e] [] pos2) X.env) :: starEach [] X.env := by rfl) :
    PE X (.Call (.Name "tuple" p) [.Call (.Name "reversed" p2) [e] [] pos2] [] pos) (tD T X.mg W (fUn (gRev true) f)) := (pe_revOf true rfl hc hg hm hg2 hm2 he hs hs2).imp fun σ H Q h => un_imp (r := rRev X.K true) ud_rev h
theorem e_lstRev {p p2 pos pos2 : Pos} (hc : X.calm = true) (hg : Gl X "list") (hm : X.mg "list" = none) (hg2 : Gl X "reversed") (hm2 : X.mg "reversed" = none) (he : PE X e (tD T X.mg W f))
    (hs : starEach [e] X.env = (false, eval e X.env) :: starEach [] X.env := by rfl)
    (hs2 : starEach [.Call (.Name "reversed" p2) [e] [] pos2] X.env = (false, eval (.Call (.Name "reversed" p2) [e] [] pos2) X.env) :: starEach [] X.env := by rfl) :
    PE X (.Call (.Name "list" p) [.Call (.Name "reversed" p2) [e] [] pos2] [] pos) (tD T X.mg W (fUn (gRev false) f)) := (pe_revOf false rfl hc hg hm hg2 hm2 he hs hs2).imp fun σ H Q h => un_imp (r := rRev X.K false) ud_rev h
end
/-! ### min, max under their own names -/
theorem cr_min {X : Cx} (hc : X.calm = true) (hu : X.A.units + 64 < cLine) : CallR X (.builtin "min") (rBestD X.K true) := cr_best true hc hu
theorem cr_max {X : Cx} (hc : X.calm = true) (hu : X.A.units + 64 < cLine) : CallR X (.builtin "max") (rBestD X.K false) := cr_best false hc hu
end DL

namespace DL
open PySem PySem.Spec L2
open PyProof.Rows hiding St

/-! ### a block within a block -/
theorem blkOk_in {N : List Str} {scope sc0 scope2 : Scope} {own : List (Str × Nat)} {cl : List (Str × Addr)} {C : Addr} {env : Env} (he : env.scope = sc0) (h : blkC N (relS scope sc0) scope2 own = true) : BlkOk N (compEnvC scope cl C env).scope scope2 own := by
  subst he
  exact blkOk_by h
/-! ### rules: a new list of two fors -/
section
variable {X : Cx} {T : TPr} {W : WX}
theorem f_lc2 {elt tg iter tg1 iter1 : Expr} {ifs ifs1 : List Expr} {scope : Scope} {own : List (Str × Nat)} {vs1 : List Nat} {pos : Pos} {fi fi1 : Sx → R (List D)} {g g1 : D → Sx → Option Sx} {ft ft1 : Sx → R Bool} {fe : Sx → R D}
    (hc : X.calm = true) (hN : X.N.Nodup) (hi : PI X tg iter (tI T X.mg W fi)) (ok : BlkOk X.N X.env.scope scope own) (hv : ∀ i ∈ vs1, i ∈ own.map (·.2))
    (hg : ∀ (s : Shared) (H : Hp) (C : Addr) (cl : List (Str × Addr)) (fp : List Addr), PG (X.blk s H scope (compEnvC scope cl C X.env) fp) tg (tT T (own.map (·.2)) g)) (ht : ∀ (s : Shared) (H : Hp) (C : Addr) (cl : List (Str × Addr)) (fp : List Addr), PTs (X.blk s H scope (compEnvC scope cl C X.env) fp) ifs (tB' T X.mg W0 ft))
    (hi1 : ∀ (s : Shared) (H : Hp) (C : Addr) (cl : List (Str × Addr)) (fp : List Addr), PI (X.blk s H scope (compEnvC scope cl C X.env) fp) tg1 iter1 (tI T X.mg W0 fi1))
    (hg1 : ∀ (s : Shared) (H : Hp) (C : Addr) (cl : List (Str × Addr)) (fp : List Addr), PG (X.blk s H scope (compEnvC scope cl C X.env) fp) tg1 (tT T vs1 g1)) (ht1 : ∀ (s : Shared) (H : Hp) (C : Addr) (cl : List (Str × Addr)) (fp : List Addr), PTs (X.blk s H scope (compEnvC scope cl C X.env) fp) ifs1 (tB' T X.mg W0 ft1))
    (he : ∀ (s : Shared) (H : Hp) (C : Addr) (cl : List (Str × Addr)) (fp : List Addr), PE (X.blk s H scope (compEnvC scope cl C X.env) fp) elt (tD T X.mg W0 fe)) (hs : ∀ x, foldedSetIterable iter X.env x = pure x := by intro _; rfl) (hs1 : ∀ env x, foldedSetIterable iter1 env x = pure x := by intro _ _; rfl) :
    PE X (.ListComp elt [⟨tg, iter, ifs, 0⟩, ⟨tg1, iter1, ifs1, 0⟩] scope pos) (tFL T X.mg W (fLc2 fi g ft fi1 g1 ft1 fe (own.map (·.2)) vs1)) := (pe_lc2 hc hN hi ok hv hg ht hi1 hg1 ht1 he hs hs1).imp fun _ _ _ => lc2_imp
theorem s_setLc2 (i : Nat) {y : Str} {py pos spos : Pos} {elt tg iter tg1 iter1 : Expr} {ifs ifs1 : List Expr} {scope : Scope} {own : List (Str × Nat)} {vs1 : List Nat} {fi fi1 : Sx → R (List D)} {g g1 : D → Sx → Option Sx} {ft ft1 : Sx → R Bool} {fe : Sx → R D}
    (hc : X.calm = true) (hN : X.N.Nodup) (hi : PI X tg iter (tI T X.mg W fi)) (ok : BlkOk X.N X.env.scope scope own) (hv : ∀ i ∈ vs1, i ∈ own.map (·.2))
    (hg : ∀ (s : Shared) (H : Hp) (C : Addr) (cl : List (Str × Addr)) (fp : List Addr), PG (X.blk s H scope (compEnvC scope cl C X.env) fp) tg (tT T (own.map (·.2)) g)) (ht : ∀ (s : Shared) (H : Hp) (C : Addr) (cl : List (Str × Addr)) (fp : List Addr), PTs (X.blk s H scope (compEnvC scope cl C X.env) fp) ifs (tB' T X.mg W0 ft))
    (hi1 : ∀ (s : Shared) (H : Hp) (C : Addr) (cl : List (Str × Addr)) (fp : List Addr), PI (X.blk s H scope (compEnvC scope cl C X.env) fp) tg1 iter1 (tI T X.mg W0 fi1))
    (hg1 : ∀ (s : Shared) (H : Hp) (C : Addr) (cl : List (Str × Addr)) (fp : List Addr), PG (X.blk s H scope (compEnvC scope cl C X.env) fp) tg1 (tT T vs1 g1)) (ht1 : ∀ (s : Shared) (H : Hp) (C : Addr) (cl : List (Str × Addr)) (fp : List Addr), PTs (X.blk s H scope (compEnvC scope cl C X.env) fp) ifs1 (tB' T X.mg W0 ft1))
    (he : ∀ (s : Shared) (H : Hp) (C : Addr) (cl : List (Str × Addr)) (fp : List Addr), PE (X.blk s H scope (compEnvC scope cl C X.env) fp) elt (tD T X.mg W0 fe)) (hy : X.N[i]? = some y := by rfl) (hyl : X.env.scope.names.lookup y = some .local := by rfl)
    (hsw : swapsWith (.ListComp elt [⟨tg, iter, ifs, 0⟩, ⟨tg1, iter1, ifs1, 0⟩] scope pos) (some (.Name y py)) spos.line X.env = pure true := by exact sw_true rfl rfl rfl (by decide +kernel)) (hs : ∀ x, foldedSetIterable iter X.env x = pure x := by intro _; rfl) (hs1 : ∀ env x, foldedSetIterable iter1 env x = pure x := by intro _ _; rfl) :
    PS X (.Assign [.Name y py] (.ListComp elt [⟨tg, iter, ifs, 0⟩, ⟨tg1, iter1, ifs1, 0⟩] scope pos) spos) (tS T X.mg W (fAsg (fFz (fLc2 fi g ft fi1 g1 ft1 fe (own.map (·.2)) vs1)) (bName i))) :=
  (ps_setLc2 hc hN hy hyl hsw hi ok hv hg ht hi1 hg1 ht1 he hs hs1).imp fun D σ H h => by
    have h2 := set_imp h
    exact lc2_imp (fz_imp h2)
/-! ### a list so many times -/
def repL (M : Cells) : D → Option (List D)
  | .lst l => some l
  | .loc n => lat M n
  | _ => none
def gRep : Cells → D → D → Option D := fun M d e => match repL M d, e with
  | some l, .int k => if -1000000 ≤ k ∧ k ≤ 1000000 ∧ l.length * k.toNat ≤ 100000 then some (.lst (List.replicate k.toNat l).flatten) else none
  | _, _ => none
theorem rels_flat {H : Hp} {N : Addr → Prop} {α : List Addr} {l : List D} {vs : List V} (h : Rels H N α l vs) : ∀ k : Nat, Rels H N α (List.replicate k l).flatten (List.replicate k vs).flatten
  | 0 => by simp [Rels]
  | k + 1 => by
    rw [List.replicate_succ, List.replicate_succ, List.flatten_cons, List.flatten_cons]
    exact Rels.append (rels_flat h k) h
theorem od_rep : OpD T rRep gRep := by
  intro N H M α d e x y z Q c r1 r2 h k
  unfold gRep at h
  cases q : repL M d with
  | none => rw [q] at h; cases h
  | some l =>
    rw [q] at h
    cases e <;> try (cases h; done)
    rename_i i
    dsimp only at h
    by_cases hk : -1000000 ≤ i ∧ i ≤ 1000000 ∧ l.length * i.toNat ≤ 100000
    · rw [if_pos hk] at h
      cases h
      have hr : ∃ a vs, x = .ref a ∧ H a = some (.lst vs) ∧ Rels H N α l vs := by
        cases d <;> try (cases q; done)
        · cases q
          unfold Rel at r1
          obtain ⟨a, vs, h1, h0, h2, h3⟩ := r1
          exact ⟨a, vs, h1, h2, h3⟩
        · obtain ⟨a, vs, h1, h2, h3, h4⟩ := loc_rel c r1 q
          exact ⟨a, vs, h1, h3, h4⟩
      obtain ⟨a, vs, h1, h2, h3⟩ := hr
      unfold Rel at r2
      have hl := Rels.length h3
      refine ⟨a, i, vs, h1, r2, h2, by omega, by omega, ?_, fun p hp => ?_⟩
      · rw [← hl]
        exact Nat.le_trans hk.2.2 (by decide)
      · exact k _ _ (c.grow (new_keep hp)) (Ext.grow (new_keep hp)) (lst_new (rels_flat h3 _) c.sub c.som hp)
    · rw [if_neg hk] at h; cases h
/-! ### list(range(a, b)) -/
def rgD (a b : Int) : List D := (List.range (b - a).toNat).map fun i => D.int (a + (i : Nat))
def fLstRg (fa fb : Sx → R D) : Sx → R D := fun s => (fa s).bind fun d M1 => (fb ⟨s.ρ, M1⟩).bind fun e M2 => match d, e with
  | .int i, .int j => if -1000000 ≤ i ∧ i ≤ 1000000 ∧ -1000000 ≤ j ∧ j ≤ 1000000 then .ok (.lst (rgD i j)) M2 else .no
  | _, _ => .no
theorem rels_rg {H : Hp} {N : Addr → Prop} {α : List Addr} (i j : Int) : Rels H N α (rgD i j) (rgV i j) := by
  have key : ∀ l : List Nat, Rels H N α (l.map fun k => D.int (i + (k : Nat))) (l.map fun k => V.int (i + (k : Nat))) := fun l => by
    induction l with
    | nil => simp [Rels]
    | cons k l ih => exact Rels.cons rel_int ih
  exact key _
theorem lstRg_imp {fa fb : Sx → R D} {σ : St} {H : Hp} {Q : VK} (h : tD T X.mg W (fLstRg fa fb) σ H Q) : tLstRg (tRg2 (tD T X.mg W fa) (tD T X.mg W fb)) σ H Q := by
  obtain ⟨s, α, N, hs, p⟩ := h
  refine ⟨s, α, N, hs, Post.mono (fun x H1 h1 => ?_) (Post.bind (G := RelD) p)⟩
  obtain ⟨M1, α1, N1, d, s1, e1, g1, p1⟩ := h1
  refine ⟨_, α1, N1, s1, Post.mono (fun y H2 h2 => ?_) (Post.bind (G := RelD) p1)⟩
  obtain ⟨M2, α2, N2, e, s2, e2, g2, p2⟩ := h2
  cases d <;> try exact p2.elim
  cases e <;> try exact p2.elim
  rename_i i j
  dsimp only at p2
  obtain ⟨hij, p3⟩ := p2.ite
  unfold RelD Rel at g1 g2
  refine ⟨i, j, g1, g2, ⟨by omega, by omega, by omega, by omega, by omega⟩, fun q hq => ?_⟩
  exact p3 _ _ α2 N2 (StC.keep s2 (s2.c.grow (new_keep hq)) (Ext.grow (new_keep hq))) (Ext.grow (new_keep hq)) (lst_new (rels_rg i j) s2.c.sub s2.c.som hq)
theorem e_lstRg {a b : Expr} {fa fb : Sx → R D} {p p2 pos pos2 : Pos} (hc : X.calm = true) (hg : Gl X "list") (hm : X.mg "list" = none) (hg2 : Gl X "range") (hm2 : X.mg "range" = none) (ha : PE X a (tD T X.mg W fa)) (hb : PE X b (tD T X.mg W fb))
    (na : starEach [a, b] X.env = (false, eval a X.env) :: starEach [b] X.env := by rfl) (nb : starEach [b] X.env = (false, eval b X.env) :: starEach [] X.env := by rfl) (hp : (backTo pos2 (starEach [b] X.env)).any (·.1) = false := by rfl)
    (nc : starEach [.Call (.Name "range" p2) [a, b] [] pos2] X.env = (false, eval (.Call (.Name "range" p2) [a, b] [] pos2) X.env) :: starEach [] X.env := by rfl) :
    PE X (.Call (.Name "list" p) [.Call (.Name "range" p2) [a, b] [] pos2] [] pos) (tD T X.mg W (fLstRg fa fb)) := (pe_listRg hc hg hm (prg_2 hg2 hm2 ha hb na nb hp) nc).imp fun _ _ _ => lstRg_imp
end
/-! ### a call that sees our lists as they are, and does not keep them -/
def frzD (M : Cells) : D → Option D
  | .loc n => match lat M n with
    | some l => if lfs l = true then some (.lst l) else none
    | none => none
  | d => if d.lf = true then some d else none
def frzL (M : Cells) : List D → Option (List D)
  | [] => some []
  | d :: r => match frzD M d, frzL M r with
    | some e, some l => some (e :: l)
    | _, _ => none
def fCallF (p : List D → Pu) (f : Sx → R (List D)) : Sx → R D := fun s => (f s).bind fun ds M => match frzL M ds with
  | some es => (match p es with
    | .ok d => if d.nol = true then .ok d M else .no
    | .ex e => if e.part.isNone = true then .ex e M else .no
    | .no => .no)
  | none => .no
section
variable {T : TPr} {H : Hp} {N : Addr → Prop} {α : List Addr} {mg : Str → Option Value} {W : WX} {σ : St}
theorem frzD_rel {M : Cells} {d e : D} {v : V} (c : StC T N H M α) (h : frzD M d = some e) (r : Rel H N α d v) : Rel H (fun b => N b ∧ b ∉ α) [] e v := by
  have gen : d.lf = true → d = e → Rel H (fun b => N b ∧ b ∉ α) [] e v := fun hl he => by
    subst he
    exact Rel.less (fun a ha => ha.1) (Rel.lf hl r)
  cases d
  case loc n =>
    unfold frzD at h
    dsimp only at h
    cases q : lat M n with
    | none => rw [q] at h; cases h
    | some l =>
      rw [q] at h
      dsimp only at h
      by_cases hl : lfs l = true
      · rw [if_pos hl] at h
        cases h
        obtain ⟨a, vs, h1, h2, h3, h4⟩ := loc_rel c r q
        unfold Rel
        exact ⟨a, vs, h1, fun z => z.2 (List.mem_of_getElem? h2), h3, Rels.less (fun a ha => ha.1) (Rels.lf hl h4)⟩
      · rw [if_neg hl] at h; cases h
  all_goals
    unfold frzD at h
    dsimp only at h
    split at h
    · rename_i hl
      cases h
      exact gen hl rfl
    · cases h
theorem frzL_rel {M : Cells} (c : StC T N H M α) : ∀ {ds es : List D} {vs : List V}, frzL M ds = some es → Rels H N α ds vs → Rels H (fun b => N b ∧ b ∉ α) [] es vs
  | [], es, _, h, r => by unfold frzL at h; cases h; unfold Rels at r ⊢; exact r
  | d :: ds, es, _, h, r => by
    unfold frzL at h
    cases q1 : frzD M d with
    | none => rw [q1] at h; simp at h
    | some e =>
      cases q2 : frzL M ds with
      | none => rw [q1, q2] at h; simp at h
      | some l =>
        rw [q1, q2] at h
        simp at h
        subst h
        unfold Rels at r
        obtain ⟨v, w, rfl, r1, r2⟩ := r
        exact Rels.cons (frzD_rel c q1 r1) (frzL_rel c q2 r2)
theorem callF_imp {n : Nat} {p : List D → Pu} {f : Sx → R (List D)} (hn : ∀ ds, p ds ≠ .no → ds.length = n) {Q : VK} (h : tD T mg W (fCallF p f) σ H Q) : tCallS (spP T mg n p) (WE W) (tL T mg W f) σ H Q := by
  obtain ⟨s, α, N, hs, q⟩ := h
  refine ⟨s, α, N, hs, Post.mono (fun vs H1 h1 => ?_) (Post.bind (G := RelL) q)⟩
  obtain ⟨M1, α1, N1, ds, s1, e1, g1, p1⟩ := h1
  cases qf : frzL M1 ds with
  | none => rw [qf] at p1; exact p1.elim
  | some es =>
    rw [qf] at p1
    dsimp only at p1
    refine ⟨es, [], [], (fun b => N1 b ∧ b ∉ α1), hn es fun z => by rw [z] at p1; exact p1, ⟨by simp, by simp, fun a ha => s1.c.som a ha.1, rfl, fun n l q => by simp at q, s1.c.tab⟩, frzL_rel s1.c qf g1, ?_⟩
    have ext : ∀ H', Ext [] (fun b => N1 b ∧ b ∉ α1) H1 [] (fun b => N1 b ∧ b ∉ α1) H' → Ext [] N1 H1 [] N1 H' := fun H' e => ⟨⟨[], by simp, by simp⟩, fun _ h => h, fun _ h => .inl h, fun b o h t u => e.keep b o h t u, e.there⟩
    have stc : ∀ H', Ext [] (fun b => N1 b ∧ b ∉ α1) H1 [] (fun b => N1 b ∧ b ∉ α1) H' → StC T (fun b => N1 b ∧ b ∉ α1) H' [] [] → StC T N1 H' [] [] := fun H' e c => ⟨by simp, by simp, fun a ha => e.there a (s1.c.som a ha), rfl, fun n l q => by simp at q, c.tab⟩
    unfold lift
    cases hp : p es with
    | no => rw [hp] at p1; exact p1
    | ok d =>
      rw [hp] at p1
      dsimp only at p1
      obtain ⟨hd, p2⟩ := p1.ite
      exact fun v H' c e r => p2 v H' α1 N1 (StC.keep s1 (s1.c.ofNil (stc H' e c) (ext H' e)) (ext H' e).ofNil) (ext H' e).ofNil (Rel.nol hd r)
    | ex x =>
      rw [hp] at p1
      dsimp only at p1
      obtain ⟨hx, p2⟩ := p1.ite
      intro cls dd H' c e r
      refine p2 cls dd H' α1 N1 (StC.keep s1 (s1.c.ofNil (stc H' e c) (ext H' e)) (ext H' e).ofNil) (ext H' e).ofNil ⟨r.1, ?_⟩
      have r2 := r.2
      cases qx : x.part with
      | none => rw [qx] at r2; exact r2
      | some y => rw [qx] at hx; cases hx
end
section
variable {X : Cx} {T : TPr} {W : WX} {k n : Nat} {x : Str} {e : Expr} {es : List Expr} {p pos : Pos} {fl : Sx → R (List D)}
theorem e_callF {pu : List D → Pu} (B : Bd X W k) (F : Cal T X.prog X.w X.K X.mg X.base k x n (lift pu)) (hn : ∀ ds, pu ds ≠ .no → ds.length = n) (hg : Gl X x) (ha : PA X (e :: es) (tL T X.mg W fl)) (hdb : (x == ("__debug__" : Str)) = false := by decide)
    (he : starEach (e :: es) X.env = (false, eval e X.env) :: starEach es X.env := by rfl) (hpl : (backTo pos (starEach es X.env)).any (·.1) = false := by rfl) : PE X (.Call (.Name x p) (e :: es) [] pos) (tD T X.mg W (fCallF pu fl)) := by
  obtain ⟨f, fd, ps, h1, h2, h3, h4⟩ := F.ex
  exact (pe_callS h4 B.rm hg h1 h2 h3 (fun σ => passAt B.tk σ) ha hdb he hpl).imp fun _ _ _ => callF_imp hn
end
end DL

namespace Geo
abbrev P2 := Int × Int
def cr (u v : P2) : Int := u.1 * v.2 - u.2 * v.1
def tn (a b c : P2) : Int := (b.1 - a.1) * (c.2 - a.2) - (b.2 - a.2) * (c.1 - a.1)
def lt (a b : P2) : Prop := a.1 < b.1 ∨ (a.1 = b.1 ∧ a.2 < b.2)
instance (a b : P2) : Decidable (lt a b) := by unfold lt; infer_instance
def LP (u : P2) : Prop := 0 < u.1 ∨ (u.1 = 0 ∧ 0 < u.2)
def sb (a b : P2) : P2 := (a.1 - b.1, a.2 - b.2)
theorem lt_LP {a b : P2} : lt a b ↔ LP (sb b a) := by unfold lt LP sb; simp only; omega
theorem lt_trans {a b c : P2} (h : lt a b) (g : lt b c) : lt a c := by unfold lt at *; omega
theorem lt_irr {a : P2} : ¬ lt a a := by unfold lt; omega
theorem lt_asym {a b : P2} (h : lt a b) : ¬ lt b a := by unfold lt at *; omega
theorem lt_or (a b : P2) : lt a b ∨ a = b ∨ lt b a := by
  unfold lt
  by_cases h : a = b
  · exact .inr (.inl h)
  · have : a.1 ≠ b.1 ∨ a.2 ≠ b.2 := by
      by_cases h1 : a.1 = b.1
      · right; intro h2; exact h (Prod.ext h1 h2)
      · left; exact h1
    omega
theorem cr_id (u v w : P2) : v.1 * cr u w = u.1 * cr v w + w.1 * cr u v := by unfold cr; grind
theorem cr_tr {u v w : P2} (hu : LP u) (hv : LP v) (hw : LP w) (h1 : 0 ≤ cr u v) (h2 : 0 ≤ cr v w) : 0 ≤ cr u w := by
  rcases hv with hv | ⟨hv, hv2⟩
  · have e := cr_id u v w
    have a1 : 0 ≤ u.1 * cr v w := Int.mul_nonneg (by unfold LP at hu; omega) h2
    have a2 : 0 ≤ w.1 * cr u v := Int.mul_nonneg (by unfold LP at hw; omega) h1
    have : 0 ≤ v.1 * cr u w := by omega
    exact Int.nonneg_of_mul_nonneg_right this hv
  · unfold cr at *
    rw [hv] at h1 h2
    have k1 : w.1 = 0 := by
      rcases hw with hw | hw
      · have := Int.mul_pos hv2 hw; omega
      · exact hw.1
    rw [k1]
    have : 0 ≤ u.1 * w.2 := Int.mul_nonneg (by unfold LP at hu; omega) (by unfold LP at hw; omega)
    omega
theorem cr_tr1 {u v w : P2} (hu : LP u) (hv : LP v) (hw : LP w) (h1 : 0 < cr u v) (h2 : 0 ≤ cr v w) : 0 < cr u w := by
  rcases hv with hv | ⟨hv, hv2⟩
  · have e := cr_id u v w
    have u1 : 0 < u.1 := by
      rcases hu with hu | ⟨hu, hu2⟩
      · exact hu
      · unfold cr at h1; rw [hu] at h1
        have := Int.mul_pos hu2 hv; omega
    have : 0 < v.1 * cr u w := by
      rcases hw with hw | ⟨hw, hw2⟩
      · have a1 : 0 ≤ u.1 * cr v w := Int.mul_nonneg (by omega) h2
        have a2 : 0 < w.1 * cr u v := Int.mul_pos hw h1
        omega
      · have : 0 < cr v w := by
          unfold cr; rw [hw]
          have := Int.mul_pos hv hw2; omega
        have a1 : 0 < u.1 * cr v w := Int.mul_pos u1 this
        rw [hw] at e; omega
    exact Int.pos_of_mul_pos_right this hv
  · unfold cr at *
    rw [hv] at h1 h2
    have k1 : w.1 = 0 := by
      rcases hw with hw | hw
      · have := Int.mul_pos hv2 hw; omega
      · exact hw.1
    have k2 : 0 < u.1 := Int.pos_of_mul_pos_left (b := v.2) (by omega) hv2
    rw [k1]
    have : 0 < u.1 * w.2 := Int.mul_pos k2 (by unfold LP at hw; omega)
    omega
theorem cr_tr2 {u v w : P2} (hu : LP u) (hv : LP v) (hw : LP w) (h1 : 0 ≤ cr u v) (h2 : 0 < cr v w) : 0 < cr u w := by
  have := cr_tr1 (u := (w.1, -w.2)) (v := (v.1, -v.2)) (w := (u.1, -u.2))
  rcases hv with hv | ⟨hv, hv2⟩
  · have e := cr_id u v w
    have w1 : 0 < w.1 ∨ w.1 = 0 := by unfold LP at hw; omega
    have : 0 < v.1 * cr u w := by
      rcases hu with hu | ⟨hu, hu2⟩
      · have a1 : 0 < u.1 * cr v w := Int.mul_pos hu h2
        have a2 : 0 ≤ w.1 * cr u v := Int.mul_nonneg (by omega) h1
        omega
      · exfalso
        unfold cr at h1; rw [hu] at h1
        have := Int.mul_pos hu2 hv; omega
    exact Int.pos_of_mul_pos_right this hv
  · exfalso
    unfold cr at h2
    rw [hv] at h2
    have : 0 ≤ v.2 * w.1 := Int.mul_nonneg (by omega) (by unfold LP at hw; omega)
    omega
theorem tn_cr (a b c : P2) : tn a b c = cr (sb b a) (sb c a) := rfl
theorem tn_cr2 (a b c : P2) : tn a b c = cr (sb b a) (sb c b) := by unfold tn cr sb; grind
theorem tn_cr3 (a b c : P2) : tn a b c = cr (sb c a) (sb c b) := by unfold tn cr sb; grind
theorem cr_anti (u v : P2) : cr u v = - cr v u := by unfold cr; grind
theorem tn_rot (a b c : P2) : tn a b c = tn b c a := by unfold tn; grind
theorem tn_swap (a b c : P2) : tn a b c = - tn b a c := by unfold tn; grind
theorem tn_swap2 (a b c : P2) : tn a b c = - tn a c b := by unfold tn; grind
theorem tn_same (a b : P2) : tn a b b = 0 := by unfold tn; grind
theorem tn_same2 (a b : P2) : tn a b a = 0 := by unfold tn; grind
theorem tn_same3 (a b : P2) : tn a a b = 0 := by unfold tn; grind
def ne (p : P2) : P2 := (-p.1, -p.2)
theorem ne_ne (p : P2) : ne (ne p) = p := by unfold ne; simp
theorem tn_ne (a b c : P2) : tn (ne a) (ne b) (ne c) = tn a b c := by unfold tn ne; grind
theorem lt_ne (a b : P2) : lt (ne a) (ne b) ↔ lt b a := by unfold lt ne; simp only; omega

/-- what stands at a place of a row, nought behind its end -/
def g (c : List P2) (i : Nat) : P2 := c.getD i (0, 0)
theorem g_at {c : List P2} {i : Nat} (h : i < c.length) : c[i]? = some (g c i) := by
  unfold g; rw [List.getD_eq_getElem?_getD, List.getElem?_eq_getElem h]; rfl
theorem g_mem {c : List P2} {i : Nat} (h : i < c.length) : g c i ∈ c := List.mem_of_getElem? (g_at h)
theorem mem_g {c : List P2} {q : P2} (h : q ∈ c) : ∃ i, i < c.length ∧ g c i = q := by
  obtain ⟨i, hi, e⟩ := List.getElem_of_mem h
  refine ⟨i, hi, ?_⟩
  have := g_at hi
  rw [List.getElem?_eq_getElem hi, e] at this
  exact (Option.some.inj this).symm
theorem g_cons0 (p : P2) (c : List P2) : g (p :: c) 0 = p := rfl
theorem g_cons (p : P2) (c : List P2) (i : Nat) : g (p :: c) (i + 1) = g c i := rfl
theorem g_drop (c : List P2) (m i : Nat) : g (c.drop m) i = g c (m + i) := by
  unfold g; simp [List.getD_eq_getElem?_getD, List.getElem?_drop]
theorem g_rev {c : List P2} {i : Nat} (h : i < c.length) : g c.reverse i = g c (c.length - 1 - i) := by
  unfold g; simp only [List.getD_eq_getElem?_getD]; rw [List.getElem?_reverse h]
theorem g_map {f : P2 → P2} {c : List P2} {i : Nat} (h : i < c.length) : g (c.map f) i = f (g c i) := by
  have := g_at h
  unfold g at *; simp only [List.getD_eq_getElem?_getD, List.getElem?_map] at *; rw [this]; rfl
theorem g_append1 {c d : List P2} {i : Nat} (h : i < c.length) : g (c ++ d) i = g c i := by
  unfold g; simp only [List.getD_eq_getElem?_getD]; rw [List.getElem?_append_left h]
theorem g_append2 {c d : List P2} {i : Nat} : g (c ++ d) (c.length + i) = g d i := by
  unfold g; simp only [List.getD_eq_getElem?_getD]; rw [List.getElem?_append_right (by omega)]; congr 2; omega
theorem g_dropLast {c : List P2} {i : Nat} (h : i + 1 < c.length) : g c.dropLast i = g c i := by
  unfold g; simp only [List.getD_eq_getElem?_getD]; rw [List.getElem?_dropLast]; rw [if_pos (by omega)]
theorem ext_g {c d : List P2} (h : c.length = d.length) (e : ∀ i, i < c.length → g c i = g d i) : c = d := by
  apply List.ext_getElem? 
  intro i
  by_cases hi : i < c.length
  · rw [g_at hi, g_at (h ▸ hi), e i hi]
  · rw [List.getElem?_eq_none (by omega), List.getElem?_eq_none (by omega)]

/-! ### the chain -/
def pops (p : P2) : List P2 → List P2
  | [] => []
  | [y] => [y]
  | y :: x :: r => if tn x y p ≤ 0 then pops p (x :: r) else y :: x :: r
theorem pops_cc (p y x : P2) (r : List P2) : pops p (y :: x :: r) = if tn x y p ≤ 0 then pops p (x :: r) else y :: x :: r := by
  rw [pops]
def chn (l : List P2) : List P2 := l.foldl (fun st p => p :: pops p st) []
theorem pops_drop (p : P2) : ∀ st : List P2, st ≠ [] → ∃ m, m < st.length ∧ pops p st = st.drop m ∧ (m + 1 < st.length → 0 < tn (g st (m + 1)) (g st m) p) ∧ (m = 0 ∨ ∃ k, m = k + 1 ∧ tn (g st m) (g st k) p ≤ 0)
  | [], h => (h rfl).elim
  | [y], _ => ⟨0, by simp, rfl, fun h => by simp at h, .inl rfl⟩
  | y :: x :: r, _ => by
    unfold pops
    split
    · rename_i h
      obtain ⟨m, h1, h2, h3, h4⟩ := pops_drop p (x :: r) (by simp)
      refine ⟨m + 1, by simpa using h1, by rw [h2]; rfl, fun h => h3 (by simpa using h), .inr ⟨m, rfl, ?_⟩⟩
      rcases h4 with h4 | ⟨k, h4, h5⟩
      · subst h4; exact h
      · subst h4; exact h5
    · rename_i h
      exact ⟨0, by simp, rfl, fun _ => by show 0 < tn x y p; omega, .inl rfl⟩
/-- what a chain keeps: its rows fall, it turns left all along, no point lies on the right of any of its ways -/
structure Inv (Q : List P2) (st : List P2) : Prop where
  ne : st ≠ []
  fall : ∀ i j, i < j → j < st.length → lt (g st j) (g st i)
  left : ∀ i, i + 2 < st.length → 0 < tn (g st (i + 2)) (g st (i + 1)) (g st i)
  sup : ∀ i, i + 1 < st.length → ∀ q ∈ Q, 0 ≤ tn (g st (i + 1)) (g st i) q
  top : ∀ q ∈ Q, q = g st 0 ∨ lt q (g st 0)
  bot : ∀ q ∈ Q, q = g st (st.length - 1) ∨ lt (g st (st.length - 1)) q
  sub : ∀ q ∈ st, q ∈ Q
theorem inv_one (p : P2) : Inv [p] [p] where
  ne := by simp
  fall i j h g := by simp at g; omega
  left i h := by simp at h
  sup i h := by simp at h
  top q h := .inl (by simpa [g] using h)
  bot q h := .inl (by simpa [g] using h)
  sub q h := h
theorem inv_step {Q st : List P2} {p : P2} (I : Inv Q st) (hp : ∀ q ∈ Q, lt q p) : Inv (Q ++ [p]) (p :: pops p st) := by
  obtain ⟨m, h1, h2, h3, h4⟩ := pops_drop p st I.ne
  rw [h2]
  have len : (p :: st.drop m).length = st.length - m + 1 := by simp
  have gi : ∀ i, g (p :: st.drop m) (i + 1) = g st (m + i) := fun i => by rw [g_cons, g_drop]
  have inQ : ∀ i, i < st.length → g st i ∈ Q := fun i h => I.sub _ (g_mem h)
  have yQ := inQ m h1
  have yp := hp _ yQ
  -- the way from y to p has no point on its right
  have new : ∀ q ∈ Q, 0 ≤ tn (g st m) p q := by
    intro q hq
    have qp := hp q hq
    by_cases c : q = g st m
    · rw [c, tn_same2]; omega
    rcases lt_or q (g st m) with c1 | c1 | c1
    · -- q ahead of y
      have hlast : m + 1 < st.length := by
        by_cases hh : m + 1 < st.length
        · exact hh
        · have e : m = st.length - 1 := by omega
          rcases I.bot q hq with z | z
          · rw [← e] at z; exact (c z).elim
          · rw [← e] at z; exact (lt_asym z c1).elim
      have t1 := h3 hlast
      have t2 := I.sup m hlast q hq
      have o1 : lt (g st (m + 1)) (g st m) := I.fall m (m + 1) (by omega) hlast
      have a1 : 0 ≤ cr (sb (g st m) q) (sb (g st m) (g st (m + 1))) := by
        rw [tn_cr2] at t2
        have : cr (sb (g st m) q) (sb (g st m) (g st (m + 1))) = cr (sb (g st m) (g st (m + 1))) (sb q (g st m)) := by unfold cr sb; grind
        omega
      have a2 : 0 ≤ cr (sb (g st m) (g st (m + 1))) (sb p (g st m)) := by rw [tn_cr2] at t1; omega
      have := cr_tr (lt_LP.mp c1) (lt_LP.mp o1) (lt_LP.mp yp) a1 a2
      have e : tn (g st m) p q = cr (sb (g st m) q) (sb p (g st m)) := by unfold tn cr sb; grind
      omega
    · exact (c c1).elim
    · rcases h4 with h4 | ⟨k, h4, h5⟩
      · subst h4
        rcases I.top q hq with z | z
        · exact (c z).elim
        · exact (lt_asym c1 z).elim
      · subst h4
        have t2 := I.sup k h1 q hq
        have o1 : lt (g st (k + 1)) (g st k) := I.fall k (k + 1) (by omega) h1
        have a1 : 0 ≤ cr (sb p (g st (k + 1))) (sb (g st k) (g st (k + 1))) := by
          rw [tn_cr, cr_anti] at h5; omega
        have a2 : 0 ≤ cr (sb (g st k) (g st (k + 1))) (sb q (g st (k + 1))) := t2
        exact cr_tr (lt_LP.mp yp) (lt_LP.mp o1) (lt_LP.mp c1) a1 a2
  -- the ways kept have p on their left
  have old : ∀ i, m + i + 1 < st.length → 0 < tn (g st (m + i + 1)) (g st (m + i)) p := by
    intro i
    induction i with
    | zero => intro h; exact h3 h
    | succ i ih =>
      intro h
      have t1 := ih (by omega)
      have t2 := I.left (m + i) (by omega)
      have o1 : lt (g st (m + i + 1)) (g st (m + i)) := I.fall _ _ (by omega) (by omega)
      have o2 : lt (g st (m + i + 2)) (g st (m + i + 1)) := I.fall _ _ (by omega) (by omega)
      have o3 := hp _ (inQ (m + i + 1) (by omega))
      have := cr_tr2 (u := sb (g st (m + i + 1)) (g st (m + i + 2))) (v := sb (g st (m + i)) (g st (m + i + 1))) (w := sb p (g st (m + i + 1))) (lt_LP.mp o2) (lt_LP.mp o1) (lt_LP.mp o3) (by rw [tn_cr2] at t2; omega) t1
      show 0 < tn (g st (m + i + 2)) (g st (m + i + 1)) p
      rw [tn_cr2]; exact this
  refine ⟨by simp, ?_, ?_, ?_, ?_, ?_, ?_⟩
  · intro i j hij hj
    rw [len] at hj
    match i, j with
    | 0, j + 1 => rw [gi, g_cons0]; exact hp _ (inQ _ (by omega))
    | i + 1, j + 1 => rw [gi, gi]; exact I.fall _ _ (by omega) (by omega)
  · intro i h
    rw [len] at h
    match i with
    | 0 =>
      rw [gi, gi, g_cons0]
      exact h3 (by omega)
    | i + 1 =>
      rw [gi, gi, gi]
      exact I.left (m + i) (by omega)
  · intro i h q hq
    rw [len] at h
    rcases List.mem_append.mp hq with hq | hq
    · match i with
      | 0 => rw [gi, g_cons0]; exact new q hq
      | i + 1 => rw [gi, gi]; exact I.sup (m + i) (by omega) q hq
    · have e : q = p := by simpa using hq
      subst e
      match i with
      | 0 => rw [gi, g_cons0, tn_same]; omega
      | i + 1 => rw [gi, gi]; exact Int.le_of_lt (old i (by omega))
  · intro q hq
    rw [g_cons0]
    rcases List.mem_append.mp hq with hq | hq
    · exact .inr (hp q hq)
    · exact .inl (by simpa using hq)
  · intro q hq
    have e : g (p :: st.drop m) ((p :: st.drop m).length - 1) = g st (st.length - 1) := by
      rw [len, show st.length - m + 1 - 1 = (st.length - 1 - m) + 1 by omega, gi]; congr 1; omega
    rw [e]
    rcases List.mem_append.mp hq with hq | hq
    · exact I.bot q hq
    · have e : q = p := by simpa using hq
      subst e
      exact .inr (hp _ (inQ _ (by omega)))
  · intro q hq
    rcases List.mem_cons.mp hq with z | z
    · simp [z]
    · exact List.mem_append_left _ (I.sub q (List.mem_of_mem_drop z))
/-- rising rows -/
def Rise (l : List P2) : Prop := l.Pairwise lt
theorem chn_from : ∀ (l : List P2) (Q st : List P2), Inv Q st → Rise l → (∀ q ∈ Q, ∀ p ∈ l, lt q p) → Inv (Q ++ l) (l.foldl (fun st p => p :: pops p st) st)
  | [], Q, st, I, _, _ => by simpa using I
  | p :: l, Q, st, I, R, h => by
    have R' := List.pairwise_cons.mp R
    have := chn_from l (Q ++ [p]) (p :: pops p st) (inv_step I fun q hq => h q hq p List.mem_cons_self) R'.2 (fun q hq r hr => by
      rcases List.mem_append.mp hq with hq | hq
      · exact h q hq r (List.mem_cons_of_mem _ hr)
      · have e : q = p := by simpa using hq
        subst e; exact R'.1 r hr)
    simpa [List.append_assoc] using this
theorem chn_inv {l : List P2} (h : l ≠ []) (R : Rise l) : Inv l (chn l) := by
  match l, h with
  | p :: l, _ =>
    have R' := List.pairwise_cons.mp R
    exact chn_from l [p] [p] (inv_one p) R'.2 (fun q hq r hr => by
      have e : q = p := by simpa using hq
      subst e; exact R'.1 r hr)
/-! points turned about nought -/
theorem pops_ne (p : P2) : ∀ st : List P2, pops (ne p) (st.map ne) = (pops p st).map ne
  | [] => rfl
  | [y] => rfl
  | y :: x :: r => by
    have ih := pops_ne p (x :: r)
    show (if tn (ne x) (ne y) (ne p) ≤ 0 then pops (ne p) ((x :: r).map ne) else _) = _
    rw [tn_ne, ih, pops_cc]
    split <;> rfl
theorem chn_ne_from : ∀ (l st : List P2), (l.map ne).foldl (fun st p => p :: pops p st) (st.map ne) = (l.foldl (fun st p => p :: pops p st) st).map ne
  | [], st => rfl
  | p :: l, st => by
    have := chn_ne_from l (p :: pops p st)
    simp only [List.map_cons, List.foldl_cons] at *
    rw [pops_ne]; exact this
theorem chn_ne (l : List P2) : chn (l.map ne) = (chn l).map ne := chn_ne_from l []
end Geo

namespace Geo
structure Half (Q r : List P2) : Prop where
  ne : r ≠ []
  rise : ∀ i j, i < j → j < r.length → lt (g r i) (g r j)
  left : ∀ i, i + 2 < r.length → 0 < tn (g r i) (g r (i + 1)) (g r (i + 2))
  sup : ∀ i, i + 1 < r.length → ∀ q ∈ Q, 0 ≤ tn (g r i) (g r (i + 1)) q
  bot : ∀ q ∈ Q, q = g r 0 ∨ lt (g r 0) q
  top : ∀ q ∈ Q, q = g r (r.length - 1) ∨ lt q (g r (r.length - 1))
  sub : ∀ q ∈ r, q ∈ Q
theorem Inv.half {Q st : List P2} (I : Inv Q st) : Half Q st.reverse := by
  have l : st.reverse.length = st.length := by simp
  have n0 : 0 < st.length := List.length_pos_iff.mpr I.ne
  refine ⟨by simpa using I.ne, ?_, ?_, ?_, ?_, ?_, ?_⟩
  · intro i j hij hj
    rw [l] at hj
    rw [g_rev (by omega), g_rev hj]
    exact I.fall _ _ (by omega) (by omega)
  · intro i h
    rw [l] at h
    rw [g_rev (by omega), g_rev (by omega), g_rev (by omega)]
    have := I.left (st.length - 1 - (i + 2)) (by omega)
    rw [show st.length - 1 - (i + 2) + 2 = st.length - 1 - i by omega, show st.length - 1 - (i + 2) + 1 = st.length - 1 - (i + 1) by omega] at this
    exact this
  · intro i h q hq
    rw [l] at h
    rw [g_rev (by omega), g_rev (by omega)]
    have := I.sup (st.length - 1 - (i + 1)) (by omega) q hq
    rw [show st.length - 1 - (i + 1) + 1 = st.length - 1 - i by omega] at this
    exact this
  · intro q hq
    rw [g_rev n0]
    exact I.bot q hq
  · intro q hq
    rw [l, g_rev (by omega), show st.length - 1 - (st.length - 1) = 0 by omega]
    exact I.top q hq
  · intro q hq
    exact I.sub q (by simpa using hq)
section
variable {Q r : List P2} (H : Half Q r)
include H
theorem Half.lp {i j : Nat} (h : i < j) (k : j < r.length) : LP (sb (g r j) (g r i)) := lt_LP.mp (H.rise i j h k)
theorem Half.edges {i j : Nat} (h : i < j) (k : j + 1 < r.length) : 0 < cr (sb (g r (i + 1)) (g r i)) (sb (g r (j + 1)) (g r j)) := by
  induction j with
  | zero => omega
  | succ j ih =>
    have t := H.left j (by omega)
    rw [tn_cr2] at t
    by_cases e : i = j
    · subst e; exact t
    · exact cr_tr1 (H.lp (by omega) (by omega)) (H.lp (by omega) (by omega)) (H.lp (by omega) (by omega)) (ih (by omega) (by omega)) (Int.le_of_lt t)
theorem Half.span1 {i k j : Nat} (h : i < k) (h2 : k ≤ j) (h3 : j + 1 < r.length) : 0 < cr (sb (g r k) (g r i)) (sb (g r (j + 1)) (g r j)) := by
  induction k with
  | zero => omega
  | succ k ih =>
    have e := H.edges (i := k) (j := j) (by omega) h3
    by_cases c : i = k
    · subst c; exact e
    · have := ih (by omega) (by omega)
      have ad : cr (sb (g r (k + 1)) (g r i)) (sb (g r (j + 1)) (g r j)) = cr (sb (g r (k + 1)) (g r k)) (sb (g r (j + 1)) (g r j)) + cr (sb (g r k) (g r i)) (sb (g r (j + 1)) (g r j)) := by unfold cr sb; grind
      omega
theorem Half.span2 {i k m : Nat} (h : i + 1 ≤ k) (h2 : k < m) (h3 : m < r.length) : 0 < cr (sb (g r (i + 1)) (g r i)) (sb (g r m) (g r k)) := by
  induction m with
  | zero => omega
  | succ m ih =>
    have e := H.edges (i := i) (j := m) (by omega) h3
    by_cases c : k = m
    · subst c; exact e
    · have := ih (by omega) (by omega)
      have ad : cr (sb (g r (i + 1)) (g r i)) (sb (g r (m + 1)) (g r k)) = cr (sb (g r (i + 1)) (g r i)) (sb (g r (m + 1)) (g r m)) + cr (sb (g r (i + 1)) (g r i)) (sb (g r m) (g r k)) := by unfold cr sb; grind
      omega
/-- the first, and any way behind it -/
theorem Half.fan1 {k : Nat} (h : 1 ≤ k) (h2 : k + 1 < r.length) : 0 < tn (g r 0) (g r k) (g r (k + 1)) := by
  rw [tn_cr2]; exact H.span1 (by omega) (by omega) h2
theorem Half.fan2 {k : Nat} (h2 : k + 2 < r.length) : 0 < tn (g r k) (g r (k + 1)) (g r (r.length - 1)) := by
  rw [tn_cr2]; exact H.span2 (by omega) (by omega) (by omega)
end
/-- all on a line -/
def Flat (Q : List P2) : Prop := ∀ p ∈ Q, ∀ q ∈ Q, ∀ r ∈ Q, tn p q r = 0
theorem flat_line {Q : List P2} {x y : P2} (h : lt x y) (hq : ∀ q ∈ Q, tn x y q = 0) : Flat Q := by
  intro p hp q hq' r hr
  have a := hq p hp
  have b := hq q hq'
  have c := hq r hr
  have e1 : (y.1 - x.1) * tn p q r = 0 := by
    have : (y.1 - x.1) * tn p q r = (q.1 - p.1) * (tn x y r - tn x y p) - (r.1 - p.1) * (tn x y q - tn x y p) := by unfold tn; grind
    rw [this, a, b, c]; simp
  have e2 : (y.2 - x.2) * tn p q r = 0 := by
    have : (y.2 - x.2) * tn p q r = (q.2 - p.2) * (tn x y r - tn x y p) - (r.2 - p.2) * (tn x y q - tn x y p) := by unfold tn; grind
    rw [this, a, b, c]; simp
  rcases Int.mul_eq_zero.mp e1 with z | z
  · rcases Int.mul_eq_zero.mp e2 with w | w
    · unfold lt at h; omega
    · exact w
  · exact z
/-- what a hull's corners keep -/
structure HullF (Q c : List P2) : Prop where
  n3 : 3 ≤ c.length
  turn : ∀ k, k < c.length → 0 < tn (g c k) (g c ((k + 1) % c.length)) (g c ((k + 2) % c.length))
  fan : ∀ k, 1 ≤ k → k + 1 < c.length → 0 < tn (g c 0) (g c k) (g c (k + 1))
  first : ∀ k, 0 < k → k < c.length → lt (g c 0) (g c k)
  sup : ∀ k, k < c.length → ∀ q ∈ Q, 0 ≤ tn (g c k) (g c ((k + 1) % c.length)) q
  sub : ∀ q ∈ c, q ∈ Q
  min : ∀ q ∈ Q, q = g c 0 ∨ lt (g c 0) q
/-- at the far end both halves turn -/
theorem joint {Q : List P2} {x M z : P2} (hx : lt x M) (hz : lt z M) (zQ : z ∈ Q) (h1 : ∀ q ∈ Q, 0 ≤ tn x M q) (h2 : ∀ q ∈ Q, 0 ≤ tn M z q) (top : ∀ q ∈ Q, q = M ∨ lt q M) (nf : ¬ Flat Q) : 0 < tn x M z := by
  by_cases c : tn x M z = 0
  · exfalso
    apply nf
    apply flat_line hx
    intro q hq
    have a := h1 q hq
    have b := h2 q hq
    rcases top q hq with t | t
    · rw [t, tn_same]
    · have e1 : 0 ≤ cr (sb M x) (sb M z) := by
        have : tn x M z = - cr (sb M x) (sb M z) := by unfold tn cr sb; grind
        omega
      have e2 : 0 ≤ cr (sb M z) (sb M q) := by
        have : tn M z q = cr (sb M z) (sb M q) := by unfold tn cr sb; grind
        omega
      have := cr_tr (lt_LP.mp hx) (lt_LP.mp hz) (lt_LP.mp t) e1 e2
      have : tn x M q = - cr (sb M x) (sb M q) := by unfold tn cr sb; grind
      omega
  · have := h1 z zQ
    omega
def halves (l : List P2) : List P2 := (chn l).reverse.dropLast ++ (chn l.reverse).reverse.dropLast
def hullL (l : List P2) : List P2 := if l.length < 3 then l else if 2 < (halves l).length then halves l else [g l 0, g l (l.length - 1)]
theorem rise_neg {l : List P2} (R : Rise l) : Rise (l.reverse.map ne) := by
  unfold Rise at *
  rw [List.pairwise_map, List.pairwise_reverse]
  exact R.imp fun h => (lt_ne _ _).mpr h
/-- both halves, as rows of points -/
theorem two_halves {l : List P2} (hl : 2 ≤ l.length) (R : Rise l) : ∃ lo hi, (chn l).reverse = lo ∧ (chn l.reverse).reverse = hi.map ne ∧ Half l lo ∧ Half (l.reverse.map ne) hi ∧ 2 ≤ lo.length ∧ 2 ≤ hi.length ∧ ne (g hi 0) = g lo (lo.length - 1) ∧ ne (g hi (hi.length - 1)) = g lo 0 := by
  have n1 : l ≠ [] := by intro e; rw [e] at hl; simp at hl
  have n2 : l.reverse.map ne ≠ [] := by simpa using n1
  have I1 := (chn_inv n1 R).half
  have I2 := (chn_inv n2 (rise_neg R)).half
  have e : (chn l.reverse).reverse = ((chn (l.reverse.map ne)).reverse).map ne := by
    rw [chn_ne, ← List.map_reverse, List.map_map]
    conv => lhs; rw [← List.map_id (chn l.reverse).reverse]
    exact List.map_congr_left fun p _ => (ne_ne p).symm
  refine ⟨_, _, rfl, e, I1, I2, ?_, ?_, ?_, ?_⟩
  all_goals
    generalize (chn l).reverse = lo at I1
    generalize (chn (l.reverse.map ne)).reverse = hi at I2
    have p1 : 0 < lo.length := List.length_pos_iff.mpr I1.ne
    have p2 : 0 < hi.length := List.length_pos_iff.mpr I2.ne
    have lm : ∀ q, q ∈ l → ne q ∈ l.reverse.map ne := fun q h => List.mem_map.mpr ⟨q, List.mem_reverse.mpr h, rfl⟩
    have ml : ∀ q, q ∈ l.reverse.map ne → ne q ∈ l := fun q h => by
      obtain ⟨p, h1, h2⟩ := List.mem_map.mp h
      rw [← h2, ne_ne]; exact List.mem_reverse.mp h1
    have lo0 := I1.sub _ (g_mem p1)
    have loN := I1.sub _ (g_mem (i := lo.length - 1) (by omega))
    have hi0 := I2.sub _ (g_mem p2)
    have hiN := I2.sub _ (g_mem (i := hi.length - 1) (by omega))
    have two : ∃ p q, p ∈ l ∧ q ∈ l ∧ lt p q := by
      match l, hl, R with
      | p :: q :: r, _, R => exact ⟨p, q, by simp, by simp, (List.pairwise_cons.mp R).1 q (by simp)⟩
  · obtain ⟨p, q, h1, h2, h3⟩ := two
    rcases Nat.lt_or_ge 1 lo.length with c | c
    · exact c
    · exfalso
      have z : lo.length - 1 = 0 := by omega
      have a := I1.bot p h1
      have b := I1.top q h2
      have a' := I1.bot q h2
      have b' := I1.top p h1
      rw [z] at b b'
      have : p = g lo 0 := by
        rcases a with a | a
        · exact a
        · rcases b' with b' | b'
          · exact b'
          · exact (lt_asym a b').elim
      have : q = g lo 0 := by
        rcases a' with a | a
        · exact a
        · rcases b with b' | b'
          · exact b'
          · exact (lt_asym a b').elim
      subst_vars
      exact lt_irr h3
  · obtain ⟨p, q, h1, h2, h3⟩ := two
    rcases Nat.lt_or_ge 1 hi.length with c | c
    · exact c
    · exfalso
      have z : hi.length - 1 = 0 := by omega
      have a := I2.bot _ (lm p h1)
      have b := I2.top _ (lm q h2)
      have a' := I2.bot _ (lm q h2)
      have b' := I2.top _ (lm p h1)
      rw [z] at b b'
      have e1 : ne p = g hi 0 := by
        rcases a with a | a
        · exact a
        · rcases b' with b' | b'
          · exact b'
          · exact (lt_asym a b').elim
      have e2 : ne q = g hi 0 := by
        rcases a' with a | a
        · exact a
        · rcases b with b' | b'
          · exact b'
          · exact (lt_asym a b').elim
      have : p = q := by rw [← ne_ne p, e1, ← e2, ne_ne]
      subst this
      exact lt_irr h3
  · rcases I1.top _ (ml _ hi0) with t | t
    · exact t
    · rcases I2.bot _ (lm _ loN) with u | u
      · rw [← u, ne_ne]
      · rw [← ne_ne (g hi 0)] at u
        exact (lt_asym t ((lt_ne _ _).mp u)).elim
  · rcases I1.bot _ (ml _ hiN) with t | t
    · exact t
    · rcases I2.top _ (lm _ lo0) with u | u
      · rw [← u, ne_ne]
      · rw [← ne_ne (g hi _)] at u
        exact (lt_asym t ((lt_ne _ _).mp u)).elim
/-- a row that is not on a line: its halves are a hull -/
theorem halves_hull {l : List P2} (hl : 2 ≤ l.length) (R : Rise l) (nf : ¬ Flat l) : HullF l (halves l) := by
  obtain ⟨lo, hi, e1, e2, H1, H2, l1, l2, j1, j2⟩ := two_halves hl R
  unfold halves
  rw [e1, e2]
  obtain ⟨a, ha⟩ : ∃ a, lo.length = a + 2 := ⟨lo.length - 2, by omega⟩
  obtain ⟨b, hb⟩ : ∃ b, hi.length = b + 2 := ⟨hi.length - 2, by omega⟩
  have ln : (lo.dropLast ++ (hi.map ne).dropLast).length = a + b + 2 := by simp [ha, hb]; omega
  have cl : ∀ k, k ≤ a → g (lo.dropLast ++ (hi.map ne).dropLast) k = g lo k := fun k h => by
    rw [g_append1 (by simp [ha]; omega), g_dropLast (by omega)]
  have ch : ∀ k, k ≤ b → g (lo.dropLast ++ (hi.map ne).dropLast) (a + 1 + k) = ne (g hi k) := fun k h => by
    have : lo.dropLast.length = a + 1 := by simp [ha]
    rw [← this, g_append2, g_dropLast (by simp [hb]; omega), g_map (by omega)]
  have cl' : ∀ k, k ≤ a + 1 → g (lo.dropLast ++ (hi.map ne).dropLast) k = g lo k := fun k h => by
    by_cases c : k ≤ a
    · exact cl k c
    · have : k = a + 1 := by omega
      subst this
      have := ch 0 (by omega)
      rw [Nat.add_zero] at this
      rw [this, j1]; congr 1; omega
  have ch' : ∀ k, k ≤ b + 1 → g (lo.dropLast ++ (hi.map ne).dropLast) ((a + 1 + k) % (a + b + 2)) = ne (g hi k) := fun k h => by
    by_cases c : k ≤ b
    · rw [Nat.mod_eq_of_lt (by omega)]; exact ch k c
    · have : k = b + 1 := by omega
      subst this
      rw [show a + 1 + (b + 1) = a + b + 2 by omega, Nat.mod_self, cl 0 (by omega), ← j2]; congr 2; omega
  generalize hc : lo.dropLast ++ (hi.map ne).dropLast = c at *
  have ml : ∀ q, q ∈ l.reverse.map ne → ne q ∈ l := fun q h => by
    obtain ⟨p, h1, h2⟩ := List.mem_map.mp h
    rw [← h2, ne_ne]; exact List.mem_reverse.mp h1
  have lm : ∀ q, q ∈ l → ne q ∈ l.reverse.map ne := fun q h => List.mem_map.mpr ⟨q, List.mem_reverse.mpr h, rfl⟩
  have sup2 : ∀ i, i + 1 < hi.length → ∀ q ∈ l, 0 ≤ tn (ne (g hi i)) (ne (g hi (i + 1))) q := fun i h q hq => by
    have := H2.sup i h (ne q) (lm q hq)
    rw [← tn_ne, ne_ne] at this; exact this
  have rise2 : ∀ i j, i < j → j < hi.length → lt (ne (g hi j)) (ne (g hi i)) := fun i j h k => (lt_ne _ _).mpr (H2.rise i j h k)
  have M1 : g lo (a + 1) = ne (g hi 0) := by rw [j1]; congr 1; omega
  have m1 : g lo 0 = ne (g hi (b + 1)) := by rw [← j2]; congr 2; omega
  have sup : ∀ k, k < c.length → ∀ q ∈ l, 0 ≤ tn (g c k) (g c ((k + 1) % c.length)) q := by
    intro k hk q hq
    rw [ln] at *
    by_cases h : k ≤ a
    · rw [Nat.mod_eq_of_lt (by omega), cl' k (by omega), cl' (k + 1) (by omega)]
      exact H1.sup k (by omega) q hq
    · obtain ⟨j, rfl⟩ : ∃ j, k = a + 1 + j := ⟨k - (a + 1), by omega⟩
      rw [ch j (by omega), show a + 1 + j + 1 = a + 1 + (j + 1) by omega, ch' (j + 1) (by omega)]
      exact sup2 j (by omega) q hq
  have first : ∀ k, 0 < k → k < c.length → lt (g c 0) (g c k) := by
    intro k h0 hk
    rw [ln] at hk
    rw [cl 0 (by omega)]
    by_cases h : k ≤ a + 1
    · rw [cl' k h]; exact H1.rise 0 k h0 (by omega)
    · obtain ⟨j, rfl⟩ : ∃ j, k = a + 1 + j := ⟨k - (a + 1), by omega⟩
      rw [ch j (by omega), m1]
      exact rise2 j (b + 1) (by omega) (by omega)
  have sub : ∀ q ∈ c, q ∈ l := by
    intro q hq
    rw [← hc] at hq
    rcases List.mem_append.mp hq with h | h
    · exact H1.sub q (List.dropLast_subset _ h)
    · obtain ⟨p, h1, h2⟩ := List.mem_map.mp (List.dropLast_subset _ h)
      rw [← h2]; exact ml p (H2.sub p h1)
  have n3 : 3 ≤ c.length := by
    rw [ln]
    by_cases z : a = 0 ∧ b = 0
    · exfalso
      obtain ⟨rfl, rfl⟩ := z
      apply nf
      apply flat_line (H1.rise 0 1 (by omega) (by omega))
      intro q hq
      have t1 := H1.sup 0 (by omega) q hq
      have t2 := sup2 0 (by omega) q hq
      rw [← M1, show (0 + 1 : Nat) = 0 + 1 from rfl, ← m1, tn_swap] at t2
      simp only [Nat.zero_add] at *
      omega
    · omega
  refine ⟨n3, ?_, ?_, first, sup, sub, ?_⟩
  · intro k hk
    rw [ln] at *
    rcases Nat.lt_or_ge (k + 1) (a + 1) with h | h
    · rw [Nat.mod_eq_of_lt (by omega), Nat.mod_eq_of_lt (by omega), cl' k (by omega), cl' (k + 1) (by omega), cl' (k + 2) (by omega)]
      exact H1.left k (by omega)
    · by_cases h2 : k = a
      · subst h2
        rw [cl' k (by omega), Nat.mod_eq_of_lt (by omega), cl' (k + 1) (by omega), show k + 2 = k + 1 + 1 by omega, ch' 1 (by omega)]
        refine joint (Q := l) (H1.rise k (k + 1) (by omega) (by omega)) ?_ (ml _ (H2.sub _ (g_mem (by omega)))) (H1.sup k (by omega)) ?_ ?_ nf
        · rw [M1]; exact rise2 0 1 (by omega) (by omega)
        · rw [M1]; exact sup2 0 (by omega)
        · have := H1.top
          rw [show lo.length - 1 = k + 1 by omega] at this; exact this
      · obtain ⟨j, rfl⟩ : ∃ j, k = a + 1 + j := ⟨k - (a + 1), by omega⟩
        rw [ch j (by omega), show a + 1 + j + 1 = a + 1 + (j + 1) by omega, ch' (j + 1) (by omega)]
        by_cases h3 : j + 1 ≤ b
        · rw [show a + 1 + j + 2 = a + 1 + (j + 2) by omega, ch' (j + 2) (by omega)]
          have := H2.left j (by omega)
          rw [← tn_ne] at this; exact this
        · have : j = b := by omega
          subst this
          have e : (a + 1 + j + 2) % (a + j + 2) = 1 := by
            rw [show a + 1 + j + 2 = 1 + (a + j + 2) by omega, Nat.add_mod_right, Nat.mod_eq_of_lt (by omega)]
          rw [e, cl' 1 (by omega)]
          -- turned about nought this is the far end, too
          have z := joint (Q := l.map ne) (x := g hi j) (M := g hi (j + 1)) (z := ne (g lo 1)) (H2.rise j (j + 1) (by omega) (by omega)) ?_ ?_ ?_ ?_ ?_ ?_
          · rw [← tn_ne, ne_ne] at z; exact z
          · rw [← ne_ne (g hi (j + 1)), lt_ne, ← m1]; exact H1.rise 0 1 (by omega) (by omega)
          · exact List.mem_map.mpr ⟨_, H1.sub _ (g_mem (by omega)), rfl⟩
          · intro q hq
            exact H2.sup j (by omega) q (by simpa using hq)
          · intro q hq
            obtain ⟨p, hp, rfl⟩ := List.mem_map.mp hq
            have := H1.sup 0 (by omega) p hp
            rw [m1, ← tn_ne, ne_ne] at this; exact this
          · intro q hq
            have := H2.top q (by simpa using hq)
            rw [show hi.length - 1 = j + 1 by omega] at this; exact this
          · intro f
            apply nf
            intro p hp q hq r hr
            have := f (ne p) (List.mem_map.mpr ⟨p, hp, rfl⟩) (ne q) (List.mem_map.mpr ⟨q, hq, rfl⟩) (ne r) (List.mem_map.mpr ⟨r, hr, rfl⟩)
            rw [tn_ne] at this; exact this
  · intro k h1 h2
    rw [ln] at h2
    rw [cl 0 (by omega)]
    by_cases h : k ≤ a
    · rw [cl' k (by omega), cl' (k + 1) (by omega)]
      exact H1.fan1 h1 (by omega)
    · obtain ⟨j, rfl⟩ : ∃ j, k = a + 1 + j := ⟨k - (a + 1), by omega⟩
      rw [ch j (by omega), show a + 1 + j + 1 = a + 1 + (j + 1) by omega, ch (j + 1) (by omega), m1, tn_rot, tn_ne]
      have := H2.fan2 (k := j) (by omega)
      rw [show hi.length - 1 = b + 1 by omega] at this; exact this
  · intro q hq
    rw [cl 0 (by omega)]
    exact H1.bot q hq
/-- a row on a line: its halves are its ends -/
theorem halves_flat {l : List P2} (hl : 2 ≤ l.length) (R : Rise l) (f : Flat l) : (halves l).length = 2 := by
  obtain ⟨lo, hi, e1, e2, H1, H2, l1, l2, j1, j2⟩ := two_halves hl R
  unfold halves
  rw [e1, e2]
  have a : lo.length = 2 := by
    rcases Nat.lt_or_ge 2 lo.length with c | c
    · exfalso
      have := H1.left 0 (by omega)
      rw [f _ (H1.sub _ (g_mem (by omega))) _ (H1.sub _ (g_mem (by omega))) _ (H1.sub _ (g_mem (by omega)))] at this
      omega
    · omega
  have b : hi.length = 2 := by
    rcases Nat.lt_or_ge 2 hi.length with c | c
    · exfalso
      have := H2.left 0 (by omega)
      have ml : ∀ q, q ∈ l.reverse.map ne → ne q ∈ l := fun q h => by
        obtain ⟨p, h1, h2⟩ := List.mem_map.mp h
        rw [← h2, ne_ne]; exact List.mem_reverse.mp h1
      rw [← tn_ne, f _ (ml _ (H2.sub _ (g_mem (by omega)))) _ (ml _ (H2.sub _ (g_mem (by omega)))) _ (ml _ (H2.sub _ (g_mem (by omega))))] at this
      omega
    · omega
  simp [a, b]
theorem hullL_hull {l : List P2} (R : Rise l) (nf : ¬ Flat l) : HullF l (hullL l) := by
  have l3 : 3 ≤ l.length := by
    rcases Nat.lt_or_ge l.length 3 with c | c
    · exfalso
      apply nf
      match l, c with
      | [], _ => intro p hp; simp at hp
      | [a], _ =>
        intro p hp q hq r hr
        simp at hp hq hr; subst hp hq hr; exact tn_same _ _
      | [a, b], _ =>
        intro p hp q hq r hr
        simp at hp hq hr
        rcases hp with rfl | rfl <;> rcases hq with rfl | rfl <;> rcases hr with rfl | rfl <;> first | exact tn_same _ _ | exact tn_same2 _ _ | exact tn_same3 _ _
    · exact c
  have h := halves_hull (by omega) R nf
  unfold hullL
  rw [if_neg (by omega), if_pos (by have := h.n3; omega)]
  exact h
theorem hullL_flat {l : List P2} (R : Rise l) (f : Flat l) : hullL l = l.take 1 ++ (if 1 < l.length then [g l (l.length - 1)] else []) := by
  unfold hullL
  split
  · rename_i h
    match l, h with
    | [], _ => rfl
    | [a], _ => rfl
    | [a, b], _ => rfl
  · rename_i h
    rw [if_neg (by rw [halves_flat (by omega) R f]; omega), if_pos (by omega)]
    match l, h with
    | a :: l, _ => rfl
end Geo

namespace Geo
/-! ### places by a hull's sides -/
def val (c : List P2) (p : P2) (k : Nat) : Int := tn (g c k) (g c ((k + 1) % c.length)) p
section
variable {Q c : List P2} (H : HullF Q c)
include H
theorem HullF.cQ {j : Nat} (h : j < c.length) : g c j ∈ Q := H.sub _ (g_mem h)
theorem HullF.val_c {k j : Nat} (h : k < c.length) (h2 : j < c.length) : 0 ≤ val c (g c j) k := H.sup k h _ (H.cQ h2)
theorem HullF.val_0 {k : Nat} (h : 1 ≤ k) (h2 : k + 1 < c.length) : 0 < val c (g c 0) k := by
  unfold val
  rw [Nat.mod_eq_of_lt (by omega), ← tn_rot]
  exact H.fan k h h2
theorem HullF.val_last {p : P2} : val c p (c.length - 1) = - tn (g c 0) (g c (c.length - 1)) p := by
  unfold val
  rw [show c.length - 1 + 1 = c.length by have := H.n3; omega, Nat.mod_self, tn_swap]
theorem HullF.val_first {p : P2} : val c p 0 = tn (g c 0) (g c 1) p := by
  unfold val
  rw [Nat.mod_eq_of_lt (by have := H.n3; omega)]
/-- in a piece of the fan: what all sides say -/
theorem HullF.piece {p : P2} {j k : Nat} (h1 : 1 ≤ j) (h2 : j + 1 < c.length) (hk : k < c.length) : tn (g c 0) (g c j) (g c (j + 1)) * val c p k = val c p j * val c (g c 0) k + tn (g c (j + 1)) (g c 0) p * val c (g c j) k + tn (g c 0) (g c j) p * val c (g c (j + 1)) k := by
  unfold val
  rw [Nat.mod_eq_of_lt h2]
  unfold tn; grind
theorem HullF.in_piece {p : P2} {j : Nat} (h1 : 1 ≤ j) (h2 : j + 1 < c.length) (a : 0 ≤ tn (g c 0) (g c j) p) (b : tn (g c 0) (g c (j + 1)) p ≤ 0) (v : 0 ≤ val c p j) : ∀ k, k < c.length → 0 ≤ val c p k := by
  intro k hk
  have e := H.piece (p := p) h1 h2 hk
  have D := H.fan j h1 h2
  have x1 : 0 ≤ val c p j * val c (g c 0) k := Int.mul_nonneg v (H.val_c hk (by omega))
  have x2 : 0 ≤ tn (g c (j + 1)) (g c 0) p * val c (g c j) k := Int.mul_nonneg (by rw [tn_swap]; omega) (H.val_c hk (by omega))
  have x3 : 0 ≤ tn (g c 0) (g c j) p * val c (g c (j + 1)) k := Int.mul_nonneg a (H.val_c hk (by omega))
  exact Int.nonneg_of_mul_nonneg_right (by omega : 0 ≤ tn (g c 0) (g c j) (g c (j + 1)) * val c p k) D
theorem HullF.in_piece_s {p : P2} {j : Nat} (h1 : 1 ≤ j) (h2 : j + 1 < c.length) (a : 0 ≤ tn (g c 0) (g c j) p) (b : tn (g c 0) (g c (j + 1)) p ≤ 0) (v : 0 < val c p j) : ∀ k, 1 ≤ k → k + 1 < c.length → 0 < val c p k := by
  intro k hk1 hk2
  have hk : k < c.length := by omega
  have e := H.piece (p := p) h1 h2 hk
  have D := H.fan j h1 h2
  have x1 : 0 < val c p j * val c (g c 0) k := Int.mul_pos v (H.val_0 hk1 hk2)
  have x2 : 0 ≤ tn (g c (j + 1)) (g c 0) p * val c (g c j) k := Int.mul_nonneg (by rw [tn_swap]; omega) (H.val_c hk (by omega))
  have x3 : 0 ≤ tn (g c 0) (g c j) p * val c (g c (j + 1)) k := Int.mul_nonneg a (H.val_c hk (by omega))
  exact Int.pos_of_mul_pos_right (by omega : 0 < tn (g c 0) (g c j) (g c (j + 1)) * val c p k) D
/-- a point on no wrong side lies in a piece of the fan -/
theorem HullF.some_piece {p : P2} (h : ∀ k, k < c.length → 0 ≤ val c p k) : ∃ j, 1 ≤ j ∧ j + 1 < c.length ∧ 0 ≤ tn (g c 0) (g c j) p ∧ 0 ≤ tn (g c j) (g c (j + 1)) p ∧ 0 ≤ tn (g c (j + 1)) (g c 0) p := by
  have n3 := H.n3
  have f0 : 0 ≤ tn (g c 0) (g c 1) p := by rw [← H.val_first]; exact h 0 (by omega)
  have fl : tn (g c 0) (g c (c.length - 1)) p ≤ 0 := by have := h (c.length - 1) (by omega); rw [H.val_last] at this; omega
  have go : ∀ d j, c.length - 1 - j = d → 1 ≤ j → j + 1 < c.length → 0 ≤ tn (g c 0) (g c j) p → ∃ j, 1 ≤ j ∧ j + 1 < c.length ∧ 0 ≤ tn (g c 0) (g c j) p ∧ tn (g c 0) (g c (j + 1)) p ≤ 0 := by
    intro d
    induction d with
    | zero => intro j e h1 h2; omega
    | succ d ih =>
      intro j e h1 h2 a
      by_cases b : tn (g c 0) (g c (j + 1)) p ≤ 0
      · exact ⟨j, h1, h2, a, b⟩
      · by_cases z : j + 1 + 1 < c.length
        · exact ih (j + 1) (by omega) (by omega) z (by omega)
        · rw [show c.length - 1 = j + 1 by omega] at fl
          exact (b fl).elim
  obtain ⟨j, h1, h2, a, b⟩ := go _ 1 rfl (by omega) (by omega) f0
  refine ⟨j, h1, h2, a, ?_, ?_⟩
  · have := h j (by omega)
    unfold val at this
    rw [Nat.mod_eq_of_lt h2] at this
    exact this
  · rw [tn_swap]; omega
end
/-- three corners that turn left: what lies in them is ahead of none of a point ahead of all -/
theorem three_out {a b c p : P2} (D : 0 < tn a b c) (ha : lt p a) (hb : lt p b) (hc : lt p c) (h1 : 0 ≤ tn a b p) (h2 : 0 ≤ tn b c p) (h3 : 0 ≤ tn c a p) : False := by
  have e : tn a b p + tn b c p + tn c a p = tn a b c := by unfold tn; grind
  have e1 : tn b c p * (a.1 - p.1) + tn c a p * (b.1 - p.1) + tn a b p * (c.1 - p.1) = 0 := by unfold tn; grind
  have e2 : tn b c p * (a.2 - p.2) + tn c a p * (b.2 - p.2) + tn a b p * (c.2 - p.2) = 0 := by unfold tn; grind
  have go : ∀ (w : Int) (q : P2), 0 ≤ w → lt p q → 0 ≤ w * (q.1 - p.1) ∧ (w * (q.1 - p.1) = 0 → 0 ≤ w * (q.2 - p.2) ∧ (w * (q.2 - p.2) = 0 → w = 0)) := by
    intro w q hw h
    refine ⟨Int.mul_nonneg hw (by unfold lt at h; omega), fun z => ?_⟩
    rcases Int.mul_eq_zero.mp z with y | y
    · subst y; simp
    · have : 0 < q.2 - p.2 := by unfold lt at h; omega
      refine ⟨Int.mul_nonneg hw (by omega), fun z2 => ?_⟩
      rcases Int.mul_eq_zero.mp z2 with y2 | y2
      · exact y2
      · omega
  have g1 := go _ _ h2 ha
  have g2 := go _ _ h3 hb
  have g3 := go _ _ h1 hc
  have z1 : tn b c p * (a.1 - p.1) = 0 := by omega
  have z2 : tn c a p * (b.1 - p.1) = 0 := by omega
  have z3 : tn a b p * (c.1 - p.1) = 0 := by omega
  have k1 := g1.2 z1
  have k2 := g2.2 z2
  have k3 := g3.2 z3
  have y1 := k1.2 (by omega)
  have y2 := k2.2 (by omega)
  have y3 := k3.2 (by omega)
  omega
/-- a point ahead of all of a hull lies outside -/
theorem HullF.ahead {Q c : List P2} (H : HullF Q c) {p : P2} (h : lt p (g c 0)) : ∃ k, k < c.length ∧ val c p k < 0 := by
  have n3 := H.n3
  by_cases a : val c p 0 < 0
  · exact ⟨0, by omega, a⟩
  · by_cases b : val c p (c.length - 1) < 0
    · exact ⟨_, by omega, b⟩
    · exfalso
      rw [H.val_first] at a
      rw [H.val_last] at b
      have t := H.turn (c.length - 1) (by omega)
      rw [show c.length - 1 + 1 = c.length by omega, Nat.mod_self, show (c.length - 1 + 2) % c.length = 1 by rw [show c.length - 1 + 2 = 1 + c.length by omega, Nat.add_mod_right, Nat.mod_eq_of_lt (by omega)]] at t
      have u := H.first 1 (by omega) (by omega)
      have w := H.first (c.length - 1) (by omega) (by omega)
      have := cr_tr (u := sb (g c (c.length - 1)) (g c 0)) (v := sb (g c 0) p) (w := sb (g c 1) (g c 0)) (lt_LP.mp w) (lt_LP.mp h) (lt_LP.mp u) (by
        have : cr (sb (g c (c.length - 1)) (g c 0)) (sb (g c 0) p) = - tn (g c 0) (g c (c.length - 1)) p := by unfold cr sb tn; grind
        omega) (by
        have : cr (sb (g c 0) p) (sb (g c 1) (g c 0)) = tn (g c 0) (g c 1) p := by unfold cr sb tn; grind
        omega)
      have e : tn (g c (c.length - 1)) (g c 0) (g c 1) = - cr (sb (g c (c.length - 1)) (g c 0)) (sb (g c 1) (g c 0)) := by unfold cr sb tn; grind
      omega
end Geo

namespace DL
open PySem PySem.Spec L2
open PyProof.Rows hiding St
open Geo (g g_at g_mem mem_g)

/-! ### running over rows of points -/
abbrev TP (c : List Pt) : D := .tup (c.map pt)
abbrev LsP (c : List Pt) : D := .lst (c.map pt)
@[simp] theorem lfs_nil : lfs [] = true := rfl
@[simp] theorem lfs_cons {d : D} {l : List D} : lfs (d :: l) = (d.lf && lfs l) := rfl
@[simp] theorem lf_int {i : Int} : (D.int i).lf = true := rfl
@[simp] theorem lf_bl {i : Bool} : (D.bl i).lf = true := rfl
@[simp] theorem lf_str {i : Str} : (D.str i).lf = true := rfl
@[simp] theorem lf_non : D.non.lf = true := rfl
@[simp] theorem lf_tup {l : List D} : (D.tup l).lf = lfs l := rfl
@[simp] theorem lf_lst {l : List D} : (D.lst l).lf = lfs l := rfl
@[simp] theorem lf_pt {p : Pt} : (pt p).lf = true := rfl
@[simp] theorem lfs_pts : ∀ ps : List Pt, lfs (ps.map pt) = true
  | [] => rfl
  | p :: r => by simp [lfs_pts r]
@[simp] theorem lfs_ints : ∀ ps : List Int, lfs (ps.map D.int) = true
  | [] => rfl
  | p :: r => by simp [lfs_ints r]
@[simp] theorem fz_pt {M : Cells} {m : Nat} {p : Pt} : fz M m (pt p) = some (pt p) := by simp [pt]
@[simp] theorem fzs_pts {M : Cells} {m : Nat} : ∀ ps : List Pt, fzs M m (ps.map pt) = some (ps.map pt)
  | [] => by simp
  | p :: r => by simp [fzs_pts r]
@[simp] theorem fzs_ints {M : Cells} {m : Nat} : ∀ ps : List Int, fzs M m (ps.map D.int) = some (ps.map D.int)
  | [] => by simp
  | p :: r => by simp [fzs_ints r]
theorem lfs_map {β : Type} {f : β → D} (h : ∀ b, (f b).lf = true) : ∀ l : List β, lfs (l.map f) = true
  | [] => rfl
  | b :: l => by simp [h, lfs_map h l]
theorem lfs_mapm {β : Type} {f : β → D} : ∀ l : List β, (∀ b ∈ l, (f b).lf = true) → lfs (l.map f) = true
  | [], _ => rfl
  | b :: l, h => by simp [h, lfs_mapm l (fun b hb => h b (List.mem_cons_of_mem _ hb))]
theorem fzs_map {M : Cells} {m : Nat} {β : Type} {f : β → D} (h : ∀ b, fz M m (f b) = some (f b)) : ∀ l : List β, fzs M m (l.map f) = some (l.map f)
  | [] => by simp
  | b :: l => by simp [h, fzs_map h l]
@[simp] theorem lfs_append {l m : List D} : lfs (l ++ m) = (lfs l && lfs m) := by
  induction l with
  | nil => simp
  | cons d l ih => simp [ih, Bool.and_assoc]
/-! points taken -/
@[simp] theorem gIx_pt0 {M : Cells} {p : Pt} : gIx M (pt p) (.int 0) = some (.int p.1) := by simp [pt]
@[simp] theorem gIx_pt1 {M : Cells} {p : Pt} : gIx M (pt p) (.int 1) = some (.int p.2) := by simp [pt]
@[simp] theorem atI_pt0 {p : Pt} : atI [D.int p.1, D.int p.2] 0 = some (.int p.1) := by simp
theorem atI_map {β : Type} {f : β → D} {l : List β} {k : Nat} {b : β} (h : l[k]? = some b) : atI (l.map f) (k : Int) = some (f b) := atI_at (by rw [List.getElem?_map, h]; rfl)
theorem atI_g {c : List Pt} {k : Nat} (h : k < c.length) : atI (c.map pt) (k : Int) = some (pt (g c k)) := atI_map (g_at h)
theorem atI_gi {c : List Pt} {i : Int} (k : Nat) (e : i = (k : Int)) (h : k < c.length) : atI (c.map pt) i = some (pt (g c k)) := by rw [e]; exact atI_g h
theorem ixN_neg {n : Nat} {k : Nat} (h : k < n) : ixN n (-((k : Int) + 1)) = some (n - 1 - k) := by
  unfold ixN
  have e1 : ¬ (0 ≤ -((k : Int) + 1)) := by omega
  first
    | (rw [if_neg e1]; rw [if_pos (by omega)]; congr 1; omega)
    | (simp only [e1]; split <;> first | (congr 1; omega) | omega)
theorem atI_neg {α : Type} {l : List α} {k : Nat} {x : α} (h : k < l.length) (e : l[l.length - 1 - k]? = some x) : atI l (-((k : Int) + 1)) = some x := by
  unfold atI
  rw [ixN_neg h]
  exact e
theorem atI_m1 {c : List Pt} (h : 0 < c.length) : atI (c.map pt) (-1) = some (pt (g c (c.length - 1))) := by
  have := atI_neg (l := c.map pt) (k := 0) (x := pt (g c (c.length - 1))) (by simpa using h) (by rw [List.getElem?_map, List.length_map, Nat.sub_zero, g_at (by omega)]; rfl)
  simpa using this
theorem atI_m2 {c : List Pt} (h : 1 < c.length) : atI (c.map pt) (-2) = some (pt (g c (c.length - 2))) := by
  have := atI_neg (l := c.map pt) (k := 1) (x := pt (g c (c.length - 2))) (by simpa using h) (by rw [List.getElem?_map, List.length_map, show c.length - 1 - 1 = c.length - 2 by omega, g_at (by omega)]; rfl)
  simpa using this
theorem modc (k n : Nat) : ((k : Int) + 1) % (n : Int) = (((k + 1) % n : Nat) : Int) := by rw [Int.natCast_emod]; rfl
theorem modc2 (k n : Nat) : ((k : Int) + 2) % (n : Int) = (((k + 2) % n : Nat) : Int) := by rw [Int.natCast_emod]; rfl
theorem atI_mod1 {c : List Pt} {k : Nat} (h : 0 < c.length) : atI (c.map pt) (((k : Int) + 1) % (c.length : Int)) = some (pt (g c ((k + 1) % c.length))) := by
  rw [modc]; exact atI_g (Nat.mod_lt _ h)
theorem atI_mod2 {c : List Pt} {k : Nat} (h : 0 < c.length) : atI (c.map pt) (((k : Int) + 2) % (c.length : Int)) = some (pt (g c ((k + 2) % c.length))) := by
  rw [modc2]; exact atI_g (Nat.mod_lt _ h)
theorem atI_suc {c : List Pt} {k : Nat} (h : k + 1 < c.length) : atI (c.map pt) ((k : Int) + 1) = some (pt (g c (k + 1))) := atI_gi (k + 1) rfl h
/-! slices -/
theorem dcut_to {β : Type} {f : β → D} {l : List β} (k : Nat) : dcut (l.map f) none (some (k : Int)) = (l.take k).map f := by
  unfold dcut
  rw [HT.sIx_none, List.length_map, show HT.sIx l.length l.length (some (k : Int)) = min k l.length from HT.sIx_nat l.length l.length k]
  simp only [List.drop_zero, Nat.sub_zero, ← List.map_take]
  congr 1
  by_cases q : k ≤ l.length
  · rw [Nat.min_eq_left q]
  · rw [Nat.min_eq_right (by omega), List.take_of_length_le (Nat.le_refl _), List.take_of_length_le (by omega)]
theorem dcut_from {β : Type} {f : β → D} {l : List β} (k : Nat) : dcut (l.map f) (some (k : Int)) none = (l.drop k).map f := by
  unfold dcut
  rw [HT.sIx_none, List.length_map, show HT.sIx l.length 0 (some (k : Int)) = min k l.length from HT.sIx_nat l.length 0 k]
  rw [← List.map_drop, ← List.map_take]
  congr 1
  by_cases q : k ≤ l.length
  · rw [Nat.min_eq_left q, List.take_of_length_le (by simp)]
  · rw [Nat.min_eq_right (by omega), List.drop_of_length_le (Nat.le_refl _), List.drop_of_length_le (by omega)]; simp
theorem sIx_m1 (n d : Nat) : HT.sIx n d (some (-1)) = n - 1 := by
  unfold HT.sIx
  first
    | omega
    | (simp; omega)
    | (simp; split <;> omega)
theorem dcut_m1 {β : Type} {f : β → D} {l : List β} : dcut (l.map f) none (some (-1)) = l.dropLast.map f := by
  unfold dcut
  rw [HT.sIx_none, List.length_map, sIx_m1]
  simp only [List.drop_zero, Nat.sub_zero, ← List.map_take]
  rw [List.dropLast_eq_take]
/-! new lists -/
theorem lcGo_enc {β : Type} {enc : β → D} {i : Nat} {t : Sx → R Bool} {e : Sx → R D} {ρ : List (Option D)} {M : Cells} {F : β → D} (pd : β → Bool) : ∀ l : List β, (∀ b ∈ l, t ⟨ρ.set i (some (enc b)), M⟩ = .ok (pd b) M) → (∀ b ∈ l, pd b = true → e ⟨ρ.set i (some (enc b)), M⟩ = .ok (F b) M) →
    fLcGo (bName i) t e ρ (l.map enc) M = .ok ((l.filter pd).map F) M
  | [], _, _ => by simp [fLcGo]
  | b :: l, ht, he => by
    have ih := lcGo_enc pd l (fun b hb => ht b (List.mem_cons_of_mem _ hb)) (fun b hb => he b (List.mem_cons_of_mem _ hb))
    rw [List.map_cons, fLcGo]
    simp only [bName_s, ht b List.mem_cons_self]
    cases h : pd b with
    | true =>
      rw [if_pos rfl]
      simp [he b List.mem_cons_self h, ih, h]
    | false =>
      rw [if_neg (by simp), ih, List.filter_cons_of_neg (by simp [h])]
theorem lcGo_all1 {β : Type} {enc : β → D} {i : Nat} {e : Sx → R D} {ρ : List (Option D)} {M : Cells} {F : β → D} (l : List β) (he : ∀ b ∈ l, e ⟨ρ.set i (some (enc b)), M⟩ = .ok (F b) M) :
    fLcGo (bName i) fTrue e ρ (l.map enc) M = .ok (l.map F) M := by
  have := lcGo_enc (enc := enc) (i := i) (t := fTrue) (e := e) (ρ := ρ) (M := M) (F := F) (fun _ => true) l (fun _ _ => rfl) (fun b hb _ => he b hb)
  rwa [List.filter_eq_self.mpr (fun _ _ => rfl)] at this
theorem rgList_map {lo n : Nat} : rgList (lo : Int) n = (List.range' lo n).map fun (k : Nat) => D.int (k : Int) := by
  unfold rgList
  rw [List.range'_eq_map_range, List.map_map]
  refine List.map_congr_left fun k _ => ?_
  simp
theorem asRg1_n {j : Nat} (h : j ≤ 1000000) : asRg1 [.int (j : Int)] = some ((List.range j).map fun (k : Nat) => D.int (k : Int)) := by
  rw [asRg1_s h]
  have := rgList_map (lo := 0) (n := j)
  rw [Int.natCast_zero] at this
  rw [this, List.range_eq_range']
theorem asRg2_n {i j : Nat} (h1 : i ≤ 1000000) (h : j ≤ 1000000) : asRg2 [.int (i : Int), .int (j : Int)] = some ((List.range' i (j - i)).map fun (k : Nat) => D.int (k : Int)) := by
  rw [asRg2_s h1 h, rgList_map]
/-! any, all, sum -/
section
variable {β : Type} {enc : β → D} {i : Nat} {e : Sx → R D} {ρ : List (Option D)} {M : Cells}
theorem any_enc {pd : β → Bool} : ∀ l : List β, (∀ b ∈ l, e ⟨ρ.set i (some (enc b)), M⟩ = .ok (.bl (pd b)) M) → gxGo (bName i) fTrue e ρ stAny (fun _ => .bl false) () (l.map enc) M = .ok (.bl (l.any pd)) M
  | [], _ => rfl
  | b :: l, h => by
    have ih := any_enc l fun b hb => h b (List.mem_cons_of_mem _ hb)
    rw [List.map_cons, gxGo]
    simp only [bName_s, fTrue, if_true, h b List.mem_cons_self, stAny, List.any_cons]
    cases pd b with
    | true => simp
    | false => simpa using ih
theorem all_enc {pd : β → Bool} : ∀ l : List β, (∀ b ∈ l, e ⟨ρ.set i (some (enc b)), M⟩ = .ok (.bl (pd b)) M) → gxGo (bName i) fTrue e ρ stAll (fun _ => .bl true) () (l.map enc) M = .ok (.bl (l.all pd)) M
  | [], _ => rfl
  | b :: l, h => by
    have ih := all_enc l fun b hb => h b (List.mem_cons_of_mem _ hb)
    rw [List.map_cons, gxGo]
    simp only [bName_s, fTrue, if_true, h b List.mem_cons_self, stAll, List.all_cons]
    cases pd b with
    | true => simpa using ih
    | false => simp
theorem sum_enc {F : β → Int} : ∀ (l : List β) (a : Int), (∀ b ∈ l, e ⟨ρ.set i (some (enc b)), M⟩ = .ok (.int (F b)) M) → gxGo (bName i) fTrue e ρ stSum .int a (l.map enc) M = .ok (.int (a + (l.map F).sum)) M
  | [], a, _ => by simp [gxGo]
  | b :: l, a, h => by
    have ih := sum_enc l (a + F b) fun b hb => h b (List.mem_cons_of_mem _ hb)
    rw [List.map_cons, gxGo]
    simp only [bName_s, fTrue, if_true, h b List.mem_cons_self, stSum, List.map_cons, List.sum_cons]
    rw [ih]; congr 2; omega
end
@[simp] theorem fGx_s {κ : Type} {fi : Sx → R (List D)} {g : D → Sx → Option Sx} {t : Sx → R Bool} {e : Sx → R D} {vs : List Nat} {step : κ → D → Option (κ ⊕ D)} {fin : κ → D} {a : κ} {s : Sx} : fGx fi g t e vs step fin a s = (fi s).bind fun ds M => gxGo g t e (wipeD s.ρ vs) step fin a ds M := rfl
theorem fAny_enc {β : Type} {enc : β → D} {i : Nat} {e : Sx → R D} {vs : List Nat} {fi : Sx → R (List D)} {s : Sx} {M : Cells} {pd : β → Bool} (l : List β) (hf : fi s = .ok (l.map enc) M) (h : ∀ b ∈ l, e ⟨(wipeD s.ρ vs).set i (some (enc b)), M⟩ = .ok (.bl (pd b)) M) : fAny fi (bName i) fTrue e vs s = .ok (.bl (l.any pd)) M := by
  show fGx fi (bName i) fTrue e vs stAny (fun _ => .bl false) () s = _
  rw [fGx_s, hf]
  exact any_enc l h
theorem fAll_enc {β : Type} {enc : β → D} {i : Nat} {e : Sx → R D} {vs : List Nat} {fi : Sx → R (List D)} {s : Sx} {M : Cells} {pd : β → Bool} (l : List β) (hf : fi s = .ok (l.map enc) M) (h : ∀ b ∈ l, e ⟨(wipeD s.ρ vs).set i (some (enc b)), M⟩ = .ok (.bl (pd b)) M) : fAll fi (bName i) fTrue e vs s = .ok (.bl (l.all pd)) M := by
  show fGx fi (bName i) fTrue e vs stAll (fun _ => .bl true) () s = _
  rw [fGx_s, hf]
  exact all_enc l h
theorem fSum_enc {β : Type} {enc : β → D} {i : Nat} {e : Sx → R D} {vs : List Nat} {fi : Sx → R (List D)} {s : Sx} {M : Cells} {F : β → Int} (l : List β) (hf : fi s = .ok (l.map enc) M) (h : ∀ b ∈ l, e ⟨(wipeD s.ρ vs).set i (some (enc b)), M⟩ = .ok (.int (F b)) M) : fSum fi (bName i) fTrue e vs s = .ok (.int (l.map F).sum) M := by
  show fGx fi (bName i) fTrue e vs stSum .int (0 : Int) s = _
  rw [fGx_s, hf]
  have := sum_enc (i := i) (ρ := wipeD s.ρ vs) l 0 h
  rw [Int.zero_add] at this
  exact this
theorem fLc_enc {β : Type} {enc : β → D} {i : Nat} {e : Sx → R D} {vs : List Nat} {fi : Sx → R (List D)} {s : Sx} {M : Cells} {F : β → D} (l : List β) (hf : fi s = .ok (l.map enc) M) (hl : l.length ≤ 100000) (h : ∀ b ∈ l, e ⟨(wipeD s.ρ vs).set i (some (enc b)), M⟩ = .ok (F b) M) : fLc fi (bName i) fTrue e vs s = .ok (l.map F) M := by
  unfold fLc
  rw [hf]
  simp only [bind_ok, List.length_map, hl, if_true]
  exact lcGo_all1 l h
theorem fLc_flt {β : Type} {enc : β → D} {i : Nat} {t : Sx → R Bool} {e : Sx → R D} {vs : List Nat} {fi : Sx → R (List D)} {s : Sx} {M : Cells} {F : β → D} {pd : β → Bool} (l : List β) (hf : fi s = .ok (l.map enc) M) (hl : l.length ≤ 100000) (ht : ∀ b ∈ l, t ⟨(wipeD s.ρ vs).set i (some (enc b)), M⟩ = .ok (pd b) M) (h : ∀ b ∈ l, pd b = true → e ⟨(wipeD s.ρ vs).set i (some (enc b)), M⟩ = .ok (F b) M) : fLc fi (bName i) t e vs s = .ok ((l.filter pd).map F) M := by
  unfold fLc
  rw [hf]
  simp only [bind_ok, List.length_map, hl, if_true]
  exact lcGo_enc pd l ht h
@[simp] theorem fLc_s {fi : Sx → R (List D)} {g : D → Sx → Option Sx} {t : Sx → R Bool} {e : Sx → R D} {vs : List Nat} {s : Sx} : fLc fi g t e vs s = (fi s).bind fun ds M => if ds.length ≤ 100000 then fLcGo g t e (wipeD s.ρ vs) ds M else .no := rfl
@[simp] theorem fAndV_s {fa fb : Sx → R D} {s : Sx} : fAndV fa fb s = (fa s).bind fun d M => match d with
  | .bl b => if b = true then fb ⟨s.ρ, M⟩ else .ok (.bl false) M
  | _ => .no := rfl
@[simp] theorem fOrV_s {fa fb : Sx → R D} {s : Sx} : fOrV fa fb s = (fa s).bind fun d M => match d with
  | .bl b => if b = true then .ok (.bl true) M else fb ⟨s.ρ, M⟩
  | _ => .no := rfl
@[simp] theorem fNotV_s {fa : Sx → R D} {s : Sx} : fNotV fa s = (fa s).bind fun d M => match d with
  | .bl b => .ok (.bl (!b)) M
  | _ => .no := rfl
@[simp] theorem gLen_tup {M : Cells} {l : List D} : gLen M [.tup l] = some (.int l.length) := rfl
@[simp] theorem gLen_lst {M : Cells} {l : List D} : gLen M [.lst l] = some (.int l.length) := rfl
@[simp] theorem gTup_lst {M : Cells} {l : List D} : gTupOf M [.lst l] = some (.tup l) := rfl
@[simp] theorem gTup_tup {M : Cells} {l : List D} : gTupOf M [.tup l] = some (.tup l) := rfl
theorem tst_of {f : Sx → R D} {s : Sx} {M : Cells} {b : Bool} (h : f s = .ok (.bl b) M) : fTst f s = .ok b M := by rw [fTst_s, h]; rfl
theorem not_of {f : Sx → R Bool} {s : Sx} {M : Cells} {b : Bool} (h : f s = .ok b M) : fNot f s = .ok (!b) M := by rw [fNot_s, h]; rfl
theorem or_t {f g : Sx → R Bool} {s : Sx} {M : Cells} (h : f s = .ok true M) : fOr f g s = .ok true M := by rw [fOr_s, h]; rfl
theorem or_f {f g : Sx → R Bool} {s : Sx} {M : Cells} (h : f s = .ok false M) : fOr f g s = g ⟨s.ρ, M⟩ := by rw [fOr_s, h]; rfl
theorem and_t {f g : Sx → R Bool} {s : Sx} {M : Cells} (h : f s = .ok true M) : fAnd f g s = g ⟨s.ρ, M⟩ := by rw [fAnd_s, h]; rfl
theorem and_f {f g : Sx → R Bool} {s : Sx} {M : Cells} (h : f s = .ok false M) : fAnd f g s = .ok false M := by rw [fAnd_s, h]; rfl
theorem op_of {g : Cells → D → D → Option D} {fa fb : Sx → R D} {s : Sx} {M1 M2 : Cells} {d e z : D} (ha : fa s = .ok d M1) (hb : fb ⟨s.ρ, M1⟩ = .ok e M2) (hg : g M2 d e = some z) : fOp g fa fb s = .ok z M2 := by
  rw [fOp_s, ha]
  simp only [bind_ok]
  rw [hb]
  simp only [bind_ok, hg, opt_some]
theorem ifS_t {c : Sx → R Bool} {f g : Sx → RS} {s : Sx} {M : Cells} (h : c s = .ok true M) : fIfS c f g s = f ⟨s.ρ, M⟩ := by
  rw [fIfS_s, h]; rfl
theorem ifS_f {c : Sx → R Bool} {f g : Sx → RS} {s : Sx} {M : Cells} (h : c s = .ok false M) : fIfS c f g s = g ⟨s.ρ, M⟩ := by
  rw [fIfS_s, h]; rfl
theorem while_end {c : Sx → R Bool} {b : Sx → RS} {n : Nat} {s : Sx} {M : Cells} (hc : c s = .ok false M) : fWhile c b (n + 1) s = .nx ⟨s.ρ, M⟩ := by
  rw [fWhile, hc]; rfl
theorem while_go {c : Sx → R Bool} {b : Sx → RS} {n : Nat} {s s1 : Sx} {M : Cells} (hc : c s = .ok true M) (hb : b ⟨s.ρ, M⟩ = .nx s1) : fWhile c b (n + 1) s = fWhile c b n s1 := by
  rw [fWhile, hc]
  simp only [toS_ok, if_true, hb]
theorem while_brk {c : Sx → R Bool} {b : Sx → RS} {n : Nat} {s s1 : Sx} {M : Cells} (hc : c s = .ok true M) (hb : b ⟨s.ρ, M⟩ = .bk s1) : fWhile c b (n + 1) s = .nx s1 := by
  rw [fWhile, hc]
  simp only [toS_ok, if_true, hb]
theorem while_rt {c : Sx → R Bool} {b : Sx → RS} {n : Nat} {s s1 : Sx} {M : Cells} {d : D} (hc : c s = .ok true M) (hb : b ⟨s.ρ, M⟩ = .rt d s1) : fWhile c b (n + 1) s = .rt d s1 := by
  rw [fWhile, hc]
  simp only [toS_ok, if_true, hb]
theorem for_go {g : D → Sx → Option Sx} {b : Sx → RS} {d : D} {l : List D} {s s1 s2 : Sx} (hg : g d s = some s1) (hb : b s1 = .nx s2) : fForL g b (d :: l) s = fForL g b l s2 := by
  rw [fForL, hg]
  simp only [hb]
theorem for_brk {g : D → Sx → Option Sx} {b : Sx → RS} {d : D} {l : List D} {s s1 s2 : Sx} (hg : g d s = some s1) (hb : b s1 = .bk s2) : fForL g b (d :: l) s = .nx s2 := by
  rw [fForL, hg]
  simp only [hb]
theorem for_rt {g : D → Sx → Option Sx} {b : Sx → RS} {d e : D} {l : List D} {s s1 s2 : Sx} (hg : g d s = some s1) (hb : b s1 = .rt e s2) : fForL g b (d :: l) s = .rt e s2 := by
  rw [fForL, hg]
  simp only [hb]
theorem for_ex {g : D → Sx → Option Sx} {b : Sx → RS} {d : D} {l : List D} {s s1 s2 : Sx} {e : Ex} (hg : g d s = some s1) (hb : b s1 = .ex e s2) : fForL g b (d :: l) s = .ex e s2 := by
  rw [fForL, hg]
  simp only [hb]
theorem lat_at {M : Cells} {n : Nat} {l : List D} (h : M[n]? = some l) (pl : plain l = true) : lat M n = some l := by rw [lat_s, h]; simp [pl]
theorem mt_pop {i n : Nat} {l : List D} {y : D} {s : Sx} (hv : s.ρ[i]? = some (some (.loc n))) (hM : s.M[n]? = some l) (pl : plain l = true) (hy : l[l.length - 1]? = some y) : fMt gPop (fVar i) fNil s = .ok y (s.M.set n l.dropLast) := by
  have e := lat_at hM pl
  unfold fMt
  rw [fVar_s, hv]
  simp only [bind_ok, isLst, e, Option.isSome_some, if_true, fNil_s, gPop, hy]
theorem mt_append {i n : Nat} {l : List D} {d : D} {f : Sx → R D} {s : Sx} {M : Cells} (hv : s.ρ[i]? = some (some (.loc n))) (hM0 : s.M[n]? = some l) (pl0 : plain l = true) (hf : f s = .ok d M) (hM : M[n]? = some l) (hl : l.length < 100000) : fMt gAppend (fVar i) (fCons f fNil) s = .ok .non (M.set n (l ++ [d])) := by
  have e0 := lat_at hM0 pl0
  have e := lat_at hM pl0
  unfold fMt
  rw [fVar_s, hv]
  obtain ⟨ρ, M0⟩ := s
  simp only [bind_ok, isLst, e0, Option.isSome_some, if_true, fCons_s, hf, fNil_s, gAppend, e, hl]
theorem aut_at {n : Nat} {Nm : List Str} {g : Sx → RS} {ds : List D} (h : ds.length = n) : aut n Nm g ds = (g ⟨init0 Nm ds, []⟩).pu := by
  unfold aut; rw [if_pos h]
theorem autF_at {n : Nat} {Nm : List Str} {g : Nat → Sx → RS} {ds : List D} (h : ds.length = n) : autF n Nm g ds = (g (fuelOf ds) ⟨init0 Nm ds, []⟩).pu := by
  unfold autF; rw [if_pos h]
theorem autM_at {n : Nat} {Nm : List Str} {g : Sx → RS} {ds : List D} {M : Cells} (h : ds.length = n) : autM n Nm g ds M = RS.out M.length (g ⟨init0 Nm ds, M⟩) := by
  unfold autM; rw [if_pos h]
theorem fuel_ge (ds : List D) : 1000 ≤ fuelOf ds := by unfold fuelOf; omega
/-! points in a dict, put in order -/
abbrev entT (p : Pt) : D := ent [p.1, p.2] (.bl true)
def ddG (acc ps : List Pt) : List Pt := ps.foldl (fun acc p => if p ∈ acc then acc else acc ++ [p]) acc
theorem isKey_pt (p q : Pt) : isKey [p.1, p.2] (entT q) = decide (q = p) := by
  show decide (unInts ([q.1, q.2].map D.int) = some [p.1, p.2]) = _
  rw [unInts_map]
  by_cases h : q = p
  · subst h; simp
  · rw [decide_eq_false h, decide_eq_false]
    intro e
    apply h
    simp at e
    exact Prod.ext e.1 e.2
theorem putP_pt (acc : List Pt) (p : Pt) : putP (acc.map entT) [p.1, p.2] (.bl true) = (if p ∈ acc then acc else acc ++ [p]).map entT := by
  unfold putP
  have e : (acc.map entT).any (isKey [p.1, p.2]) = decide (p ∈ acc) := by
    rw [List.any_map]
    have : (isKey [p.1, p.2] ∘ entT) = fun q => decide (q = p) := funext fun q => isKey_pt p q
    rw [this]
    induction acc with
    | nil => simp
    | cons a acc ih => 
      rw [List.any_cons, ih]
      by_cases h : a = p
      · simp [h]
      · have : ¬ p = a := fun z => h z.symm
        simp [h, this]
  rw [e]
  by_cases h : p ∈ acc
  · rw [decide_eq_true h, if_pos rfl, if_pos h, List.map_map]
    refine List.map_congr_left fun q _ => ?_
    show (if isKey [p.1, p.2] (entT q) = true then entT p else entT q) = entT q
    rw [isKey_pt]
    by_cases hq : q = p
    · simp [hq]
    · simp [hq]
  · rw [decide_eq_false h, if_neg (by simp), if_neg h, List.map_append]
    rfl
theorem dcGo_pts {i : Nat} {ρ : List (Option D)} {M : Cells} (hi : i < ρ.length) : ∀ (ps acc : List Pt), fDcGo (bName i) fTrue (fVar i) (fC (.bl true)) ρ (acc.map entT) (ps.map pt) M = .ok ((ddG acc ps).map entT) M
  | [], acc => rfl
  | p :: ps, acc => by
    rw [List.map_cons, fDcGo]
    have k : iKey (pt p) = some [p.1, p.2] := rfl
    simp only [bName_s, fTrue, if_true, fVar_s, fC_s, List.getElem?_set_self hi, k]
    rw [putP_pt, dcGo_pts hi ps]
    rfl
theorem ddG_mem {p : Pt} : ∀ (ps acc : List Pt), p ∈ ddG acc ps ↔ p ∈ acc ∨ p ∈ ps
  | [], acc => by simp [ddG]
  | q :: ps, acc => by
    have := ddG_mem (p := p) ps (if q ∈ acc then acc else acc ++ [q])
    show p ∈ ddG _ ps ↔ _
    rw [this]
    split
    · rename_i h
      constructor
      · rintro (a | a)
        · exact .inl a
        · exact .inr (List.mem_cons_of_mem _ a)
      · rintro (a | a)
        · exact .inl a
        · rcases List.mem_cons.mp a with rfl | a
          · exact .inl h
          · exact .inr a
    · simp [or_assoc]
theorem ddG_nodup : ∀ (ps acc : List Pt), acc.Nodup → (ddG acc ps).Nodup
  | [], acc, h => h
  | q :: ps, acc, h => by
    refine ddG_nodup ps _ ?_
    dsimp only
    split
    · exact h
    · rename_i hq
      rw [List.nodup_append]
      exact ⟨h, by simp, fun a ha b hb => by
        simp at hb; subst hb
        intro e; subst e; exact hq ha⟩
/-- a row's points in order, each once -/
def srt (ps : List Pt) : List Pt := (ddG [] ps).mergeSort lePt
theorem lePt_tr (a b c : Pt) (h : lePt a b = true) (k : lePt b c = true) : lePt a c = true := by
  unfold lePt at *; simp only [decide_eq_true_eq] at *; omega
theorem lePt_tot (a b : Pt) : (lePt a b || lePt b a) = true := by
  unfold lePt; simp only [Bool.or_eq_true, decide_eq_true_eq]; omega
theorem srt_mem {p : Pt} {ps : List Pt} : p ∈ srt ps ↔ p ∈ ps := by
  unfold srt
  rw [List.mem_mergeSort, ddG_mem]; simp
theorem sorted_rise {l : List Pt} (h : l.Nodup) : Geo.Rise (l.mergeSort lePt) := by
  have a := List.pairwise_mergeSort (le := lePt) lePt_tr lePt_tot l
  have b : (l.mergeSort lePt).Nodup := (List.mergeSort_perm l lePt).nodup_iff.mpr h
  unfold Geo.Rise
  refine (List.pairwise_and_iff.mpr ⟨a, b⟩).imp fun {x y} z => ?_
  obtain ⟨z1, z2⟩ := z
  unfold lePt at z1
  unfold Geo.lt
  simp only [decide_eq_true_eq] at z1
  by_cases e : x.1 = y.1 ∧ x.2 = y.2
  · exact (z2 (Prod.ext e.1 e.2)).elim
  · omega
theorem srt_rise (ps : List Pt) : Geo.Rise (srt ps) := sorted_rise (ddG_nodup ps [] List.nodup_nil)
theorem rise_eq {l m : List Pt} (h1 : Geo.Rise l) (h2 : Geo.Rise m) (h : ∀ p, p ∈ l ↔ p ∈ m) : l = m := by
  have n1 : l.Nodup := h1.imp fun {a b} z e => by subst e; exact Geo.lt_irr z
  have n2 : m.Nodup := h2.imp fun {a b} z e => by subst e; exact Geo.lt_irr z
  have p : l.Perm m := (List.perm_ext_iff_of_nodup n1 n2).mpr h
  exact p.eq_of_pairwise (le := Geo.lt) (fun a b _ _ x y => (Geo.lt_asym x y).elim) h1 h2
theorem entPts_map : ∀ ps : List Pt, entPts (ps.map entT) = some ps
  | [] => rfl
  | p :: ps => by
    show entPts (entT p :: ps.map entT) = _
    unfold entPts
    rw [entPts_map ps]
    rfl
/-- sorted({p: True for p in row}) -/
theorem sorted_dict {i : Nat} {f : Sx → R (List D)} {s : Sx} {ps : List Pt} {M : Cells} (h : f s = .ok (ps.map pt) M) (hi : i < s.ρ.length) (hl : ps.length ≤ 100000) :
    fCB gSortedT (fCons (fDc f (bName i) fTrue (fVar i) (fC (.bl true)) [i]) fNil) s = .ok (LsP (srt ps)) (M ++ [.tag .dic :: (ddG [] ps).map entT]) := by
  have hw : i < (wipeD s.ρ [i]).length := by rw [wipeD_length]; exact hi
  have e := dcGo_pts (M := M) hw ps []
  rw [List.map_nil] at e
  have q : dat (M ++ [.tag .dic :: (ddG [] ps).map entT]) M.length = some ((ddG [] ps).map entT) := by
    unfold dat
    rw [List.getElem?_append_right (Nat.le_refl _)]
    simp
  simp only [fCB_s, fCons_s, fNil_s, fDc, h, bind_ok, List.length_map, hl, if_true, e]
  simp only [gSortedT, q, entPts_map, opt_some]
  rfl
end DL

namespace PG
open PySem PySem.Spec L2 DL
open PyProof.Rows hiding St
abbrev N_check_point : List Str := ["point", "one"]
def g_check_point  : Sx → RS := (fSeq (fIfS (fOr (fNot (fTst (fCB gIsi (fCons (fVar 0) (fCons (fC (.ty "tuple")) fNil))))) (fTst (fOp gNe (fCB gLen (fCons (fVar 0) fNil)) (fC (.int 2))))) (fRaise "BadPoint") fSkip) (fFor (fIt asTup (fVar 0)) (bName 1) (fIfS (fOr (fNot (fTst (fCB gIsi (fCons (fVar 1) (fCons (fC (.ty "int")) fNil))))) (fOr (fTst (fCB gIsi (fCons (fVar 1) (fCons (fC (.ty "bool")) fNil)))) (fTst (fOp nGt (fCB gAbs (fCons (fVar 1) fNil)) (fC (.int 1000000)))))) (fRaise "BadPoint") fSkip)))
def m_check_point : List D → Pu := aut 1 N_check_point (g_check_point )
abbrev N_check_row : List Str := ["row", "point"]
def g_check_row  : Sx → RS := (fSeq (fIfS (fOr (fNot (fTst (fCB gIsi (fCons (fVar 0) (fCons (fC (.ty "tuple")) fNil))))) (fTst (fOp nGt (fCB gLen (fCons (fVar 0) fNil)) (fC (.int 400))))) (fRaise "BadPoint") fSkip) (fFor (fIt asTup (fVar 0)) (bName 1) (fDrop (fCall m_check_point (fCons (fVar 1) fNil)))))
def m_check_row : List D → Pu := aut 1 N_check_row (g_check_row )
abbrev N_cross : List Str := ["u", "v"]
def g_cross  : Sx → RS := (fRet (fOp nSub (fOp nMul (fOp gIx (fVar 0) (fC (.int 0))) (fOp gIx (fVar 1) (fC (.int 1)))) (fOp nMul (fOp gIx (fVar 0) (fC (.int 1))) (fOp gIx (fVar 1) (fC (.int 0))))))
def m_cross : List D → Pu := aut 2 N_cross (g_cross )
abbrev N_less : List Str := ["a", "b"]
def g_less  : Sx → RS := (fRet (fTup (fCons (fOp nSub (fOp gIx (fVar 0) (fC (.int 0))) (fOp gIx (fVar 1) (fC (.int 0)))) (fCons (fOp nSub (fOp gIx (fVar 0) (fC (.int 1))) (fOp gIx (fVar 1) (fC (.int 1)))) fNil))))
def m_less : List D → Pu := aut 2 N_less (g_less )
abbrev N_turn : List Str := ["a", "b", "c"]
def g_turn  : Sx → RS := (fRet (fCall m_cross (fCons (fCall m_less (fCons (fVar 1) (fCons (fVar 0) fNil))) (fCons (fCall m_less (fCons (fVar 2) (fCons (fVar 0) fNil))) fNil))))
def m_turn : List D → Pu := aut 3 N_turn (g_turn )
abbrev N_chain : List Str := ["points", "found", "point"]
def g_chain (n1 : Nat) : Sx → RS := (fSeq (fOwn 1 (fNew fNil)) (fSeq (fFor (fIt asLst (fVar 0)) (bName 2) (fSeq (fWhile (fAnd (fTst (fOp nGt (fCB gLen (fCons (fVar 1) fNil)) (fC (.int 1)))) (fTst (fOp nLe (fCall m_turn (fCons (fOp gIx (fVar 1) (fUn nNeg (fC (.int 2)))) (fCons (fOp gIx (fVar 1) (fUn nNeg (fC (.int 1)))) (fCons (fVar 2) fNil)))) (fC (.int 0))))) (fDrop (fMt gPop (fVar 1) fNil)) n1) (fDrop (fMt gAppend (fVar 1) (fCons (fVar 2) fNil))))) (fRet (fVar 1))))
def m_chain : List D → R D := autO 1 N_chain (g_chain 1000)
abbrev N_hull_of : List Str := ["row", "points", "point", "low", "high", "found"]
def g_hull_of  : Sx → RS := (fSeq (fAsg (fCB gSortedT (fCons (fDc (fIt asTup (fVar 0)) (bName 2) fTrue (fVar 2) (fC (.bl true)) [2]) fNil)) (bName 1)) (fSeq (fIfS (fTst (fOp nLt (fCB gLen (fCons (fVar 1) fNil)) (fC (.int 3)))) (fRet (fCB gTupOf (fCons (fVar 1) fNil))) fSkip) (fSeq (fPar 3 4 (fCons (fCallO m_chain (fCons (fVar 1) fNil)) (fCons (fCallO m_chain (fCons (fUn (gRev false) (fVar 1)) fNil)) fNil))) (fSeq (fAsg (fCB gTupOf (fCons (fOp gCatL (fSl (fVar 3) fNoPart (fPart (fUn nNeg (fC (.int 1))))) (fSl (fVar 4) fNoPart (fPart (fUn nNeg (fC (.int 1)))))) fNil)) (bName 5)) (fRet (fIf (fTst (fOp nGt (fCB gLen (fCons (fVar 5) fNil)) (fC (.int 2)))) (fVar 5) (fTup (fCons (fOp gIx (fVar 1) (fC (.int 0))) (fCons (fOp gIx (fVar 1) (fUn nNeg (fC (.int 1)))) fNil)))))))))
def m_hull_of : List D → Pu := aut 1 N_hull_of (g_hull_of )
abbrev N_hull : List Str := ["row"]
def g_hull  : Sx → RS := (fSeq (fDrop (fCall m_check_row (fCons (fVar 0) fNil))) (fRet (fCall m_hull_of (fCons (fVar 0) fNil))))
def m_hull : List D → Pu := aut 1 N_hull (g_hull )
abbrev N_layers : List Str := ["row", "left", "found", "point", "one"]
def g_layers (n1 : Nat) : Sx → RS := (fSeq (fPar 1 2 (fCons (fCB gSortedT (fCons (fDc (fIt asTup (fVar 0)) (bName 3) fTrue (fVar 3) (fC (.bl true)) [3]) fNil)) (fCons (fOwnE (fNew fNil)) fNil))) (fSeq (fWhile (fTst (fOp gNe (fVar 1) (fLst fNil))) (fSeq (fAsg (fCall m_hull (fCons (fCB gTupOf (fCons (fVar 1) fNil)) fNil)) (bName 4)) (fSeq (fDrop (fMt gAppend (fVar 2) (fCons (fVar 4) fNil))) (fAsg (fFz (fLc (fIt asLst (fVar 1)) (bName 3) (fTst (fOp (gInA true) (fVar 3) (fVar 4))) (fVar 3) [3])) (bName 1)))) n1) (fRet (fCB gTupOf (fCons (fVar 2) fNil)))))
def m_layers : List D → Pu := autF 1 N_layers (fun n => g_layers n)
abbrev N__law_flat : List Str := ["rows", "found", "row"]
def g__law_flat  : Sx → RS := (fSeq (fAsg (fLst fNil) (bName 1)) (fSeq (fFor (fIt asLst (fVar 0)) (bName 2) (fAsg (fOp gCatL (fVar 1) (fVar 2)) (bName 1))) (fRet (fVar 1))))
def m__law_flat : List D → Pu := aut 1 N__law_flat (g__law_flat )
abbrev N_is_hull : List Str := ["corners", "many", "k"]
def g_is_hull  : Sx → RS := (fSeq (fAsg (fCB gLen (fCons (fVar 0) fNil)) (bName 1)) (fSeq (fIfS (fOr (fTst (fOp nLt (fVar 1) (fC (.int 3)))) (fTst (fOp gNe (fCB (gBest true) (fCons (fVar 0) fNil)) (fOp gIx (fVar 0) (fC (.int 0)))))) (fRet (fC (.bl false))) fSkip) (fSeq (fIfS (fTst (fAny (fIts asRg1 (fCons (fVar 1) fNil)) (bName 2) fTrue (fOp nLe (fCall m_turn (fCons (fOp gIx (fVar 0) (fVar 2)) (fCons (fOp gIx (fVar 0) (fOp nMod (fOp nAdd (fVar 2) (fC (.int 1))) (fVar 1))) (fCons (fOp gIx (fVar 0) (fOp nMod (fOp nAdd (fVar 2) (fC (.int 2))) (fVar 1))) fNil)))) (fC (.int 0))) [2])) (fRet (fC (.bl false))) fSkip) (fRet (fAll (fIts asRg2 (fCons (fC (.int 1)) (fCons (fOp nSub (fVar 1) (fC (.int 1))) fNil))) (bName 2) fTrue (fOp nGt (fCall m_turn (fCons (fOp gIx (fVar 0) (fC (.int 0))) (fCons (fOp gIx (fVar 0) (fVar 2)) (fCons (fOp gIx (fVar 0) (fOp nAdd (fVar 2) (fC (.int 1)))) fNil)))) (fC (.int 0))) [2])))))
def m_is_hull : List D → Pu := aut 1 N_is_hull (g_is_hull )
abbrev N_check_hull : List Str := ["corners"]
def g_check_hull  : Sx → RS := (fSeq (fDrop (fCall m_check_row (fCons (fVar 0) fNil))) (fIfS (fNot (fTst (fCall m_is_hull (fCons (fVar 0) fNil)))) (fRaise "BadPoint") fSkip))
def m_check_hull : List D → Pu := aut 1 N_check_hull (g_check_hull )
abbrev N_in_three : List Str := ["a", "b", "c", "point"]
def g_in_three  : Sx → RS := (fRet (fAndV (fOp nGe (fCall m_turn (fCons (fVar 0) (fCons (fVar 1) (fCons (fVar 3) fNil)))) (fC (.int 0))) (fAndV (fOp nGe (fCall m_turn (fCons (fVar 1) (fCons (fVar 2) (fCons (fVar 3) fNil)))) (fC (.int 0))) (fOp nGe (fCall m_turn (fCons (fVar 2) (fCons (fVar 0) (fCons (fVar 3) fNil)))) (fC (.int 0))))))
def m_in_three : List D → Pu := aut 4 N_in_three (g_in_three )
abbrev N_hull_paper : List Str := ["row", "corners", "found", "point", "k"]
def g_hull_paper  : Sx → RS := (fSeq (fAsg (fCall m_hull (fCons (fVar 0) fNil)) (bName 1)) (fSeq (fIfS (fTst (fOp nLt (fCB gLen (fCons (fVar 1) fNil)) (fC (.int 3)))) (fRaise "NoWay") fSkip) (fSeq (fOwn 2 (fNew fNil)) (fSeq (fFor (fIt asTup (fVar 0)) (bName 3) (fFor (fIts asRg2 (fCons (fC (.int 1)) (fCons (fOp nSub (fCB gLen (fCons (fVar 1) fNil)) (fC (.int 1))) fNil))) (bName 4) (fIfS (fTst (fCall m_in_three (fCons (fOp gIx (fVar 1) (fC (.int 0))) (fCons (fOp gIx (fVar 1) (fVar 4)) (fCons (fOp gIx (fVar 1) (fOp nAdd (fVar 4) (fC (.int 1)))) (fCons (fVar 3) fNil)))))) (fSeq (fDrop (fMt gAppend (fVar 2) (fCons (fTup (fCons (fC (.int 0)) (fCons (fVar 4) (fCons (fOp nAdd (fVar 4) (fC (.int 1))) fNil)))) fNil))) fBrk) fSkip))) (fRet (fTup (fCons (fVar 1) (fCons (fCB gTupOf (fCons (fVar 2) fNil)) fNil))))))))
def m_hull_paper : List D → Pu := aut 1 N_hull_paper (g_hull_paper )
abbrev N_look_paper : List Str := ["row", "paper", "corners", "rows", "one", "k", "point", "three"]
def g_look_paper  : Sx → RS := (fSeq (fAsg (fVar 1) (bTup 2 (bCons (bName 2) (bCons (bName 3) bNil)))) (fSeq (fIfS (fOr (fNot (fTst (fCall m_is_hull (fCons (fVar 2) fNil)))) (fTst (fAny (fIt asTup (fVar 2)) (bName 4) fTrue (fOp (gInA true) (fVar 4) (fVar 0)) [4]))) (fRaiseP "BadPaper" (fC (.int 0))) fSkip) (fSeq (fFor (fIts asEnum (fCons (fVar 0) fNil)) (bTup 2 (bCons (bName 5) (bCons (bName 6) bNil))) (fSeq (fIfS (fTst (fOp nGe (fVar 5) (fCB gLen (fCons (fVar 3) fNil)))) (fRaiseP "BadPaper" (fOp nAdd (fVar 5) (fC (.int 1)))) fSkip) (fSeq (fAsg (fOp gIx (fVar 3) (fVar 5)) (bName 7)) (fSeq (fIfS (fOr (fTst (fOp gNe (fCB gLen (fCons (fVar 7) fNil)) (fC (.int 3)))) (fOr (fTst (fAny (fIt asTup (fVar 7)) (bName 4) fTrue (fNotV (fChain nLe nLt (fC (.int 0)) (fVar 4) (fCB gLen (fCons (fVar 2) fNil)))) [4])) (fNot (fTst (fChain nLt nLt (fOp gIx (fVar 7) (fC (.int 0))) (fOp gIx (fVar 7) (fC (.int 1))) (fOp gIx (fVar 7) (fC (.int 2)))))))) (fRaiseP "BadPaper" (fOp nAdd (fVar 5) (fC (.int 1)))) fSkip) (fIfS (fNot (fTst (fCall m_in_three (fCons (fOp gIx (fVar 2) (fOp gIx (fVar 7) (fC (.int 0)))) (fCons (fOp gIx (fVar 2) (fOp gIx (fVar 7) (fC (.int 1)))) (fCons (fOp gIx (fVar 2) (fOp gIx (fVar 7) (fC (.int 2)))) (fCons (fVar 6) fNil))))))) (fRaiseP "BadPaper" (fOp nAdd (fVar 5) (fC (.int 1)))) fSkip))))) (fIfS (fTst (fOp gNe (fCB gLen (fCons (fVar 3) fNil)) (fCB gLen (fCons (fVar 0) fNil)))) (fRaiseP "BadPaper" (fOp nAdd (fCB gLen (fCons (fVar 0) fNil)) (fC (.int 1)))) fSkip))))
def m_look_paper : List D → Pu := aut 2 N_look_paper (g_look_paper )
abbrev N__law_turn : List Str := ["a", "b", "c"]
def g__law_turn  : Sx → RS := (fRet (fOp nSub (fOp nMul (fOp nSub (fOp gIx (fVar 1) (fC (.int 0))) (fOp gIx (fVar 0) (fC (.int 0)))) (fOp nSub (fOp gIx (fVar 2) (fC (.int 1))) (fOp gIx (fVar 0) (fC (.int 1))))) (fOp nMul (fOp nSub (fOp gIx (fVar 1) (fC (.int 1))) (fOp gIx (fVar 0) (fC (.int 1)))) (fOp nSub (fOp gIx (fVar 2) (fC (.int 0))) (fOp gIx (fVar 0) (fC (.int 0)))))))
def m__law_turn : List D → Pu := aut 3 N__law_turn (g__law_turn )
abbrev N_size : List Str := ["corners", "many", "k"]
def g_size  : Sx → RS := (fSeq (fAsg (fCB gLen (fCons (fVar 0) fNil)) (bName 1)) (fRet (fSum (fIts asRg1 (fCons (fVar 1) fNil)) (bName 2) fTrue (fCall m_cross (fCons (fOp gIx (fVar 0) (fVar 2)) (fCons (fOp gIx (fVar 0) (fOp nMod (fOp nAdd (fVar 2) (fC (.int 1))) (fVar 1))) fNil))) [2])))
def m_size : List D → Pu := aut 1 N_size (g_size )
abbrev N_side : List Str := ["a", "b", "c", "found"]
def g_side  : Sx → RS := (fSeq (fAsg (fCall m_turn (fCons (fVar 0) (fCons (fVar 1) (fCons (fVar 2) fNil)))) (bName 3)) (fRet (fOp nSubB (fOp nGt (fVar 3) (fC (.int 0))) (fOp nLt (fVar 3) (fC (.int 0))))))
def m_side : List D → Pu := aut 3 N_side (g_side )
abbrev N_place : List Str := ["corners", "point", "many", "sides", "k"]
def g_place  : Sx → RS := (fSeq (fAsg (fCB gLen (fCons (fVar 0) fNil)) (bName 2)) (fSeq (fAsg (fFz (fLc (fIts asRg1 (fCons (fVar 2) fNil)) (bName 4) fTrue (fCall m_side (fCons (fOp gIx (fVar 0) (fVar 4)) (fCons (fOp gIx (fVar 0) (fOp nMod (fOp nAdd (fVar 4) (fC (.int 1))) (fVar 2))) (fCons (fVar 1) fNil)))) [4])) (bName 3)) (fRet (fCB (gBest true) (fCons (fVar 3) fNil)))))
def m_place : List D → Pu := aut 2 N_place (g_place )
abbrev N_quick_place : List Str := ["corners", "point", "first", "last", "low", "high", "middle", "found"]
def g_quick_place (n1 : Nat) : Sx → RS := (fSeq (fPar 2 3 (fCons (fCall m_side (fCons (fOp gIx (fVar 0) (fC (.int 0))) (fCons (fOp gIx (fVar 0) (fC (.int 1))) (fCons (fVar 1) fNil)))) (fCons (fCall m_side (fCons (fOp gIx (fVar 0) (fC (.int 0))) (fCons (fOp gIx (fVar 0) (fUn nNeg (fC (.int 1)))) (fCons (fVar 1) fNil)))) fNil))) (fSeq (fIfS (fTst (fOp gEq (fVar 1) (fOp gIx (fVar 0) (fC (.int 0))))) (fRet (fC (.int 0))) fSkip) (fSeq (fIfS (fOr (fTst (fOp nLt (fVar 2) (fC (.int 0)))) (fTst (fOp nGt (fVar 3) (fC (.int 0))))) (fRet (fUn nNeg (fC (.int 1)))) fSkip) (fSeq (fPar 4 5 (fCons (fC (.int 1)) (fCons (fOp nSub (fCB gLen (fCons (fVar 0) fNil)) (fC (.int 1))) fNil))) (fSeq (fWhile (fTst (fOp nGt (fOp nSub (fVar 5) (fVar 4)) (fC (.int 1)))) (fSeq (fAsg (fOp nDiv (fOp nAdd (fVar 4) (fVar 5)) (fC (.int 2))) (bName 6)) (fIfS (fTst (fOp nGe (fCall m_side (fCons (fOp gIx (fVar 0) (fC (.int 0))) (fCons (fOp gIx (fVar 0) (fVar 6)) (fCons (fVar 1) fNil)))) (fC (.int 0)))) (fAsg (fVar 6) (bName 4)) (fAsg (fVar 6) (bName 5)))) n1) (fSeq (fAsg (fCall m_side (fCons (fOp gIx (fVar 0) (fVar 4)) (fCons (fOp gIx (fVar 0) (fOp nAdd (fVar 4) (fC (.int 1)))) (fCons (fVar 1) fNil)))) (bName 7)) (fRet (fIf (fAnd (fTst (fOp nGt (fVar 7) (fC (.int 0)))) (fOr (fTst (fOp gEq (fVar 2) (fC (.int 0)))) (fTst (fOp gEq (fVar 3) (fC (.int 0)))))) (fC (.int 0)) (fVar 7)))))))))
def m_quick_place : List D → Pu := autF 2 N_quick_place (fun n => g_quick_place n)
abbrev N__law_roll : List Str := ["dice", "many", "found"]
def g__law_roll  : Sx → RS := (fSeq (fIfS (fOr (fTst (fOp gEq (fOp gIx (fVar 0) (fC (.int 2))) (fC (.int 2)))) (fAnd (fTst (fOp gEq (fOp gIx (fVar 0) (fC (.int 2))) (fC (.int 1)))) (fTst (fOp nGt (fOp gIx (fVar 0) (fC (.int 0))) (fC (.int 0)))))) (fSeq (fAsg (fOp nMod (fCB gInt (fCons (fOp gIx (fVar 0) (fC (.int 0))) fNil)) (fVar 1)) (bName 2)) (fSeq (fSetIx (fOp nDiv (fOp gIx (fVar 0) (fC (.int 0))) (fVar 1)) (fVar 0) (fC (.int 0))) (fRet (fVar 2)))) fSkip) (fSeq (fSetIx (fC (.int 0)) (fVar 0) (fC (.int 2))) (fSeq (fSetIx (fOp nMod (fCB gInt (fCons (fOp nAdd (fOp nAdd (fOp nMul (fOp gIx (fVar 0) (fC (.int 0))) (fC (.int 48271))) (fOp nMul (fOp gIx (fVar 0) (fC (.int 1))) (fC (.int 69621)))) (fC (.int 11))) fNil)) (fC (.int 2147483647))) (fVar 0) (fC (.int 0))) (fSeq (fSetIx (fOp nAdd (fOp gIx (fVar 0) (fC (.int 1))) (fC (.int 1))) (fVar 0) (fC (.int 1))) (fRet (fOp nMod (fCB gInt (fCons (fOp nAdd (fOp nDiv (fOp gIx (fVar 0) (fC (.int 0))) (fC (.int 7))) (fOp gIx (fVar 0) (fC (.int 0)))) fNil)) (fVar 1)))))))
def m__law_roll : List D → Cells → R D := autM 2 N__law_roll (g__law_roll )
abbrev N__law_point : List Str := ["dice", "far"]
def g__law_point  : Sx → RS := (fRet (fTup (fCons (fOp nSub (fCallM m__law_roll (fCons (fVar 0) (fCons (fOp nAdd (fOp nMul (fC (.int 2)) (fVar 1)) (fC (.int 1))) fNil))) (fVar 1)) (fCons (fOp nSub (fCallM m__law_roll (fCons (fVar 0) (fCons (fOp nAdd (fOp nMul (fC (.int 2)) (fVar 1)) (fC (.int 1))) fNil))) (fVar 1)) fNil))))
def m__law_point : List D → Cells → R D := autM 2 N__law_point (g__law_point )
abbrev N__law_points : List Str := ["dice", "most", "far", "k"]
def g__law_points  : Sx → RS := (fRet (fCB gTupOf (fCons (fFz (fLc (fIts asRg1 (fCons (fOp nAdd (fC (.int 1)) (fCallM m__law_roll (fCons (fVar 0) (fCons (fVar 1) fNil)))) fNil)) (bName 3) fTrue (fCallM m__law_point (fCons (fVar 0) (fCons (fVar 2) fNil))) [3])) fNil)))
def m__law_points : List D → Cells → R D := autM 3 N__law_points (g__law_points )
end PG

namespace PG
open PySem PySem.Spec L2 DL
open PyProof.Rows hiding St
open Geo (g g_at g_mem mem_g tn chn pops hullL halves Rise lt)
/-- not too far -/
def Nr (p : Pt) : Prop := -1000000 ≤ p.1 ∧ p.1 ≤ 1000000 ∧ -1000000 ≤ p.2 ∧ p.2 ≤ 1000000
def NrL (c : List Pt) : Prop := ∀ p ∈ c, Nr p
theorem NrL.g {c : List Pt} (h : NrL c) {k : Nat} (hk : k < c.length) : Nr (g c k) := h _ (g_mem hk)
def sgn (x : Int) : Int := b2i (decide (0 < x)) - b2i (decide (x < 0))
theorem sgn_cases (x : Int) : (0 < x ∧ sgn x = 1) ∨ (x = 0 ∧ sgn x = 0) ∨ (x < 0 ∧ sgn x = -1) := by
  unfold sgn b2i
  rcases Int.lt_trichotomy x 0 with h | h | h
  · right; right; exact ⟨h, by simp [h]; omega⟩
  · right; left; subst h; simp
  · left; exact ⟨h, by simp [h]; omega⟩
theorem x_less (a b : Pt) : m_less [pt a, pt b] = .ok (pt (a.1 - b.1, a.2 - b.2)) := rfl
theorem x_cross {a b : Pt} (h1 : -4000000 ≤ a.1) (h2 : a.1 ≤ 4000000) (h3 : -4000000 ≤ a.2) (h4 : a.2 ≤ 4000000) : m_cross [pt a, pt b] = .ok (.int (a.1 * b.2 - a.2 * b.1)) := by
  simp (disch := omega) [m_cross, aut, g_cross, init0]
theorem x_turn {a b c : Pt} (ha : Nr a) (hb : Nr b) : m_turn [pt a, pt b, pt c] = .ok (.int (tn a b c)) := by
  unfold Nr at ha hb
  simp (disch := (simp only; omega)) [m_turn, aut, g_turn, init0, call_s, x_less, x_cross]
  rfl
theorem x_law_turn {a b c : Pt} (ha : Nr a) (hb : Nr b) : m__law_turn [pt a, pt b, pt c] = .ok (.int (tn a b c)) := by
  unfold Nr at ha hb
  simp (disch := omega) [m__law_turn, aut, g__law_turn, init0]
  rfl
theorem x_side {a b c : Pt} (ha : Nr a) (hb : Nr b) : m_side [pt a, pt b, pt c] = .ok (.int (sgn (tn a b c))) := by
  simp [m_side, aut, g_side, init0, call_s, x_turn ha hb, sgn]
theorem x_in_three {a b c p : Pt} (ha : Nr a) (hb : Nr b) (hc : Nr c) : m_in_three [pt a, pt b, pt c, pt p] = .ok (.bl (decide (0 ≤ tn a b p) && (decide (0 ≤ tn b c p) && decide (0 ≤ tn c a p)))) := by
  by_cases h1 : 0 ≤ tn a b p
  · by_cases h2 : 0 ≤ tn b c p
    · simp [m_in_three, aut, g_in_three, init0, call_s, x_turn ha hb, x_turn hb hc, x_turn hc ha, h1, h2]
    · simp [m_in_three, aut, g_in_three, init0, call_s, x_turn ha hb, x_turn hb hc, x_turn hc ha, h1, h2]
  · simp [m_in_three, aut, g_in_three, init0, call_s, x_turn ha hb, x_turn hb hc, x_turn hc ha, h1]
/-! points let -/
theorem x_point {p : Pt} (h : Nr p) : m_check_point [pt p] = .ok .non := by
  unfold Nr at h
  have e1 : ¬ (1000000 < if p.1 < 0 then -p.1 else p.1) := by split <;> omega
  have e2 : ¬ (1000000 < if p.2 < 0 then -p.2 else p.2) := by split <;> omega
  simp [pt, m_check_point, aut, g_check_point, init0, fForL, gIsi, isiD, e1, e2]
theorem x_row {c : List Pt} (h : NrL c) (hl : c.length ≤ 400) : m_check_row [TP c] = .ok .non := by
  have hl' : ¬ (400 : Int) < (c.length : Int) := by omega
  obtain ⟨s', e1, e2⟩ := forL_inv (g := bName 1) (b := fDrop (fCall m_check_point (fCons (fVar 1) fNil))) (fun d => ∃ p ∈ c, d = pt p) (fun s => s.ρ.length = 2 ∧ s.M = []) (fun d s hd hs => by
    obtain ⟨p, hp, rfl⟩ := hd
    obtain ⟨ρ, M⟩ := s
    obtain ⟨h1, rfl⟩ := hs
    have : 1 < ρ.length := by dsimp only at h1; omega
    exact ⟨_, rfl, ⟨ρ.set 1 (some (pt p)), []⟩, by simp [call_s, this, x_point (h p hp)], by simpa using h1, rfl⟩) (c.map pt) ⟨[some (TP c), none], []⟩ (fun d hd => by
      obtain ⟨p, hp, rfl⟩ := List.mem_map.mp hd
      exact ⟨p, hp, rfl⟩) ⟨rfl, rfl⟩
  obtain ⟨ρ', M'⟩ := s'
  have e2' : M' = [] := e2.2
  subst e2'
  simp [m_check_row, aut, g_check_row, init0, gIsi, isiD, hl', e1]
/-! the chain -/
theorem g_rev0 {st : List Pt} (h : 0 < st.length) : g st.reverse (st.length - 1) = g st 0 := by
  rw [Geo.g_rev (by omega)]; congr 1; omega
theorem g_rev1 {st : List Pt} (h : 1 < st.length) : g st.reverse (st.length - 2) = g st 1 := by
  rw [Geo.g_rev (by omega)]; congr 1; omega
theorem plain_pts (l : List Pt) : plain (l.map pt) = true := plain_map (fun a k e => by cases e) _
abbrev chT : Sx → R Bool := fAnd (fTst (fOp nGt (fCB gLen (fCons (fVar 1) fNil)) (fC (.int 1)))) (fTst (fOp nLe (fCall m_turn (fCons (fOp gIx (fVar 1) (fUn nNeg (fC (.int 2)))) (fCons (fOp gIx (fVar 1) (fUn nNeg (fC (.int 1)))) (fCons (fVar 2) fNil)))) (fC (.int 0))))
theorem w_chain {p : Pt} {l : Option D} : ∀ (n : Nat) (st : List Pt), st.length < n → NrL st →
    fWhile chT (fDrop (fMt gPop (fVar 1) fNil)) n ⟨[l, some (.loc 0), some (pt p)], [st.reverse.map pt]⟩ = .nx ⟨[l, some (.loc 0), some (pt p)], [(pops p st).reverse.map pt]⟩
  | 0, st, h, _ => by omega
  | n + 1, [], h, _ => while_end (s := ⟨[l, some (.loc 0), some (pt p)], [[]]⟩) (M := [[]]) (by simp [gLen, seqOf])
  | n + 1, [y], h, _ => while_end (s := ⟨[l, some (.loc 0), some (pt p)], [[pt y]]⟩) (M := [[pt y]]) (by simp [gLen, seqOf, pt])
  | n + 1, y :: z :: r, h, hn => by
    have ny : Nr y := hn y (by simp)
    have nz : Nr z := hn z (by simp)
    have hl : (((y :: z :: r).reverse)).length = r.length + 2 := by simp
    have i2 : atI (((y :: z :: r).reverse).map pt) (-2) = some (pt z) := by
      rw [atI_m2 (by rw [hl]; omega), hl]
      have := g_rev1 (st := y :: z :: r) (by simp)
      simp only [List.length_cons] at this
      rw [show r.length + 2 - 2 = r.length + 1 + 1 - 2 by omega, this]; rfl
    have i1 : atI (((y :: z :: r).reverse).map pt) (-1) = some (pt y) := by
      rw [atI_m1 (by rw [hl]; omega), hl]
      have := g_rev0 (st := y :: z :: r) (by simp)
      simp only [List.length_cons] at this
      rw [show r.length + 2 - 1 = r.length + 1 + 1 - 1 by omega, this]; rfl
    have ih := w_chain (p := p) (l := l) n (z :: r) (by simpa using h) (fun q hq => hn q (List.mem_cons_of_mem _ hq))
    have e1 : (((y :: z :: r).reverse).map pt)[(((y :: z :: r).reverse).map pt).length - 1]? = some (pt y) := by simp
    have e2 : (((y :: z :: r).reverse).map pt).dropLast = (z :: r).reverse.map pt := by
      rw [List.reverse_cons, List.map_append]
      simp
    rw [Geo.pops_cc]
    generalize hR : (y :: z :: r).reverse = R at *
    have c1 : (1 : Int) < (R.length : Int) := by omega
    have cond : chT ⟨[l, some (.loc 0), some (pt p)], [R.map pt]⟩ = .ok (decide (tn z y p ≤ 0)) [R.map pt] := by
      simp [gLen, seqOf, plain_pts, c1, i1, i2, call_s, x_turn nz ny]
    by_cases ht : tn z y p ≤ 0
    · rw [if_pos ht, ← ih]
      rw [decide_eq_true ht] at cond
      refine while_go cond ?_
      rw [fDrop_s, mt_pop (n := 0) (l := R.map pt) rfl rfl (plain_pts R) e1, e2]
      rfl
    · rw [if_neg ht, hR]
      rw [decide_eq_false ht] at cond
      exact while_end cond
theorem f_chain {l : Option D} : ∀ (ps st : List Pt) (x : Option D), st.length + ps.length < 1000 → NrL st → NrL ps →
    ∃ y, fForL (bName 2) (fSeq (fWhile chT (fDrop (fMt gPop (fVar 1) fNil)) 1000) (fDrop (fMt gAppend (fVar 1) (fCons (fVar 2) fNil)))) (ps.map pt) ⟨[l, some (.loc 0), x], [st.reverse.map pt]⟩ =
      .nx ⟨[l, some (.loc 0), y], [(ps.foldl (fun st p => p :: pops p st) st).reverse.map pt]⟩
  | [], st, x, _, _, _ => ⟨x, by simp⟩
  | p :: ps, st, x, h, hn, hp => by
    have pl : ∀ st : List Pt, (pops p st).length ≤ st.length ∧ ∀ q ∈ pops p st, q ∈ st := by
      intro st
      by_cases e : st = []
      · subst e; exact ⟨Nat.le_refl _, fun q h => h⟩
      · obtain ⟨m, h1, h2, _⟩ := Geo.pops_drop p st e
        rw [h2]
        exact ⟨by simp, fun q h => List.mem_of_mem_drop h⟩
    obtain ⟨l1, l2⟩ := pl st
    simp only [List.length_cons] at h
    obtain ⟨y, ih⟩ := f_chain (l := l) ps (p :: pops p st) (some (pt p)) (by simp; omega) (fun q hq => by
      rcases List.mem_cons.mp hq with rfl | hq
      · exact hp _ (by simp)
      · exact hn q (l2 q hq)) (fun q hq => hp q (List.mem_cons_of_mem _ hq))
    refine ⟨y, ?_⟩
    rw [List.foldl_cons, ← ih, List.map_cons]
    refine for_go (s1 := ⟨[l, some (.loc 0), some (pt p)], [st.reverse.map pt]⟩) rfl ?_
    rw [seq_nx (w_chain 1000 st (by omega) hn)]
    have : ((pops p st).reverse.map pt).length < 100000 := by simp; omega
    rw [fDrop_s, mt_append (n := 0) (l := (pops p st).reverse.map pt) (d := pt p) (M := [(pops p st).reverse.map pt]) rfl rfl (plain_pts _) rfl rfl this, List.reverse_cons, List.map_append]
    rfl
theorem x_chain {ps : List Pt} (h : ps.length < 1000) (hp : NrL ps) : m_chain [LsP ps] = .ok (.loc 0) [(chn ps).reverse.map pt] := by
  obtain ⟨y, e⟩ := f_chain (l := some (LsP ps)) ps [] none (by simpa using h) (fun _ z => by cases z) hp
  unfold m_chain autO
  show RS.outO (g_chain 1000 _) = _
  have : g_chain 1000 ⟨init0 N_chain [LsP ps], []⟩ = .rt (.loc 0) ⟨[some (LsP ps), some (.loc 0), y], [(chn ps).reverse.map pt]⟩ := by
    unfold g_chain
    rw [seq_nx (s1 := ⟨[some (LsP ps), some (.loc 0), none], [[]]⟩) (by simp [init0])]
    rw [seq_nx (s1 := ⟨[some (LsP ps), some (.loc 0), y], [(chn ps).reverse.map pt]⟩) (by
      simp only [fFor_s, fIt_s, fVar_s, ce0, bind_ok, asLst_s, opt_some, toS_ok]
      exact e)]
    simp
  rw [this]; rfl
end PG

namespace PG
open PySem PySem.Spec L2 DL
open PyProof.Rows hiding St
open Geo (g g_at g_mem mem_g tn chn pops hullL halves Rise lt)
theorem shs_pts (n : Nat) : ∀ l : List Pt, shs n (l.map pt) = l.map pt
  | [] => rfl
  | p :: l => by
    show shs n (pt p :: l.map pt) = pt p :: l.map pt
    unfold shs
    rw [shs_pts n l]
    rfl
theorem callO_chain {f : Sx → R (List D)} {s : Sx} {M : Cells} {ps : List Pt} (hf : f s = .ok [LsP ps] M) (h : ps.length < 1000) (hp : NrL ps) : fCallO m_chain f s = .ok (.loc M.length) (M ++ [(chn ps).reverse.map pt]) := by
  unfold fCallO
  rw [hf]
  simp only [bind_ok, lfs_cons, lf_lst, lfs_pts, lfs_nil, Bool.and_self, if_true, x_chain h hp, List.map_cons, List.map_nil, shs_pts, D.sh]
  simp
theorem gCut_loc {M : Cells} {n : Nat} {ps : List Pt} (h : M[n]? = some (ps.map pt)) : gCut M (.loc n) none (some (-1)) = some (LsP ps.dropLast) := by
  unfold gCut seqOf
  dsimp only
  rw [lat_at h (plain_pts ps)]
  simp only [Option.map_some, dcut_m1]
theorem gRev_ls {M : Cells} {ps : List Pt} (h : ps.length ≤ 1000000) : gRev false M (LsP ps) = some (LsP ps.reverse) := by
  unfold gRev seqOf
  simp [h]
theorem srt_sub {ps : List Pt} (h : NrL ps) : NrL (srt ps) := fun p hp => h p (srt_mem.mp hp)
theorem ddG_len : ∀ (ps acc : List Pt), (ddG acc ps).length ≤ acc.length + ps.length
  | [], acc => Nat.le_refl _
  | p :: ps, acc => by
    refine Nat.le_trans (ddG_len ps _) ?_
    dsimp only
    split <;> simp <;> omega
theorem srt_len (ps : List Pt) : (srt ps).length ≤ ps.length := by
  unfold srt
  rw [List.length_mergeSort]
  exact Nat.le_trans (ddG_len ps []) (by simp)
theorem chn_len (l : List Pt) : (chn l).length ≤ l.length := by
  have go : ∀ (l st : List Pt), (l.foldl (fun st p => p :: pops p st) st).length ≤ st.length + l.length := by
    intro l
    induction l with
    | nil => intro st; simp
    | cons p l ih =>
      intro st
      refine Nat.le_trans (ih _) ?_
      have : (pops p st).length ≤ st.length := by
        by_cases e : st = []
        · subst e; exact Nat.le_refl _
        · obtain ⟨m, h1, h2, _⟩ := Geo.pops_drop p st e
          rw [h2]; simp
      simp; omega
  have := go l []
  simpa [chn] using this
theorem x_hull_of {row : List Pt} (hl : row.length < 1000) (hn : NrL row) : m_hull_of [TP row] = .ok (TP (hullL (srt row))) := by
  have ls := srt_len row
  have ns := srt_sub hn
  have rs := srt_rise row
  have s1 : fAsg (fCB gSortedT (fCons (fDc (fIt asTup (fVar 0)) (bName 2) fTrue (fVar 2) (fC (.bl true)) [2]) fNil)) (bName 1) ⟨init0 N_hull_of [TP row], []⟩ = .nx ⟨[some (TP row), some (LsP (srt row)), none, none, none, none], [.tag .dic :: (ddG [] row).map entT]⟩ := by
    rw [fAsg_s, sorted_dict (ps := row) (M := []) (by simp [init0]) (by simp [init0]) (by omega)]
    rfl
  generalize srt row = l at *
  generalize ddG [] row = dd at *
  unfold m_hull_of
  refine (aut_at rfl).trans ?_
  unfold g_hull_of
  rw [seq_nx s1]
  by_cases h3 : l.length < 3
  · have e : fIfS (fTst (fOp nLt (fCB gLen (fCons (fVar 1) fNil)) (fC (.int 3)))) (fRet (fCB gTupOf (fCons (fVar 1) fNil))) fSkip ⟨[some (TP row), some (LsP l), none, none, none, none], [.tag .dic :: dd.map entT]⟩ = .rt (TP l) ⟨[some (TP row), some (LsP l), none, none, none, none], [.tag .dic :: dd.map entT]⟩ := by
      have : (l.length : Int) < 3 := by omega
      simp [this]
    rw [seq_rt e]
    have : hullL l = l := by unfold hullL; rw [if_pos h3]
    rw [this]
    simp
  · have e : fIfS (fTst (fOp nLt (fCB gLen (fCons (fVar 1) fNil)) (fC (.int 3)))) (fRet (fCB gTupOf (fCons (fVar 1) fNil))) fSkip ⟨[some (TP row), some (LsP l), none, none, none, none], [.tag .dic :: dd.map entT]⟩ = .nx ⟨[some (TP row), some (LsP l), none, none, none, none], [.tag .dic :: dd.map entT]⟩ := by
      have : ¬ (l.length : Int) < 3 := by omega
      simp [this]
    rw [seq_nx e]
    have c1 := callO_chain (f := fCons (fVar 1) fNil) (s := ⟨[some (TP row), some (LsP l), none, none, none, none], [.tag .dic :: dd.map entT]⟩) (M := [.tag .dic :: dd.map entT]) (ps := l) (by simp) (by omega) ns
    have c2 := callO_chain (f := fCons (fUn (gRev false) (fVar 1)) fNil) (s := ⟨[some (TP row), some (LsP l), none, none, none, none], [.tag .dic :: dd.map entT, (chn l).reverse.map pt]⟩) (M := [.tag .dic :: dd.map entT, (chn l).reverse.map pt]) (ps := l.reverse) (by simp only [fCons_s, fUn_s, fVar_s, ce0, List.getElem?_cons_succ, bind_ok, gRev_ls (ps := l) (by omega), opt_some, fNil_s]) (by simp; omega) (fun p hp => ns p (List.mem_reverse.mp hp))
    have s2 : fPar 3 4 (fCons (fCallO m_chain (fCons (fVar 1) fNil)) (fCons (fCallO m_chain (fCons (fUn (gRev false) (fVar 1)) fNil)) fNil)) ⟨[some (TP row), some (LsP l), none, none, none, none], [.tag .dic :: dd.map entT]⟩ = .nx ⟨[some (TP row), some (LsP l), none, some (.loc 1), some (.loc 2), none], [.tag .dic :: dd.map entT, (chn l).reverse.map pt, (chn l.reverse).reverse.map pt]⟩ := by
      rw [fPar_s, fCons_s, c1]
      simp only [bind_ok, fCons_s, List.cons_append, List.nil_append]
      rw [c2]
      rfl
    rw [seq_nx s2]
    have l1 := chn_len l
    have l2 := chn_len l.reverse
    rw [List.length_reverse] at l2
    have s3 : fAsg (fCB gTupOf (fCons (fOp gCatL (fSl (fVar 3) fNoPart (fPart (fUn nNeg (fC (.int 1))))) (fSl (fVar 4) fNoPart (fPart (fUn nNeg (fC (.int 1)))))) fNil)) (bName 5) ⟨[some (TP row), some (LsP l), none, some (.loc 1), some (.loc 2), none], [.tag .dic :: dd.map entT, (chn l).reverse.map pt, (chn l.reverse).reverse.map pt]⟩ = .nx ⟨[some (TP row), some (LsP l), none, some (.loc 1), some (.loc 2), some (TP (halves l))], [.tag .dic :: dd.map entT, (chn l).reverse.map pt, (chn l.reverse).reverse.map pt]⟩ := by
      have k1 : gCut [.tag .dic :: dd.map entT, (chn l).reverse.map pt, (chn l.reverse).reverse.map pt] (.loc 1) none (some (-1)) = some (LsP (chn l).reverse.dropLast) := gCut_loc rfl
      have k2 : gCut [.tag .dic :: dd.map entT, (chn l).reverse.map pt, (chn l.reverse).reverse.map pt] (.loc 2) none (some (-1)) = some (LsP (chn l.reverse).reverse.dropLast) := gCut_loc rfl
      have k3 : ∀ M, gCatL M (LsP (chn l).reverse.dropLast) (LsP (chn l.reverse).reverse.dropLast) = some (LsP (halves l)) := by
        intro M
        unfold gCatL lstOf
        dsimp only
        rw [if_pos (by simp; omega)]
        unfold halves
        rw [show ∀ a b : List Pt, LsP (a ++ b) = .lst (a.map pt ++ b.map pt) from fun a b => by rw [← List.map_append]]
      simp only [fAsg_s, fCB_s, fCons_s, fOp_s, fSl, fNoPart, fPart, fUn_s, fC_s, fVar_s, ce0, List.getElem?_cons_succ, bind_ok, nNeg, opt_some, k1, k2, k3, fNil_s, gTup_lst, toS_ok, bName_s]
      rfl
    rw [seq_nx s3]
    unfold hullL
    rw [if_neg h3]
    by_cases h2 : 2 < (halves l).length
    · have : (2 : Int) < ((halves l).length : Int) := by omega
      rw [if_pos h2]
      generalize halves l = hh at *
      simp [this]
    · have : ¬ (2 : Int) < ((halves l).length : Int) := by omega
      rw [if_neg h2]
      generalize halves l = hh at *
      have a0 : atI (l.map pt) 0 = some (pt (g l 0)) := atI_gi 0 rfl (by omega)
      have a1 := atI_m1 (c := l) (by omega)
      simp [this, a0, a1]
theorem x_hull {row : List Pt} (hl : row.length ≤ 400) (hn : NrL row) : m_hull [TP row] = .ok (TP (hullL (srt row))) := by
  simp [m_hull, aut, g_hull, init0, call_s, x_row hn hl, x_hull_of (by omega : row.length < 1000) hn]
end PG

namespace PG
open PySem PySem.Spec L2 DL
open PyProof.Rows hiding St
open Geo (g g_at g_mem mem_g tn chn pops hullL halves Rise lt)
/-! ### the least -/
def imin (i : Int) (is : List Int) : Int := bestL (fun y x => decide (y < x)) i is
def pmin (p : Pt) (ps : List Pt) : Pt := bestL (fun y x => ltPt y x) p ps
theorem gBest_ints {M : Cells} {i : Int} {is : List Int} : gBest true M [.lst ((i :: is).map .int)] = some (.int (imin i is)) := by
  unfold gBest
  simp only [seqOf]
  have : unPts ((i :: is).map D.int) = none := by
    rw [List.map_cons]; unfold unPts
    cases unPts (is.map D.int) <;> rfl
  rw [this]
  simp only
  rw [unInts_map]
  rfl
theorem gBest_pts {M : Cells} {p : Pt} {ps : List Pt} : gBest true M [TP (p :: ps)] = some (pt (pmin p ps)) := by
  unfold gBest
  simp only [seqOf]
  rw [unPts_map]
  rfl
theorem imin_le : ∀ (is : List Int) (i : Int), imin i is ≤ i ∧ ∀ j ∈ is, imin i is ≤ j
  | [], i => ⟨Int.le_refl _, fun _ h => by cases h⟩
  | y :: is, i => by
    have ih := imin_le is (if decide (y < i) = true then y else i)
    show imin (if decide (y < i) = true then y else i) is ≤ i ∧ ∀ j ∈ y :: is, imin (if decide (y < i) = true then y else i) is ≤ j
    by_cases h : y < i
    · rw [decide_eq_true h, if_pos rfl] at *
      refine ⟨by omega, fun j hj => ?_⟩
      rcases List.mem_cons.mp hj with e | hj
      · subst e; exact ih.1
      · exact ih.2 j hj
    · rw [decide_eq_false h, if_neg (by simp)] at *
      refine ⟨ih.1, fun j hj => ?_⟩
      rcases List.mem_cons.mp hj with e | hj
      · subst e; omega
      · exact ih.2 j hj
theorem imin_mem (i : Int) (is : List Int) : imin i is ∈ i :: is := bestL_mem is i
theorem pmin_mem (i : Pt) (is : List Pt) : pmin i is ∈ i :: is := bestL_mem is i
theorem ltPt_iff {p q : Pt} : ltPt p q = true ↔ lt p q := by unfold ltPt lt; simp
theorem pmin_le : ∀ (is : List Pt) (i : Pt), ¬ lt i (pmin i is) ∧ ∀ j ∈ is, ¬ lt j (pmin i is)
  | [], i => ⟨Geo.lt_irr, fun _ h => by cases h⟩
  | y :: is, i => by
    have ih := pmin_le is (if ltPt y i = true then y else i)
    show ¬ lt i (pmin (if ltPt y i = true then y else i) is) ∧ ∀ j ∈ y :: is, ¬ lt j (pmin (if ltPt y i = true then y else i) is)
    by_cases h : ltPt y i = true
    · rw [if_pos h] at *
      have h' := ltPt_iff.mp h
      refine ⟨fun z => ih.1 (Geo.lt_trans h' z), fun j hj => ?_⟩
      rcases List.mem_cons.mp hj with e | hj
      · subst e; exact ih.1
      · exact ih.2 j hj
    · rw [if_neg h] at *
      have h' : ¬ lt y i := fun z => h (ltPt_iff.mpr z)
      refine ⟨ih.1, fun j hj => ?_⟩
      rcases List.mem_cons.mp hj with rfl | hj
      · intro z
        rcases Geo.lt_or j i with w | w | w
        · exact h' w
        · subst w; exact ih.1 z
        · exact ih.1 (Geo.lt_trans w z)
      · exact ih.2 j hj
theorem pmin_first {p : Pt} {ps : List Pt} (h : ∀ q ∈ ps, lt p q) : pmin p ps = p := by
  rcases List.mem_cons.mp (pmin_mem p ps) with e | e
  · exact e
  · exact ((pmin_le ps p).1 (h _ e)).elim
theorem sgn_mono {x y : Int} (h : x ≤ y) : sgn x ≤ sgn y := by
  rcases sgn_cases x with ⟨a, b⟩ | ⟨a, b⟩ | ⟨a, b⟩ <;> rcases sgn_cases y with ⟨c, d⟩ | ⟨c, d⟩ | ⟨c, d⟩ <;> omega
theorem imin_sgn (i : Int) (is : List Int) : imin (sgn i) (is.map sgn) = sgn (imin i is) := by
  have a := imin_le is i
  have b := imin_le (is.map sgn) (sgn i)
  have c := imin_mem i is
  have d := imin_mem (sgn i) (is.map sgn)
  have e1 : sgn (imin i is) ≤ imin (sgn i) (is.map sgn) := by
    rcases List.mem_cons.mp d with e | e
    · rw [e]; exact sgn_mono a.1
    · obtain ⟨j, hj, e⟩ := List.mem_map.mp e
      rw [← e]; exact sgn_mono (a.2 j hj)
  have e2 : imin (sgn i) (is.map sgn) ≤ sgn (imin i is) := by
    rcases List.mem_cons.mp c with e | e
    · rw [e]; exact b.1
    · exact b.2 _ (List.mem_map.mpr ⟨_, e, rfl⟩)
  omega
/-! ### is_hull -/
def isH (c : List Pt) : Bool := decide (3 ≤ c.length) && (decide (pmin (g c 0) c.tail = g c 0) && (((List.range c.length).all fun k => decide (0 < tn (g c k) (g c ((k + 1) % c.length)) (g c ((k + 2) % c.length)))) && ((List.range' 1 (c.length - 1 - 1)).all fun k => decide (0 < tn (g c 0) (g c k) (g c (k + 1))))))
theorem any_not {β : Type} {p q : β → Bool} {l : List β} (h : ∀ b ∈ l, p b = !q b) : l.any p = !l.all q := by
  induction l with
  | nil => rfl
  | cons a l ih => rw [List.any_cons, List.all_cons, h a (by simp), ih fun b hb => h b (List.mem_cons_of_mem _ hb)]; cases q a <;> simp
theorem gNe_pts {M : Cells} (p q : Pt) : gNe M (pt p) (pt q) = some (.bl (!decide (p = q))) := by
  unfold pt
  rw [gNe_pt]
  congr 3
  rw [← Bool.decide_and]
  congr 1
  exact propext ⟨fun ⟨a, b⟩ => Prod.ext a b, fun e => by rw [e]; exact ⟨rfl, rfl⟩⟩
theorem gEq_pts {M : Cells} (p q : Pt) : gEq M (pt p) (pt q) = some (.bl (decide (p = q))) := by
  unfold pt
  rw [gEq_pt]
  congr 2
  rw [← Bool.decide_and]
  congr 1
  exact propext ⟨fun ⟨a, b⟩ => Prod.ext a b, fun e => by rw [e]; exact ⟨rfl, rfl⟩⟩
def ihA (c : List Pt) : Bool := (List.range c.length).all fun k => decide (0 < tn (g c k) (g c ((k + 1) % c.length)) (g c ((k + 2) % c.length)))
def ihB (c : List Pt) : Bool := (List.range' 1 (c.length - 1 - 1)).all fun k => decide (0 < tn (g c 0) (g c k) (g c (k + 1)))
abbrev sI (c : List Pt) : Sx := ⟨[some (TP c), some (.int c.length), none], []⟩
theorem ih_rg {c : List Pt} (hl : c.length ≤ 400) : fIts asRg1 (fCons (fVar 1) fNil) (sI c) = .ok ((List.range c.length).map fun (k : Nat) => D.int (k : Int)) [] := by
  have rg : asRg1 [.int (c.length : Int)] = some ((List.range c.length).map fun (k : Nat) => D.int (k : Int)) := asRg1_n (by omega)
  simp [rg]
theorem ih_rg2 {c : List Pt} (h3 : 3 ≤ c.length) (hl : c.length ≤ 400) : fIts asRg2 (fCons (fC (.int 1)) (fCons (fOp nSub (fVar 1) (fC (.int 1))) fNil)) (sI c) = .ok ((List.range' 1 (c.length - 1 - 1)).map fun (k : Nat) => D.int (k : Int)) [] := by
  have rg2 : asRg2 [.int 1, .int ((c.length : Int) - 1)] = some ((List.range' 1 (c.length - 1 - 1)).map fun (k : Nat) => D.int (k : Int)) := by
    have := asRg2_n (i := 1) (j := c.length - 1) (by omega) (by omega)
    rw [show ((c.length - 1 : Nat) : Int) = (c.length : Int) - 1 by omega] at this
    exact this
  simp [rg2]
theorem ih_a {c : List Pt} (hn : NrL c) (k : Nat) (hk : k < c.length) : fOp nLe (fCall m_turn (fCons (fOp gIx (fVar 0) (fVar 2)) (fCons (fOp gIx (fVar 0) (fOp nMod (fOp nAdd (fVar 2) (fC (.int 1))) (fVar 1))) (fCons (fOp gIx (fVar 0) (fOp nMod (fOp nAdd (fVar 2) (fC (.int 2))) (fVar 1))) fNil)))) (fC (.int 0)) ⟨(wipeD (sI c).ρ [2]).set 2 (some (.int k)), []⟩ = .ok (.bl (decide (tn (g c k) (g c ((k + 1) % c.length)) (g c ((k + 2) % c.length)) ≤ 0))) [] := by
  have p0 : (0 : Int) < (c.length : Int) := by omega
  have t := x_turn (c := g c ((k + 2) % c.length)) (hn.g hk) (hn.g (Nat.mod_lt (k + 1) (by omega : 0 < c.length)))
  simp [wipeD, call_s, nMod_s p0, atI_mod1 (c := c) (k := k) (by omega), atI_mod2 (c := c) (k := k) (by omega), atI_g hk, t]
theorem ih_b {c : List Pt} (hn : NrL c) (k : Nat) (hk : k + 1 < c.length) : fOp nGt (fCall m_turn (fCons (fOp gIx (fVar 0) (fC (.int 0))) (fCons (fOp gIx (fVar 0) (fVar 2)) (fCons (fOp gIx (fVar 0) (fOp nAdd (fVar 2) (fC (.int 1)))) fNil)))) (fC (.int 0)) ⟨(wipeD (sI c).ρ [2]).set 2 (some (.int k)), []⟩ = .ok (.bl (decide (0 < tn (g c 0) (g c k) (g c (k + 1))))) [] := by
  have t := x_turn (c := g c (k + 1)) (hn.g (k := 0) (by omega)) (hn.g (k := k) (by omega))
  have a0 : atI (c.map pt) 0 = some (pt (g c 0)) := atI_gi 0 rfl (by omega)
  simp [wipeD, call_s, a0, atI_g (c := c) (k := k) (by omega), atI_suc (c := c) (k := k) (by omega), t]
theorem ih_any {c : List Pt} (hl : c.length ≤ 400) (hn : NrL c) (f : Sx → RS) : fIfS (fTst (fAny (fIts asRg1 (fCons (fVar 1) fNil)) (bName 2) fTrue (fOp nLe (fCall m_turn (fCons (fOp gIx (fVar 0) (fVar 2)) (fCons (fOp gIx (fVar 0) (fOp nMod (fOp nAdd (fVar 2) (fC (.int 1))) (fVar 1))) (fCons (fOp gIx (fVar 0) (fOp nMod (fOp nAdd (fVar 2) (fC (.int 2))) (fVar 1))) fNil)))) (fC (.int 0))) [2])) f fSkip (sI c) = if ihA c = true then .nx (sI c) else f (sI c) := by
  have e2 := fAny_enc (vs := [2]) (List.range c.length) (ih_rg hl) (fun k hk => ih_a hn k (List.mem_range.mp hk))
  have av : (List.range c.length).any (fun k => decide (tn (g c k) (g c ((k + 1) % c.length)) (g c ((k + 2) % c.length)) ≤ 0)) = !ihA c := any_not fun k _ => by
    rw [Bool.eq_iff_iff]; simp
  rw [av] at e2
  rw [fIfS_s, fTst_s, e2]
  cases ihA c <;> rfl
theorem ih_all {c : List Pt} (h3 : 3 ≤ c.length) (hl : c.length ≤ 400) (hn : NrL c) : fRet (fAll (fIts asRg2 (fCons (fC (.int 1)) (fCons (fOp nSub (fVar 1) (fC (.int 1))) fNil))) (bName 2) fTrue (fOp nGt (fCall m_turn (fCons (fOp gIx (fVar 0) (fC (.int 0))) (fCons (fOp gIx (fVar 0) (fVar 2)) (fCons (fOp gIx (fVar 0) (fOp nAdd (fVar 2) (fC (.int 1)))) fNil)))) (fC (.int 0))) [2]) (sI c) = .rt (.bl (ihB c)) (sI c) := by
  have e2 := fAll_enc (vs := [2]) (List.range' 1 (c.length - 1 - 1)) (ih_rg2 h3 hl) (fun k hk => ih_b hn k (by rw [List.mem_range'_1] at hk; omega))
  rw [fRet_s, e2]
  rfl
theorem ih_1 {c : List Pt} (h3 : 3 ≤ c.length) (f : Sx → RS) : fIfS (fOr (fTst (fOp nLt (fVar 1) (fC (.int 3)))) (fTst (fOp gNe (fCB (gBest true) (fCons (fVar 0) fNil)) (fOp gIx (fVar 0) (fC (.int 0)))))) f fSkip (sI c) = if pmin (g c 0) c.tail = g c 0 then .nx (sI c) else f (sI c) := by
  obtain ⟨p, ps, rfl⟩ : ∃ p ps, c = p :: ps := by
    cases c with
    | nil => simp at h3
    | cons p ps => exact ⟨p, ps, rfl⟩
  have t0 : ¬ ((p :: ps).length : Int) < 3 := by omega
  have gb := gBest_pts (M := []) (p := p) (ps := ps)
  have a0 : atI ((p :: ps).map pt) 0 = some (pt p) := by simp
  have g0 : g (p :: ps) 0 = p := rfl
  have gt : (p :: ps).tail = ps := rfl
  rw [g0, gt]
  generalize hc : p :: ps = c at *
  by_cases hm : pmin p ps = p
  · simp [t0, gb, a0, gNe_pts, hm]
  · simp [t0, gb, a0, gNe_pts, hm]
theorem isH_eq (c : List Pt) : isH c = (decide (3 ≤ c.length) && (decide (pmin (g c 0) c.tail = g c 0) && (ihA c && ihB c))) := rfl
theorem x_is_hull {c : List Pt} (hl : c.length ≤ 400) (hn : NrL c) : m_is_hull [TP c] = .ok (.bl (isH c)) := by
  unfold m_is_hull
  refine (aut_at rfl).trans ?_
  unfold g_is_hull
  rw [seq_nx (s1 := sI c) (by simp [init0]), isH_eq]
  by_cases h3 : 3 ≤ c.length
  · rw [decide_eq_true h3, Bool.true_and]
    by_cases hm : pmin (g c 0) c.tail = g c 0
    · rw [decide_eq_true hm, Bool.true_and, seq_nx ((ih_1 h3 _).trans (if_pos hm))]
      by_cases hA : ihA c = true
      · rw [seq_nx ((ih_any hl hn _).trans (if_pos hA)), hA, Bool.true_and, ih_all h3 hl hn]
        simp
      · rw [seq_rt (d := .bl false) (s1 := sI c) ((ih_any hl hn (fRet (fC (.bl false)))).trans (if_neg hA))]
        rw [Bool.not_eq_true] at hA
        rw [hA]
        simp
    · rw [decide_eq_false hm, seq_rt (d := .bl false) (s1 := sI c) ((ih_1 h3 (fRet (fC (.bl false)))).trans (if_neg hm))]
      simp
  · have t0 : (c.length : Int) < 3 := by omega
    have s1 : fIfS (fOr (fTst (fOp nLt (fVar 1) (fC (.int 3)))) (fTst (fOp gNe (fCB (gBest true) (fCons (fVar 0) fNil)) (fOp gIx (fVar 0) (fC (.int 0)))))) (fRet (fC (.bl false))) fSkip (sI c) = .rt (.bl false) (sI c) := by
      simp [t0]
    rw [seq_rt s1, decide_eq_false h3]
    simp
theorem x_check_hull {c : List Pt} (hl : c.length ≤ 400) (hn : NrL c) (h : isH c = true) : m_check_hull [TP c] = .ok .non := by
  simp [m_check_hull, aut, g_check_hull, init0, call_s, x_row hn hl, x_is_hull hl hn, h]
theorem x_check_not {c : List Pt} (hl : c.length ≤ 400) (hn : NrL c) (h : isH c = false) : m_check_hull [TP c] = .ex ⟨"BadPoint", none⟩ := by
  simp [m_check_hull, aut, g_check_hull, init0, call_s, x_row hn hl, x_is_hull hl hn, h]
end PG

namespace PG
open PySem PySem.Spec L2 DL
open PyProof.Rows hiding St
open Geo (g g_at g_mem mem_g tn chn pops hullL halves Rise lt val HullF)
/-! ### places -/
def imn (l : List Int) : Int := match l with
  | [] => 0
  | i :: is => imin i is
theorem imn_le {l : List Int} {x : Int} (h : x ∈ l) : imn l ≤ x := by
  cases l with
  | nil => cases h
  | cons i is =>
    rcases List.mem_cons.mp h with e | e
    · rw [e]; exact (imin_le is i).1
    · exact (imin_le is i).2 x e
theorem imn_mem {l : List Int} (h : l ≠ []) : imn l ∈ l := by
  cases l with
  | nil => exact (h rfl).elim
  | cons i is => exact imin_mem i is
theorem imn_sgn (l : List Int) : imn (l.map sgn) = sgn (imn l) := by
  cases l with
  | nil => rfl
  | cons i is => exact imin_sgn i is
theorem gBest_imn {M : Cells} {l : List Int} (h : l ≠ []) : gBest true M [.lst (l.map .int)] = some (.int (imn l)) := by
  cases l with
  | nil => exact (h rfl).elim
  | cons i is => exact gBest_ints
def vals (c : List Pt) (p : Pt) : List Int := (List.range c.length).map (val c p)
def pl (c : List Pt) (p : Pt) : Int := sgn (imn (vals c p))
theorem vals_ne {c : List Pt} {p : Pt} (h : c ≠ []) : vals c p ≠ [] := by
  intro e
  have : (vals c p).length = 0 := by rw [e]; rfl
  unfold vals at this
  simp at this
  exact h this
theorem pl_neg {c : List Pt} {p : Pt} (k : Nat) (h : k < c.length) (v : val c p k < 0) : pl c p = -1 := by
  have := imn_le (l := vals c p) (List.mem_map.mpr ⟨k, List.mem_range.mpr h, rfl⟩)
  unfold pl
  rcases sgn_cases (imn (vals c p)) with ⟨a, b⟩ | ⟨a, b⟩ | ⟨a, b⟩ <;> omega
theorem pl_nonneg {c : List Pt} {p : Pt} (h : ∀ k, k < c.length → 0 ≤ val c p k) : 0 ≤ pl c p := by
  by_cases e : c = []
  · subst e
    show 0 ≤ sgn 0
    decide
  · have := imn_mem (vals_ne (p := p) e)
    obtain ⟨k, hk, q⟩ := List.mem_map.mp this
    have := h k (List.mem_range.mp hk)
    unfold pl
    rcases sgn_cases (imn (vals c p)) with ⟨a, b⟩ | ⟨a, b⟩ | ⟨a, b⟩ <;> omega
theorem pl_zero {c : List Pt} {p : Pt} (h : ∀ k, k < c.length → 0 ≤ val c p k) (k : Nat) (hk : k < c.length) (v : val c p k = 0) : pl c p = 0 := by
  have a := pl_nonneg h
  have := imn_le (l := vals c p) (List.mem_map.mpr ⟨k, List.mem_range.mpr hk, rfl⟩)
  unfold pl at *
  rcases sgn_cases (imn (vals c p)) with ⟨a, b⟩ | ⟨a, b⟩ | ⟨a, b⟩ <;> omega
theorem pl_pos {c : List Pt} {p : Pt} (e : c ≠ []) (h : ∀ k, k < c.length → 0 < val c p k) : pl c p = 1 := by
  have := imn_mem (vals_ne (p := p) e)
  obtain ⟨k, hk, q⟩ := List.mem_map.mp this
  have := h k (List.mem_range.mp hk)
  unfold pl
  rcases sgn_cases (imn (vals c p)) with ⟨a, b⟩ | ⟨a, b⟩ | ⟨a, b⟩ <;> omega
abbrev sP (c : List Pt) (p : Pt) : Sx := ⟨[some (TP c), some (pt p), some (.int c.length), none, none], []⟩
theorem pl_rg {c : List Pt} {p : Pt} (hl : c.length ≤ 400) : fIts asRg1 (fCons (fVar 2) fNil) (sP c p) = .ok ((List.range c.length).map fun (k : Nat) => D.int (k : Int)) [] := by
  have rg : asRg1 [.int (c.length : Int)] = some ((List.range c.length).map fun (k : Nat) => D.int (k : Int)) := asRg1_n (by omega)
  simp [rg]
theorem pl_e {c : List Pt} {p : Pt} (hn : NrL c) (k : Nat) (hk : k < c.length) : fCall m_side (fCons (fOp gIx (fVar 0) (fVar 4)) (fCons (fOp gIx (fVar 0) (fOp nMod (fOp nAdd (fVar 4) (fC (.int 1))) (fVar 2))) (fCons (fVar 1) fNil))) ⟨(wipeD (sP c p).ρ [4]).set 4 (some (.int k)), []⟩ = .ok (.int (sgn (val c p k))) [] := by
  have p0 : (0 : Int) < (c.length : Int) := by omega
  have t := x_side (c := p) (hn.g hk) (hn.g (Nat.mod_lt (k + 1) (by omega : 0 < c.length)))
  simp [wipeD, call_s, nMod_s p0, atI_mod1 (c := c) (k := k) (by omega), atI_g hk, t, val]
theorem pl_e2 {c : List Pt} {p : Pt} (hn : NrL c) (k : Nat) (hk : k < c.length) : fCall m__law_turn (fCons (fOp gIx (fVar 0) (fVar 4)) (fCons (fOp gIx (fVar 0) (fOp nMod (fOp nAdd (fVar 4) (fC (.int 1))) (fVar 2))) (fCons (fVar 1) fNil))) ⟨(wipeD (sP c p).ρ [4]).set 4 (some (.int k)), []⟩ = .ok (.int (val c p k)) [] := by
  have p0 : (0 : Int) < (c.length : Int) := by omega
  have t := x_law_turn (c := p) (hn.g hk) (hn.g (Nat.mod_lt (k + 1) (by omega : 0 < c.length)))
  simp [wipeD, call_s, nMod_s p0, atI_mod1 (c := c) (k := k) (by omega), atI_g hk, t, val]
theorem x_place {c : List Pt} {p : Pt} (h0 : c ≠ []) (hl : c.length ≤ 400) (hn : NrL c) : m_place [TP c, pt p] = .ok (.int (pl c p)) := by
  have e := fLc_enc (vs := [4]) (List.range c.length) (pl_rg (p := p) hl) (by simp; omega) (fun k hk => pl_e (p := p) hn k (List.mem_range.mp hk))
  have e3 : (List.range c.length).map (fun k => D.int (sgn (val c p k))) = ((vals c p).map sgn).map .int := by unfold vals; simp [List.map_map]
  rw [e3] at e
  have b : ∀ M, gBest true M [.lst (((vals c p).map sgn).map .int)] = some (.int (pl c p)) := fun M => by
    rw [gBest_imn (by simpa using vals_ne h0), imn_sgn]; rfl
  unfold m_place
  refine (aut_at rfl).trans ?_
  unfold g_place
  rw [seq_nx (s1 := sP c p) (by simp [init0])]
  rw [seq_nx (s1 := ⟨[some (TP c), some (pt p), some (.int c.length), some (.lst (((vals c p).map sgn).map .int)), none], []⟩) (by rw [fAsg_s, fFz_s, e]; rfl)]
  generalize ((vals c p).map sgn).map D.int = L at *
  simp [b]
theorem x_law_place' {c : List Pt} {p : Pt} {g_lp : Sx → RS} (hg : g_lp = fSeq (fAsg (fCB gLen (fCons (fVar 0) fNil)) (bName 2)) (fSeq (fAsg (fFz (fLc (fIts asRg1 (fCons (fVar 2) fNil)) (bName 4) fTrue (fCall m__law_turn (fCons (fOp gIx (fVar 0) (fVar 4)) (fCons (fOp gIx (fVar 0) (fOp nMod (fOp nAdd (fVar 4) (fC (.int 1))) (fVar 2))) (fCons (fVar 1) fNil)))) [4])) (bName 3)) (fRet (fOp nSubB (fOp nGt (fCB (gBest true) (fCons (fVar 3) fNil)) (fC (.int 0))) (fOp nLt (fCB (gBest true) (fCons (fVar 3) fNil)) (fC (.int 0)))))))
    (h0 : c ≠ []) (hl : c.length ≤ 400) (hn : NrL c) : aut 2 ["corners", "point", "many", "sides", "k"] g_lp [TP c, pt p] = .ok (.int (pl c p)) := by
  subst hg
  have e := fLc_enc (vs := [4]) (List.range c.length) (pl_rg (p := p) hl) (by simp; omega) (fun k hk => pl_e2 (p := p) hn k (List.mem_range.mp hk))
  have e3 : (List.range c.length).map (fun k => D.int (val c p k)) = (vals c p).map .int := by unfold vals; simp [List.map_map]
  rw [e3] at e
  have b : ∀ M, gBest true M [.lst ((vals c p).map .int)] = some (.int (imn (vals c p))) := fun M => gBest_imn (vals_ne h0)
  refine (aut_at rfl).trans ?_
  rw [seq_nx (s1 := sP c p) (by simp [init0])]
  rw [seq_nx (s1 := ⟨[some (TP c), some (pt p), some (.int c.length), some (.lst ((vals c p).map .int)), none], []⟩) (by rw [fAsg_s, fFz_s, e]; rfl)]
  generalize (vals c p).map D.int = L at *
  simp [b, pl, sgn]
/-! ### quick -/
abbrev qT : Sx → R Bool := fTst (fOp nGt (fOp nSub (fVar 5) (fVar 4)) (fC (.int 1)))
abbrev qB : Sx → RS := (fSeq (fAsg (fOp nDiv (fOp nAdd (fVar 4) (fVar 5)) (fC (.int 2))) (bName 6)) (fIfS (fTst (fOp nGe (fCall m_side (fCons (fOp gIx (fVar 0) (fC (.int 0))) (fCons (fOp gIx (fVar 0) (fVar 6)) (fCons (fVar 1) fNil)))) (fC (.int 0)))) (fAsg (fVar 6) (bName 4)) (fAsg (fVar 6) (bName 5))))
abbrev sQ (c : List Pt) (p : Pt) (f l : Int) (lo hi : Nat) (m : Option D) : Sx := ⟨[some (TP c), some (pt p), some (.int f), some (.int l), some (.int lo), some (.int hi), m, none], []⟩
theorem q_body {c : List Pt} {p : Pt} {f l : Int} {lo hi : Nat} {m : Option D} (hn : NrL c) (h1 : lo + 1 < hi) (h2 : hi < c.length) :
    qB (sQ c p f l lo hi m) = if 0 ≤ tn (g c 0) (g c ((lo + hi) / 2)) p then .nx (sQ c p f l ((lo + hi) / 2) hi (some (.int (((lo + hi) / 2 : Nat) : Int)))) else .nx (sQ c p f l lo ((lo + hi) / 2) (some (.int (((lo + hi) / 2 : Nat) : Int)))) := by
  have hm : (lo + hi) / 2 < c.length := by omega
  have em : ((lo : Int) + (hi : Int)) / 2 = (((lo + hi) / 2 : Nat) : Int) := by omega
  have t := x_side (c := p) (hn.g (k := 0) (by omega)) (hn.g hm)
  have a0 : atI (c.map pt) 0 = some (pt (g c 0)) := atI_gi 0 rfl (by omega)
  have a1 := atI_g hm
  generalize (lo + hi) / 2 = mid at *
  have d : fAsg (fOp nDiv (fOp nAdd (fVar 4) (fVar 5)) (fC (.int 2))) (bName 6) (sQ c p f l lo hi m) = .nx (sQ c p f l lo hi (some (.int mid))) := by
    simp (disch := omega) [nDiv_s, em]
  refine (seq_nx d).trans ?_
  by_cases h : 0 ≤ tn (g c 0) (g c mid) p
  · rw [if_pos h]
    have : 0 ≤ sgn (tn (g c 0) (g c mid) p) := by rcases sgn_cases (tn (g c 0) (g c mid) p) with ⟨a, b⟩ | ⟨a, b⟩ | ⟨a, b⟩ <;> omega
    simp [call_s, a0, a1, t, this]
  · rw [if_neg h]
    have : ¬ 0 ≤ sgn (tn (g c 0) (g c mid) p) := by rcases sgn_cases (tn (g c 0) (g c mid) p) with ⟨a, b⟩ | ⟨a, b⟩ | ⟨a, b⟩ <;> omega
    simp [call_s, a0, a1, t, this]
theorem w_quick {c : List Pt} {p : Pt} {f l : Int} (hn : NrL c) : ∀ (n lo hi : Nat) (m : Option D), hi - lo < n → 1 ≤ lo → lo < hi → hi < c.length → 0 ≤ tn (g c 0) (g c lo) p → tn (g c 0) (g c hi) p ≤ 0 →
    ∃ j m', fWhile qT qB n (sQ c p f l lo hi m) = .nx (sQ c p f l j (j + 1) m') ∧ 1 ≤ j ∧ j + 1 < c.length ∧ 0 ≤ tn (g c 0) (g c j) p ∧ tn (g c 0) (g c (j + 1)) p ≤ 0
  | 0, lo, hi, m, h, _, _, _, _, _ => by omega
  | n + 1, lo, hi, m, h, h1, h2, h3, a, b => by
    by_cases e : lo + 1 < hi
    · have cd : qT (sQ c p f l lo hi m) = .ok true [] := by
        have : (1 : Int) < (hi : Int) - (lo : Int) := by omega
        simp [this]
      have bd := q_body (p := p) (f := f) (l := l) (m := m) hn e h3
      by_cases z : 0 ≤ tn (g c 0) (g c ((lo + hi) / 2)) p
      · rw [if_pos z] at bd
        obtain ⟨j, m', q1, q2⟩ := w_quick (f := f) (l := l) hn n ((lo + hi) / 2) hi (some (.int (((lo + hi) / 2 : Nat) : Int))) (by omega) (by omega) (by omega) h3 z b
        exact ⟨j, m', (while_go cd bd).trans q1, q2⟩
      · rw [if_neg z] at bd
        obtain ⟨j, m', q1, q2⟩ := w_quick (f := f) (l := l) hn n lo ((lo + hi) / 2) (some (.int (((lo + hi) / 2 : Nat) : Int))) (by omega) (by omega) (by omega) (by omega) a (by omega)
        exact ⟨j, m', (while_go cd bd).trans q1, q2⟩
    · have : hi = lo + 1 := by omega
      subst this
      have cd : qT (sQ c p f l lo (lo + 1) m) = .ok false [] := by
        have : ¬ (1 : Int) < ((lo + 1 : Nat) : Int) - (lo : Int) := by omega
        simp [this]
        omega
      exact ⟨lo, m, while_end cd, h1, h3, a, b⟩
theorem x_quick {Q c : List Pt} {p : Pt} (H : HullF Q c) (hl : c.length ≤ 400) (hn : NrL c) : m_quick_place [TP c, pt p] = .ok (.int (pl c p)) := by
  have n3 := H.n3
  unfold m_quick_place
  refine (autF_at rfl).trans ?_
  have fu := fuel_ge [TP c, pt p]
  generalize fuelOf [TP c, pt p] = fuel at *
  unfold g_quick_place
  have a0 : atI (c.map pt) 0 = some (pt (g c 0)) := atI_gi 0 rfl (by omega)
  have a1 : atI (c.map pt) 1 = some (pt (g c 1)) := atI_gi 1 rfl (by omega)
  have am := atI_m1 (c := c) (by omega)
  have t1 := x_side (c := p) (hn.g (k := 0) (by omega)) (hn.g (k := 1) (by omega))
  have t2 := x_side (c := p) (hn.g (k := 0) (by omega)) (hn.g (k := c.length - 1) (by omega))
  have vf := H.val_first (p := p)
  have vl := H.val_last (p := p)
  rw [seq_nx (s1 := ⟨[some (TP c), some (pt p), some (.int (sgn (tn (g c 0) (g c 1) p))), some (.int (sgn (tn (g c 0) (g c (c.length - 1)) p))), none, none, none, none], []⟩) (by
    simp [init0, call_s, a0, a1, am, t1, t2])]
  have sf := sgn_cases (tn (g c 0) (g c 1) p)
  have sl := sgn_cases (tn (g c 0) (g c (c.length - 1)) p)
  generalize hf : sgn (tn (g c 0) (g c 1) p) = f at *
  generalize hg : sgn (tn (g c 0) (g c (c.length - 1)) p) = l at *
  by_cases hp : p = g c 0
  · have : fIfS (fTst (fOp gEq (fVar 1) (fOp gIx (fVar 0) (fC (.int 0))))) (fRet (fC (.int 0))) fSkip ⟨[some (TP c), some (pt p), some (.int f), some (.int l), none, none, none, none], []⟩ = .rt (.int 0) ⟨[some (TP c), some (pt p), some (.int f), some (.int l), none, none, none, none], []⟩ := by
      simp [a0, gEq_pts, hp]
    rw [seq_rt this]
    have z : pl c p = 0 := pl_zero (fun k hk => by rw [hp]; exact H.val_c hk (by omega)) 0 (by omega) (by rw [vf, hp]; exact Geo.tn_same2 _ _)
    rw [z]; simp
  have : fIfS (fTst (fOp gEq (fVar 1) (fOp gIx (fVar 0) (fC (.int 0))))) (fRet (fC (.int 0))) fSkip ⟨[some (TP c), some (pt p), some (.int f), some (.int l), none, none, none, none], []⟩ = .nx ⟨[some (TP c), some (pt p), some (.int f), some (.int l), none, none, none, none], []⟩ := by
    simp [a0, gEq_pts, hp]
  rw [seq_nx this]
  by_cases h1 : f < 0 ∨ 0 < l
  · have : fIfS (fOr (fTst (fOp nLt (fVar 2) (fC (.int 0)))) (fTst (fOp nGt (fVar 3) (fC (.int 0))))) (fRet (fUn nNeg (fC (.int 1)))) fSkip ⟨[some (TP c), some (pt p), some (.int f), some (.int l), none, none, none, none], []⟩ = .rt (.int (-1)) ⟨[some (TP c), some (pt p), some (.int f), some (.int l), none, none, none, none], []⟩ := by
      by_cases hf : f < 0
      · simp [hf]
      · have : 0 < l := by omega
        simp [hf, this]
    rw [seq_rt this]
    have z : pl c p = -1 := by
      by_cases hf : f < 0
      · exact pl_neg 0 (by omega) (by omega)
      · exact pl_neg (c.length - 1) (by omega) (by omega)
    rw [z]; simp
  have : fIfS (fOr (fTst (fOp nLt (fVar 2) (fC (.int 0)))) (fTst (fOp nGt (fVar 3) (fC (.int 0))))) (fRet (fUn nNeg (fC (.int 1)))) fSkip ⟨[some (TP c), some (pt p), some (.int f), some (.int l), none, none, none, none], []⟩ = .nx ⟨[some (TP c), some (pt p), some (.int f), some (.int l), none, none, none, none], []⟩ := by
    have k1 : ¬ f < 0 := by omega
    have k2 : ¬ 0 < l := by omega
    simp [k1, k2]
  rw [seq_nx this]
  rw [seq_nx (s1 := sQ c p f l 1 (c.length - 1) none) (by
    have : (c.length : Int) - 1 = ((c.length - 1 : Nat) : Int) := by omega
    simp [this])]
  obtain ⟨j, m', q1, q2, q3, q4, q5⟩ := w_quick (f := f) (l := l) (p := p) hn fuel 1 (c.length - 1) none (by omega) (by omega) (by omega) (by omega) (by omega) (by omega)
  rw [seq_nx q1]
  have aj := atI_g (c := c) (k := j) (by omega)
  have aj1 := atI_suc (c := c) (k := j) q3
  have tj := x_side (c := p) (hn.g (k := j) (by omega)) (hn.g q3)
  have vj : val c p j = tn (g c j) (g c (j + 1)) p := by unfold val; rw [Nat.mod_eq_of_lt q3]
  rw [seq_nx (s1 := ⟨[some (TP c), some (pt p), some (.int f), some (.int l), some (.int j), some (.int ((j + 1 : Nat) : Int)), m', some (.int (sgn (val c p j)))], []⟩) (by
    rw [vj]
    simp [call_s, aj, aj1, tj])]
  have sv := sgn_cases (val c p j)
  have key : pl c p = if 0 < sgn (val c p j) ∧ (f = 0 ∨ l = 0) then 0 else sgn (val c p j) := by
    rcases sv with ⟨a, b⟩ | ⟨a, b⟩ | ⟨a, b⟩
    · have nn := H.in_piece q2 q3 q4 q5 (Int.le_of_lt a)
      by_cases z : f = 0 ∨ l = 0
      · rw [if_pos ⟨by omega, z⟩]
        rcases z with z | z
        · exact pl_zero nn 0 (by omega) (by omega)
        · exact pl_zero nn (c.length - 1) (by omega) (by omega)
      · rw [if_neg (fun y => z y.2), b]
        have ss := H.in_piece_s q2 q3 q4 q5 a
        refine pl_pos (fun e => by rw [e] at n3; simp at n3) fun k hk => ?_
        by_cases k0 : k = 0
        · subst k0; omega
        · by_cases kl : k = c.length - 1
          · subst kl; omega
          · exact ss k (by omega) (by omega)
    · have nn := H.in_piece q2 q3 q4 q5 (Int.le_of_eq a.symm)
      rw [if_neg (fun y => by omega), b]
      exact pl_zero nn j (by omega) a
    · rw [if_neg (fun y => by omega), b]
      exact pl_neg j (by omega) a
  rw [key]
  generalize sgn (val c p j) = v at *
  by_cases hv : 0 < v
  · by_cases hf0 : f = 0
    · simp [hv, hf0]
    · by_cases hl0 : l = 0
      · simp [hv, hf0, hl0]
      · simp [hv, hf0, hl0]
  · simp [hv]
end PG

namespace PG
open PySem PySem.Spec L2 DL
open PyProof.Rows hiding St
open Geo (g g_at g_mem mem_g tn chn pops hullL halves Rise lt val HullF)
/-! ### papers -/
def tri (c : List Pt) (p : Pt) (k : Nat) : Bool := decide (0 ≤ tn (g c 0) (g c k) p) && (decide (0 ≤ tn (g c k) (g c (k + 1)) p) && decide (0 ≤ tn (g c (k + 1)) (g c 0) p))
def fk (c : List Pt) (p : Pt) : Nat := ((List.range' 1 (c.length - 1 - 1)).find? (tri c p)).getD 0
def rowI (k : Nat) : List Int := [0, k, (k : Int) + 1]
def rowD (l : List Int) : D := .tup (l.map .int)
theorem plain_rows (l : List (List Int)) : plain (l.map rowD) = true := plain_map (fun a k e => by cases e) _
abbrev hpB : Sx → RS := (fIfS (fTst (fCall m_in_three (fCons (fOp gIx (fVar 1) (fC (.int 0))) (fCons (fOp gIx (fVar 1) (fVar 4)) (fCons (fOp gIx (fVar 1) (fOp nAdd (fVar 4) (fC (.int 1)))) (fCons (fVar 3) fNil)))))) (fSeq (fDrop (fMt gAppend (fVar 2) (fCons (fTup (fCons (fC (.int 0)) (fCons (fVar 4) (fCons (fOp nAdd (fVar 4) (fC (.int 1))) fNil)))) fNil))) fBrk) fSkip)
theorem hp_in {row c : List Pt} {p : Pt} {rs : List (List Int)} (hn : NrL c) (hl : c.length ≤ 400) (hr : rs.length < 100000) : ∀ (ks : List Nat) (x : Option D) (k : Nat), (∀ k ∈ ks, k + 1 < c.length) → ks.find? (tri c p) = some k →
    ∃ y, fForL (bName 4) hpB (ks.map fun (k : Nat) => D.int (k : Int)) ⟨[some (TP row), some (TP c), some (.loc 0), some (pt p), x], [rs.map rowD]⟩ = .nx ⟨[some (TP row), some (TP c), some (.loc 0), some (pt p), y], [(rs ++ [rowI k]).map rowD]⟩
  | [], x, k, _, h => by simp at h
  | j :: ks, x, k, hk, h => by
    have hj : j + 1 < c.length := hk j (by simp)
    have t := x_in_three (p := p) (hn.g (k := 0) (by omega)) (hn.g (k := j) (by omega)) (hn.g hj)
    have a0 : atI (c.map pt) 0 = some (pt (g c 0)) := atI_gi 0 rfl (by omega)
    have a1 := atI_g (c := c) (k := j) (by omega)
    have a2 := atI_suc (c := c) (k := j) hj
    have cd : fTst (fCall m_in_three (fCons (fOp gIx (fVar 1) (fC (.int 0))) (fCons (fOp gIx (fVar 1) (fVar 4)) (fCons (fOp gIx (fVar 1) (fOp nAdd (fVar 4) (fC (.int 1)))) (fCons (fVar 3) fNil))))) ⟨[some (TP row), some (TP c), some (.loc 0), some (pt p), some (.int j)], [rs.map rowD]⟩ = .ok (tri c p j) [rs.map rowD] := by
      unfold tri
      simp [call_s, a0, a1, a2, t]
    rw [List.find?_cons] at h
    cases hT : tri c p j with
    | true =>
      rw [hT] at h cd
      have : j = k := by simpa using h
      subst this
      refine ⟨some (.int j), ?_⟩
      rw [List.map_cons]
      refine for_brk (s1 := ⟨[some (TP row), some (TP c), some (.loc 0), some (pt p), some (.int j)], [rs.map rowD]⟩) rfl ?_
      refine (ifS_t cd).trans ?_
      rw [seq_nx (s1 := ⟨[some (TP row), some (TP c), some (.loc 0), some (pt p), some (.int j)], [(rs ++ [rowI j]).map rowD]⟩)]
      · rfl
      rw [fDrop_s, mt_append (n := 0) (l := rs.map rowD) (d := rowD (rowI j)) (M := [rs.map rowD]) rfl rfl (plain_rows _) (by simp [rowD, rowI]) rfl (by simpa using hr), List.map_append]
      rfl
    | false =>
      rw [hT] at h cd
      obtain ⟨y, ih⟩ := hp_in (row := row) (c := c) (p := p) (rs := rs) hn hl hr ks (some (.int j)) k (fun k hq => hk k (List.mem_cons_of_mem _ hq)) (by simpa using h)
      refine ⟨y, ?_⟩
      rw [List.map_cons, ← ih]
      refine for_go (s1 := ⟨[some (TP row), some (TP c), some (.loc 0), some (pt p), some (.int j)], [rs.map rowD]⟩) rfl ?_
      exact (ifS_f cd)
theorem hp_out {row c : List Pt} (hn : NrL c) (h3 : 3 ≤ c.length) (hl : c.length ≤ 400) : ∀ (ps : List Pt) (rs : List (List Int)) (x y : Option D), rs.length + ps.length < 100000 → (∀ p ∈ ps, ((List.range' 1 (c.length - 1 - 1)).find? (tri c p)).isSome = true) →
    ∃ x' y', fForL (bName 3) (fFor (fIts asRg2 (fCons (fC (.int 1)) (fCons (fOp nSub (fCB gLen (fCons (fVar 1) fNil)) (fC (.int 1))) fNil))) (bName 4) hpB) (ps.map pt) ⟨[some (TP row), some (TP c), some (.loc 0), x, y], [rs.map rowD]⟩ =
      .nx ⟨[some (TP row), some (TP c), some (.loc 0), x', y'], [(rs ++ ps.map fun p => rowI (fk c p)).map rowD]⟩
  | [], rs, x, y, _, _ => ⟨x, y, by simp⟩
  | p :: ps, rs, x, y, hr, h => by
    have hp := h p (by simp)
    obtain ⟨k, hk⟩ := Option.isSome_iff_exists.mp hp
    have ek : fk c p = k := by unfold fk; rw [hk]; rfl
    simp only [List.length_cons] at hr
    obtain ⟨y1, e1⟩ := hp_in (row := row) (c := c) (p := p) (rs := rs) hn hl (by omega) (List.range' 1 (c.length - 1 - 1)) y k (fun k hk => by rw [List.mem_range'_1] at hk; omega) hk
    obtain ⟨x', y', e2⟩ := hp_out hn h3 hl ps (rs ++ [rowI k]) (some (pt p)) y1 (by simp; omega) (fun q hq => h q (List.mem_cons_of_mem _ hq))
    refine ⟨x', y', ?_⟩
    rw [List.map_cons, List.map_cons, ek, show rs ++ rowI k :: List.map (fun p => rowI (fk c p)) ps = rs ++ [rowI k] ++ List.map (fun p => rowI (fk c p)) ps by simp, ← e2]
    refine for_go (s1 := ⟨[some (TP row), some (TP c), some (.loc 0), some (pt p), y], [rs.map rowD]⟩) rfl ?_
    have rg2 : asRg2 [.int 1, .int ((c.length : Int) - 1)] = some ((List.range' 1 (c.length - 1 - 1)).map fun (k : Nat) => D.int (k : Int)) := by
      have := asRg2_n (i := 1) (j := c.length - 1) (by omega) (by omega)
      rw [show ((c.length - 1 : Nat) : Int) = (c.length : Int) - 1 by omega] at this
      exact this
    rw [fFor_s, fIts_s]
    have : fCons (fC (.int 1)) (fCons (fOp nSub (fCB gLen (fCons (fVar 1) fNil)) (fC (.int 1))) fNil) ⟨[some (TP row), some (TP c), some (.loc 0), some (pt p), y], [rs.map rowD]⟩ = .ok [.int 1, .int ((c.length : Int) - 1)] [rs.map rowD] := by simp
    rw [this]
    simp only [bind_ok, rg2, opt_some, toS_ok]
    exact e1
abbrev RsD (rs : List (List Int)) : D := .tup (rs.map rowD)
theorem lf_rowD (l : List Int) : (rowD l).lf = true := by simp [rowD]
theorem lf_rows (rs : List (List Int)) : lfs (rs.map rowD) = true := lfs_map lf_rowD rs
theorem fz_rows {M : Cells} {m : Nat} (rs : List (List Int)) : fzs M m (rs.map rowD) = some (rs.map rowD) := fzs_map (fun b => by simp [rowD]) rs
theorem x_hull_paper {row c : List Pt} (hc : hullL (srt row) = c) (hr : row.length ≤ 400) (nr : NrL row) (hn : NrL c) (h3 : 3 ≤ c.length) (hl : c.length ≤ 400) (h : ∀ p ∈ row, ((List.range' 1 (c.length - 1 - 1)).find? (tri c p)).isSome = true) :
    m_hull_paper [TP row] = .ok (.tup [TP c, RsD (row.map fun p => rowI (fk c p))]) := by
  unfold m_hull_paper
  refine (aut_at rfl).trans ?_
  unfold g_hull_paper
  have e0 := x_hull hr nr
  rw [hc] at e0
  rw [seq_nx (s1 := ⟨[some (TP row), some (TP c), none, none, none], []⟩) (by simp [init0, call_s, e0])]
  have : ¬ (c.length : Int) < 3 := by omega
  rw [seq_nx (s1 := ⟨[some (TP row), some (TP c), none, none, none], []⟩) (by simp [this])]
  rw [seq_nx (s1 := ⟨[some (TP row), some (TP c), some (.loc 0), none, none], [[]]⟩) (by simp)]
  obtain ⟨x', y', e⟩ := hp_out (row := row) hn h3 hl row [] none none (by simp; omega) h
  rw [seq_nx (s1 := ⟨[some (TP row), some (TP c), some (.loc 0), x', y'], [(row.map fun p => rowI (fk c p)).map rowD]⟩) (by
    rw [fFor_s, fIt_s]
    simp only [fVar_s, ce0, bind_ok, asTup_s, opt_some, toS_ok]
    simpa using e)]
  generalize (row.map fun p => rowI (fk c p)) = rs at *
  have g1 : gTupOf [rs.map rowD] [.loc 0] = some (RsD rs) := by
    unfold gTupOf seqOf
    dsimp only
    rw [lat_at (M := [rs.map rowD]) (n := 0) rfl (plain_rows rs)]
    rfl
  simp [g1, fz_rows]
theorem x_paper_line {row c : List Pt} (hc : hullL (srt row) = c) (hr : row.length ≤ 400) (nr : NrL row) (h3 : c.length < 3) : m_hull_paper [TP row] = .ex ⟨"NoWay", none⟩ := by
  have e0 := x_hull hr nr
  rw [hc] at e0
  have : (c.length : Int) < 3 := by omega
  simp [m_hull_paper, aut, g_hull_paper, init0, call_s, e0, this]
end PG

namespace DL
open PySem PySem.Spec L2
open PyProof.Rows hiding St
theorem pt_inj {p q : Pt} (h : pt p = pt q) : p = q := by
  unfold pt at h
  injection h with h
  simp only [List.cons.injEq, D.int.injEq, and_true] at h
  exact Prod.ext h.1 h.2
theorem mem_pts {p : Pt} {l : List Pt} : pt p ∈ l.map pt ↔ p ∈ l := by
  rw [List.mem_map]
  exact ⟨fun ⟨q, h, e⟩ => pt_inj e ▸ h, fun h => ⟨p, h, rfl⟩⟩
theorem any_py {k j : Nat} {d : D} {p : PyData} (hd : d.cmp k = true) (hp : pyOf d = some p) : ∀ {l : List D} {ps : List PyData}, cmps j l = true → pysOf l = some ps → ((ps.any fun z => PyData.eqv z p) = true ↔ d ∈ l)
  | [], ps, _, h => by unfold pysOf at h; cases h; simp
  | e :: l, ps, g, h => by
    unfold cmps at g
    obtain ⟨g1, g2⟩ := Bool.and_eq_true_iff.mp g
    unfold pysOf at h
    split at h
    · rename_i q qs b1 b2
      cases h
      rw [List.any_cons, Bool.or_eq_true, cmp_iff g1 hd b1 hp, any_py hd hp g2 b2, List.mem_cons]
      exact ⟨fun z => z.imp Eq.symm id, fun z => z.imp Eq.symm id⟩
    · cases h
theorem inA_cmp {M : Cells} {d : D} {l : List D} {neg : Bool} (tp : Bool) (h : d.cmp 50 = true) (g : cmps 50 l = true) : ∃ b, gInA neg M d (if tp then .tup l else .lst l) = some (.bl (neg != b)) ∧ (b = true ↔ d ∈ l) := by
  obtain ⟨p, a1, a2, a3⟩ := cmp_py h
  obtain ⟨ps, b1, b2, b3⟩ := cmps_py g
  have e := any_py h a1 g b1
  have s1 : SeqAt.shaped p = true := by
    unfold SeqAt.shaped; simp [a2]; omega
  have s2 : SeqAt.shaped (.list ps) = true := by
    unfold SeqAt.shaped; simp [PyData.canLay0, PyData.depth, b2]; omega
  have s3 : SeqAt.shaped (.tuple ps) = true := by
    unfold SeqAt.shaped; simp [PyData.canLay0, PyData.depth, b2]; omega
  refine ⟨ps.any fun z => PyData.eqv z p, ?_, e⟩
  unfold gInA dInA
  rw [cmp_at h, a1]
  cases tp with
  | true =>
    have : pyAt M (.tup l) = some (.tuple ps) := by
      show pyOf (.tup l) = _
      unfold pyOf; rw [b1]; rfl
    simp only [if_true, this, s1, s2, s3, Bool.and_self, Option.map_some]
  | false =>
    have : pyAt M (.lst l) = some (.list ps) := by
      show pyOf (.lst l) = _
      unfold pyOf; rw [b1]; rfl
    simp only [Bool.false_eq_true, if_false, this, s1, s2, s3, Bool.and_self, Option.map_some, if_true]
theorem inA_pts {M : Cells} {p : Pt} {l : List Pt} {neg : Bool} : gInA neg M (pt p) (TP l) = some (.bl (neg != decide (p ∈ l))) := by
  obtain ⟨b, e, f⟩ := inA_cmp (M := M) (neg := neg) true (pt_cmp (k := 49) p) (pts_cmp (k := 49) l)
  rw [if_pos rfl] at e
  rw [e]
  congr 3
  rw [Bool.eq_iff_iff, f, mem_pts]; simp
theorem inA_ptsL {M : Cells} {p : Pt} {l : List Pt} {neg : Bool} : gInA neg M (pt p) (LsP l) = some (.bl (neg != decide (p ∈ l))) := by
  obtain ⟨b, e, f⟩ := inA_cmp (M := M) (neg := neg) false (pt_cmp (k := 49) p) (pts_cmp (k := 49) l)
  rw [if_neg (by simp)] at e
  rw [e]
  congr 3
  rw [Bool.eq_iff_iff, f, mem_pts]; simp
@[simp] theorem pu_exP {ρ : List (Option D)} {M : Cells} {x : Str} {i : Int} : (RS.ex ⟨x, some (.int i)⟩ ⟨ρ, M⟩).pu = .ex ⟨x, some (.int i)⟩ := by
  unfold RS.pu RS.out
  simp only [cut0]
  rfl
@[simp] theorem fRaiseP_s {x : Str} {f : Sx → R D} {s : Sx} : fRaiseP x f s = (f s).toS s.ρ fun d M => .ex ⟨x, some d⟩ ⟨s.ρ, M⟩ := rfl
end DL
namespace PG
open PySem PySem.Spec L2 DL
open PyProof.Rows hiding St
open Geo (g g_at g_mem mem_g tn chn pops hullL halves Rise lt val HullF)
/-! ### papers looked at -/
def inT (a b c p : Pt) : Bool := decide (0 ≤ tn a b p) && (decide (0 ≤ tn b c p) && decide (0 ≤ tn c a p))
/-- the j-th row of a paper holds its point -/
def lk (c : List Pt) (rs : List (List Int)) (j : Nat) (p : Pt) : Bool := match rs[j]? with
  | some [a, b, d] => decide ((0 ≤ a ∧ a < c.length) ∧ (0 ≤ b ∧ b < c.length) ∧ (0 ≤ d ∧ d < c.length) ∧ a < b ∧ b < d) && inT (g c a.toNat) (g c b.toNat) (g c d.toNat) p
  | _ => false
abbrev lkB : Sx → RS := (fSeq (fIfS (fTst (fOp nGe (fVar 5) (fCB gLen (fCons (fVar 3) fNil)))) (fRaiseP "BadPaper" (fOp nAdd (fVar 5) (fC (.int 1)))) fSkip) (fSeq (fAsg (fOp gIx (fVar 3) (fVar 5)) (bName 7)) (fSeq (fIfS (fOr (fTst (fOp gNe (fCB gLen (fCons (fVar 7) fNil)) (fC (.int 3)))) (fOr (fTst (fAny (fIt asTup (fVar 7)) (bName 4) fTrue (fNotV (fChain nLe nLt (fC (.int 0)) (fVar 4) (fCB gLen (fCons (fVar 2) fNil)))) [4])) (fNot (fTst (fChain nLt nLt (fOp gIx (fVar 7) (fC (.int 0))) (fOp gIx (fVar 7) (fC (.int 1))) (fOp gIx (fVar 7) (fC (.int 2)))))))) (fRaiseP "BadPaper" (fOp nAdd (fVar 5) (fC (.int 1)))) fSkip) (fIfS (fNot (fTst (fCall m_in_three (fCons (fOp gIx (fVar 2) (fOp gIx (fVar 7) (fC (.int 0)))) (fCons (fOp gIx (fVar 2) (fOp gIx (fVar 7) (fC (.int 1)))) (fCons (fOp gIx (fVar 2) (fOp gIx (fVar 7) (fC (.int 2)))) (fCons (fVar 6) fNil))))))) (fRaiseP "BadPaper" (fOp nAdd (fVar 5) (fC (.int 1)))) fSkip))))
abbrev sL (row c : List Pt) (pp : D) (rs : List (List Int)) (o : Option D) (j : Nat) (p : Pt) (t : Option D) : Sx := ⟨[some (TP row), some pp, some (TP c), some (RsD rs), o, some (.int j), some (pt p), t], []⟩
theorem lk_any {c row : List Pt} {pp : D} {rs : List (List Int)} {o : Option D} {j : Nat} {p : Pt} {l : List Int} : fAny (fIt asTup (fVar 7)) (bName 4) fTrue (fNotV (fChain nLe nLt (fC (.int 0)) (fVar 4) (fCB gLen (fCons (fVar 2) fNil)))) [4] (sL row c pp rs o j p (some (rowD l))) = .ok (.bl (l.any fun x => !(decide (0 ≤ x) && decide (x < c.length)))) [] := by
  refine fAny_enc (enc := D.int) l (by simp [rowD]) fun x hx => ?_
  by_cases h : 0 ≤ x
  · simp [wipeD, h]
  · simp [wipeD, h]
theorem lk_at {rs : List (List Int)} {j : Nat} {l : List Int} (h : rs[j]? = some l) : atI (rs.map rowD) (j : Int) = some (rowD l) := atI_map h
theorem lk_body {c row : List Pt} {pp : D} {rs : List (List Int)} {o : Option D} {j : Nat} {p : Pt} {t : Option D} (hn : NrL c) :
    (lk c rs j p = true → ∃ t', lkB (sL row c pp rs o j p t) = .nx (sL row c pp rs o j p t')) ∧ (lk c rs j p = false → ∃ s, lkB (sL row c pp rs o j p t) = .ex ⟨"BadPaper", some (.int ((j : Int) + 1))⟩ s) := by
  by_cases hj : j < rs.length
  · obtain ⟨l, hl⟩ : ∃ l, rs[j]? = some l := ⟨_, List.getElem?_eq_getElem hj⟩
    have k1 : ¬ (rs.length : Int) ≤ (j : Int) := by omega
    have s1 : fIfS (fTst (fOp nGe (fVar 5) (fCB gLen (fCons (fVar 3) fNil)))) (fRaiseP "BadPaper" (fOp nAdd (fVar 5) (fC (.int 1)))) fSkip (sL row c pp rs o j p t) = .nx (sL row c pp rs o j p t) := by
      simp [k1]
    have s2 : fAsg (fOp gIx (fVar 3) (fVar 5)) (bName 7) (sL row c pp rs o j p t) = .nx (sL row c pp rs o j p (some (rowD l))) := by
      simp [lk_at hl]
    unfold lk
    rw [hl]
    have e0 : ∀ (b : Bool), fOr (fTst (fOp gNe (fCB gLen (fCons (fVar 7) fNil)) (fC (.int 3)))) (fOr (fTst (fAny (fIt asTup (fVar 7)) (bName 4) fTrue (fNotV (fChain nLe nLt (fC (.int 0)) (fVar 4) (fCB gLen (fCons (fVar 2) fNil)))) [4])) (fNot (fTst (fChain nLt nLt (fOp gIx (fVar 7) (fC (.int 0))) (fOp gIx (fVar 7) (fC (.int 1))) (fOp gIx (fVar 7) (fC (.int 2))))))) (sL row c pp rs o j p (some (rowD l))) = .ok b [] →
        lkB (sL row c pp rs o j p t) = if b = true then .ex ⟨"BadPaper", some (.int ((j : Int) + 1))⟩ (sL row c pp rs o j p (some (rowD l))) else (fIfS (fNot (fTst (fCall m_in_three (fCons (fOp gIx (fVar 2) (fOp gIx (fVar 7) (fC (.int 0)))) (fCons (fOp gIx (fVar 2) (fOp gIx (fVar 7) (fC (.int 1)))) (fCons (fOp gIx (fVar 2) (fOp gIx (fVar 7) (fC (.int 2)))) (fCons (fVar 6) fNil))))))) (fRaiseP "BadPaper" (fOp nAdd (fVar 5) (fC (.int 1)))) fSkip) (sL row c pp rs o j p (some (rowD l))) := by
      intro b hb
      refine (seq_nx s1).trans ((seq_nx s2).trans ?_)
      cases b with
      | true => exact (seq_ex ((ifS_t hb).trans (by simp))).trans (if_pos rfl).symm
      | false => exact (seq_nx ((ifS_f hb).trans (by simp))).trans (if_neg (by simp)).symm
    match l, hl, e0 with
    | [a, b, d], hl, e0 =>
      have any := lk_any (row := row) (c := c) (pp := pp) (rs := rs) (o := o) (j := j) (p := p) (l := [a, b, d])
      have cd : fOr (fTst (fOp gNe (fCB gLen (fCons (fVar 7) fNil)) (fC (.int 3)))) (fOr (fTst (fAny (fIt asTup (fVar 7)) (bName 4) fTrue (fNotV (fChain nLe nLt (fC (.int 0)) (fVar 4) (fCB gLen (fCons (fVar 2) fNil)))) [4])) (fNot (fTst (fChain nLt nLt (fOp gIx (fVar 7) (fC (.int 0))) (fOp gIx (fVar 7) (fC (.int 1))) (fOp gIx (fVar 7) (fC (.int 2))))))) (sL row c pp rs o j p (some (rowD [a, b, d]))) = .ok (!decide ((0 ≤ a ∧ a < c.length) ∧ (0 ≤ b ∧ b < c.length) ∧ (0 ≤ d ∧ d < c.length) ∧ a < b ∧ b < d)) [] := by
        have ln : fOp gNe (fCB gLen (fCons (fVar 7) fNil)) (fC (.int 3)) (sL row c pp rs o j p (some (rowD [a, b, d]))) = .ok (.bl false) [] := by simp [rowD]
        have ch : fNot (fTst (fChain nLt nLt (fOp gIx (fVar 7) (fC (.int 0))) (fOp gIx (fVar 7) (fC (.int 1))) (fOp gIx (fVar 7) (fC (.int 2))))) (sL row c pp rs o j p (some (rowD [a, b, d]))) = .ok (!(decide (a < b) && decide (b < d))) [] := by
          by_cases h : a < b
          · simp [rowD, h]
          · simp [rowD, h]
        refine (or_f (tst_of ln)).trans ?_
        have any' := tst_of any
        by_cases hA : ([a, b, d].any fun x => !(decide (0 ≤ x) && decide (x < c.length))) = true
        · rw [hA] at any'
          rw [or_t any', decide_eq_false]
          · rfl
          · rintro ⟨h1, h2, h3, _⟩
            simp [h1, h2, h3] at hA
        · rw [Bool.not_eq_true] at hA
          rw [hA] at any'
          refine (or_f any').trans (ch.trans ?_)
          congr 2
          simp only [List.any_cons, List.any_nil, Bool.or_false, Bool.or_eq_false_iff, Bool.not_eq_false', Bool.and_eq_true, decide_eq_true_eq] at hA
          obtain ⟨h1, h2, h3⟩ := hA
          rw [← Bool.decide_and]
          exact decide_eq_decide.mpr ⟨fun h => ⟨h1, h2, h3, h⟩, fun h => h.2.2.2⟩
      have e1 := e0 _ cd
      dsimp only
      by_cases hok : (0 ≤ a ∧ a < c.length) ∧ (0 ≤ b ∧ b < c.length) ∧ (0 ≤ d ∧ d < c.length) ∧ a < b ∧ b < d
      · rw [decide_eq_true hok] at e1 ⊢
        simp only [Bool.not_true, Bool.false_eq_true, if_false] at e1
        obtain ⟨⟨a1, a2⟩, ⟨b1, b2⟩, ⟨d1, d2⟩, _, _⟩ := hok
        have t3 := x_in_three (p := p) (hn.g (k := a.toNat) (by omega)) (hn.g (k := b.toNat) (by omega)) (hn.g (k := d.toNat) (by omega))
        have ia := atI_gi (c := c) (i := a) a.toNat (by omega) (by omega)
        have ib := atI_gi (c := c) (i := b) b.toNat (by omega) (by omega)
        have id := atI_gi (c := c) (i := d) d.toNat (by omega) (by omega)
        have cd2 : fNot (fTst (fCall m_in_three (fCons (fOp gIx (fVar 2) (fOp gIx (fVar 7) (fC (.int 0)))) (fCons (fOp gIx (fVar 2) (fOp gIx (fVar 7) (fC (.int 1)))) (fCons (fOp gIx (fVar 2) (fOp gIx (fVar 7) (fC (.int 2)))) (fCons (fVar 6) fNil)))))) (sL row c pp rs o j p (some (rowD [a, b, d]))) = .ok (!inT (g c a.toNat) (g c b.toNat) (g c d.toNat) p) [] := by
          unfold inT
          simp only [fNot_s, fTst_s, call_s, fCons_s, fOp_s, fVar_s, fC_s, fNil_s, rowD, List.map_cons, List.map_nil, ce0, List.getElem?_cons_succ, bind_ok, gIx_tup, atI_0, atI_1, atI_2, opt_some, ia, ib, id, lfs_cons, lf_pt, lfs_nil, Bool.and_self, if_true, t3, toB_ok]
        refine ⟨fun h => ?_, fun h => ?_⟩
        · rw [Bool.true_and] at h
          rw [h] at cd2
          exact ⟨some (rowD [a, b, d]), e1.trans ((ifS_f cd2).trans rfl)⟩
        · rw [Bool.true_and] at h
          rw [h] at cd2
          exact ⟨sL row c pp rs o j p (some (rowD [a, b, d])), e1.trans ((ifS_t cd2).trans rfl)⟩
      · rw [decide_eq_false hok] at e1 ⊢
        refine ⟨fun h => by simp at h, fun _ => ⟨sL row c pp rs o j p (some (rowD [a, b, d])), e1.trans (by simp)⟩⟩
    | [], hl, e0 => exact ⟨fun h => (by cases h), fun _ => ⟨_, (e0 true (by simp [rowD])).trans (if_pos rfl)⟩⟩
    | [a], hl, e0 => exact ⟨fun h => (by cases h), fun _ => ⟨_, (e0 true (by simp [rowD])).trans (if_pos rfl)⟩⟩
    | [a, b], hl, e0 => exact ⟨fun h => (by cases h), fun _ => ⟨_, (e0 true (by simp [rowD])).trans (if_pos rfl)⟩⟩
    | a :: b :: d :: f :: l, hl, e0 =>
      refine ⟨fun h => (by cases h), fun _ => ⟨_, (e0 true ?_).trans (if_pos rfl)⟩⟩
      have : ¬ ((l.length : Int) + 1 + 1 + 1 + 1 = 3) := by omega
      simp [rowD, this]
  · have e : rs[j]? = none := List.getElem?_eq_none (by omega)
    unfold lk
    rw [e]
    refine ⟨fun h => (by cases h), fun _ => ?_⟩
    have k1 : (rs.length : Int) ≤ (j : Int) := by omega
    refine ⟨_, seq_ex (s1 := sL row c pp rs o j p t) ?_⟩
    simp [k1]
end PG

namespace PG
open PySem PySem.Spec L2 DL
open PyProof.Rows hiding St
open Geo (g g_at g_mem mem_g tn chn pops hullL halves Rise lt val HullF)
/-- the first row of a paper that is wrong -/
def lkF (c : List Pt) (rs : List (List Int)) : Nat → List Pt → Option Nat
  | _, [] => none
  | j, p :: ps => if lk c rs j p = true then lkF c rs (j + 1) ps else some j
theorem lk_loop {c row : List Pt} {pp : D} {rs : List (List Int)} {o : Option D} (hn : NrL c) : ∀ (ps : List Pt) (j : Nat) (x y t : Option D),
    (lkF c rs j ps = none → ∃ x' y' t', fForL (bTup 2 (bCons (bName 5) (bCons (bName 6) bNil))) lkB ((ps.zipIdx j).map fun q => D.tup [.int (q.2 : Nat), pt q.1]) ⟨[some (TP row), some pp, some (TP c), some (RsD rs), o, x, y, t], []⟩ = .nx ⟨[some (TP row), some pp, some (TP c), some (RsD rs), o, x', y', t'], []⟩) ∧
    (∀ k, lkF c rs j ps = some k → ∃ s, fForL (bTup 2 (bCons (bName 5) (bCons (bName 6) bNil))) lkB ((ps.zipIdx j).map fun q => D.tup [.int (q.2 : Nat), pt q.1]) ⟨[some (TP row), some pp, some (TP c), some (RsD rs), o, x, y, t], []⟩ = .ex ⟨"BadPaper", some (.int ((k : Int) + 1))⟩ s)
  | [], j, x, y, t => ⟨fun _ => ⟨x, y, t, by simp⟩, fun k h => by cases h⟩
  | p :: ps, j, x, y, t => by
    have b := lk_body (row := row) (pp := pp) (rs := rs) (o := o) (j := j) (p := p) (t := t) hn
    have gt : bTup 2 (bCons (bName 5) (bCons (bName 6) bNil)) (.tup [.int (j : Nat), pt p]) ⟨[some (TP row), some pp, some (TP c), some (RsD rs), o, x, y, t], []⟩ = some (sL row c pp rs o j p t) := rfl
    unfold lkF
    rw [List.zipIdx_cons, List.map_cons]
    cases h : lk c rs j p with
    | true =>
      obtain ⟨t', e⟩ := b.1 h
      have ih := lk_loop (row := row) (pp := pp) (rs := rs) (o := o) hn ps (j + 1) (some (.int j)) (some (pt p)) t'
      refine ⟨fun z => ?_, fun k z => ?_⟩
      · rw [if_pos rfl] at z
        obtain ⟨x', y', t'', q⟩ := ih.1 z
        exact ⟨x', y', t'', (for_go gt e).trans q⟩
      · rw [if_pos rfl] at z
        obtain ⟨s, q⟩ := ih.2 k z
        exact ⟨s, (for_go gt e).trans q⟩
    | false =>
      obtain ⟨s, e⟩ := b.2 h
      refine ⟨fun z => by simp at z, fun k z => ?_⟩
      simp at z
      subst z
      exact ⟨s, for_ex gt e⟩
def lookP (row c : List Pt) (rs : List (List Int)) : Option Nat := if (isH c && !(c.any fun p => !decide (p ∈ row))) = true then (match lkF c rs 0 row with
    | some k => some (k + 1)
    | none => if rs.length = row.length then none else some (row.length + 1)) else some 0
theorem lp_any {row c : List Pt} {pp a b e f o : Option D} : fAny (fIt asTup (fVar 2)) (bName 4) fTrue (fOp (gInA true) (fVar 4) (fVar 0)) [4] ⟨[some (TP row), pp, some (TP c), a, o, b, e, f], []⟩ = .ok (.bl (c.any fun p => !decide (p ∈ row))) [] := by
  refine fAny_enc (enc := pt) c (by simp) fun p hp => ?_
  have i := inA_pts (M := []) (p := p) (l := row) (neg := true)
  rw [Bool.true_bne] at i
  refine op_of (M1 := []) (d := pt p) (e := TP row) (by simp [wipeD]) (by simp [wipeD]) i
theorem x_look {row c : List Pt} {rs : List (List Int)} (hl : c.length ≤ 400) (hn : NrL c) : m_look_paper [TP row, .tup [TP c, RsD rs]] = (match lookP row c rs with
    | none => .ok .non
    | some k => .ex ⟨"BadPaper", some (.int (k : Int))⟩) := by
  unfold m_look_paper
  refine (aut_at rfl).trans ?_
  unfold g_look_paper
  rw [seq_nx (s1 := ⟨[some (TP row), some (.tup [TP c, RsD rs]), some (TP c), some (RsD rs), none, none, none, none], []⟩) (by simp [init0, bTup, bCons, bNil])]
  have c1 : fNot (fTst (fCall m_is_hull (fCons (fVar 2) fNil))) ⟨[some (TP row), some (.tup [TP c, RsD rs]), some (TP c), some (RsD rs), none, none, none, none], []⟩ = .ok (!isH c) [] := by
    simp [call_s, x_is_hull hl hn]
  have c2 := tst_of (lp_any (row := row) (c := c) (pp := some (.tup [TP c, RsD rs])) (a := some (RsD rs)) (b := none) (e := none) (f := none) (o := none))
  unfold lookP
  cases hh : isH c with
  | false =>
    rw [hh] at c1
    refine (congrArg RS.pu (seq_ex (e := ⟨"BadPaper", some (.int 0)⟩) (s1 := ⟨[some (TP row), some (.tup [TP c, RsD rs]), some (TP c), some (RsD rs), none, none, none, none], []⟩) ((ifS_t (or_t c1)).trans rfl))).trans ?_
    simp
  | true =>
    rw [hh] at c1
    cases hi : (c.any fun p => !decide (p ∈ row)) with
    | true =>
      rw [hi] at c2
      refine (congrArg RS.pu (seq_ex (e := ⟨"BadPaper", some (.int 0)⟩) (s1 := ⟨[some (TP row), some (.tup [TP c, RsD rs]), some (TP c), some (RsD rs), none, none, none, none], []⟩) ((ifS_t ((or_f c1).trans c2)).trans rfl))).trans ?_
      simp
    | false =>
      rw [hi] at c2
      refine (congrArg RS.pu (seq_nx (s1 := ⟨[some (TP row), some (.tup [TP c, RsD rs]), some (TP c), some (RsD rs), none, none, none, none], []⟩) ((ifS_f ((or_f c1).trans c2)).trans rfl))).trans ?_
      have lp := lk_loop (row := row) (pp := .tup [TP c, RsD rs]) (rs := rs) (o := none) hn row 0 none none none
      have en : asEnum [TP row] = some ((row.zipIdx 0).map fun q => D.tup [.int (q.2 : Nat), pt q.1]) := by
        show some (enumD (row.map pt)) = _
        unfold enumD
        rw [List.zipIdx_map, List.map_map]
        rfl
      have fr : ∀ s, fFor (fIts asEnum (fCons (fVar 0) fNil)) (bTup 2 (bCons (bName 5) (bCons (bName 6) bNil))) lkB s = fFor (fIts asEnum (fCons (fVar 0) fNil)) (bTup 2 (bCons (bName 5) (bCons (bName 6) bNil))) lkB s := fun _ => rfl
      cases hk : lkF c rs 0 row with
      | some k =>
        obtain ⟨s, e⟩ := lp.2 k hk
        rw [seq_ex (e := ⟨"BadPaper", some (.int ((k : Int) + 1))⟩) (s1 := s) (by
          rw [fFor_s, fIts_s]
          simp only [fCons_s, fVar_s, ce0, bind_ok, fNil_s, en, opt_some, toS_ok]
          exact e)]
        obtain ⟨ρ, M⟩ := s
        simp
      | none =>
        obtain ⟨x', y', t', e⟩ := lp.1 hk
        rw [seq_nx (s1 := ⟨[some (TP row), some (.tup [TP c, RsD rs]), some (TP c), some (RsD rs), none, x', y', t'], []⟩) (by
          rw [fFor_s, fIts_s]
          simp only [fCons_s, fVar_s, ce0, bind_ok, fNil_s, en, opt_some, toS_ok]
          exact e)]
        by_cases hlen : rs.length = row.length
        · simp [hlen]
        · have : ¬ (rs.length : Int) = (row.length : Int) := by omega
          simp [hlen, this]
/-! ### layers -/
def rest (l h : List Pt) : List Pt := l.filter fun p => !decide (p ∈ h)
def lay : Nat → List Pt → List (List Pt)
  | 0, _ => []
  | n + 1, l => if l = [] then [] else hullL l :: lay n (rest l (hullL l))
theorem srt_id {l : List Pt} (h : Rise l) : srt l = l := rise_eq (srt_rise l) h fun p => srt_mem
theorem rise_filter {l : List Pt} {f : Pt → Bool} (h : Rise l) : Rise (l.filter f) := h.filter f
abbrev lyT : Sx → R Bool := fTst (fOp gNe (fVar 1) (fLst fNil))
abbrev lyB : Sx → RS := fSeq (fAsg (fCall m_hull (fCons (fCB gTupOf (fCons (fVar 1) fNil)) fNil)) (bName 4)) (fSeq (fDrop (fMt gAppend (fVar 2) (fCons (fVar 4) fNil))) (fAsg (fFz (fLc (fIt asLst (fVar 1)) (bName 3) (fTst (fOp (gInA true) (fVar 3) (fVar 4))) (fVar 3) [3])) (bName 1)))
def TPs (r : List (List Pt)) : List D := r.map TP
theorem plain_tps (r : List (List Pt)) : plain (TPs r) = true := plain_map (fun a k e => by cases e) _
theorem hullL_sub {l : List Pt} (h : Rise l) (h0 : l ≠ []) : (∀ p ∈ hullL l, p ∈ l) ∧ hullL l ≠ [] := by
  by_cases f : Geo.Flat l
  · rw [Geo.hullL_flat h f]
    have hl : 0 < l.length := List.length_pos_iff.mpr h0
    refine ⟨fun p hp => ?_, fun e => ?_⟩
    · rcases List.mem_append.mp hp with z | z
      · exact List.mem_of_mem_take z
      · split at z
        · simp at z; rw [z]; exact g_mem (by omega)
        · cases z
    · match l, h0 with
      | a :: l, _ => simp at e
  · have H := Geo.hullL_hull h f
    exact ⟨H.sub, fun e => by have := H.n3; rw [e] at this; simp at this⟩
theorem w_lay {row : D} : ∀ (n fu : Nat) (l : List Pt) (acc : List (List Pt)) (x y : Option D), l.length ≤ n → n < fu → l.length ≤ 400 → Rise l → NrL l → acc.length + l.length < 1000 →
    ∃ x' y', fWhile lyT lyB fu ⟨[some row, some (LsP l), some (.loc 1), x, y], [dd, TPs acc]⟩ = .nx ⟨[some row, some (LsP []), some (.loc 1), x', y'], [dd, TPs (acc ++ lay n l)]⟩
  | n, 0, l, acc, x, y, _, hf, _, _, _, _ => by omega
  | n, fu + 1, l, acc, x, y, hl, hf, h4, hr, hn, ha => by
    by_cases e : l = []
    · subst e
      refine ⟨x, y, ?_⟩
      have : lay n [] = [] := by cases n <;> simp [lay]
      rw [this, List.append_nil]
      refine while_end (s := ⟨[some row, some (LsP []), some (.loc 1), x, y], [dd, TPs acc]⟩) (M := [dd, TPs acc]) ?_
      refine tst_of (op_of (M1 := [dd, TPs acc]) (d := .lst []) (e := .lst []) rfl rfl ?_)
      exact gNe_self (by decide)
    · match n, hl with
      | 0, hl => exact (e (List.length_eq_zero_iff.mp (by omega))).elim
      | n + 1, hl =>
        obtain ⟨hs, h0⟩ := hullL_sub hr e
        have lp : 0 < l.length := List.length_pos_iff.mpr e
        have hH := x_hull h4 hn
        rw [srt_id hr] at hH
        have cd : lyT ⟨[some row, some (LsP l), some (.loc 1), x, y], [dd, TPs acc]⟩ = .ok true [dd, TPs acc] := by
          refine tst_of (op_of (M1 := [dd, TPs acc]) (d := LsP l) (e := .lst []) rfl rfl ?_)
          exact gNe_ne (by unfold D.cmp; exact pts_cmp l) (by decide) (by
            intro z
            injection z with z
            exact e (List.map_eq_nil_iff.mp z))
        have flen : (rest l (hullL l)).length < l.length := by
          obtain ⟨p, ps, hp⟩ : ∃ p ps, hullL l = p :: ps := by
            cases q : hullL l with
            | nil => exact (h0 q).elim
            | cons p ps => exact ⟨p, ps, rfl⟩
          refine List.length_filter_lt_length_iff_exists.mpr ⟨p, hs p (by rw [hp]; simp), by rw [hp]; simp⟩
        have hsub : ∀ q ∈ rest l (hullL l), q ∈ l := fun q hq => (List.mem_filter.mp hq).1
        obtain ⟨x', y', ih⟩ := w_lay (row := row) (dd := dd) n fu (rest l (hullL l)) (acc ++ [hullL l]) x (some (TP (hullL l))) (by omega) (by omega) (by omega) (rise_filter (f := fun p => !decide (p ∈ hullL l)) hr) (fun q hq => hn q (hsub q hq)) (by simp; omega)
        refine ⟨x', y', ?_⟩
        have el : lay (n + 1) l = hullL l :: lay n (rest l (hullL l)) := by rw [lay, if_neg e]
        rw [el, show acc ++ hullL l :: lay n (rest l (hullL l)) = acc ++ [hullL l] ++ lay n (rest l (hullL l)) by simp, ← ih]
        refine while_go cd ?_
        generalize hullL l = h at *
        have b1 : fAsg (fCall m_hull (fCons (fCB gTupOf (fCons (fVar 1) fNil)) fNil)) (bName 4) ⟨[some row, some (LsP l), some (.loc 1), x, y], [dd, TPs acc]⟩ = .nx ⟨[some row, some (LsP l), some (.loc 1), x, some (TP h)], [dd, TPs acc]⟩ := by
          simp [call_s, hH]
        refine (seq_nx b1).trans ?_
        have b2 : fDrop (fMt gAppend (fVar 2) (fCons (fVar 4) fNil)) ⟨[some row, some (LsP l), some (.loc 1), x, some (TP h)], [dd, TPs acc]⟩ = .nx ⟨[some row, some (LsP l), some (.loc 1), x, some (TP h)], [dd, TPs (acc ++ [h])]⟩ := by
          rw [fDrop_s, mt_append (n := 1) (l := TPs acc) (d := TP h) (M := [dd, TPs acc]) rfl rfl (plain_tps _) rfl rfl (by unfold TPs; simp; omega)]
          unfold TPs
          rw [List.map_append]
          rfl
        refine (seq_nx b2).trans ?_
        have b3 := fLc_flt (enc := pt) (i := 3) (t := fTst (fOp (gInA true) (fVar 3) (fVar 4))) (e := fVar 3) (vs := [3]) (fi := fIt asLst (fVar 1)) (s := ⟨[some row, some (LsP l), some (.loc 1), x, some (TP h)], [dd, TPs (acc ++ [h])]⟩) (M := [dd, TPs (acc ++ [h])]) (F := pt) (pd := fun p => !decide (p ∈ h)) l (by simp) (by omega) (fun p hp => by
          have i := inA_pts (M := [dd, TPs (acc ++ [h])]) (p := p) (l := h) (neg := true)
          rw [Bool.true_bne] at i
          refine tst_of (op_of (M1 := [dd, TPs (acc ++ [h])]) (d := pt p) (e := TP h) (by simp [wipeD]) (by simp [wipeD]) i)) (fun p hp _ => by simp [wipeD])
        rw [fAsg_s, fFz_s, b3]
        rfl
theorem x_layers {row : List Pt} (hl : row.length ≤ 400) (hn : NrL row) : m_layers [TP row] = .ok (.tup (TPs (lay (srt row).length (srt row)))) := by
  have ls := srt_len row
  have ns := srt_sub hn
  have rs := srt_rise row
  have sd := sorted_dict (i := 3) (f := fIt asTup (fVar 0)) (s := ⟨init0 N_layers [TP row], []⟩) (ps := row) (M := []) (by simp [init0]) (by simp [init0]) (by omega)
  unfold m_layers
  refine (autF_at rfl).trans ?_
  have fu := fuel_ge [TP row]
  generalize fuelOf [TP row] = fuel at *
  unfold g_layers
  have s1 : fPar 1 2 (fCons (fCB gSortedT (fCons (fDc (fIt asTup (fVar 0)) (bName 3) fTrue (fVar 3) (fC (.bl true)) [3]) fNil)) (fCons (fOwnE (fNew fNil)) fNil)) ⟨init0 N_layers [TP row], []⟩ = .nx ⟨[some (TP row), some (LsP (srt row)), some (.loc 1), none, none], [.tag .dic :: (ddG [] row).map entT, TPs []]⟩ := by
    rw [fPar_s, fCons_s, sd]
    rfl
  rw [seq_nx s1]
  generalize srt row = l at *
  obtain ⟨x', y', e⟩ := w_lay (row := TP row) (dd := .tag .dic :: (ddG [] row).map entT) l.length fuel l [] none none (Nat.le_refl _) (by omega) (by omega) rs ns (by simp; omega)
  rw [seq_nx e, List.nil_append]
  generalize lay l.length l = r at *
  have g1 : ∀ d, gTupOf [d, TPs r] [.loc 1] = some (.tup (TPs r)) := fun d => by
    unfold gTupOf seqOf
    dsimp only
    rw [lat_at (M := [d, TPs r]) (n := 1) rfl (plain_tps r)]
    rfl
  have z : fzs [.tag .dic :: (ddG [] row).map entT, TPs r] 0 (TPs r) = some (TPs r) := fzs_map (fun b => by simp) r
  simp [g1, z]
end PG

namespace PG
open PySem PySem.Spec L2 DL
open PyProof.Rows hiding St
open Geo (g g_at g_mem mem_g tn chn pops hullL halves Rise lt val HullF)
/-! ### the laws' points -/
theorem roll_ok {a b c many : Int} (hm : 0 < many) (hm2 : many < 1073741824) : ∃ r x y z, m__law_roll [.loc 0, .int many] [Tri a b c] = .ok (.int r) [Tri x y z] ∧ 0 ≤ r ∧ r < many := DL.roll_ok hm hm2
theorem point_ok {a b c far : Int} (h1 : 0 ≤ far) (h2 : far < 500000000) : ∃ p x y z, m__law_point [.loc 0, .int far] [Tri a b c] = .ok (pt p) [Tri x y z] ∧ -far ≤ p.1 ∧ p.1 ≤ far ∧ -far ≤ p.2 ∧ p.2 ≤ far := by
  obtain ⟨p, q, x, y, z, e, h⟩ := DL.point_ok (a := a) (b := b) (c := c) h1 h2
  exact ⟨(p, q), x, y, z, e, h⟩
/-- a new list whose elements are drawn -/
theorem lc_draw {β : Type} {enc : β → D} {i n : Nat} {e : Sx → R D} {ρ : List (Option D)} {Pp : Pt → Prop} (h : ∀ b M a1 a2 a3, M[n]? = some (Tri a1 a2 a3) → ∃ p x y z, e ⟨ρ.set i (some (enc b)), M⟩ = .ok (pt p) (M.set n (Tri x y z)) ∧ Pp p) :
    ∀ (l : List β) (M : Cells) (a1 a2 a3 : Int), M[n]? = some (Tri a1 a2 a3) → ∃ (ps : List Pt) (x y z : Int), fLcGo (bName i) fTrue e ρ (l.map enc) M = .ok (ps.map pt) (M.set n (Tri x y z)) ∧ ps.length = l.length ∧ ∀ p ∈ ps, Pp p
  | [], M, a1, a2, a3, hM => ⟨[], a1, a2, a3, by
      have : M.set n (Tri a1 a2 a3) = M := by
        apply List.ext_getElem?
        intro j
        rw [List.getElem?_set]
        split
        · rename_i q; subst q
          split
          · exact hM.symm
          · rename_i q; rw [List.getElem?_eq_none (by omega)]
        · rfl
      rw [this]; rfl, rfl, fun _ z => by cases z⟩
  | b :: l, M, a1, a2, a3, hM => by
    obtain ⟨p, x, y, z, q1, q2⟩ := h b M a1 a2 a3 hM
    have hlt : n < M.length := (List.getElem?_eq_some_iff.mp hM).1
    obtain ⟨ps, x', y', z', r1, r2, r3⟩ := lc_draw h l (M.set n (Tri x y z)) x y z (by rw [List.getElem?_set_self hlt])
    refine ⟨p :: ps, x', y', z', ?_, by simp [r2], fun q hq => ?_⟩
    · rw [List.map_cons, fLcGo]
      simp only [bName_s, fTrue, if_true, q1]
      have r1' : fLcGo (bName i) fTrue e ρ (l.map enc) (M.set n (Tri x y z)) = .ok (ps.map pt) ((M.set n (Tri x y z)).set n (Tri x' y' z')) := r1
      rw [r1', List.set_set]
      rfl
    · rcases List.mem_cons.mp hq with e | e
      · rw [e]; exact q2
      · exact r3 q e
abbrev sPt (n : Nat) (most far : Int) (x : Option D) (M : Cells) : Sx := ⟨[some (.loc n), some (.int most), some (.int far), x], M⟩
theorem pts_fi {most far : Int} {M M1 : Cells} {n : Nat} (hn : n ≤ 1000) (h : fCallM m__law_roll (fCons (fVar 0) (fCons (fVar 1) fNil)) (sPt 0 most far none M) = .ok (.int n) M1) : fIts asRg1 (fCons (fOp nAdd (fC (.int 1)) (fCallM m__law_roll (fCons (fVar 0) (fCons (fVar 1) fNil)))) fNil) (sPt 0 most far none M) = .ok ((List.range (n + 1)).map fun (k : Nat) => D.int (k : Int)) M1 := by
  have rg : asRg1 [.int (1 + (n : Int))] = some ((List.range (n + 1)).map fun (k : Nat) => D.int (k : Int)) := by
    rw [show (1 : Int) + (n : Int) = ((n + 1 : Nat) : Int) by omega]
    exact asRg1_n (by omega)
  have e : (fOp nAdd (fC (.int 1)) (fCallM m__law_roll (fCons (fVar 0) (fCons (fVar 1) fNil)))) (sPt 0 most far none M) = .ok (.int (1 + n)) M1 := op_of (d := .int 1) (e := .int n) (z := .int (1 + n)) (M1 := M) rfl h rfl
  rw [fIts_s, fCons_s, e]
  simp only [bind_ok, fNil_s, rg, opt_some]
theorem pts_e {most far : Int} (h1 : 0 ≤ far) (h2 : far < 500000) (k : Nat) (M : Cells) (a1 a2 a3 : Int) (hM : M[0]? = some (Tri a1 a2 a3)) : ∃ p x y z, fCallM m__law_point (fCons (fVar 0) (fCons (fVar 2) fNil)) ⟨(wipeD (sPt 0 most far none M).ρ [3]).set 3 (some (.int k)), M⟩ = .ok (pt p) (M.set 0 (Tri x y z)) ∧ (-far ≤ p.1 ∧ p.1 ≤ far ∧ -far ≤ p.2 ∧ p.2 ≤ far) := by
  obtain ⟨p, x, y, z, e, h⟩ := point_ok (a := a1) (b := a2) (c := a3) h1 (by omega)
  exact ⟨p, x, y, z, callM_at (fM := m__law_point) (n := 0) (M := M) (rest := [.int far]) (by simp [wipeD]) hM rfl rfl rfl rfl e, h⟩
theorem pts_body {most far : Int} {M M1 : Cells} {n : Nat} {ps : List Pt} {M2 : Cells} (hn : n ≤ 1000) (h : fIts asRg1 (fCons (fOp nAdd (fC (.int 1)) (fCallM m__law_roll (fCons (fVar 0) (fCons (fVar 1) fNil)))) fNil) (sPt 0 most far none M) = .ok ((List.range (n + 1)).map fun (k : Nat) => D.int (k : Int)) M1)
    (h2 : fLcGo (bName 3) fTrue (fCallM m__law_point (fCons (fVar 0) (fCons (fVar 2) fNil))) (wipeD (sPt 0 most far none M).ρ [3]) ((List.range (n + 1)).map fun (k : Nat) => D.int (k : Int)) M1 = .ok (ps.map pt) M2) :
    g__law_points (sPt 0 most far none M) = .rt (TP ps) (sPt 0 most far none M2) := by
  unfold g__law_points
  have e : fLc (fIts asRg1 (fCons (fOp nAdd (fC (.int 1)) (fCallM m__law_roll (fCons (fVar 0) (fCons (fVar 1) fNil)))) fNil)) (bName 3) fTrue (fCallM m__law_point (fCons (fVar 0) (fCons (fVar 2) fNil))) [3] (sPt 0 most far none M) = .ok (ps.map pt) M2 := by
    rw [fLc_s, h]
    simp only [bind_ok, List.length_map, List.length_range]
    rw [if_pos (by omega)]
    exact h2
  rw [fRet_s, fCB_s, fCons_s, fFz_s, e]
  simp
theorem points_ok {a b c most far : Int} (h1 : 0 ≤ far) (h2 : far < 500000) (hm : 0 < most) (hm2 : most < 100) : ∃ (ps : List Pt) (x y z : Int), m__law_points [.loc 0, .int most, .int far] [Tri a b c] = .ok (TP ps) [Tri x y z] ∧ 1 ≤ ps.length ∧ ps.length ≤ most ∧ ∀ p ∈ ps, -far ≤ p.1 ∧ p.1 ≤ far ∧ -far ≤ p.2 ∧ p.2 ≤ far := by
  obtain ⟨r, x, y, z, e1, b1, b2⟩ := roll_ok (a := a) (b := b) (c := c) hm (by omega)
  obtain ⟨n, rfl⟩ : ∃ n : Nat, r = n := ⟨r.toNat, by omega⟩
  have c1 := callM_at (fM := m__law_roll) (f := fCons (fVar 0) (fCons (fVar 1) fNil)) (s := sPt 0 most far none [Tri a b c]) (n := 0) (M := [Tri a b c]) (rest := [.int most]) (by simp) rfl rfl rfl rfl rfl e1
  obtain ⟨ps, x', y', z', q1, q2, q3⟩ := lc_draw (n := 0) (pts_e (most := most) h1 h2) (List.range (n + 1)) [Tri x y z] x y z rfl
  have bd := pts_body (most := most) (far := far) (by omega) (pts_fi (by omega) c1) q1
  refine ⟨ps, x', y', z', ?_, by rw [q2]; simp, by rw [q2]; simp; omega, q3⟩
  unfold m__law_points
  refine (autM_at rfl).trans ?_
  refine (congrArg (RS.out 1) bd).trans ?_
  simp [RS.out, cutM, lfs_pts]
/-! ### rows joined -/
theorem f_flat {r : Option D} : ∀ (ls : List (List D)) (acc : List D) (x : Option D), acc.length + ls.flatten.length ≤ 100000 →
    ∃ y, fForL (bName 2) (fAsg (fOp gCatL (fVar 1) (fVar 2)) (bName 1)) (ls.map D.lst) ⟨[r, some (.lst acc), x], []⟩ = .nx ⟨[r, some (.lst (acc ++ ls.flatten)), y], []⟩
  | [], acc, x, _ => ⟨x, by simp⟩
  | l :: ls, acc, x, h => by
    simp only [List.flatten_cons, List.length_append] at h
    obtain ⟨y, e⟩ := f_flat (r := r) ls (acc ++ l) (some (.lst l)) (by rw [List.length_append]; omega)
    refine ⟨y, ?_⟩
    rw [List.map_cons, List.flatten_cons, ← List.append_assoc, ← e]
    refine for_go (s1 := ⟨[r, some (.lst acc), some (.lst l)], []⟩) rfl ?_
    have : gCatL [] (.lst acc) (.lst l) = some (.lst (acc ++ l)) := by
      unfold gCatL lstOf
      dsimp only
      rw [if_pos (by omega)]
    simp [this]
theorem x_flat {ls : List (List D)} (h : ls.flatten.length ≤ 100000) (hf : ∀ M m, fzs M m ls.flatten = some ls.flatten) : m__law_flat [.lst (ls.map D.lst)] = .ok (.lst ls.flatten) := by
  obtain ⟨y, e⟩ := f_flat (r := some (.lst (ls.map D.lst))) ls [] none (by simpa using h)
  unfold m__law_flat
  refine (aut_at rfl).trans ?_
  unfold g__law_flat
  rw [seq_nx (s1 := ⟨[some (.lst (ls.map D.lst)), some (.lst []), none], []⟩) (by simp [init0])]
  rw [seq_nx (s1 := ⟨[some (.lst (ls.map D.lst)), some (.lst ls.flatten), y], []⟩) (by
    rw [fFor_s, fIt_s]
    simp only [fVar_s, ce0, bind_ok, asLst_s, opt_some, toS_ok]
    simpa using e)]
  generalize ls.flatten = f at *
  simp [hf]
end PG

namespace PG
open PySem PySem.Spec L2 DL
open PyProof.Rows hiding St
open Geo (g g_at g_mem mem_g tn chn pops hullL halves Rise lt val HullF lt_LP LP cr sb Flat)
theorem hu_isH {Q c : List Pt} (H : HullF Q c) : isH c = true := by
  have n3 := H.n3
  have e : pmin (g c 0) c.tail = g c 0 := by
    refine pmin_first fun q hq => ?_
    obtain ⟨i, hi, e⟩ := mem_g hq
    have : g c.tail i = g c (i + 1) := by
      cases c with
      | nil => simp at n3
      | cons a c => rfl
    rw [this] at e
    rw [← e]
    exact H.first (i + 1) (by omega) (by simp at hi; omega)
  rw [isH_eq, decide_eq_true n3, decide_eq_true e]
  simp only [Bool.true_and, Bool.and_eq_true]
  unfold ihA ihB
  rw [List.all_eq_true, List.all_eq_true]
  refine ⟨fun k hk => decide_eq_true (H.turn k (List.mem_range.mp hk)), fun k hk => decide_eq_true ?_⟩
  rw [List.mem_range'_1] at hk
  exact H.fan k (by omega) (by omega)
theorem isH_not {c : List Pt} {q : Pt} (hq : q ∈ c.tail) (h : lt q (g c 0)) : isH c = false := by
  have : ¬ pmin (g c 0) c.tail = g c 0 := fun e => (pmin_le c.tail (g c 0)).2 q hq (by rw [e]; exact h)
  rw [isH_eq, decide_eq_false this]
  simp
theorem isH_len {c : List Pt} (h : c.length < 3) : isH c = false := by
  rw [isH_eq, decide_eq_false (by omega)]; rfl
theorem isH_fan {c : List Pt} (h : isH c = true) {k : Nat} (h1 : 1 ≤ k) (h2 : k + 1 < c.length) : 0 < tn (g c 0) (g c k) (g c (k + 1)) := by
  rw [isH_eq] at h
  simp only [Bool.and_eq_true] at h
  have := h.2.2.2
  unfold ihB at this
  rw [List.all_eq_true] at this
  exact of_decide_eq_true (this k (by rw [List.mem_range'_1]; omega))
theorem hu_rev_not {Q c : List Pt} (H : HullF Q c) : PG.isH c.reverse = false := by
  have n3 := H.n3
  refine isH_not (q := g c 0) ?_ ?_
  · have : c.reverse.tail = c.dropLast.reverse := by rw [List.tail_reverse]
    rw [this, List.mem_reverse]
    have := Geo.g_dropLast (c := c) (i := 0) (by omega)
    rw [← this]
    exact g_mem (by simp; omega)
  · rw [Geo.g_rev (by omega)]
    exact H.first _ (by omega) (by omega)
theorem hu_rot_not {Q c : List Pt} (H : HullF Q c) : PG.isH (c.drop 1 ++ c.take 1) = false := by
  have n3 := H.n3
  match c, H, n3 with
  | a :: b :: r, H, n3 =>
    refine isH_not (q := a) (by simp) ?_
    have := H.first 1 (by omega) (by simp)
    exact this
/-! papers -/
theorem lkF_none {c : List Pt} {rs : List (List Int)} : ∀ (ps : List Pt) (j : Nat), (∀ i, i < ps.length → lk c rs (j + i) (g ps i) = true) → lkF c rs j ps = none
  | [], _, _ => rfl
  | p :: ps, j, h => by
    have h0 : lk c rs j p = true := h 0 (by simp)
    rw [lkF, if_pos h0]
    refine lkF_none ps (j + 1) fun i hi => ?_
    have := h (i + 1) (by simpa using hi)
    rw [show j + (i + 1) = j + 1 + i by omega] at this
    exact this
theorem lkF_some {c : List Pt} {rs : List (List Int)} : ∀ (ps : List Pt) (j k : Nat), k < ps.length → (∀ i, i < k → lk c rs (j + i) (g ps i) = true) → lk c rs (j + k) (g ps k) = false → lkF c rs j ps = some (j + k)
  | [], _, _, hk, _, _ => by simp at hk
  | p :: ps, j, 0, _, _, h => by
    have h0 : lk c rs j p = false := h
    rw [lkF, h0]; simp
  | p :: ps, j, k + 1, hk, h, hf => by
    have h0 : lk c rs j p = true := h 0 (by omega)
    rw [lkF, if_pos h0]
    have := lkF_some (c := c) (rs := rs) ps (j + 1) k (by simpa using hk) (fun i hi => by
      have := h (i + 1) (by omega)
      rw [show j + (i + 1) = j + 1 + i by omega] at this
      exact this) (by
      rw [show j + (k + 1) = j + 1 + k by omega] at hf
      exact hf)
    rw [this]; congr 1; omega
theorem lkF_bad {c : List Pt} {rs : List (List Int)} : ∀ (ps : List Pt) (j k : Nat), k < ps.length → lk c rs (j + k) (g ps k) = false → lkF c rs j ps ≠ none
  | [], _, _, hk, _ => by simp at hk
  | p :: ps, j, 0, _, h => by
    have h0 : lk c rs j p = false := h
    rw [lkF, h0]; simp
  | p :: ps, j, k + 1, hk, hf => by
    rw [lkF]
    split
    · refine lkF_bad ps (j + 1) k (by simpa using hk) ?_
      rw [show j + (k + 1) = j + 1 + k by omega] at hf
      exact hf
    · simp
section
variable {row c : List Pt} (H : HullF (srt row) c)
include H
theorem hu_fk_ok {p : Pt} (hp : p ∈ row) : ((List.range' 1 (c.length - 1 - 1)).find? (tri c p)).isSome = true ∧ 1 ≤ fk c p ∧ fk c p + 1 < c.length ∧ tri c p (fk c p) = true := by
  obtain ⟨j, h1, h2, a, b, d⟩ := H.some_piece (p := p) fun k hk => H.sup k hk p (srt_mem.mpr hp)
  have is : ((List.range' 1 (c.length - 1 - 1)).find? (tri c p)).isSome = true := by
    rw [List.find?_isSome]
    refine ⟨j, by rw [List.mem_range'_1]; omega, ?_⟩
    unfold tri
    simp [a, b, d]
  obtain ⟨k, hk⟩ := Option.isSome_iff_exists.mp is
  have e : fk c p = k := by unfold fk; rw [hk]; rfl
  have m := List.mem_of_find?_eq_some hk
  rw [List.mem_range'_1] at m
  refine ⟨is, by omega, by omega, by rw [e]; exact List.find?_some hk⟩
theorem hu_any_sub : (c.any fun p => !decide (p ∈ row)) = false := by
  rw [List.any_eq_false]
  intro p hp
  have := srt_mem.mp (H.sub p hp)
  simp [this]
theorem hu_lk_ok {rs : List (List Int)} {j : Nat} {p : Pt} (hp : p ∈ row) (h : rs[j]? = some (rowI (fk c p))) : lk c rs j p = true := by
  obtain ⟨_, h1, h2, h3⟩ := hu_fk_ok H hp
  unfold lk
  rw [h]
  unfold rowI
  dsimp only
  have : ((fk c p : Int) + 1).toNat = fk c p + 1 := by omega
  rw [this]
  unfold tri at h3
  unfold inT
  rw [Int.toNat_natCast]
  show (_ && (decide (0 ≤ tn (g c 0) (g c (fk c p)) p) && (decide (0 ≤ tn (g c (fk c p)) (g c (fk c p + 1)) p) && decide (0 ≤ tn (g c (fk c p + 1)) (g c 0) p)))) = true
  rw [h3, Bool.and_true]
  simp
  omega
theorem hu_rows_at {i : Nat} (h : i < row.length) : (row.map fun p => rowI (fk c p))[i]? = some (rowI (fk c (g row i))) := by
  rw [List.getElem?_map, g_at h]; rfl
theorem hu_look_full : lookP row c (row.map fun p => rowI (fk c p)) = none := by
  unfold lookP
  rw [hu_isH H, hu_any_sub H, lkF_none row 0 fun i hi => by rw [Nat.zero_add]; exact hu_lk_ok H (g_mem hi) (hu_rows_at H hi)]
  simp
theorem hu_look_more : lookP row c ((row.map fun p => rowI (fk c p)) ++ (row.map fun p => rowI (fk c p)).take 1) = some (row.length + 1) := by
  have r0 : row ≠ [] := by
    intro e
    have := srt_mem.mp (H.sub _ (g_mem (i := 0) (by have := H.n3; omega)))
    rw [e] at this; cases this
  have rp : 0 < row.length := List.length_pos_iff.mpr r0
  unfold lookP
  rw [hu_isH H, hu_any_sub H, lkF_none row 0 fun i hi => by
    rw [Nat.zero_add]
    refine hu_lk_ok H (g_mem hi) ?_
    rw [List.getElem?_append_left (by simpa using hi)]
    exact hu_rows_at H hi]
  simp
  omega
theorem hu_look_take {k : Nat} (hk : k < row.length) : lookP row c ((row.map fun p => rowI (fk c p)).take k) = some (k + 1) := by
  unfold lookP
  rw [hu_isH H, hu_any_sub H, lkF_some (c := c) (rs := (row.map fun p => rowI (fk c p)).take k) row 0 k hk (fun i hi => by
    rw [Nat.zero_add]
    refine hu_lk_ok H (g_mem (by omega)) ?_
    rw [List.getElem?_take, if_pos hi]
    exact hu_rows_at H (by omega)) (by
    rw [Nat.zero_add]
    unfold lk
    rw [List.getElem?_eq_none (by simp; omega)])]
  simp
theorem hu_look_short {k : Nat} (hk : k < row.length) : lookP row c ((row.map fun p => rowI (fk c p)).take k ++ [[0, 1]] ++ (row.map fun p => rowI (fk c p)).drop (k + 1)) = some (k + 1) := by
  have lt : ((row.map fun p => rowI (fk c p)).take k).length = k := by simp; omega
  unfold lookP
  rw [hu_isH H, hu_any_sub H, lkF_some (c := c) (rs := (row.map fun p => rowI (fk c p)).take k ++ [[0, 1]] ++ (row.map fun p => rowI (fk c p)).drop (k + 1)) row 0 k hk (fun i hi => by
    rw [Nat.zero_add]
    refine hu_lk_ok H (g_mem (by omega)) ?_
    rw [List.append_assoc, List.getElem?_append_left (by omega), List.getElem?_take, if_pos hi]
    exact hu_rows_at H (by omega)) (by
    rw [Nat.zero_add]
    unfold lk
    rw [List.append_assoc, List.getElem?_append_right (by omega), lt, Nat.sub_self]
    rfl)]
  simp
theorem hu_look_rev (rs : List (List Int)) : lookP row c.reverse rs = some 0 := by
  unfold lookP
  rw [hu_rev_not H]; simp
theorem hu_look_tail : lookP row (c.drop 1) (row.map fun p => rowI (fk c p)) ≠ none := by
  unfold lookP
  have n3 := H.n3
  cases hh : PG.isH (c.drop 1) with
  | false => simp
  | true =>
    cases ha : ((c.drop 1).any fun p => !decide (p ∈ row)) with
    | true => simp
    | false =>
      have c0 : g c 0 ∈ row := srt_mem.mp (H.sub _ (g_mem (by omega)))
      obtain ⟨i, hi, e⟩ := mem_g c0
      have bad : lk (c.drop 1) (row.map fun p => rowI (fk c p)) (0 + i) (g row i) = false := by
        rw [Nat.zero_add, e]
        obtain ⟨_, h1, h2, h3⟩ := hu_fk_ok H c0
        unfold lk
        rw [hu_rows_at H hi, e]
        unfold rowI
        dsimp only
        by_cases z : fk c (g c 0) + 1 < (c.drop 1).length
        · have D := isH_fan hh h1 z
          have t : inT (g (c.drop 1) 0) (g (c.drop 1) (fk c (g c 0))) (g (c.drop 1) (fk c (g c 0) + 1)) (g c 0) = false := by
            cases hT : inT (g (c.drop 1) 0) (g (c.drop 1) (fk c (g c 0))) (g (c.drop 1) (fk c (g c 0) + 1)) (g c 0) with
            | false => rfl
            | true =>
              unfold inT at hT
              simp only [Bool.and_eq_true, decide_eq_true_eq] at hT
              have ld : (c.drop 1).length = c.length - 1 := by simp
              refine (Geo.three_out D ?_ ?_ ?_ hT.1 hT.2.1 hT.2.2).elim
              all_goals rw [Geo.g_drop]; exact H.first _ (by omega) (by omega)
          rw [Int.toNat_natCast, show ((fk c (g c 0) : Int) + 1).toNat = fk c (g c 0) + 1 by omega, show (0 : Int).toNat = 0 from rfl, t, Bool.and_false]
        · rw [decide_eq_false, Bool.false_and]
          rintro ⟨_, _, h, _⟩
          omega
      have nb := lkF_bad row 0 i hi bad
      simp only [Bool.not_false, Bool.and_self, if_true]
      cases q : lkF (c.drop 1) (row.map fun p => rowI (fk c p)) 0 row with
      | none => exact (nb q).elim
      | some k => simp
end
end PG

namespace PG
open PySem PySem.Spec L2 DL
open PyProof.Rows hiding St
open Geo (g g_at g_mem mem_g tn chn pops hullL halves Rise lt val HullF lt_LP LP cr sb Flat)
/-! ### sizes -/
def crs (a b : Pt) : Int := a.1 * b.2 - a.2 * b.1
def szs2 (c : List Pt) : Int := ((List.range c.length).map fun k => crs (g c k) (g c ((k + 1) % c.length))).sum
def fan (c : List Pt) : Int := ((List.range' 1 (c.length - 1 - 1)).map fun k => tn (g c 0) (g c k) (g c (k + 1))).sum
theorem fan_sum (f : Nat → Pt) (m : Nat) : ((List.range' 1 m).map fun k => tn (f 0) (f k) (f (k + 1))).sum = ((List.range (m + 1)).map fun k => crs (f k) (f (k + 1))).sum - crs (f 0) (f (m + 1)) := by
  induction m with
  | zero => simp [crs]
  | succ m ih =>
    rw [List.range'_concat, List.map_append, List.sum_append, ih, show List.range (m + 1 + 1) = List.range (m + 1) ++ [m + 1] from List.range_succ, List.map_append, List.sum_append]
    simp only [List.map_cons, List.map_nil, List.sum_cons, List.sum_nil, Nat.one_mul]
    rw [show 1 + m = m + 1 by omega]
    generalize ((List.range (m + 1)).map fun k => crs (f k) (f (k + 1))).sum = s
    clear ih
    generalize f 0 = a
    generalize f (m + 1) = b
    generalize f (m + 1 + 1) = d
    unfold tn crs; grind
theorem size_fan {c : List Pt} (h : 2 ≤ c.length) : szs2 c = fan c := by
  obtain ⟨m, hm⟩ : ∃ m, c.length = m + 2 := ⟨c.length - 2, by omega⟩
  unfold szs2 fan
  rw [hm, show m + 2 - 1 - 1 = m by omega, fan_sum (g c) m, show List.range (m + 2) = List.range (m + 1) ++ [m + 1] from List.range_succ, List.map_append, List.sum_append]
  have e : (List.range (m + 1)).map (fun k => crs (g c k) (g c ((k + 1) % (m + 2)))) = (List.range (m + 1)).map fun k => crs (g c k) (g c (k + 1)) := by
    refine List.map_congr_left fun k hk => ?_
    have := List.mem_range.mp hk
    rw [Nat.mod_eq_of_lt (by omega)]
  rw [e]
  simp only [List.map_cons, List.map_nil, List.sum_cons, List.sum_nil]
  rw [show m + 1 + 1 = m + 2 from rfl, Nat.mod_self]
  generalize ((List.range (m + 1)).map fun k => crs (g c k) (g c (k + 1))).sum = s
  generalize g c 0 = a
  generalize g c (m + 1) = b
  unfold crs; grind
abbrev sZ (c : List Pt) : Sx := ⟨[some (TP c), some (.int c.length), none], []⟩
theorem sz_e {c : List Pt} (hn : NrL c) (k : Nat) (hk : k < c.length) : fCall m_cross (fCons (fOp gIx (fVar 0) (fVar 2)) (fCons (fOp gIx (fVar 0) (fOp nMod (fOp nAdd (fVar 2) (fC (.int 1))) (fVar 1))) fNil)) ⟨(wipeD (sZ c).ρ [2]).set 2 (some (.int k)), []⟩ = .ok (.int (crs (g c k) (g c ((k + 1) % c.length)))) [] := by
  have p0 : (0 : Int) < (c.length : Int) := by omega
  have b := hn.g hk
  unfold Nr at b
  have t := x_cross (a := g c k) (b := g c ((k + 1) % c.length)) (by omega) (by omega) (by omega) (by omega)
  simp [wipeD, call_s, nMod_s p0, atI_mod1 (c := c) (k := k) (by omega), atI_g hk, t, crs]
theorem x_size {c : List Pt} (hl : c.length ≤ 400) (hn : NrL c) : m_size [TP c] = .ok (.int (szs2 c)) := by
  have e := fSum_enc (vs := [2]) (List.range c.length) (ih_rg hl) (fun k hk => sz_e hn k (List.mem_range.mp hk))
  unfold m_size
  refine (aut_at rfl).trans ?_
  unfold g_size
  rw [seq_nx (s1 := sZ c) (by simp [init0]), fRet_s, e]
  simp [szs2]
/-! ### each point once -/
def alone (row : List Pt) : List Pt := ((List.range row.length).filter fun k => !decide (g row k ∈ row.take k)).map (g row)
theorem take_mem {row : List Pt} {p : Pt} {k : Nat} : p ∈ row.take k → ∃ i, i < k ∧ i < row.length ∧ g row i = p := by
  intro h
  obtain ⟨i, hi, e⟩ := mem_g h
  simp at hi
  refine ⟨i, by omega, by omega, ?_⟩
  rw [← e]
  unfold Geo.g
  rw [List.getD_eq_getElem?_getD, List.getD_eq_getElem?_getD, List.getElem?_take, if_pos (by omega)]
theorem mem_take {row : List Pt} {i k : Nat} (h : i < k) (h2 : i < row.length) : g row i ∈ row.take k := by
  refine List.mem_of_getElem? (i := i) ?_
  rw [List.getElem?_take, if_pos h, g_at h2]
theorem alone_mem {row : List Pt} {p : Pt} : p ∈ alone row ↔ p ∈ row := by
  constructor
  · intro h
    obtain ⟨k, hk, e⟩ := List.mem_map.mp h
    rw [← e]
    exact g_mem (List.mem_range.mp (List.mem_filter.mp hk).1)
  · intro h
    obtain ⟨i, hi, e⟩ := mem_g h
    have go : ∀ i, i < row.length → ∃ j, j < row.length ∧ g row j = g row i ∧ g row j ∉ row.take j := by
      intro i
      induction i using Nat.strongRecOn with
      | _ i ih =>
        intro hi
        by_cases m : g row i ∈ row.take i
        · obtain ⟨i', h1, h2, h3⟩ := take_mem m
          obtain ⟨j, j1, j2, j3⟩ := ih i' h1 h2
          exact ⟨j, j1, j2.trans h3, j3⟩
        · exact ⟨i, hi, rfl, m⟩
    obtain ⟨j, j1, j2, j3⟩ := go i hi
    refine List.mem_map.mpr ⟨j, List.mem_filter.mpr ⟨List.mem_range.mpr j1, by simpa using j3⟩, j2.trans e⟩
theorem alone_nodup (row : List Pt) : (alone row).Nodup := by
  unfold alone List.Nodup
  rw [List.pairwise_map]
  have := (List.pairwise_lt_range (n := row.length)).filter fun k => !decide (g row k ∈ row.take k)
  refine this.imp_of_mem fun {a b} ha hb hab e => ?_
  have h1 := (List.mem_filter.mp ha).1
  have h2 := (List.mem_filter.mp hb).2
  simp only [Bool.not_eq_true', decide_eq_false_iff_not] at h2
  exact h2 (by rw [← e]; exact mem_take hab (List.mem_range.mp h1))
theorem alone_srt (row : List Pt) : (alone row).mergeSort lePt = srt row :=
  rise_eq (sorted_rise (alone_nodup row)) (srt_rise row) fun p => by rw [List.mem_mergeSort, alone_mem, srt_mem]
theorem alone_len (row : List Pt) : (alone row).length ≤ row.length := by
  unfold alone
  rw [List.length_map]
  exact Nat.le_trans (List.length_filter_le _ _) (by simp)
theorem flat_iff {l m : List Pt} (h : ∀ p, p ∈ l ↔ p ∈ m) : Flat l ↔ Flat m := by
  unfold Flat
  constructor
  · intro f p hp q hq r hr
    exact f p ((h p).mpr hp) q ((h q).mpr hq) r ((h r).mpr hr)
  · intro f p hp q hq r hr
    exact f p ((h p).mp hp) q ((h q).mp hq) r ((h r).mp hr)
/-! ### layers, together -/
theorem hull_apart {Q c : List Pt} (H : HullF Q c) : c.Nodup := by
  have n3 := H.n3
  have up : ∀ i j, 1 ≤ i → i < j → j < c.length → 0 < cr (sb (g c i) (g c 0)) (sb (g c j) (g c 0)) := by
    intro i j
    induction j with
    | zero => intro _ h; omega
    | succ j ih =>
      intro h1 h2 h3
      have f := H.fan j (by omega) h3
      by_cases e : i = j
      · subst e; exact f
      · exact Geo.cr_tr1 (lt_LP.mp (H.first i (by omega) (by omega))) (lt_LP.mp (H.first j (by omega) (by omega))) (lt_LP.mp (H.first (j + 1) (by omega) h3)) (ih h1 (by omega) (by omega)) (Int.le_of_lt f)
  have ne : ∀ i j, i < j → j < c.length → g c i ≠ g c j := by
    intro i j h1 h2 e
    by_cases z : i = 0
    · subst z
      have := H.first j h1 h2
      rw [← e] at this
      exact Geo.lt_irr this
    · have := up i j (by omega) h1 h2
      rw [e] at this
      unfold Geo.cr at this
      have : sb (g c j) (g c 0) = sb (g c j) (g c 0) := rfl
      grind
  unfold List.Nodup
  rw [List.pairwise_iff_getElem]
  intro i j hi hj hij
  have a := g_at hi
  have b := g_at hj
  rw [List.getElem?_eq_getElem hi] at a
  rw [List.getElem?_eq_getElem hj] at b
  rw [Option.some.inj a, Option.some.inj b]
  exact ne i j hij hj
theorem hullL_nodup {l : List Pt} (h : Rise l) : (hullL l).Nodup := by
  by_cases f : Flat l
  · rw [Geo.hullL_flat h f]
    have n1 : l.Nodup := h.imp fun {a b} z e => by subst e; exact Geo.lt_irr z
    match l, h with
    | [], _ => simp
    | [a], _ => simp
    | a :: b :: r, h =>
      have R := (List.pairwise_cons.mp h).1
      have : g (a :: b :: r) ((a :: b :: r).length - 1) ∈ b :: r := by
        have e : g (a :: b :: r) ((a :: b :: r).length - 1) = g (b :: r) ((b :: r).length - 1) := by
          simp only [List.length_cons, Nat.add_sub_cancel]
          rw [show r.length + 1 = r.length + 1 from rfl, Geo.g_cons]
        rw [e]
        exact g_mem (by simp)
      have hne := R _ this
      simp only [List.take_succ_cons, List.take_zero, List.length_cons]
      rw [if_pos (by omega)]
      simp only [List.length_cons] at hne
      simp only [List.singleton_append, List.nodup_cons, List.mem_singleton, List.not_mem_nil, not_false_eq_true, List.nodup_nil, and_true]
      intro e
      rw [← e] at hne
      exact Geo.lt_irr hne
  · exact hull_apart (Geo.hullL_hull h f)
theorem lay_perm : ∀ (n : Nat) (l : List Pt), l.length ≤ n → Rise l → (lay n l).flatten.Perm l
  | 0, l, h, _ => by
    have : l = [] := List.length_eq_zero_iff.mp (by omega)
    subst this
    exact .refl _
  | n + 1, l, h, R => by
    rw [lay]
    split
    · rename_i e; subst e; exact .refl _
    · rename_i e
      obtain ⟨hs, h0⟩ := hullL_sub R e
      have nd := hullL_nodup R
      have flen : (rest l (hullL l)).length < l.length := by
        obtain ⟨p, ps, hp⟩ : ∃ p ps, hullL l = p :: ps := by
          cases q : hullL l with
          | nil => exact (h0 q).elim
          | cons p ps => exact ⟨p, ps, rfl⟩
        exact List.length_filter_lt_length_iff_exists.mpr ⟨p, hs p (by rw [hp]; simp), by rw [hp]; simp⟩
      have ih := lay_perm n (rest l (hullL l)) (by omega) (rise_filter R)
      rw [List.flatten_cons]
      have n1 : l.Nodup := R.imp fun {a b} z e => by subst e; exact Geo.lt_irr z
      refine (ih.append_left _).trans ?_
      refine (List.perm_ext_iff_of_nodup ?_ n1).mpr fun p => ?_
      · rw [List.nodup_append]
        refine ⟨nd, n1.filter _, fun a ha b hb e => ?_⟩
        subst e
        have := (List.mem_filter.mp hb).2
        simp at this
        exact this ha
      · rw [List.mem_append]
        unfold rest
        rw [List.mem_filter]
        constructor
        · rintro (a | a)
          · exact hs p a
          · exact a.1
        · intro hp
          by_cases z : p ∈ hullL l
          · exact .inl z
          · exact .inr ⟨hp, by simpa using z⟩
theorem hullL_len {l : List Pt} (R : Rise l) : (hullL l).length ≤ l.length := by
  by_cases e : l = []
  · subst e; exact Nat.le_refl _
  · have p := (lay_perm (l.length + 1) l (by omega) R).length_eq
    rw [lay, if_neg e, List.flatten_cons, List.length_append] at p
    omega
/-! ### the others' hull -/
theorem less_out {row c : List Pt} (H : HullF (srt row) c) {l : List Pt} (hl : ∀ p, p ∈ l ↔ p ∈ row ∧ p ≠ g c 0) (h3 : 2 < (hullL (srt l)).length) : pl (hullL (srt l)) (g c 0) = -1 := by
  by_cases f : Flat (srt l)
  · rw [Geo.hullL_flat (srt_rise l) f] at h3
    exfalso
    have : ((srt l).take 1).length ≤ 1 := by simp; omega
    rw [List.length_append] at h3
    split at h3 <;> simp at h3 <;> omega
  · have H2 := Geo.hullL_hull (srt_rise l) f
    have m : g (hullL (srt l)) 0 ∈ l := srt_mem.mp (H2.sub _ (g_mem (by omega)))
    obtain ⟨m1, m2⟩ := (hl _).mp m
    rcases H.min _ (srt_mem.mpr m1) with e | e
    · exact (m2 e).elim
    · obtain ⟨k, hk, v⟩ := H2.ahead e
      exact pl_neg k hk v
end PG

namespace K04
open PySem PySem.Spec L2 DL
open PyProof.Rows hiding St
def topS (i : Nat) : Stmt := PySem.Challenge.pw_hullhall_k04_hulls_and_papers.main.body.getD i (.Pass ⟨0, 0, 0, 0⟩)
abbrev PP : Program := (PySem.Challenge.rw_hullhall_k04_hulls_and_papers).prog
abbrev mt_BadPaper : List (Str × Bool) := [("BadPaper", true)]
/-- what the top has left: the built-in names, the errors' classes -/
structure Txt (K : PySem.W.Frag) (mg : Str → Option Value) : Prop where
  z_abs : mg "abs" = none
  z_all : mg "all" = none
  z_any : mg "any" = none
  z_bool : mg "bool" = none
  z_enumerate : mg "enumerate" = none
  z_int : mg "int" = none
  z_isinstance : mg "isinstance" = none
  z_len : mg "len" = none
  z_list : mg "list" = none
  z_min : mg "min" = none
  z_range : mg "range" = none
  z_reversed : mg "reversed" = none
  z_sorted : mg "sorted" = none
  z_sum : mg "sum" = none
  z_tuple : mg "tuple" = none
  x_BadPoint : ExC K mg "BadPoint"
  x_NoWay : ExC K mg "NoWay"
  p_BadPaper : ∀ (w : World) (base : Heap), PartC PP w K mg base "BadPaper"
  t_BadPaper : TryC K mg "BadPaper" mt_BadPaper
abbrev st__law_told : Stmt := topS 32
abbrev hs__law_told : List (Str × Str) := [("BadPoint", "point"), ("BadShape", "shape"), ("NoWay", "no way"), ("TooLarge", "large")]
theorem sc__law_told : FnScope ["what"] ["what"] (defScope st__law_told) := ⟨rfl, rfl, rfl, by decide +kernel, rfl, by decide +kernel, by decide +kernel⟩
theorem gv__law_told {X : Cx} {g : Addr} {cl : Str → Addr} (ZT : ToldF X.K X.mg hs__law_told cl) : ∀ cdg q, LamX.GivesTo X ["what"] "_law_told" (defScope st__law_told) g cdg (defBody st__law_told) "what" q (TTm X.K cl hs__law_told) := fun _ _ =>
  told4_gives rfl rfl rfl rfl (ZT.gl ("BadPoint", "point") List.mem_cons_self) (ZT.gl ("BadShape", "shape") (List.mem_cons_of_mem _ List.mem_cons_self)) (ZT.gl ("NoWay", "no way") (List.mem_cons_of_mem _ (List.mem_cons_of_mem _ List.mem_cons_self))) (ZT.gl ("TooLarge", "large") (List.mem_cons_of_mem _ (List.mem_cons_of_mem _ (List.mem_cons_of_mem _ List.mem_cons_self)))) rfl rfl rfl rfl (fun _ => rfl)
/-! ### _law_dice -/
abbrev st__law_dice : Stmt := topS 29
abbrev N__law_dice : List Str := ["cell"]
theorem sc__law_dice : FnScope N__law_dice ["cell"] (defScope st__law_dice) := ⟨rfl, rfl, rfl, by decide +kernel, rfl, by decide +kernel, by decide +kernel⟩
def g__law_dice  : Sx → RS := (fSeq (fIfS (fTst (fChain nLt nLt (fOp nSub (fC (.int 0)) (fC (.int 10))) (fVar 0) (fC (.int 10)))) (fRet (fOwnE (fNew (fCons (fCB gAbs (fCons (fVar 0) fNil)) (fCons (fC (.int 0)) (fCons (fC (.int 2)) fNil)))))) fSkip) (fRet (fOwnE (fNew (fCons (fVar 0) (fCons (fOp nAdd (fC (.int 1)) (fOp nMod (fCB gInt (fCons (fVar 0) fNil)) (fC (.int 1009)))) (fCons (fCB gInt (fCons (fOp nGe (fVar 0) (fOp nPow (fC (.int 10)) (fC (.int 18)))) fNil)) fNil)))))))
theorem dv__law_dice {T : TPr} {w : World} {K : PySem.W.Frag} {mg : Str → Option Value} {base : Heap} (Z : Txt K mg)   {f : Addr} (cdv : Value) (A : Around) (outer : List Env) (s : Shared) (H : Hp) (E : XK) (hr : Room 0 (A.deeper (envOfC "_law_dice" (defScope st__law_dice) s.heap.objs.size f cdv))) :
    PSs (cxOf (L2.CX PP w) PP w K mg base N__law_dice "_law_dice" (defScope st__law_dice) f cdv A outer s H E) (defBody st__law_dice) (tS T mg (fun cls d _ H => E cls d H) (g__law_dice )) := by
  have nd := sc__law_dice.nd
  have B : Bd (cxOf (L2.CX PP w) PP w K mg base N__law_dice "_law_dice" (defScope st__law_dice) f cdv A outer s H E) (fun cls d _ H => E cls d H) 0 := ⟨takes_of rfl rfl rfl rfl, hr⟩
  exact (s_cons (s_if (t_chain op_lt od_lt op_lt od_lt (e_op op_sub od_sub e_int e_int) (e_var 0) e_int) (s_one (s_ret (e_ownE (f_lst (a_cons (e_cb call_abs cd_abs rfl Z.z_abs boot_abs (a_cons (e_var 0) a_nil)) (a_cons e_int (a_cons e_int a_nil))))))) s_nil) (s_one (s_ret (e_ownE (f_lst (a_cons (e_var 0) (a_cons (e_op op_add od_add e_int (e_op op_mod od_mod (e_ct call_int1 cd_int rfl Z.z_int boot_int (a_cons (e_var 0) a_nil)) e_int)) (a_cons (e_ct call_int1 cd_int rfl Z.z_int boot_int (a_cons (e_cmp op_ge od_ge (e_var 0) (e_op op_pow od_pow e_int e_int)) a_nil)) a_nil))))))))
def m__law_dice : List D → R D := autO 1 N__law_dice (g__law_dice )
theorem m__law_dice_len : ∀ ds, m__law_dice ds ≠ .no → ds.length = 1 := autO_len
/-! ### _law_rounds -/
abbrev st__law_rounds : Stmt := topS 31
abbrev N__law_rounds : List Str := ["script", "most", "cells", "cell"]
theorem sc__law_rounds : FnScope N__law_rounds ["script", "most"] (defScope st__law_rounds) := ⟨rfl, rfl, rfl, by decide +kernel, rfl, by decide +kernel, by decide +kernel⟩
def g__law_rounds (sk : Option (Addr × List Int)) : Sx → RS := (fSeq (fAsg (fSlK sk (fVar 0) fNoPart (fPart (fVar 1))) (bName 2)) (fSeq (fIfS (fTst (fOp gEq (fVar 2) (fLst fNil))) (fAsg (fLst (fCons (fC (.int 0)) fNil)) (bName 2)) fSkip) (fRet (fFz (fLc (fIt asLst (fVar 2)) (bName 3) fTrue (fCallO m__law_dice (fCons (fVar 3) fNil)) [3])))))
theorem dv__law_rounds {T : TPr} {w : World} {K : PySem.W.Frag} {mg : Str → Option Value} {base : Heap} (Z : Txt K mg) (sk : Option (Addr × List Int)) (C__law_dice : CalO T PP w K mg base 1 "_law_dice" 1 m__law_dice) (hk : KSt K sk) {f : Addr} (cdv : Value) (A : Around) (outer : List Env) (s : Shared) (H : Hp) (E : XK) (hr : Room 1 (A.deeper (envOfC "_law_rounds" (defScope st__law_rounds) s.heap.objs.size f cdv))) :
    PSs (cxOf (L2.CX PP w) PP w K mg base N__law_rounds "_law_rounds" (defScope st__law_rounds) f cdv A outer s H E) (defBody st__law_rounds) (tS T mg (fun cls d _ H => E cls d H) (g__law_rounds sk)) := by
  have nd := sc__law_rounds.nd
  have B : Bd (cxOf (L2.CX PP w) PP w K mg base N__law_rounds "_law_rounds" (defScope st__law_rounds) f cdv A outer s H E) (fun cls d _ H => E cls d H) 1 := ⟨takes_of rfl rfl rfl rfl, hr⟩
  exact (s_cons (s_set 2 nd (e_slK hk (e_var 0) o_no (o_some (e_var 1)))) (s_cons (s_if (t_cmp (op_eqD B.hu) od_eq (e_var 2) (e_lst a_nil)) (s_one (s_set 2 nd (e_lst (a_cons e_int a_nil)))) s_nil) (s_one (s_ret (e_fz (f_lc (own := [("cell", 3)]) rfl nd (i_lst (e_var 2)) (blkOk_by (N := N__law_rounds) (sc := defScope st__law_rounds) (by decide +kernel)) (fun _ _ _ _ _ => (g_name 3 nd)) (fun _ _ _ _ _ => ts_nil) (fun _ _ _ _ _ => (e_callO B.blk (C__law_dice.mono (by decide)) (m__law_dice_len) rfl (a_cons (e_var 3) a_nil)))))))))
def m__law_rounds (sk : Option (Addr × List Int)) : List D → R D := autO 2 N__law_rounds (g__law_rounds sk)
theorem m__law_rounds_len (sk : Option (Addr × List Int)) : ∀ ds, (m__law_rounds sk) ds ≠ .no → ds.length = 2 := autO_len
/-! ### _law_roll -/
abbrev st__law_roll : Stmt := topS 30
abbrev N__law_roll : List Str := ["dice", "many", "found"]
theorem sc__law_roll : FnScope N__law_roll ["dice", "many"] (defScope st__law_roll) := ⟨rfl, rfl, rfl, by decide +kernel, rfl, by decide +kernel, by decide +kernel⟩
def g__law_roll  : Sx → RS := (fSeq (fIfS (fOr (fTst (fOp gEq (fOp gIx (fVar 0) (fC (.int 2))) (fC (.int 2)))) (fAnd (fTst (fOp gEq (fOp gIx (fVar 0) (fC (.int 2))) (fC (.int 1)))) (fTst (fOp nGt (fOp gIx (fVar 0) (fC (.int 0))) (fC (.int 0)))))) (fSeq (fAsg (fOp nMod (fCB gInt (fCons (fOp gIx (fVar 0) (fC (.int 0))) fNil)) (fVar 1)) (bName 2)) (fSeq (fSetIx (fOp nDiv (fOp gIx (fVar 0) (fC (.int 0))) (fVar 1)) (fVar 0) (fC (.int 0))) (fRet (fVar 2)))) fSkip) (fSeq (fSetIx (fC (.int 0)) (fVar 0) (fC (.int 2))) (fSeq (fSetIx (fOp nMod (fCB gInt (fCons (fOp nAdd (fOp nAdd (fOp nMul (fOp gIx (fVar 0) (fC (.int 0))) (fC (.int 48271))) (fOp nMul (fOp gIx (fVar 0) (fC (.int 1))) (fC (.int 69621)))) (fC (.int 11))) fNil)) (fC (.int 2147483647))) (fVar 0) (fC (.int 0))) (fSeq (fSetIx (fOp nAdd (fOp gIx (fVar 0) (fC (.int 1))) (fC (.int 1))) (fVar 0) (fC (.int 1))) (fRet (fOp nMod (fCB gInt (fCons (fOp nAdd (fOp nDiv (fOp gIx (fVar 0) (fC (.int 0))) (fC (.int 7))) (fOp gIx (fVar 0) (fC (.int 0)))) fNil)) (fVar 1)))))))
theorem dv__law_roll {T : TPr} {w : World} {K : PySem.W.Frag} {mg : Str → Option Value} {base : Heap} (Z : Txt K mg)   {f : Addr} (cdv : Value) (A : Around) (outer : List Env) (s : Shared) (H : Hp) (E : XK) (hr : Room 0 (A.deeper (envOfC "_law_roll" (defScope st__law_roll) s.heap.objs.size f cdv))) :
    PSs (cxOf (L2.CX PP w) PP w K mg base N__law_roll "_law_roll" (defScope st__law_roll) f cdv A outer s H E) (defBody st__law_roll) (tS T mg (fun cls d _ H => E cls d H) (g__law_roll )) := by
  have nd := sc__law_roll.nd
  have B : Bd (cxOf (L2.CX PP w) PP w K mg base N__law_roll "_law_roll" (defScope st__law_roll) f cdv A outer s H E) (fun cls d _ H => E cls d H) 0 := ⟨takes_of rfl rfl rfl rfl, hr⟩
  exact (s_cons (s_if (L2.PW.pt (w_or (t_cmp (op_eqD B.hu) od_eq (e_ix (e_var 0) e_int) e_int) (w_or1 (L2.PW.pt (w_and (t_cmp (op_eqD B.hu) od_eq (e_ix (e_var 0) e_int) e_int) (w_and1 (t_cmp op_gt od_gt (e_ix (e_var 0) e_int) e_int))))))) (s_cons (s_set 2 nd (e_op op_mod od_mod (e_ct call_int1 cd_int rfl Z.z_int boot_int (a_cons (e_ix (e_var 0) e_int) a_nil)) (e_var 1))) (s_cons (s_setIx (e_op op_fdiv od_div (e_ix (e_var 0) e_int) (e_var 1)) (e_var 0) e_int) (s_one (s_ret (e_var 2))))) s_nil) (s_cons (s_setIx e_int (e_var 0) e_int) (s_cons (s_setIx (e_op op_mod od_mod (e_ct call_int1 cd_int rfl Z.z_int boot_int (a_cons (e_op op_add od_add (e_op op_add od_add (e_op op_mul od_mul (e_ix (e_var 0) e_int) e_int) (e_op op_mul od_mul (e_ix (e_var 0) e_int) e_int)) e_int) a_nil)) e_int) (e_var 0) e_int) (s_cons (s_setIx (e_op op_add od_add (e_ix (e_var 0) e_int) e_int) (e_var 0) e_int) (s_one (s_ret (e_op op_mod od_mod (e_ct call_int1 cd_int rfl Z.z_int boot_int (a_cons (e_op op_add od_add (e_op op_fdiv od_div (e_ix (e_var 0) e_int) e_int) (e_ix (e_var 0) e_int)) a_nil)) (e_var 1))))))))
def m__law_roll : List D → Cells → R D := autM 2 N__law_roll (g__law_roll )
theorem m__law_roll_len : ∀ ds M, m__law_roll ds M ≠ .no → ds.length = 2 := autM_len
/-! ### _law_point -/
abbrev st__law_point : Stmt := topS 33
abbrev N__law_point : List Str := ["dice", "far"]
theorem sc__law_point : FnScope N__law_point ["dice", "far"] (defScope st__law_point) := ⟨rfl, rfl, rfl, by decide +kernel, rfl, by decide +kernel, by decide +kernel⟩
def g__law_point  : Sx → RS := (fRet (fTup (fCons (fOp nSub (fCallM m__law_roll (fCons (fVar 0) (fCons (fOp nAdd (fOp nMul (fC (.int 2)) (fVar 1)) (fC (.int 1))) fNil))) (fVar 1)) (fCons (fOp nSub (fCallM m__law_roll (fCons (fVar 0) (fCons (fOp nAdd (fOp nMul (fC (.int 2)) (fVar 1)) (fC (.int 1))) fNil))) (fVar 1)) fNil))))
theorem dv__law_point {T : TPr} {w : World} {K : PySem.W.Frag} {mg : Str → Option Value} {base : Heap} (Z : Txt K mg)  (C__law_roll : Cal T PP w K mg base 1 "_law_roll" 2 m__law_roll) {f : Addr} (cdv : Value) (A : Around) (outer : List Env) (s : Shared) (H : Hp) (E : XK) (hr : Room 1 (A.deeper (envOfC "_law_point" (defScope st__law_point) s.heap.objs.size f cdv))) :
    PSs (cxOf (L2.CX PP w) PP w K mg base N__law_point "_law_point" (defScope st__law_point) f cdv A outer s H E) (defBody st__law_point) (tS T mg (fun cls d _ H => E cls d H) (g__law_point )) := by
  have nd := sc__law_point.nd
  have B : Bd (cxOf (L2.CX PP w) PP w K mg base N__law_point "_law_point" (defScope st__law_point) f cdv A outer s H E) (fun cls d _ H => E cls d H) 1 := ⟨takes_of rfl rfl rfl rfl, hr⟩
  exact (s_one (s_ret (e_tup (a_cons (e_op op_sub od_sub (e_callM B (C__law_roll.mono (by decide)) m__law_roll_len rfl (a_cons (e_var 0) (a_cons (e_op op_add od_add (e_op op_mul od_mul e_int (e_var 1)) e_int) a_nil))) (e_var 1)) (a_cons (e_op op_sub od_sub (e_callM B (C__law_roll.mono (by decide)) m__law_roll_len rfl (a_cons (e_var 0) (a_cons (e_op op_add od_add (e_op op_mul od_mul e_int (e_var 1)) e_int) a_nil))) (e_var 1)) a_nil)))))
def m__law_point : List D → Cells → R D := autM 2 N__law_point (g__law_point )
theorem m__law_point_len : ∀ ds M, m__law_point ds M ≠ .no → ds.length = 2 := autM_len
/-! ### _law_points -/
abbrev st__law_points : Stmt := topS 34
abbrev N__law_points : List Str := ["dice", "most", "far", "k"]
theorem sc__law_points : FnScope N__law_points ["dice", "most", "far"] (defScope st__law_points) := ⟨rfl, rfl, rfl, by decide +kernel, rfl, by decide +kernel, by decide +kernel⟩
def g__law_points  : Sx → RS := (fRet (fCB gTupOf (fCons (fFz (fLc (fIts asRg1 (fCons (fOp nAdd (fC (.int 1)) (fCallM m__law_roll (fCons (fVar 0) (fCons (fVar 1) fNil)))) fNil)) (bName 3) fTrue (fCallM m__law_point (fCons (fVar 0) (fCons (fVar 2) fNil))) [3])) fNil)))
theorem dv__law_points {T : TPr} {w : World} {K : PySem.W.Frag} {mg : Str → Option Value} {base : Heap} (Z : Txt K mg)  (C__law_roll : Cal T PP w K mg base 1 "_law_roll" 2 m__law_roll) (C__law_point : Cal T PP w K mg base 2 "_law_point" 2 m__law_point) {f : Addr} (cdv : Value) (A : Around) (outer : List Env) (s : Shared) (H : Hp) (E : XK) (hr : Room 2 (A.deeper (envOfC "_law_points" (defScope st__law_points) s.heap.objs.size f cdv))) :
    PSs (cxOf (L2.CX PP w) PP w K mg base N__law_points "_law_points" (defScope st__law_points) f cdv A outer s H E) (defBody st__law_points) (tS T mg (fun cls d _ H => E cls d H) (g__law_points )) := by
  have nd := sc__law_points.nd
  have B : Bd (cxOf (L2.CX PP w) PP w K mg base N__law_points "_law_points" (defScope st__law_points) f cdv A outer s H E) (fun cls d _ H => E cls d H) 2 := ⟨takes_of rfl rfl rfl rfl, hr⟩
  exact (s_one (s_ret (e_ct call_tuple_of cd_tupOf rfl Z.z_tuple boot_tuple (a_cons (e_fz (f_lc (own := [("k", 3)]) rfl nd (i_rg1 rfl Z.z_range (a_cons (e_op op_add od_add e_int (e_callM B (C__law_roll.mono (by decide)) m__law_roll_len rfl (a_cons (e_var 0) (a_cons (e_var 1) a_nil)))) a_nil)) (blkOk_by (N := N__law_points) (sc := defScope st__law_points) (by decide +kernel)) (fun _ _ _ _ _ => (g_name 3 nd)) (fun _ _ _ _ _ => ts_nil) (fun _ _ _ _ _ => (e_callM B.blk (C__law_point.mono (by decide)) m__law_point_len rfl (a_cons (e_var 0) (a_cons (e_var 2) a_nil)))))) a_nil))))
def m__law_points : List D → Cells → R D := autM 3 N__law_points (g__law_points )
theorem m__law_points_len : ∀ ds M, m__law_points ds M ≠ .no → ds.length = 3 := autM_len
/-! ### check_point -/
abbrev st_check_point : Stmt := topS 8
abbrev N_check_point : List Str := ["point", "one"]
theorem sc_check_point : FnScope N_check_point ["point"] (defScope st_check_point) := ⟨rfl, rfl, rfl, by decide +kernel, rfl, by decide +kernel, by decide +kernel⟩
def g_check_point  : Sx → RS := (fSeq (fIfS (fOr (fNot (fTst (fCB gIsi (fCons (fVar 0) (fCons (fC (.ty "tuple")) fNil))))) (fTst (fOp gNe (fCB gLen (fCons (fVar 0) fNil)) (fC (.int 2))))) (fRaise "BadPoint") fSkip) (fFor (fIt asTup (fVar 0)) (bName 1) (fIfS (fOr (fNot (fTst (fCB gIsi (fCons (fVar 1) (fCons (fC (.ty "int")) fNil))))) (fOr (fTst (fCB gIsi (fCons (fVar 1) (fCons (fC (.ty "bool")) fNil)))) (fTst (fOp nGt (fCB gAbs (fCons (fVar 1) fNil)) (fC (.int 1000000)))))) (fRaise "BadPoint") fSkip)))
theorem dv_check_point {T : TPr} {w : World} {K : PySem.W.Frag} {mg : Str → Option Value} {base : Heap} (Z : Txt K mg)   {f : Addr} (cdv : Value) (A : Around) (outer : List Env) (s : Shared) (H : Hp) (E : XK) (hr : Room 0 (A.deeper (envOfC "check_point" (defScope st_check_point) s.heap.objs.size f cdv))) :
    PSs (cxOf (L2.CX PP w) PP w K mg base N_check_point "check_point" (defScope st_check_point) f cdv A outer s H E) (defBody st_check_point) (tS T mg (fun cls d _ H => E cls d H) (g_check_point )) := by
  have nd := sc_check_point.nd
  have B : Bd (cxOf (L2.CX PP w) PP w K mg base N_check_point "check_point" (defScope st_check_point) f cdv A outer s H E) (fun cls d _ H => E cls d H) 0 := ⟨takes_of rfl rfl rfl rfl, hr⟩
  exact (s_cons (s_if (L2.PW.pt (w_or (t_not (t_val (e_cb call_isi cd_isi rfl Z.z_isinstance boot_isinstance (a_cons (e_var 0) (a_cons (e_ty rfl Z.z_tuple boot_tuple) a_nil))))) (w_or1 (t_cmp (op_neD B.hu) od_ne (e_cb call_len_seq cd_len rfl Z.z_len boot_len (a_cons (e_var 0) a_nil)) e_int)))) (s_one (s_raiseE B Z.x_BadPoint rfl)) s_nil) (s_one (s_for (ws := [1]) (passes_of rfl) rfl (i_tup (e_var 0)) (g_name 1 nd) (s_one (s_if (L2.PW.pt (w_or (t_not (t_val (e_cb call_isi cd_isi rfl Z.z_isinstance boot_isinstance (a_cons (e_var 1) (a_cons (e_ty rfl Z.z_int boot_int) a_nil))))) (w_or (t_val (e_cb call_isi cd_isi rfl Z.z_isinstance boot_isinstance (a_cons (e_var 1) (a_cons (e_ty rfl Z.z_bool boot_bool) a_nil)))) (w_or1 (t_cmp op_gt od_gt (e_cb call_abs cd_abs rfl Z.z_abs boot_abs (a_cons (e_var 1) a_nil)) e_int))))) (s_one (s_raiseE B Z.x_BadPoint rfl)) s_nil)))))
def m_check_point : List D → Pu := aut 1 N_check_point (g_check_point )
theorem m_check_point_len : ∀ ds, m_check_point ds ≠ .no → ds.length = 1 := aut_len
/-! ### check_row -/
abbrev st_check_row : Stmt := topS 9
abbrev N_check_row : List Str := ["row", "point"]
theorem sc_check_row : FnScope N_check_row ["row"] (defScope st_check_row) := ⟨rfl, rfl, rfl, by decide +kernel, rfl, by decide +kernel, by decide +kernel⟩
def g_check_row  : Sx → RS := (fSeq (fIfS (fOr (fNot (fTst (fCB gIsi (fCons (fVar 0) (fCons (fC (.ty "tuple")) fNil))))) (fTst (fOp nGt (fCB gLen (fCons (fVar 0) fNil)) (fC (.int 400))))) (fRaise "BadPoint") fSkip) (fFor (fIt asTup (fVar 0)) (bName 1) (fDrop (fCall m_check_point (fCons (fVar 1) fNil)))))
theorem dv_check_row {T : TPr} {w : World} {K : PySem.W.Frag} {mg : Str → Option Value} {base : Heap} (Z : Txt K mg)  (C_check_point : Cal T PP w K mg base 1 "check_point" 1 (lift m_check_point)) {f : Addr} (cdv : Value) (A : Around) (outer : List Env) (s : Shared) (H : Hp) (E : XK) (hr : Room 1 (A.deeper (envOfC "check_row" (defScope st_check_row) s.heap.objs.size f cdv))) :
    PSs (cxOf (L2.CX PP w) PP w K mg base N_check_row "check_row" (defScope st_check_row) f cdv A outer s H E) (defBody st_check_row) (tS T mg (fun cls d _ H => E cls d H) (g_check_row )) := by
  have nd := sc_check_row.nd
  have B : Bd (cxOf (L2.CX PP w) PP w K mg base N_check_row "check_row" (defScope st_check_row) f cdv A outer s H E) (fun cls d _ H => E cls d H) 1 := ⟨takes_of rfl rfl rfl rfl, hr⟩
  exact (s_cons (s_if (L2.PW.pt (w_or (t_not (t_val (e_cb call_isi cd_isi rfl Z.z_isinstance boot_isinstance (a_cons (e_var 0) (a_cons (e_ty rfl Z.z_tuple boot_tuple) a_nil))))) (w_or1 (t_cmp op_gt od_gt (e_cb call_len_seq cd_len rfl Z.z_len boot_len (a_cons (e_var 0) a_nil)) e_int)))) (s_one (s_raiseE B Z.x_BadPoint rfl)) s_nil) (s_one (s_for (ws := [1]) (passes_of rfl) rfl (i_tup (e_var 0)) (g_name 1 nd) (s_one (s_expr (e_call B (C_check_point.mono (by decide)) m_check_point_len rfl (a_cons (e_var 1) a_nil)))))))
def m_check_row : List D → Pu := aut 1 N_check_row (g_check_row )
theorem m_check_row_len : ∀ ds, m_check_row ds ≠ .no → ds.length = 1 := aut_len
/-! ### cross -/
abbrev st_cross : Stmt := topS 11
abbrev N_cross : List Str := ["u", "v"]
theorem sc_cross : FnScope N_cross ["u", "v"] (defScope st_cross) := ⟨rfl, rfl, rfl, by decide +kernel, rfl, by decide +kernel, by decide +kernel⟩
def g_cross  : Sx → RS := (fRet (fOp nSub (fOp nMul (fOp gIx (fVar 0) (fC (.int 0))) (fOp gIx (fVar 1) (fC (.int 1)))) (fOp nMul (fOp gIx (fVar 0) (fC (.int 1))) (fOp gIx (fVar 1) (fC (.int 0))))))
theorem dv_cross {T : TPr} {w : World} {K : PySem.W.Frag} {mg : Str → Option Value} {base : Heap} (Z : Txt K mg)   {f : Addr} (cdv : Value) (A : Around) (outer : List Env) (s : Shared) (H : Hp) (E : XK) (hr : Room 0 (A.deeper (envOfC "cross" (defScope st_cross) s.heap.objs.size f cdv))) :
    PSs (cxOf (L2.CX PP w) PP w K mg base N_cross "cross" (defScope st_cross) f cdv A outer s H E) (defBody st_cross) (tS T mg (fun cls d _ H => E cls d H) (g_cross )) := by
  have nd := sc_cross.nd
  have B : Bd (cxOf (L2.CX PP w) PP w K mg base N_cross "cross" (defScope st_cross) f cdv A outer s H E) (fun cls d _ H => E cls d H) 0 := ⟨takes_of rfl rfl rfl rfl, hr⟩
  exact (s_one (s_ret (e_op op_sub od_sub (e_op op_mul od_mul (e_ix (e_var 0) e_int) (e_ix (e_var 1) e_int)) (e_op op_mul od_mul (e_ix (e_var 0) e_int) (e_ix (e_var 1) e_int)))))
def m_cross : List D → Pu := aut 2 N_cross (g_cross )
theorem m_cross_len : ∀ ds, m_cross ds ≠ .no → ds.length = 2 := aut_len
/-! ### less -/
abbrev st_less : Stmt := topS 10
abbrev N_less : List Str := ["a", "b"]
theorem sc_less : FnScope N_less ["a", "b"] (defScope st_less) := ⟨rfl, rfl, rfl, by decide +kernel, rfl, by decide +kernel, by decide +kernel⟩
def g_less  : Sx → RS := (fRet (fTup (fCons (fOp nSub (fOp gIx (fVar 0) (fC (.int 0))) (fOp gIx (fVar 1) (fC (.int 0)))) (fCons (fOp nSub (fOp gIx (fVar 0) (fC (.int 1))) (fOp gIx (fVar 1) (fC (.int 1)))) fNil))))
theorem dv_less {T : TPr} {w : World} {K : PySem.W.Frag} {mg : Str → Option Value} {base : Heap} (Z : Txt K mg)   {f : Addr} (cdv : Value) (A : Around) (outer : List Env) (s : Shared) (H : Hp) (E : XK) (hr : Room 0 (A.deeper (envOfC "less" (defScope st_less) s.heap.objs.size f cdv))) :
    PSs (cxOf (L2.CX PP w) PP w K mg base N_less "less" (defScope st_less) f cdv A outer s H E) (defBody st_less) (tS T mg (fun cls d _ H => E cls d H) (g_less )) := by
  have nd := sc_less.nd
  have B : Bd (cxOf (L2.CX PP w) PP w K mg base N_less "less" (defScope st_less) f cdv A outer s H E) (fun cls d _ H => E cls d H) 0 := ⟨takes_of rfl rfl rfl rfl, hr⟩
  exact (s_one (s_ret (e_tup (a_cons (e_op op_sub od_sub (e_ix (e_var 0) e_int) (e_ix (e_var 1) e_int)) (a_cons (e_op op_sub od_sub (e_ix (e_var 0) e_int) (e_ix (e_var 1) e_int)) a_nil)))))
def m_less : List D → Pu := aut 2 N_less (g_less )
theorem m_less_len : ∀ ds, m_less ds ≠ .no → ds.length = 2 := aut_len
/-! ### turn -/
abbrev st_turn : Stmt := topS 12
abbrev N_turn : List Str := ["a", "b", "c"]
theorem sc_turn : FnScope N_turn ["a", "b", "c"] (defScope st_turn) := ⟨rfl, rfl, rfl, by decide +kernel, rfl, by decide +kernel, by decide +kernel⟩
def g_turn  : Sx → RS := (fRet (fCall m_cross (fCons (fCall m_less (fCons (fVar 1) (fCons (fVar 0) fNil))) (fCons (fCall m_less (fCons (fVar 2) (fCons (fVar 0) fNil))) fNil))))
theorem dv_turn {T : TPr} {w : World} {K : PySem.W.Frag} {mg : Str → Option Value} {base : Heap} (Z : Txt K mg)  (C_cross : Cal T PP w K mg base 1 "cross" 2 (lift m_cross)) (C_less : Cal T PP w K mg base 1 "less" 2 (lift m_less)) {f : Addr} (cdv : Value) (A : Around) (outer : List Env) (s : Shared) (H : Hp) (E : XK) (hr : Room 1 (A.deeper (envOfC "turn" (defScope st_turn) s.heap.objs.size f cdv))) :
    PSs (cxOf (L2.CX PP w) PP w K mg base N_turn "turn" (defScope st_turn) f cdv A outer s H E) (defBody st_turn) (tS T mg (fun cls d _ H => E cls d H) (g_turn )) := by
  have nd := sc_turn.nd
  have B : Bd (cxOf (L2.CX PP w) PP w K mg base N_turn "turn" (defScope st_turn) f cdv A outer s H E) (fun cls d _ H => E cls d H) 1 := ⟨takes_of rfl rfl rfl rfl, hr⟩
  exact (s_one (s_ret (e_call B (C_cross.mono (by decide)) m_cross_len rfl (a_cons (e_call B (C_less.mono (by decide)) m_less_len rfl (a_cons (e_var 1) (a_cons (e_var 0) a_nil))) (a_cons (e_call B (C_less.mono (by decide)) m_less_len rfl (a_cons (e_var 2) (a_cons (e_var 0) a_nil))) a_nil)))))
def m_turn : List D → Pu := aut 3 N_turn (g_turn )
theorem m_turn_len : ∀ ds, m_turn ds ≠ .no → ds.length = 3 := aut_len
/-! ### chain -/
abbrev st_chain : Stmt := topS 17
abbrev N_chain : List Str := ["points", "found", "point"]
theorem sc_chain : FnScope N_chain ["points"] (defScope st_chain) := ⟨rfl, rfl, rfl, by decide +kernel, rfl, by decide +kernel, by decide +kernel⟩
def g_chain (n1 : Nat) : Sx → RS := (fSeq (fOwn 1 (fNew fNil)) (fSeq (fFor (fIt asLst (fVar 0)) (bName 2) (fSeq (fWhile (fAnd (fTst (fOp nGt (fCB gLen (fCons (fVar 1) fNil)) (fC (.int 1)))) (fTst (fOp nLe (fCall m_turn (fCons (fOp gIx (fVar 1) (fUn nNeg (fC (.int 2)))) (fCons (fOp gIx (fVar 1) (fUn nNeg (fC (.int 1)))) (fCons (fVar 2) fNil)))) (fC (.int 0))))) (fDrop (fMt gPop (fVar 1) fNil)) n1) (fDrop (fMt gAppend (fVar 1) (fCons (fVar 2) fNil))))) (fRet (fVar 1))))
theorem dv_chain {T : TPr} {w : World} {K : PySem.W.Frag} {mg : Str → Option Value} {base : Heap} (Z : Txt K mg) (n1 : Nat) (C_turn : Cal T PP w K mg base 2 "turn" 3 (lift m_turn)) {f : Addr} (cdv : Value) (A : Around) (outer : List Env) (s : Shared) (H : Hp) (E : XK) (hr : Room 2 (A.deeper (envOfC "chain" (defScope st_chain) s.heap.objs.size f cdv))) :
    PSs (cxOf (L2.CX PP w) PP w K mg base N_chain "chain" (defScope st_chain) f cdv A outer s H E) (defBody st_chain) (tS T mg (fun cls d _ H => E cls d H) (g_chain n1)) := by
  have nd := sc_chain.nd
  have B : Bd (cxOf (L2.CX PP w) PP w K mg base N_chain "chain" (defScope st_chain) f cdv A outer s H E) (fun cls d _ H => E cls d H) 2 := ⟨takes_of rfl rfl rfl rfl, hr⟩
  exact (s_cons (s_own 1 nd (f_lst a_nil)) (s_cons (s_for (ws := [2]) (passes_of rfl) rfl (i_lst (e_var 0)) (g_name 2 nd) (s_cons (s_while n1 (passes_of rfl) (L2.PW.pt (w_and (t_cmp op_gt od_gt (e_cb call_len_seq cd_len rfl Z.z_len boot_len (a_cons (e_var 1) a_nil)) e_int) (w_and1 (t_cmp op_le od_le (e_call B (C_turn.mono (by decide)) m_turn_len rfl (a_cons (e_ix (e_var 1) (e_un un_neg ud_neg e_int)) (a_cons (e_ix (e_var 1) (e_un un_neg ud_neg e_int)) (a_cons (e_var 2) a_nil)))) e_int)))) (s_one (s_expr (e_mt0 PySem.F.slot_list_pop PySem.F.type_list_pop mt_pop md_pop (e_var 1))))) (s_one (s_expr (e_mt PySem.F.slot_list_append PySem.F.type_list_append mt_append md_append (e_var 1) (a_cons (e_var 2) a_nil)))))) (s_one (s_ret (e_var 1)))))
def m_chain : List D → R D := autO 1 N_chain (g_chain 1000)
theorem m_chain_len : ∀ ds, m_chain ds ≠ .no → ds.length = 1 := autO_len
/-! ### hull_of -/
abbrev st_hull_of : Stmt := topS 16
abbrev N_hull_of : List Str := ["row", "points", "point", "low", "high", "found"]
theorem sc_hull_of : FnScope N_hull_of ["row"] (defScope st_hull_of) := ⟨rfl, rfl, rfl, by decide +kernel, rfl, by decide +kernel, by decide +kernel⟩
def g_hull_of  : Sx → RS := (fSeq (fAsg (fCB gSortedT (fCons (fDc (fIt asTup (fVar 0)) (bName 2) fTrue (fVar 2) (fC (.bl true)) [2]) fNil)) (bName 1)) (fSeq (fIfS (fTst (fOp nLt (fCB gLen (fCons (fVar 1) fNil)) (fC (.int 3)))) (fRet (fCB gTupOf (fCons (fVar 1) fNil))) fSkip) (fSeq (fPar 3 4 (fCons (fCallO m_chain (fCons (fVar 1) fNil)) (fCons (fCallO m_chain (fCons (fUn (gRev false) (fVar 1)) fNil)) fNil))) (fSeq (fAsg (fCB gTupOf (fCons (fOp gCatL (fSl (fVar 3) fNoPart (fPart (fUn nNeg (fC (.int 1))))) (fSl (fVar 4) fNoPart (fPart (fUn nNeg (fC (.int 1)))))) fNil)) (bName 5)) (fRet (fIf (fTst (fOp nGt (fCB gLen (fCons (fVar 5) fNil)) (fC (.int 2)))) (fVar 5) (fTup (fCons (fOp gIx (fVar 1) (fC (.int 0))) (fCons (fOp gIx (fVar 1) (fUn nNeg (fC (.int 1)))) fNil)))))))))
theorem dv_hull_of {T : TPr} {w : World} {K : PySem.W.Frag} {mg : Str → Option Value} {base : Heap} (Z : Txt K mg)  (C_chain : CalO T PP w K mg base 3 "chain" 1 m_chain) {f : Addr} (cdv : Value) (A : Around) (outer : List Env) (s : Shared) (H : Hp) (E : XK) (hr : Room 3 (A.deeper (envOfC "hull_of" (defScope st_hull_of) s.heap.objs.size f cdv))) :
    PSs (cxOf (L2.CX PP w) PP w K mg base N_hull_of "hull_of" (defScope st_hull_of) f cdv A outer s H E) (defBody st_hull_of) (tS T mg (fun cls d _ H => E cls d H) (g_hull_of )) := by
  have nd := sc_hull_of.nd
  have B : Bd (cxOf (L2.CX PP w) PP w K mg base N_hull_of "hull_of" (defScope st_hull_of) f cdv A outer s H E) (fun cls d _ H => E cls d H) 3 := ⟨takes_of rfl rfl rfl rfl, hr⟩
  exact (s_cons (s_set 1 nd (e_cb (cr_sortedDT rfl B.hu) cd_sortedT rfl Z.z_sorted boot_sorted (a_cons (e_dc (own := [("point", 2)]) B rfl nd (i_tup (e_var 0)) (blkOk_by (N := N_hull_of) (sc := defScope st_hull_of) (by decide +kernel)) (fun _ _ _ _ _ => (g_name 2 nd)) (fun _ _ _ _ _ => ts_nil) (fun _ _ _ _ _ => (e_var 2)) (fun _ _ _ _ _ => e_bl)) a_nil))) (s_cons (s_if (t_cmp op_lt od_lt (e_cb call_len_seq cd_len rfl Z.z_len boot_len (a_cons (e_var 1) a_nil)) e_int) (s_one (s_ret (e_ct call_tuple_of cd_tupOf rfl Z.z_tuple boot_tuple (a_cons (e_var 1) a_nil)))) s_nil) (s_cons (s_par 3 4 rfl nd (a_cons (e_callO B (C_chain.mono (by decide)) (m_chain_len) rfl (a_cons (e_var 1) a_nil)) (a_cons (e_callO B (C_chain.mono (by decide)) (m_chain_len) rfl (a_cons (e_lstRev rfl rfl Z.z_list rfl Z.z_reversed (e_var 1)) a_nil)) a_nil))) (s_cons (s_set 5 nd (e_ct call_tuple_of cd_tupOf rfl Z.z_tuple boot_tuple (a_cons (e_op op_cat od_catL (e_sl (e_var 3) o_no (o_some (e_un un_neg ud_neg e_int))) (e_sl (e_var 4) o_no (o_some (e_un un_neg ud_neg e_int)))) a_nil))) (s_one (s_ret (e_if (t_cmp op_gt od_gt (e_cb call_len_seq cd_len rfl Z.z_len boot_len (a_cons (e_var 5) a_nil)) e_int) (e_var 5) (e_tup (a_cons (e_ix (e_var 1) e_int) (a_cons (e_ix (e_var 1) (e_un un_neg ud_neg e_int)) a_nil))))))))))
def m_hull_of : List D → Pu := aut 1 N_hull_of (g_hull_of )
theorem m_hull_of_len : ∀ ds, m_hull_of ds ≠ .no → ds.length = 1 := aut_len
/-! ### hull -/
abbrev st_hull : Stmt := topS 15
abbrev N_hull : List Str := ["row"]
theorem sc_hull : FnScope N_hull ["row"] (defScope st_hull) := ⟨rfl, rfl, rfl, by decide +kernel, rfl, by decide +kernel, by decide +kernel⟩
def g_hull  : Sx → RS := (fSeq (fDrop (fCall m_check_row (fCons (fVar 0) fNil))) (fRet (fCall m_hull_of (fCons (fVar 0) fNil))))
theorem dv_hull {T : TPr} {w : World} {K : PySem.W.Frag} {mg : Str → Option Value} {base : Heap} (Z : Txt K mg)  (C_check_row : Cal T PP w K mg base 2 "check_row" 1 (lift m_check_row)) (C_hull_of : Cal T PP w K mg base 4 "hull_of" 1 (lift m_hull_of)) {f : Addr} (cdv : Value) (A : Around) (outer : List Env) (s : Shared) (H : Hp) (E : XK) (hr : Room 4 (A.deeper (envOfC "hull" (defScope st_hull) s.heap.objs.size f cdv))) :
    PSs (cxOf (L2.CX PP w) PP w K mg base N_hull "hull" (defScope st_hull) f cdv A outer s H E) (defBody st_hull) (tS T mg (fun cls d _ H => E cls d H) (g_hull )) := by
  have nd := sc_hull.nd
  have B : Bd (cxOf (L2.CX PP w) PP w K mg base N_hull "hull" (defScope st_hull) f cdv A outer s H E) (fun cls d _ H => E cls d H) 4 := ⟨takes_of rfl rfl rfl rfl, hr⟩
  exact (s_cons (s_expr (e_call B (C_check_row.mono (by decide)) m_check_row_len rfl (a_cons (e_var 0) a_nil))) (s_one (s_ret (e_call B (C_hull_of.mono (by decide)) m_hull_of_len rfl (a_cons (e_var 0) a_nil)))))
def m_hull : List D → Pu := aut 1 N_hull (g_hull )
theorem m_hull_len : ∀ ds, m_hull ds ≠ .no → ds.length = 1 := aut_len
/-! ### layers -/
abbrev st_layers : Stmt := topS 26
abbrev N_layers : List Str := ["row", "left", "found", "point", "one"]
theorem sc_layers : FnScope N_layers ["row"] (defScope st_layers) := ⟨rfl, rfl, rfl, by decide +kernel, rfl, by decide +kernel, by decide +kernel⟩
def g_layers (n1 : Nat) : Sx → RS := (fSeq (fPar 1 2 (fCons (fCB gSortedT (fCons (fDc (fIt asTup (fVar 0)) (bName 3) fTrue (fVar 3) (fC (.bl true)) [3]) fNil)) (fCons (fOwnE (fNew fNil)) fNil))) (fSeq (fWhile (fTst (fOp gNe (fVar 1) (fLst fNil))) (fSeq (fAsg (fCall m_hull (fCons (fCB gTupOf (fCons (fVar 1) fNil)) fNil)) (bName 4)) (fSeq (fDrop (fMt gAppend (fVar 2) (fCons (fVar 4) fNil))) (fAsg (fFz (fLc (fIt asLst (fVar 1)) (bName 3) (fTst (fOp (gInA true) (fVar 3) (fVar 4))) (fVar 3) [3])) (bName 1)))) n1) (fRet (fCB gTupOf (fCons (fVar 2) fNil)))))
theorem dv_layers {T : TPr} {w : World} {K : PySem.W.Frag} {mg : Str → Option Value} {base : Heap} (Z : Txt K mg) (n1 : Nat) (C_hull : Cal T PP w K mg base 5 "hull" 1 (lift m_hull)) {f : Addr} (cdv : Value) (A : Around) (outer : List Env) (s : Shared) (H : Hp) (E : XK) (hr : Room 5 (A.deeper (envOfC "layers" (defScope st_layers) s.heap.objs.size f cdv))) :
    PSs (cxOf (L2.CX PP w) PP w K mg base N_layers "layers" (defScope st_layers) f cdv A outer s H E) (defBody st_layers) (tS T mg (fun cls d _ H => E cls d H) (g_layers n1)) := by
  have nd := sc_layers.nd
  have B : Bd (cxOf (L2.CX PP w) PP w K mg base N_layers "layers" (defScope st_layers) f cdv A outer s H E) (fun cls d _ H => E cls d H) 5 := ⟨takes_of rfl rfl rfl rfl, hr⟩
  exact (s_cons (s_par 1 2 rfl nd (a_cons (e_cb (cr_sortedDT rfl B.hu) cd_sortedT rfl Z.z_sorted boot_sorted (a_cons (e_dc (own := [("point", 3)]) B rfl nd (i_tup (e_var 0)) (blkOk_by (N := N_layers) (sc := defScope st_layers) (by decide +kernel)) (fun _ _ _ _ _ => (g_name 3 nd)) (fun _ _ _ _ _ => ts_nil) (fun _ _ _ _ _ => (e_var 3)) (fun _ _ _ _ _ => e_bl)) a_nil)) (a_cons (e_ownE (f_lst a_nil)) a_nil))) (s_cons (s_while n1 (passes_of rfl) (t_cmp (op_neD B.hu) od_ne (e_var 1) (e_lst a_nil)) (s_cons (s_set 4 nd (e_call B (C_hull.mono (by decide)) m_hull_len rfl (a_cons (e_ct call_tuple_of cd_tupOf rfl Z.z_tuple boot_tuple (a_cons (e_var 1) a_nil)) a_nil))) (s_cons (s_expr (e_mt PySem.F.slot_list_append PySem.F.type_list_append mt_append md_append (e_var 2) (a_cons (e_var 4) a_nil))) (s_one (s_setLc 1 (own := [("point", 3)]) rfl nd (i_lst (e_var 1)) (blkOk_by (N := N_layers) (sc := defScope st_layers) (by decide +kernel)) (fun _ _ _ _ _ => (g_name 3 nd)) (fun _ _ _ _ _ => (ts_one (t_cmp (op_notInA B.blk.hu5) od_inA (e_var 3) (e_var 4)))) (fun _ _ _ _ _ => (e_var 3))))))) (s_one (s_ret (e_ct call_tuple_of cd_tupOf rfl Z.z_tuple boot_tuple (a_cons (e_var 2) a_nil))))))
def m_layers : List D → Pu := autF 1 N_layers (fun n => g_layers n)
theorem m_layers_len : ∀ ds, m_layers ds ≠ .no → ds.length = 1 := autF_len
/-! ### _law_flat -/
abbrev st__law_flat : Stmt := topS 28
abbrev N__law_flat : List Str := ["rows", "found", "row"]
theorem sc__law_flat : FnScope N__law_flat ["rows"] (defScope st__law_flat) := ⟨rfl, rfl, rfl, by decide +kernel, rfl, by decide +kernel, by decide +kernel⟩
def g__law_flat  : Sx → RS := (fSeq (fAsg (fLst fNil) (bName 1)) (fSeq (fFor (fIt asLst (fVar 0)) (bName 2) (fAsg (fOp gCatL (fVar 1) (fVar 2)) (bName 1))) (fRet (fVar 1))))
theorem dv__law_flat {T : TPr} {w : World} {K : PySem.W.Frag} {mg : Str → Option Value} {base : Heap} (Z : Txt K mg)   {f : Addr} (cdv : Value) (A : Around) (outer : List Env) (s : Shared) (H : Hp) (E : XK) (hr : Room 0 (A.deeper (envOfC "_law_flat" (defScope st__law_flat) s.heap.objs.size f cdv))) :
    PSs (cxOf (L2.CX PP w) PP w K mg base N__law_flat "_law_flat" (defScope st__law_flat) f cdv A outer s H E) (defBody st__law_flat) (tS T mg (fun cls d _ H => E cls d H) (g__law_flat )) := by
  have nd := sc__law_flat.nd
  have B : Bd (cxOf (L2.CX PP w) PP w K mg base N__law_flat "_law_flat" (defScope st__law_flat) f cdv A outer s H E) (fun cls d _ H => E cls d H) 0 := ⟨takes_of rfl rfl rfl rfl, hr⟩
  exact (s_cons (s_set 1 nd (e_lst a_nil)) (s_cons (s_for (ws := [2]) (passes_of rfl) rfl (i_lst (e_var 0)) (g_name 2 nd) (s_one (s_set 1 nd (e_op op_cat od_catL (e_var 1) (e_var 2))))) (s_one (s_ret (e_var 1)))))
def m__law_flat : List D → Pu := aut 1 N__law_flat (g__law_flat )
theorem m__law_flat_len : ∀ ds, m__law_flat ds ≠ .no → ds.length = 1 := aut_len
/-! ### is_hull -/
abbrev st_is_hull : Stmt := topS 18
abbrev N_is_hull : List Str := ["corners", "many", "k"]
theorem sc_is_hull : FnScope N_is_hull ["corners"] (defScope st_is_hull) := ⟨rfl, rfl, rfl, by decide +kernel, rfl, by decide +kernel, by decide +kernel⟩
def g_is_hull  : Sx → RS := (fSeq (fAsg (fCB gLen (fCons (fVar 0) fNil)) (bName 1)) (fSeq (fIfS (fOr (fTst (fOp nLt (fVar 1) (fC (.int 3)))) (fTst (fOp gNe (fCB (gBest true) (fCons (fVar 0) fNil)) (fOp gIx (fVar 0) (fC (.int 0)))))) (fRet (fC (.bl false))) fSkip) (fSeq (fIfS (fTst (fAny (fIts asRg1 (fCons (fVar 1) fNil)) (bName 2) fTrue (fOp nLe (fCall m_turn (fCons (fOp gIx (fVar 0) (fVar 2)) (fCons (fOp gIx (fVar 0) (fOp nMod (fOp nAdd (fVar 2) (fC (.int 1))) (fVar 1))) (fCons (fOp gIx (fVar 0) (fOp nMod (fOp nAdd (fVar 2) (fC (.int 2))) (fVar 1))) fNil)))) (fC (.int 0))) [2])) (fRet (fC (.bl false))) fSkip) (fRet (fAll (fIts asRg2 (fCons (fC (.int 1)) (fCons (fOp nSub (fVar 1) (fC (.int 1))) fNil))) (bName 2) fTrue (fOp nGt (fCall m_turn (fCons (fOp gIx (fVar 0) (fC (.int 0))) (fCons (fOp gIx (fVar 0) (fVar 2)) (fCons (fOp gIx (fVar 0) (fOp nAdd (fVar 2) (fC (.int 1)))) fNil)))) (fC (.int 0))) [2])))))
theorem dv_is_hull {f c Tb : Addr} {TL : List (Addr × Str)} {w : World} {K : PySem.W.Frag} {mg : Str → Option Value} {base : Heap} (Z : Txt K mg)  (C_turn : Cal (tabT TL) PP w K mg base 2 "turn" 3 (lift m_turn)) (TB : LamX.TabB base mg c Tb) (hTm : ((Tb, "is_hull.<locals>.<genexpr>") : Addr × Str) ∈ TL) (hTu : ∀ p ∈ TL, p.1 = Tb → p.2 = "is_hull.<locals>.<genexpr>") (A : Around) (outer : List Env) (s : Shared) (H : Hp) (E : XK) (hr : Room 3 (A.deeper (envOfC "is_hull" (defScope st_is_hull) s.heap.objs.size f (.ref c)))) :
    PSs (cxOf (L2.CX PP w) PP w K mg base N_is_hull "is_hull" (defScope st_is_hull) f (.ref c) A outer s H E) (defBody st_is_hull) (tS (tabT TL) mg (fun cls d _ H => E cls d H) (g_is_hull )) := by
  have nd := sc_is_hull.nd
  have B : Bd (cxOf (L2.CX PP w) PP w K mg base N_is_hull "is_hull" (defScope st_is_hull) f (.ref c) A outer s H E) (fun cls d _ H => E cls d H) 3 := ⟨takes_of rfl rfl rfl rfl, hr⟩
  exact (s_cons (s_set 1 nd (e_cb call_len_seq cd_len rfl Z.z_len boot_len (a_cons (e_var 0) a_nil))) (s_cons (s_if (L2.PW.pt (w_or (t_cmp op_lt od_lt (e_var 1) e_int) (w_or1 (t_cmp (op_neD B.hu) od_ne (e_cb (cr_min rfl B.hu) cd_best rfl Z.z_min boot_min (a_cons (e_var 0) a_nil)) (e_ix (e_var 0) e_int))))) (s_one (s_ret e_bl)) s_nil) (s_cons (s_if (t_val (e_any B (c := c) (P := Tb) (own := [("k", 2)]) ⟨nd, (i_rg1 rfl Z.z_range (a_cons (e_var 1) a_nil)), gxOk_by (N := N_is_hull) (sc := defScope st_is_hull) (by decide +kernel), TB, rfl, hTm, hTu, fun _ => rfl, fun _ _ _ _ _ => (g_name 2 nd), fun _ _ _ _ _ => ts_nil, fun _ _ _ _ _ => (e_cmp op_le od_le (e_call (B.gx _ _ _ _) (C_turn.mono (by decide)) m_turn_len rfl (a_cons (e_ix (e_var 0) (e_var 2)) (a_cons (e_ix (e_var 0) (e_op op_mod od_mod (e_op op_add od_add (e_var 2) e_int) (e_var 1))) (a_cons (e_ix (e_var 0) (e_op op_mod od_mod (e_op op_add od_add (e_var 2) e_int) (e_var 1))) a_nil)))) e_int)⟩ rfl Z.z_any)) (s_one (s_ret e_bl)) s_nil) (s_one (s_ret (e_all B (c := c) (P := Tb) (own := [("k", 2)]) ⟨nd, (i_rg2 rfl Z.z_range (a_cons e_int (a_cons (e_op op_sub od_sub (e_var 1) e_int) a_nil))), gxOk_by (N := N_is_hull) (sc := defScope st_is_hull) (by decide +kernel), TB, rfl, hTm, hTu, fun _ => rfl, fun _ _ _ _ _ => (g_name 2 nd), fun _ _ _ _ _ => ts_nil, fun _ _ _ _ _ => (e_cmp op_gt od_gt (e_call (B.gx _ _ _ _) (C_turn.mono (by decide)) m_turn_len rfl (a_cons (e_ix (e_var 0) e_int) (a_cons (e_ix (e_var 0) (e_var 2)) (a_cons (e_ix (e_var 0) (e_op op_add od_add (e_var 2) e_int)) a_nil)))) e_int)⟩ rfl Z.z_all))))))
def m_is_hull : List D → Pu := aut 1 N_is_hull (g_is_hull )
theorem m_is_hull_len : ∀ ds, m_is_hull ds ≠ .no → ds.length = 1 := aut_len
/-! ### check_hull -/
abbrev st_check_hull : Stmt := topS 19
abbrev N_check_hull : List Str := ["corners"]
theorem sc_check_hull : FnScope N_check_hull ["corners"] (defScope st_check_hull) := ⟨rfl, rfl, rfl, by decide +kernel, rfl, by decide +kernel, by decide +kernel⟩
def g_check_hull  : Sx → RS := (fSeq (fDrop (fCall m_check_row (fCons (fVar 0) fNil))) (fIfS (fNot (fTst (fCall m_is_hull (fCons (fVar 0) fNil)))) (fRaise "BadPoint") fSkip))
theorem dv_check_hull {T : TPr} {w : World} {K : PySem.W.Frag} {mg : Str → Option Value} {base : Heap} (Z : Txt K mg)  (C_check_row : Cal T PP w K mg base 2 "check_row" 1 (lift m_check_row)) (C_is_hull : Cal T PP w K mg base 4 "is_hull" 1 (lift m_is_hull)) {f : Addr} (cdv : Value) (A : Around) (outer : List Env) (s : Shared) (H : Hp) (E : XK) (hr : Room 4 (A.deeper (envOfC "check_hull" (defScope st_check_hull) s.heap.objs.size f cdv))) :
    PSs (cxOf (L2.CX PP w) PP w K mg base N_check_hull "check_hull" (defScope st_check_hull) f cdv A outer s H E) (defBody st_check_hull) (tS T mg (fun cls d _ H => E cls d H) (g_check_hull )) := by
  have nd := sc_check_hull.nd
  have B : Bd (cxOf (L2.CX PP w) PP w K mg base N_check_hull "check_hull" (defScope st_check_hull) f cdv A outer s H E) (fun cls d _ H => E cls d H) 4 := ⟨takes_of rfl rfl rfl rfl, hr⟩
  exact (s_cons (s_expr (e_call B (C_check_row.mono (by decide)) m_check_row_len rfl (a_cons (e_var 0) a_nil))) (s_one (s_if (t_not (t_val (e_call B (C_is_hull.mono (by decide)) m_is_hull_len rfl (a_cons (e_var 0) a_nil)))) (s_one (s_raiseE B Z.x_BadPoint rfl)) s_nil)))
def m_check_hull : List D → Pu := aut 1 N_check_hull (g_check_hull )
theorem m_check_hull_len : ∀ ds, m_check_hull ds ≠ .no → ds.length = 1 := aut_len
/-! ### in_three -/
abbrev st_in_three : Stmt := topS 24
abbrev N_in_three : List Str := ["a", "b", "c", "point"]
theorem sc_in_three : FnScope N_in_three ["a", "b", "c", "point"] (defScope st_in_three) := ⟨rfl, rfl, rfl, by decide +kernel, rfl, by decide +kernel, by decide +kernel⟩
def g_in_three  : Sx → RS := (fRet (fAndV (fOp nGe (fCall m_turn (fCons (fVar 0) (fCons (fVar 1) (fCons (fVar 3) fNil)))) (fC (.int 0))) (fAndV (fOp nGe (fCall m_turn (fCons (fVar 1) (fCons (fVar 2) (fCons (fVar 3) fNil)))) (fC (.int 0))) (fOp nGe (fCall m_turn (fCons (fVar 2) (fCons (fVar 0) (fCons (fVar 3) fNil)))) (fC (.int 0))))))
theorem dv_in_three {T : TPr} {w : World} {K : PySem.W.Frag} {mg : Str → Option Value} {base : Heap} (Z : Txt K mg)  (C_turn : Cal T PP w K mg base 2 "turn" 3 (lift m_turn)) {f : Addr} (cdv : Value) (A : Around) (outer : List Env) (s : Shared) (H : Hp) (E : XK) (hr : Room 2 (A.deeper (envOfC "in_three" (defScope st_in_three) s.heap.objs.size f cdv))) :
    PSs (cxOf (L2.CX PP w) PP w K mg base N_in_three "in_three" (defScope st_in_three) f cdv A outer s H E) (defBody st_in_three) (tS T mg (fun cls d _ H => E cls d H) (g_in_three )) := by
  have nd := sc_in_three.nd
  have B : Bd (cxOf (L2.CX PP w) PP w K mg base N_in_three "in_three" (defScope st_in_three) f cdv A outer s H E) (fun cls d _ H => E cls d H) 2 := ⟨takes_of rfl rfl rfl rfl, hr⟩
  exact (s_one (s_ret (e_and (e_cmp op_ge od_ge (e_call B (C_turn.mono (by decide)) m_turn_len rfl (a_cons (e_var 0) (a_cons (e_var 1) (a_cons (e_var 3) a_nil)))) e_int) (e_and (e_cmp op_ge od_ge (e_call B (C_turn.mono (by decide)) m_turn_len rfl (a_cons (e_var 1) (a_cons (e_var 2) (a_cons (e_var 3) a_nil)))) e_int) (e_one (e_cmp op_ge od_ge (e_call B (C_turn.mono (by decide)) m_turn_len rfl (a_cons (e_var 2) (a_cons (e_var 0) (a_cons (e_var 3) a_nil)))) e_int))))))
def m_in_three : List D → Pu := aut 4 N_in_three (g_in_three )
theorem m_in_three_len : ∀ ds, m_in_three ds ≠ .no → ds.length = 4 := aut_len
/-! ### hull_paper -/
abbrev st_hull_paper : Stmt := topS 23
abbrev N_hull_paper : List Str := ["row", "corners", "found", "point", "k"]
theorem sc_hull_paper : FnScope N_hull_paper ["row"] (defScope st_hull_paper) := ⟨rfl, rfl, rfl, by decide +kernel, rfl, by decide +kernel, by decide +kernel⟩
def g_hull_paper  : Sx → RS := (fSeq (fAsg (fCall m_hull (fCons (fVar 0) fNil)) (bName 1)) (fSeq (fIfS (fTst (fOp nLt (fCB gLen (fCons (fVar 1) fNil)) (fC (.int 3)))) (fRaise "NoWay") fSkip) (fSeq (fOwn 2 (fNew fNil)) (fSeq (fFor (fIt asTup (fVar 0)) (bName 3) (fFor (fIts asRg2 (fCons (fC (.int 1)) (fCons (fOp nSub (fCB gLen (fCons (fVar 1) fNil)) (fC (.int 1))) fNil))) (bName 4) (fIfS (fTst (fCall m_in_three (fCons (fOp gIx (fVar 1) (fC (.int 0))) (fCons (fOp gIx (fVar 1) (fVar 4)) (fCons (fOp gIx (fVar 1) (fOp nAdd (fVar 4) (fC (.int 1)))) (fCons (fVar 3) fNil)))))) (fSeq (fDrop (fMt gAppend (fVar 2) (fCons (fTup (fCons (fC (.int 0)) (fCons (fVar 4) (fCons (fOp nAdd (fVar 4) (fC (.int 1))) fNil)))) fNil))) fBrk) fSkip))) (fRet (fTup (fCons (fVar 1) (fCons (fCB gTupOf (fCons (fVar 2) fNil)) fNil))))))))
theorem dv_hull_paper {T : TPr} {w : World} {K : PySem.W.Frag} {mg : Str → Option Value} {base : Heap} (Z : Txt K mg)  (C_hull : Cal T PP w K mg base 5 "hull" 1 (lift m_hull)) (C_in_three : Cal T PP w K mg base 3 "in_three" 4 (lift m_in_three)) {f : Addr} (cdv : Value) (A : Around) (outer : List Env) (s : Shared) (H : Hp) (E : XK) (hr : Room 5 (A.deeper (envOfC "hull_paper" (defScope st_hull_paper) s.heap.objs.size f cdv))) :
    PSs (cxOf (L2.CX PP w) PP w K mg base N_hull_paper "hull_paper" (defScope st_hull_paper) f cdv A outer s H E) (defBody st_hull_paper) (tS T mg (fun cls d _ H => E cls d H) (g_hull_paper )) := by
  have nd := sc_hull_paper.nd
  have B : Bd (cxOf (L2.CX PP w) PP w K mg base N_hull_paper "hull_paper" (defScope st_hull_paper) f cdv A outer s H E) (fun cls d _ H => E cls d H) 5 := ⟨takes_of rfl rfl rfl rfl, hr⟩
  exact (s_cons (s_set 1 nd (e_call B (C_hull.mono (by decide)) m_hull_len rfl (a_cons (e_var 0) a_nil))) (s_cons (s_if (t_cmp op_lt od_lt (e_cb call_len_seq cd_len rfl Z.z_len boot_len (a_cons (e_var 1) a_nil)) e_int) (s_one (s_raiseE B Z.x_NoWay rfl)) s_nil) (s_cons (s_own 2 nd (f_lst a_nil)) (s_cons (s_for (ws := [3]) (passes_of rfl) rfl (i_tup (e_var 0)) (g_name 3 nd) (s_one (s_for (ws := [4]) (passes_of rfl) rfl (i_rg2 rfl Z.z_range (a_cons e_int (a_cons (e_op op_sub od_sub (e_cb call_len_seq cd_len rfl Z.z_len boot_len (a_cons (e_var 1) a_nil)) e_int) a_nil))) (g_name 4 nd) (s_one (s_if (t_val (e_call B (C_in_three.mono (by decide)) m_in_three_len rfl (a_cons (e_ix (e_var 1) e_int) (a_cons (e_ix (e_var 1) (e_var 4)) (a_cons (e_ix (e_var 1) (e_op op_add od_add (e_var 4) e_int)) (a_cons (e_var 3) a_nil)))))) (s_cons (s_expr (e_mt PySem.F.slot_list_append PySem.F.type_list_append mt_append md_append (e_var 2) (a_cons (e_tup (a_cons e_int (a_cons (e_var 4) (a_cons (e_op op_add od_add (e_var 4) e_int) a_nil)))) a_nil))) (s_one s_break)) s_nil))))) (s_one (s_ret (e_tup (a_cons (e_var 1) (a_cons (e_ct call_tuple_of cd_tupOf rfl Z.z_tuple boot_tuple (a_cons (e_var 2) a_nil)) a_nil)))))))))
def m_hull_paper : List D → Pu := aut 1 N_hull_paper (g_hull_paper )
theorem m_hull_paper_len : ∀ ds, m_hull_paper ds ≠ .no → ds.length = 1 := aut_len
/-! ### look_paper -/
abbrev st_look_paper : Stmt := topS 25
abbrev N_look_paper : List Str := ["row", "paper", "corners", "rows", "one", "k", "point", "three"]
theorem sc_look_paper : FnScope N_look_paper ["row", "paper"] (defScope st_look_paper) := ⟨rfl, rfl, rfl, by decide +kernel, rfl, by decide +kernel, by decide +kernel⟩
def g_look_paper  : Sx → RS := (fSeq (fAsg (fVar 1) (bTup 2 (bCons (bName 2) (bCons (bName 3) bNil)))) (fSeq (fIfS (fOr (fNot (fTst (fCall m_is_hull (fCons (fVar 2) fNil)))) (fTst (fAny (fIt asTup (fVar 2)) (bName 4) fTrue (fOp (gInA true) (fVar 4) (fVar 0)) [4]))) (fRaiseP "BadPaper" (fC (.int 0))) fSkip) (fSeq (fFor (fIts asEnum (fCons (fVar 0) fNil)) (bTup 2 (bCons (bName 5) (bCons (bName 6) bNil))) (fSeq (fIfS (fTst (fOp nGe (fVar 5) (fCB gLen (fCons (fVar 3) fNil)))) (fRaiseP "BadPaper" (fOp nAdd (fVar 5) (fC (.int 1)))) fSkip) (fSeq (fAsg (fOp gIx (fVar 3) (fVar 5)) (bName 7)) (fSeq (fIfS (fOr (fTst (fOp gNe (fCB gLen (fCons (fVar 7) fNil)) (fC (.int 3)))) (fOr (fTst (fAny (fIt asTup (fVar 7)) (bName 4) fTrue (fNotV (fChain nLe nLt (fC (.int 0)) (fVar 4) (fCB gLen (fCons (fVar 2) fNil)))) [4])) (fNot (fTst (fChain nLt nLt (fOp gIx (fVar 7) (fC (.int 0))) (fOp gIx (fVar 7) (fC (.int 1))) (fOp gIx (fVar 7) (fC (.int 2)))))))) (fRaiseP "BadPaper" (fOp nAdd (fVar 5) (fC (.int 1)))) fSkip) (fIfS (fNot (fTst (fCall m_in_three (fCons (fOp gIx (fVar 2) (fOp gIx (fVar 7) (fC (.int 0)))) (fCons (fOp gIx (fVar 2) (fOp gIx (fVar 7) (fC (.int 1)))) (fCons (fOp gIx (fVar 2) (fOp gIx (fVar 7) (fC (.int 2)))) (fCons (fVar 6) fNil))))))) (fRaiseP "BadPaper" (fOp nAdd (fVar 5) (fC (.int 1)))) fSkip))))) (fIfS (fTst (fOp gNe (fCB gLen (fCons (fVar 3) fNil)) (fCB gLen (fCons (fVar 0) fNil)))) (fRaiseP "BadPaper" (fOp nAdd (fCB gLen (fCons (fVar 0) fNil)) (fC (.int 1)))) fSkip))))
theorem dv_look_paper {f c Tb : Addr} {TL : List (Addr × Str)} {w : World} {K : PySem.W.Frag} {mg : Str → Option Value} {base : Heap} (Z : Txt K mg)  (C_is_hull : Cal (tabT TL) PP w K mg base 4 "is_hull" 1 (lift m_is_hull)) (C_in_three : Cal (tabT TL) PP w K mg base 3 "in_three" 4 (lift m_in_three)) (TB : LamX.TabB base mg c Tb) (hTm : ((Tb, "look_paper.<locals>.<genexpr>") : Addr × Str) ∈ TL) (hTu : ∀ p ∈ TL, p.1 = Tb → p.2 = "look_paper.<locals>.<genexpr>") (A : Around) (outer : List Env) (s : Shared) (H : Hp) (E : XK) (hr : Room 4 (A.deeper (envOfC "look_paper" (defScope st_look_paper) s.heap.objs.size f (.ref c)))) :
    PSs (cxOf (L2.CX PP w) PP w K mg base N_look_paper "look_paper" (defScope st_look_paper) f (.ref c) A outer s H E) (defBody st_look_paper) (tS (tabT TL) mg (fun cls d _ H => E cls d H) (g_look_paper )) := by
  have nd := sc_look_paper.nd
  have B : Bd (cxOf (L2.CX PP w) PP w K mg base N_look_paper "look_paper" (defScope st_look_paper) f (.ref c) A outer s H E) (fun cls d _ H => E cls d H) 4 := ⟨takes_of rfl rfl rfl rfl, hr⟩
  exact (s_cons (s_asg (ws := [2, 3]) (e_var 1) (g_tup rfl (gs_cons (g_name 2 nd) (gs_cons (g_name 3 nd) gs_nil)))) (s_cons (s_if (L2.PW.pt (w_or (t_not (t_val (e_call B (C_is_hull.mono (by decide)) m_is_hull_len rfl (a_cons (e_var 2) a_nil)))) (w_or1 (t_val (e_any B (c := c) (P := Tb) (own := [("one", 4)]) ⟨nd, (i_tup (e_var 2)), gxOk_by (N := N_look_paper) (sc := defScope st_look_paper) (by decide +kernel), TB, rfl, hTm, hTu, fun _ => rfl, fun _ _ _ _ _ => (g_name 4 nd), fun _ _ _ _ _ => ts_nil, fun _ _ _ _ _ => (e_cmp (op_notInA (B.gx _ _ _ _).hu5) od_inA (e_var 4) (e_var 0))⟩ rfl Z.z_any))))) (s_one (s_raiseP B (Z.p_BadPaper w base) rfl e_int)) s_nil) (s_cons (s_for (ws := [5, 6]) (passes_of rfl) rfl (i_enum rfl Z.z_enumerate (a_cons (e_var 0) a_nil)) (g_tup rfl (gs_cons (g_name 5 nd) (gs_cons (g_name 6 nd) gs_nil))) (s_cons (s_if (t_cmp op_ge od_ge (e_var 5) (e_cb call_len_seq cd_len rfl Z.z_len boot_len (a_cons (e_var 3) a_nil))) (s_one (s_raiseP B (Z.p_BadPaper w base) rfl (e_op op_add od_add (e_var 5) e_int))) s_nil) (s_cons (s_set 7 nd (e_ix (e_var 3) (e_var 5))) (s_cons (s_if (L2.PW.pt (w_or (t_cmp (op_neD B.hu) od_ne (e_cb call_len_seq cd_len rfl Z.z_len boot_len (a_cons (e_var 7) a_nil)) e_int) (w_or (t_val (e_any B (c := c) (P := Tb) (own := [("one", 4)]) ⟨nd, (i_tup (e_var 7)), gxOk_by (N := N_look_paper) (sc := defScope st_look_paper) (by decide +kernel), TB, rfl, hTm, hTu, fun _ => rfl, fun _ _ _ _ _ => (g_name 4 nd), fun _ _ _ _ _ => ts_nil, fun _ _ _ _ _ => (e_not (e_chain op_le od_le op_lt od_lt e_int (e_var 4) (e_cb call_len_seq cd_len rfl Z.z_len boot_len (a_cons (e_var 2) a_nil))))⟩ rfl Z.z_any)) (w_or1 (t_not (t_chain op_lt od_lt op_lt od_lt (e_ix (e_var 7) e_int) (e_ix (e_var 7) e_int) (e_ix (e_var 7) e_int))))))) (s_one (s_raiseP B (Z.p_BadPaper w base) rfl (e_op op_add od_add (e_var 5) e_int))) s_nil) (s_one (s_if (t_not (t_val (e_call B (C_in_three.mono (by decide)) m_in_three_len rfl (a_cons (e_ix (e_var 2) (e_ix (e_var 7) e_int)) (a_cons (e_ix (e_var 2) (e_ix (e_var 7) e_int)) (a_cons (e_ix (e_var 2) (e_ix (e_var 7) e_int)) (a_cons (e_var 6) a_nil))))))) (s_one (s_raiseP B (Z.p_BadPaper w base) rfl (e_op op_add od_add (e_var 5) e_int))) s_nil)))))) (s_one (s_if (t_cmp (op_neD B.hu) od_ne (e_cb call_len_seq cd_len rfl Z.z_len boot_len (a_cons (e_var 3) a_nil)) (e_cb call_len_seq cd_len rfl Z.z_len boot_len (a_cons (e_var 0) a_nil))) (s_one (s_raiseP B (Z.p_BadPaper w base) rfl (e_op op_add od_add (e_cb call_len_seq cd_len rfl Z.z_len boot_len (a_cons (e_var 0) a_nil)) e_int))) s_nil)))))
def m_look_paper : List D → Pu := aut 2 N_look_paper (g_look_paper )
theorem m_look_paper_len : ∀ ds, m_look_paper ds ≠ .no → ds.length = 2 := aut_len
/-! ### _law_part -/
abbrev st__law_part : Stmt := topS 36
abbrev N__law_part : List Str := ["row", "paper", "e"]
theorem sc__law_part : FnScope N__law_part ["row", "paper"] (defScope st__law_part) := ⟨rfl, rfl, rfl, by decide +kernel, rfl, by decide +kernel, by decide +kernel⟩
def g__law_part  : Sx → RS := (fSeq (fTryP "BadPaper" 2 mt_BadPaper (fDrop (fCall m_look_paper (fCons (fVar 0) (fCons (fVar 1) fNil))))) (fRet (fC (.str "right"))))
theorem dv__law_part {T : TPr} {w : World} {K : PySem.W.Frag} {mg : Str → Option Value} {base : Heap} (Z : Txt K mg)  (C_look_paper : Cal T PP w K mg base 5 "look_paper" 2 (lift m_look_paper)) {f : Addr} (cdv : Value) (A : Around) (outer : List Env) (s : Shared) (H : Hp) (E : XK) (hr : Room 5 (A.deeper (envOfC "_law_part" (defScope st__law_part) s.heap.objs.size f cdv))) :
    PSs (cxOf (L2.CX PP w) PP w K mg base N__law_part "_law_part" (defScope st__law_part) f cdv A outer s H E) (defBody st__law_part) (tS T mg (fun cls d _ H => E cls d H) (g__law_part )) := by
  have nd := sc__law_part.nd
  have B : Bd (cxOf (L2.CX PP w) PP w K mg base N__law_part "_law_part" (defScope st__law_part) f cdv A outer s H E) (fun cls d _ H => E cls d H) 5 := ⟨takes_of rfl rfl rfl rfl, hr⟩
  exact (s_cons (s_tryP B Z.t_BadPaper (Z.p_BadPaper w base) rfl nd rfl rfl (fun _ _ _ B po => (s_one (s_expr (e_call B (C_look_paper.mono (by decide)) m_look_paper_len rfl (a_cons (e_var 0) (a_cons (e_var 1) a_nil))))))) (s_one (s_ret e_str)))
def m__law_part : List D → Pu := aut 2 N__law_part (g__law_part )
theorem m__law_part_len : ∀ ds, m__law_part ds ≠ .no → ds.length = 2 := aut_len
/-! ### _law_paper -/
abbrev st__law_paper : Stmt := topS 38
abbrev N__law_paper : List Str := ["dice", "row", "corners", "paper", "k"]
theorem sc__law_paper : FnScope N__law_paper ["dice", "row", "corners"] (defScope st__law_paper) := ⟨rfl, rfl, rfl, by decide +kernel, rfl, by decide +kernel, by decide +kernel⟩
def g__law_paper  : Sx → RS := (fSeq (fAsg (fCall m_hull_paper (fCons (fVar 1) fNil)) (bName 3)) (fSeq (fIfS (fOr (fTst (fOp gNe (fCall m__law_part (fCons (fVar 1) (fCons (fVar 3) fNil))) (fC (.str "right")))) (fTst (fOp gNe (fOp gIx (fVar 3) (fC (.int 0))) (fVar 2)))) (fRet (fC (.bl false))) fSkip) (fSeq (fAsg (fCallM m__law_roll (fCons (fVar 0) (fCons (fCB gLen (fCons (fVar 1) fNil)) fNil))) (bName 4)) (fSeq (fIfS (fTst (fOp gNe (fCall m__law_part (fCons (fVar 1) (fCons (fTup (fCons (fVar 2) (fCons (fSl (fOp gIx (fVar 3) (fC (.int 1))) fNoPart (fPart (fVar 4))) fNil))) fNil))) (fOp nAdd (fVar 4) (fC (.int 1))))) (fRet (fC (.bl false))) fSkip) (fSeq (fIfS (fTst (fOp gNe (fCall m__law_part (fCons (fVar 1) (fCons (fTup (fCons (fVar 2) (fCons (fOp gCat (fOp gCat (fSl (fOp gIx (fVar 3) (fC (.int 1))) fNoPart (fPart (fVar 4))) (fTup (fCons (fTup (fCons (fC (.int 0)) (fCons (fC (.int 1)) fNil))) fNil))) (fSl (fOp gIx (fVar 3) (fC (.int 1))) (fPart (fOp nAdd (fVar 4) (fC (.int 1)))) fNoPart)) fNil))) fNil))) (fOp nAdd (fVar 4) (fC (.int 1))))) (fRet (fC (.bl false))) fSkip) (fSeq (fIfS (fTst (fOp gEq (fCall m__law_part (fCons (fVar 1) (fCons (fTup (fCons (fSl (fVar 2) (fPart (fC (.int 1))) fNoPart) (fCons (fOp gIx (fVar 3) (fC (.int 1))) fNil))) fNil))) (fC (.str "right")))) (fRet (fC (.bl false))) fSkip) (fSeq (fIfS (fTst (fOp gNe (fCall m__law_part (fCons (fVar 1) (fCons (fTup (fCons (fUn (gRev true) (fVar 2)) (fCons (fOp gIx (fVar 3) (fC (.int 1))) fNil))) fNil))) (fC (.int 0)))) (fRet (fC (.bl false))) fSkip) (fSeq (fIfS (fTst (fOp gNe (fCall m__law_part (fCons (fVar 1) (fCons (fTup (fCons (fVar 2) (fCons (fOp gCat (fOp gIx (fVar 3) (fC (.int 1))) (fSl (fOp gIx (fVar 3) (fC (.int 1))) fNoPart (fPart (fC (.int 1))))) fNil))) fNil))) (fOp nAdd (fCB gLen (fCons (fVar 1) fNil)) (fC (.int 1))))) (fRet (fC (.bl false))) fSkip) (fRet (fC (.bl true)))))))))))
theorem dv__law_paper {T : TPr} {w : World} {K : PySem.W.Frag} {mg : Str → Option Value} {base : Heap} (Z : Txt K mg)  (C__law_roll : Cal T PP w K mg base 1 "_law_roll" 2 m__law_roll) (C_hull_paper : Cal T PP w K mg base 6 "hull_paper" 1 (lift m_hull_paper)) (C__law_part : Cal T PP w K mg base 6 "_law_part" 2 (lift m__law_part)) {f : Addr} (cdv : Value) (A : Around) (outer : List Env) (s : Shared) (H : Hp) (E : XK) (hr : Room 6 (A.deeper (envOfC "_law_paper" (defScope st__law_paper) s.heap.objs.size f cdv))) :
    PSs (cxOf (L2.CX PP w) PP w K mg base N__law_paper "_law_paper" (defScope st__law_paper) f cdv A outer s H E) (defBody st__law_paper) (tS T mg (fun cls d _ H => E cls d H) (g__law_paper )) := by
  have nd := sc__law_paper.nd
  have B : Bd (cxOf (L2.CX PP w) PP w K mg base N__law_paper "_law_paper" (defScope st__law_paper) f cdv A outer s H E) (fun cls d _ H => E cls d H) 6 := ⟨takes_of rfl rfl rfl rfl, hr⟩
  exact (s_cons (s_set 3 nd (e_call B (C_hull_paper.mono (by decide)) m_hull_paper_len rfl (a_cons (e_var 1) a_nil))) (s_cons (s_if (L2.PW.pt (w_or (t_cmp (op_neD B.hu) od_ne (e_call B (C__law_part.mono (by decide)) m__law_part_len rfl (a_cons (e_var 1) (a_cons (e_var 3) a_nil))) e_str) (w_or1 (t_cmp (op_neD B.hu) od_ne (e_ix (e_var 3) e_int) (e_var 2))))) (s_one (s_ret e_bl)) s_nil) (s_cons (s_set 4 nd (e_callM B (C__law_roll.mono (by decide)) m__law_roll_len rfl (a_cons (e_var 0) (a_cons (e_cb call_len_seq cd_len rfl Z.z_len boot_len (a_cons (e_var 1) a_nil)) a_nil)))) (s_cons (s_if (t_cmp (op_neD B.hu) od_ne (e_call B (C__law_part.mono (by decide)) m__law_part_len rfl (a_cons (e_var 1) (a_cons (e_tup (a_cons (e_var 2) (a_cons (e_sl (e_ix (e_var 3) e_int) o_no (o_some (e_var 4))) a_nil))) a_nil))) (e_op op_add od_add (e_var 4) e_int)) (s_one (s_ret e_bl)) s_nil) (s_cons (s_if (t_cmp (op_neD B.hu) od_ne (e_call B (C__law_part.mono (by decide)) m__law_part_len rfl (a_cons (e_var 1) (a_cons (e_tup (a_cons (e_var 2) (a_cons (e_op op_catA od_catT (e_op op_catA od_catT (e_sl (e_ix (e_var 3) e_int) o_no (o_some (e_var 4))) (e_tup (a_cons (e_tup (a_cons e_int (a_cons e_int a_nil))) a_nil))) (e_sl (e_ix (e_var 3) e_int) (o_some (e_op op_add od_add (e_var 4) e_int)) o_no)) a_nil))) a_nil))) (e_op op_add od_add (e_var 4) e_int)) (s_one (s_ret e_bl)) s_nil) (s_cons (s_if (t_cmp (op_eqD B.hu) od_eq (e_call B (C__law_part.mono (by decide)) m__law_part_len rfl (a_cons (e_var 1) (a_cons (e_tup (a_cons (e_sl (e_var 2) (o_some e_int) o_no) (a_cons (e_ix (e_var 3) e_int) a_nil))) a_nil))) e_str) (s_one (s_ret e_bl)) s_nil) (s_cons (s_if (t_cmp (op_neD B.hu) od_ne (e_call B (C__law_part.mono (by decide)) m__law_part_len rfl (a_cons (e_var 1) (a_cons (e_tup (a_cons (e_tupRev rfl rfl Z.z_tuple rfl Z.z_reversed (e_var 2)) (a_cons (e_ix (e_var 3) e_int) a_nil))) a_nil))) e_int) (s_one (s_ret e_bl)) s_nil) (s_cons (s_if (t_cmp (op_neD B.hu) od_ne (e_call B (C__law_part.mono (by decide)) m__law_part_len rfl (a_cons (e_var 1) (a_cons (e_tup (a_cons (e_var 2) (a_cons (e_op op_catA od_catT (e_ix (e_var 3) e_int) (e_sl (e_ix (e_var 3) e_int) o_no (o_some e_int))) a_nil))) a_nil))) (e_op op_add od_add (e_cb call_len_seq cd_len rfl Z.z_len boot_len (a_cons (e_var 1) a_nil)) e_int)) (s_one (s_ret e_bl)) s_nil) (s_one (s_ret e_bl))))))))))
def m__law_paper : List D → Cells → R D := autM 3 N__law_paper (g__law_paper )
theorem m__law_paper_len : ∀ ds M, m__law_paper ds M ≠ .no → ds.length = 3 := autM_len
/-! ### _law_turn -/
abbrev st__law_turn : Stmt := topS 35
abbrev N__law_turn : List Str := ["a", "b", "c"]
theorem sc__law_turn : FnScope N__law_turn ["a", "b", "c"] (defScope st__law_turn) := ⟨rfl, rfl, rfl, by decide +kernel, rfl, by decide +kernel, by decide +kernel⟩
def g__law_turn  : Sx → RS := (fRet (fOp nSub (fOp nMul (fOp nSub (fOp gIx (fVar 1) (fC (.int 0))) (fOp gIx (fVar 0) (fC (.int 0)))) (fOp nSub (fOp gIx (fVar 2) (fC (.int 1))) (fOp gIx (fVar 0) (fC (.int 1))))) (fOp nMul (fOp nSub (fOp gIx (fVar 1) (fC (.int 1))) (fOp gIx (fVar 0) (fC (.int 1)))) (fOp nSub (fOp gIx (fVar 2) (fC (.int 0))) (fOp gIx (fVar 0) (fC (.int 0)))))))
theorem dv__law_turn {T : TPr} {w : World} {K : PySem.W.Frag} {mg : Str → Option Value} {base : Heap} (Z : Txt K mg)   {f : Addr} (cdv : Value) (A : Around) (outer : List Env) (s : Shared) (H : Hp) (E : XK) (hr : Room 0 (A.deeper (envOfC "_law_turn" (defScope st__law_turn) s.heap.objs.size f cdv))) :
    PSs (cxOf (L2.CX PP w) PP w K mg base N__law_turn "_law_turn" (defScope st__law_turn) f cdv A outer s H E) (defBody st__law_turn) (tS T mg (fun cls d _ H => E cls d H) (g__law_turn )) := by
  have nd := sc__law_turn.nd
  have B : Bd (cxOf (L2.CX PP w) PP w K mg base N__law_turn "_law_turn" (defScope st__law_turn) f cdv A outer s H E) (fun cls d _ H => E cls d H) 0 := ⟨takes_of rfl rfl rfl rfl, hr⟩
  exact (s_one (s_ret (e_op op_sub od_sub (e_op op_mul od_mul (e_op op_sub od_sub (e_ix (e_var 1) e_int) (e_ix (e_var 0) e_int)) (e_op op_sub od_sub (e_ix (e_var 2) e_int) (e_ix (e_var 0) e_int))) (e_op op_mul od_mul (e_op op_sub od_sub (e_ix (e_var 1) e_int) (e_ix (e_var 0) e_int)) (e_op op_sub od_sub (e_ix (e_var 2) e_int) (e_ix (e_var 0) e_int))))))
def m__law_turn : List D → Pu := aut 3 N__law_turn (g__law_turn )
theorem m__law_turn_len : ∀ ds, m__law_turn ds ≠ .no → ds.length = 3 := aut_len
/-! ### size -/
abbrev st_size : Stmt := topS 22
abbrev N_size : List Str := ["corners", "many", "k"]
theorem sc_size : FnScope N_size ["corners"] (defScope st_size) := ⟨rfl, rfl, rfl, by decide +kernel, rfl, by decide +kernel, by decide +kernel⟩
def g_size  : Sx → RS := (fSeq (fAsg (fCB gLen (fCons (fVar 0) fNil)) (bName 1)) (fRet (fSum (fIts asRg1 (fCons (fVar 1) fNil)) (bName 2) fTrue (fCall m_cross (fCons (fOp gIx (fVar 0) (fVar 2)) (fCons (fOp gIx (fVar 0) (fOp nMod (fOp nAdd (fVar 2) (fC (.int 1))) (fVar 1))) fNil))) [2])))
theorem dv_size {f c Tb : Addr} {TL : List (Addr × Str)} {w : World} {K : PySem.W.Frag} {mg : Str → Option Value} {base : Heap} (Z : Txt K mg)  (C_cross : Cal (tabT TL) PP w K mg base 1 "cross" 2 (lift m_cross)) (TB : LamX.TabB base mg c Tb) (hTm : ((Tb, "size.<locals>.<genexpr>") : Addr × Str) ∈ TL) (hTu : ∀ p ∈ TL, p.1 = Tb → p.2 = "size.<locals>.<genexpr>") (A : Around) (outer : List Env) (s : Shared) (H : Hp) (E : XK) (hr : Room 2 (A.deeper (envOfC "size" (defScope st_size) s.heap.objs.size f (.ref c)))) :
    PSs (cxOf (L2.CX PP w) PP w K mg base N_size "size" (defScope st_size) f (.ref c) A outer s H E) (defBody st_size) (tS (tabT TL) mg (fun cls d _ H => E cls d H) (g_size )) := by
  have nd := sc_size.nd
  have B : Bd (cxOf (L2.CX PP w) PP w K mg base N_size "size" (defScope st_size) f (.ref c) A outer s H E) (fun cls d _ H => E cls d H) 2 := ⟨takes_of rfl rfl rfl rfl, hr⟩
  exact (s_cons (s_set 1 nd (e_cb call_len_seq cd_len rfl Z.z_len boot_len (a_cons (e_var 0) a_nil))) (s_one (s_ret (e_sum B (c := c) (P := Tb) (own := [("k", 2)]) ⟨nd, (i_rg1 rfl Z.z_range (a_cons (e_var 1) a_nil)), gxOk_by (N := N_size) (sc := defScope st_size) (by decide +kernel), TB, rfl, hTm, hTu, fun _ => rfl, fun _ _ _ _ _ => (g_name 2 nd), fun _ _ _ _ _ => ts_nil, fun _ _ _ _ _ => (e_call (B.gx _ _ _ _) (C_cross.mono (by decide)) m_cross_len rfl (a_cons (e_ix (e_var 0) (e_var 2)) (a_cons (e_ix (e_var 0) (e_op op_mod od_mod (e_op op_add od_add (e_var 2) e_int) (e_var 1))) a_nil)))⟩ rfl Z.z_sum))))
def m_size : List D → Pu := aut 1 N_size (g_size )
theorem m_size_len : ∀ ds, m_size ds ≠ .no → ds.length = 1 := aut_len
/-! ### side -/
abbrev st_side : Stmt := topS 13
abbrev N_side : List Str := ["a", "b", "c", "found"]
theorem sc_side : FnScope N_side ["a", "b", "c"] (defScope st_side) := ⟨rfl, rfl, rfl, by decide +kernel, rfl, by decide +kernel, by decide +kernel⟩
def g_side  : Sx → RS := (fSeq (fAsg (fCall m_turn (fCons (fVar 0) (fCons (fVar 1) (fCons (fVar 2) fNil)))) (bName 3)) (fRet (fOp nSubB (fOp nGt (fVar 3) (fC (.int 0))) (fOp nLt (fVar 3) (fC (.int 0))))))
theorem dv_side {T : TPr} {w : World} {K : PySem.W.Frag} {mg : Str → Option Value} {base : Heap} (Z : Txt K mg)  (C_turn : Cal T PP w K mg base 2 "turn" 3 (lift m_turn)) {f : Addr} (cdv : Value) (A : Around) (outer : List Env) (s : Shared) (H : Hp) (E : XK) (hr : Room 2 (A.deeper (envOfC "side" (defScope st_side) s.heap.objs.size f cdv))) :
    PSs (cxOf (L2.CX PP w) PP w K mg base N_side "side" (defScope st_side) f cdv A outer s H E) (defBody st_side) (tS T mg (fun cls d _ H => E cls d H) (g_side )) := by
  have nd := sc_side.nd
  have B : Bd (cxOf (L2.CX PP w) PP w K mg base N_side "side" (defScope st_side) f cdv A outer s H E) (fun cls d _ H => E cls d H) 2 := ⟨takes_of rfl rfl rfl rfl, hr⟩
  exact (s_cons (s_set 3 nd (e_call B (C_turn.mono (by decide)) m_turn_len rfl (a_cons (e_var 0) (a_cons (e_var 1) (a_cons (e_var 2) a_nil))))) (s_one (s_ret (e_op op_subB od_subB (e_cmp op_gt od_gt (e_var 3) e_int) (e_cmp op_lt od_lt (e_var 3) e_int)))))
def m_side : List D → Pu := aut 3 N_side (g_side )
theorem m_side_len : ∀ ds, m_side ds ≠ .no → ds.length = 3 := aut_len
/-! ### place -/
abbrev st_place : Stmt := topS 20
abbrev N_place : List Str := ["corners", "point", "many", "sides", "k"]
theorem sc_place : FnScope N_place ["corners", "point"] (defScope st_place) := ⟨rfl, rfl, rfl, by decide +kernel, rfl, by decide +kernel, by decide +kernel⟩
def g_place  : Sx → RS := (fSeq (fAsg (fCB gLen (fCons (fVar 0) fNil)) (bName 2)) (fSeq (fAsg (fFz (fLc (fIts asRg1 (fCons (fVar 2) fNil)) (bName 4) fTrue (fCall m_side (fCons (fOp gIx (fVar 0) (fVar 4)) (fCons (fOp gIx (fVar 0) (fOp nMod (fOp nAdd (fVar 4) (fC (.int 1))) (fVar 2))) (fCons (fVar 1) fNil)))) [4])) (bName 3)) (fRet (fCB (gBest true) (fCons (fVar 3) fNil)))))
theorem dv_place {T : TPr} {w : World} {K : PySem.W.Frag} {mg : Str → Option Value} {base : Heap} (Z : Txt K mg)  (C_side : Cal T PP w K mg base 3 "side" 3 (lift m_side)) {f : Addr} (cdv : Value) (A : Around) (outer : List Env) (s : Shared) (H : Hp) (E : XK) (hr : Room 3 (A.deeper (envOfC "place" (defScope st_place) s.heap.objs.size f cdv))) :
    PSs (cxOf (L2.CX PP w) PP w K mg base N_place "place" (defScope st_place) f cdv A outer s H E) (defBody st_place) (tS T mg (fun cls d _ H => E cls d H) (g_place )) := by
  have nd := sc_place.nd
  have B : Bd (cxOf (L2.CX PP w) PP w K mg base N_place "place" (defScope st_place) f cdv A outer s H E) (fun cls d _ H => E cls d H) 3 := ⟨takes_of rfl rfl rfl rfl, hr⟩
  exact (s_cons (s_set 2 nd (e_cb call_len_seq cd_len rfl Z.z_len boot_len (a_cons (e_var 0) a_nil))) (s_cons (s_setLc 3 (own := [("k", 4)]) rfl nd (i_rg1 rfl Z.z_range (a_cons (e_var 2) a_nil)) (blkOk_by (N := N_place) (sc := defScope st_place) (by decide +kernel)) (fun _ _ _ _ _ => (g_name 4 nd)) (fun _ _ _ _ _ => ts_nil) (fun _ _ _ _ _ => (e_call B.blk (C_side.mono (by decide)) m_side_len rfl (a_cons (e_ix (e_var 0) (e_var 4)) (a_cons (e_ix (e_var 0) (e_op op_mod od_mod (e_op op_add od_add (e_var 4) e_int) (e_var 2))) (a_cons (e_var 1) a_nil)))))) (s_one (s_ret (e_cb (cr_min rfl B.hu) cd_best rfl Z.z_min boot_min (a_cons (e_var 3) a_nil))))))
def m_place : List D → Pu := aut 2 N_place (g_place )
theorem m_place_len : ∀ ds, m_place ds ≠ .no → ds.length = 2 := aut_len
/-! ### _law_place -/
abbrev st__law_place : Stmt := topS 37
abbrev N__law_place : List Str := ["corners", "point", "many", "sides", "k"]
theorem sc__law_place : FnScope N__law_place ["corners", "point"] (defScope st__law_place) := ⟨rfl, rfl, rfl, by decide +kernel, rfl, by decide +kernel, by decide +kernel⟩
def g__law_place  : Sx → RS := (fSeq (fAsg (fCB gLen (fCons (fVar 0) fNil)) (bName 2)) (fSeq (fAsg (fFz (fLc (fIts asRg1 (fCons (fVar 2) fNil)) (bName 4) fTrue (fCall m__law_turn (fCons (fOp gIx (fVar 0) (fVar 4)) (fCons (fOp gIx (fVar 0) (fOp nMod (fOp nAdd (fVar 4) (fC (.int 1))) (fVar 2))) (fCons (fVar 1) fNil)))) [4])) (bName 3)) (fRet (fOp nSubB (fOp nGt (fCB (gBest true) (fCons (fVar 3) fNil)) (fC (.int 0))) (fOp nLt (fCB (gBest true) (fCons (fVar 3) fNil)) (fC (.int 0)))))))
theorem dv__law_place {T : TPr} {w : World} {K : PySem.W.Frag} {mg : Str → Option Value} {base : Heap} (Z : Txt K mg)  (C__law_turn : Cal T PP w K mg base 1 "_law_turn" 3 (lift m__law_turn)) {f : Addr} (cdv : Value) (A : Around) (outer : List Env) (s : Shared) (H : Hp) (E : XK) (hr : Room 1 (A.deeper (envOfC "_law_place" (defScope st__law_place) s.heap.objs.size f cdv))) :
    PSs (cxOf (L2.CX PP w) PP w K mg base N__law_place "_law_place" (defScope st__law_place) f cdv A outer s H E) (defBody st__law_place) (tS T mg (fun cls d _ H => E cls d H) (g__law_place )) := by
  have nd := sc__law_place.nd
  have B : Bd (cxOf (L2.CX PP w) PP w K mg base N__law_place "_law_place" (defScope st__law_place) f cdv A outer s H E) (fun cls d _ H => E cls d H) 1 := ⟨takes_of rfl rfl rfl rfl, hr⟩
  exact (s_cons (s_set 2 nd (e_cb call_len_seq cd_len rfl Z.z_len boot_len (a_cons (e_var 0) a_nil))) (s_cons (s_setLc 3 (own := [("k", 4)]) rfl nd (i_rg1 rfl Z.z_range (a_cons (e_var 2) a_nil)) (blkOk_by (N := N__law_place) (sc := defScope st__law_place) (by decide +kernel)) (fun _ _ _ _ _ => (g_name 4 nd)) (fun _ _ _ _ _ => ts_nil) (fun _ _ _ _ _ => (e_call B.blk (C__law_turn.mono (by decide)) m__law_turn_len rfl (a_cons (e_ix (e_var 0) (e_var 4)) (a_cons (e_ix (e_var 0) (e_op op_mod od_mod (e_op op_add od_add (e_var 4) e_int) (e_var 2))) (a_cons (e_var 1) a_nil)))))) (s_one (s_ret (e_op op_subB od_subB (e_cmp op_gt od_gt (e_cb (cr_min rfl B.hu) cd_best rfl Z.z_min boot_min (a_cons (e_var 3) a_nil)) e_int) (e_cmp op_lt od_lt (e_cb (cr_min rfl B.hu) cd_best rfl Z.z_min boot_min (a_cons (e_var 3) a_nil)) e_int))))))
def m__law_place : List D → Pu := aut 2 N__law_place (g__law_place )
theorem m__law_place_len : ∀ ds, m__law_place ds ≠ .no → ds.length = 2 := aut_len
/-! ### quick_place -/
abbrev st_quick_place : Stmt := topS 21
abbrev N_quick_place : List Str := ["corners", "point", "first", "last", "low", "high", "middle", "found"]
theorem sc_quick_place : FnScope N_quick_place ["corners", "point"] (defScope st_quick_place) := ⟨rfl, rfl, rfl, by decide +kernel, rfl, by decide +kernel, by decide +kernel⟩
def g_quick_place (n1 : Nat) : Sx → RS := (fSeq (fPar 2 3 (fCons (fCall m_side (fCons (fOp gIx (fVar 0) (fC (.int 0))) (fCons (fOp gIx (fVar 0) (fC (.int 1))) (fCons (fVar 1) fNil)))) (fCons (fCall m_side (fCons (fOp gIx (fVar 0) (fC (.int 0))) (fCons (fOp gIx (fVar 0) (fUn nNeg (fC (.int 1)))) (fCons (fVar 1) fNil)))) fNil))) (fSeq (fIfS (fTst (fOp gEq (fVar 1) (fOp gIx (fVar 0) (fC (.int 0))))) (fRet (fC (.int 0))) fSkip) (fSeq (fIfS (fOr (fTst (fOp nLt (fVar 2) (fC (.int 0)))) (fTst (fOp nGt (fVar 3) (fC (.int 0))))) (fRet (fUn nNeg (fC (.int 1)))) fSkip) (fSeq (fPar 4 5 (fCons (fC (.int 1)) (fCons (fOp nSub (fCB gLen (fCons (fVar 0) fNil)) (fC (.int 1))) fNil))) (fSeq (fWhile (fTst (fOp nGt (fOp nSub (fVar 5) (fVar 4)) (fC (.int 1)))) (fSeq (fAsg (fOp nDiv (fOp nAdd (fVar 4) (fVar 5)) (fC (.int 2))) (bName 6)) (fIfS (fTst (fOp nGe (fCall m_side (fCons (fOp gIx (fVar 0) (fC (.int 0))) (fCons (fOp gIx (fVar 0) (fVar 6)) (fCons (fVar 1) fNil)))) (fC (.int 0)))) (fAsg (fVar 6) (bName 4)) (fAsg (fVar 6) (bName 5)))) n1) (fSeq (fAsg (fCall m_side (fCons (fOp gIx (fVar 0) (fVar 4)) (fCons (fOp gIx (fVar 0) (fOp nAdd (fVar 4) (fC (.int 1)))) (fCons (fVar 1) fNil)))) (bName 7)) (fRet (fIf (fAnd (fTst (fOp nGt (fVar 7) (fC (.int 0)))) (fOr (fTst (fOp gEq (fVar 2) (fC (.int 0)))) (fTst (fOp gEq (fVar 3) (fC (.int 0)))))) (fC (.int 0)) (fVar 7)))))))))
theorem dv_quick_place {T : TPr} {w : World} {K : PySem.W.Frag} {mg : Str → Option Value} {base : Heap} (Z : Txt K mg) (n1 : Nat) (C_side : Cal T PP w K mg base 3 "side" 3 (lift m_side)) {f : Addr} (cdv : Value) (A : Around) (outer : List Env) (s : Shared) (H : Hp) (E : XK) (hr : Room 3 (A.deeper (envOfC "quick_place" (defScope st_quick_place) s.heap.objs.size f cdv))) :
    PSs (cxOf (L2.CX PP w) PP w K mg base N_quick_place "quick_place" (defScope st_quick_place) f cdv A outer s H E) (defBody st_quick_place) (tS T mg (fun cls d _ H => E cls d H) (g_quick_place n1)) := by
  have nd := sc_quick_place.nd
  have B : Bd (cxOf (L2.CX PP w) PP w K mg base N_quick_place "quick_place" (defScope st_quick_place) f cdv A outer s H E) (fun cls d _ H => E cls d H) 3 := ⟨takes_of rfl rfl rfl rfl, hr⟩
  exact (s_cons (s_par 2 3 rfl nd (a_cons (e_call B (C_side.mono (by decide)) m_side_len rfl (a_cons (e_ix (e_var 0) e_int) (a_cons (e_ix (e_var 0) e_int) (a_cons (e_var 1) a_nil)))) (a_cons (e_call B (C_side.mono (by decide)) m_side_len rfl (a_cons (e_ix (e_var 0) e_int) (a_cons (e_ix (e_var 0) (e_un un_neg ud_neg e_int)) (a_cons (e_var 1) a_nil)))) a_nil))) (s_cons (s_if (t_cmp (op_eqD B.hu) od_eq (e_var 1) (e_ix (e_var 0) e_int)) (s_one (s_ret e_int)) s_nil) (s_cons (s_if (L2.PW.pt (w_or (t_cmp op_lt od_lt (e_var 2) e_int) (w_or1 (t_cmp op_gt od_gt (e_var 3) e_int)))) (s_one (s_ret (e_un un_neg ud_neg e_int))) s_nil) (s_cons (s_par 4 5 rfl nd (a_cons e_int (a_cons (e_op op_sub od_sub (e_cb call_len_seq cd_len rfl Z.z_len boot_len (a_cons (e_var 0) a_nil)) e_int) a_nil))) (s_cons (s_while n1 (passes_of rfl) (t_cmp op_gt od_gt (e_op op_sub od_sub (e_var 5) (e_var 4)) e_int) (s_cons (s_set 6 nd (e_op op_fdiv od_div (e_op op_add od_add (e_var 4) (e_var 5)) e_int)) (s_one (s_if (t_cmp op_ge od_ge (e_call B (C_side.mono (by decide)) m_side_len rfl (a_cons (e_ix (e_var 0) e_int) (a_cons (e_ix (e_var 0) (e_var 6)) (a_cons (e_var 1) a_nil)))) e_int) (s_one (s_set 4 nd (e_var 6))) (s_one (s_set 5 nd (e_var 6))))))) (s_cons (s_set 7 nd (e_call B (C_side.mono (by decide)) m_side_len rfl (a_cons (e_ix (e_var 0) (e_var 4)) (a_cons (e_ix (e_var 0) (e_op op_add od_add (e_var 4) e_int)) (a_cons (e_var 1) a_nil))))) (s_one (s_ret (e_if (L2.PW.pt (w_and (t_cmp op_gt od_gt (e_var 7) e_int) (w_and1 (L2.PW.pt (w_or (t_cmp (op_eqD B.hu) od_eq (e_var 2) e_int) (w_or1 (t_cmp (op_eqD B.hu) od_eq (e_var 3) e_int))))))) e_int (e_var 7))))))))))
def m_quick_place : List D → Pu := autF 2 N_quick_place (fun n => g_quick_place n)
theorem m_quick_place_len : ∀ ds, m_quick_place ds ≠ .no → ds.length = 2 := autF_len
/-! ### law -/
abbrev st_law : Stmt := topS 39
abbrev N_law : List Str := ["script", "dice", "row", "corners", "alone", "k", "line", "c", "b", "a", "due", "one", "total", "point", "less_v", "rows", "layer"]
theorem sc_law : FnScope N_law ["script"] (defScope st_law) := ⟨rfl, rfl, rfl, by decide +kernel, rfl, by decide +kernel, by decide +kernel⟩
def g_law_1_1  : Sx → RS := (fAsg (fCallM m__law_points (fCons (fVar 1) (fCons (fC (.int 9)) (fCons (fOp nAdd (fC (.int 2)) (fCallM m__law_roll (fCons (fVar 1) (fCons (fC (.int 5)) fNil)))) fNil)))) (bName 2))
def g_law_1_2  : Sx → RS := (fAsg (fCall m_hull (fCons (fVar 2) fNil)) (bName 3))
def g_law_1_3  : Sx → RS := (fAsg (fFz (fLc (fIts asRg1 (fCons (fCB gLen (fCons (fVar 2) fNil)) fNil)) (bName 5) (fTst (fOp (gInA true) (fOp gIx (fVar 2) (fVar 5)) (fSl (fVar 2) fNoPart (fPart (fVar 5))))) (fOp gIx (fVar 2) (fVar 5)) [5])) (bName 4))
def g_law_1_4  : Sx → RS := (fAsg (fOp gEq (fCall m__law_flat (fCons (fFz (fLc (fIt asLst (fVar 4)) (bName 9) fTrue (fCall m__law_flat (fCons (fFz (fLc (fIt asLst (fVar 4)) (bName 8) fTrue (fFz (fLc (fIt asLst (fVar 4)) (bName 7) (fTst (fOp gNe (fCall m__law_turn (fCons (fVar 9) (fCons (fVar 8) (fCons (fVar 7) fNil)))) (fC (.int 0)))) (fC (.int 1)) [7])) [8])) fNil)) [9])) fNil)) (fLst fNil)) (bName 6))
def g_law_1_5_1  : Sx → RS := (fAsg (fCB gSorted (fCons (fVar 4) fNil)) (bName 10))
def g_law_1_5_2  : Sx → RS := (fIfS (fTst (fOp gNe (fVar 3) (fCB gTupOf (fCons (fOp gCatL (fSl (fVar 10) fNoPart (fPart (fC (.int 1)))) (fOp gRep (fSl (fVar 10) (fPart (fOp nSub (fCB gLen (fCons (fVar 10) fNil)) (fC (.int 1)))) fNoPart) (fCB gInt (fCons (fOp nGt (fCB gLen (fCons (fVar 10) fNil)) (fC (.int 1))) fNil)))) fNil)))) (fRet (fC (.bl false))) fSkip)
def g_law_1_5_3  : Sx → RS := (fIfS (fOr (fTst (fOp gNe (fTold hs__law_told (fCall m_hull_paper (fCons (fVar 2) fNil))) (fC (.str "no way")))) (fTst (fCall m_is_hull (fCons (fVar 3) fNil)))) (fRet (fC (.bl false))) fSkip)
def g_law_1_5e_1  : Sx → RS := (fDrop (fCall m_check_hull (fCons (fVar 3) fNil)))
def g_law_1_5e_2  : Sx → RS := (fIfS (fOr (fNot (fTst (fCall m_is_hull (fCons (fVar 3) fNil)))) (fTst (fOp gNe (fFz (fLc (fIt asTup (fVar 3)) (bName 11) (fTst (fOp (gInA true) (fVar 11) (fVar 2))) (fVar 11) [11])) (fLst fNil)))) (fRet (fC (.bl false))) fSkip)
def g_law_1_5e_3  : Sx → RS := (fIfS (fTst (fOp gNe (fFz (fLc (fIt asTup (fVar 2)) (bName 11) (fTst (fOp nLt (fCall m__law_place (fCons (fVar 3) (fCons (fVar 11) fNil))) (fC (.int 0)))) (fVar 11) [11])) (fLst fNil))) (fRet (fC (.bl false))) fSkip)
def g_law_1_5e_4  : Sx → RS := (fAsg (fCB gSumL (fCons (fFz (fLc (fIts asRg2 (fCons (fC (.int 1)) (fCons (fOp nSub (fCB gLen (fCons (fVar 3) fNil)) (fC (.int 1))) fNil))) (bName 5) fTrue (fCall m__law_turn (fCons (fOp gIx (fVar 3) (fC (.int 0))) (fCons (fOp gIx (fVar 3) (fVar 5)) (fCons (fOp gIx (fVar 3) (fOp nAdd (fVar 5) (fC (.int 1)))) fNil)))) [5])) fNil)) (bName 12))
def g_law_1_5e_5  : Sx → RS := (fIfS (fOr (fTst (fOp gNe (fCall m_size (fCons (fVar 3) fNil)) (fVar 12))) (fOr (fTst (fCall m_is_hull (fCons (fUn (gRev true) (fVar 3)) fNil))) (fTst (fCall m_is_hull (fCons (fOp gCat (fSl (fVar 3) (fPart (fC (.int 1))) fNoPart) (fSl (fVar 3) fNoPart (fPart (fC (.int 1))))) fNil))))) (fRet (fC (.bl false))) fSkip)
def g_law_1_5e_6_1  : Sx → RS := (fIfS (fTst (fOp gNe (fCall m_place (fCons (fVar 3) (fCons (fVar 13) fNil))) (fCall m__law_place (fCons (fVar 3) (fCons (fVar 13) fNil))))) (fRet (fC (.bl false))) fSkip)
def g_law_1_5e_6_2  : Sx → RS := (fIfS (fTst (fOp gNe (fCall m_quick_place (fCons (fVar 3) (fCons (fVar 13) fNil))) (fCall m__law_place (fCons (fVar 3) (fCons (fVar 13) fNil))))) (fRet (fC (.bl false))) fSkip)
def g_law_1_5e_6  : Sx → RS := (fFor (fIt asLst (fOp gCatL (fFz (fLc (fIts asRg1 (fCons (fC (.int 3)) fNil)) (bName 5) fTrue (fCallM m__law_point (fCons (fVar 1) (fCons (fC (.int 6)) fNil))) [5])) (fCB gListOf (fCons (fSl (fVar 2) fNoPart (fPart (fC (.int 2)))) fNil)))) (bName 13) (fSeq g_law_1_5e_6_1 g_law_1_5e_6_2))
def g_law_1_5e_7  : Sx → RS := (fIfS (fNot (fTst (fCallM m__law_paper (fCons (fVar 1) (fCons (fVar 2) (fCons (fVar 3) fNil)))))) (fRet (fC (.bl false))) fSkip)
def g_law_1_5e_8  : Sx → RS := (fAsg (fCB gTupOf (fCons (fFz (fLc (fIt asTup (fVar 2)) (bName 11) (fTst (fOp gNe (fVar 11) (fOp gIx (fVar 3) (fC (.int 0))))) (fVar 11) [11])) fNil)) (bName 14))
def g_law_1_5e_9  : Sx → RS := (fIfS (fAnd (fTst (fOp nGe (fCall m_place (fCons (fCall m_hull (fCons (fVar 14) fNil)) (fCons (fOp gIx (fVar 3) (fC (.int 0))) fNil))) (fC (.int 0)))) (fTst (fOp nGt (fCB gLen (fCons (fCall m_hull (fCons (fVar 14) fNil)) fNil)) (fC (.int 2))))) (fRet (fC (.bl false))) fSkip)
def g_law_1_5  : Sx → RS := (fIfS (fTst (fVar 6)) (fSeq g_law_1_5_1 (fSeq g_law_1_5_2 g_law_1_5_3)) (fSeq g_law_1_5e_1 (fSeq g_law_1_5e_2 (fSeq g_law_1_5e_3 (fSeq g_law_1_5e_4 (fSeq g_law_1_5e_5 (fSeq g_law_1_5e_6 (fSeq g_law_1_5e_7 (fSeq g_law_1_5e_8 g_law_1_5e_9)))))))))
def g_law_1_6  : Sx → RS := (fAsg (fCall m_layers (fCons (fVar 2) fNil)) (bName 15))
def g_law_1_7  : Sx → RS := (fIfS (fOr (fTst (fOp gNe (fCB gSorted (fCons (fCall m__law_flat (fCons (fFz (fLc (fIt asTup (fVar 15)) (bName 16) fTrue (fFz (fLc (fIt asTup (fVar 16)) (bName 11) fTrue (fVar 11) [11])) [16])) fNil)) fNil)) (fCB gSorted (fCons (fVar 4) fNil)))) (fTst (fOp gNe (fOp gIx (fVar 15) (fC (.int 0))) (fVar 3)))) (fRet (fC (.bl false))) fSkip)
def g_law_1_8  : Sx → RS := (fIfS (fTst (fOp gNe (fTold hs__law_told (fCall m_check_hull (fCons (fTup (fCons (fTup (fCons (fC (.int 0)) (fCons (fC (.int 0)) fNil))) (fCons (fTup (fCons (fC (.int 1)) (fCons (fC (.int 0)) fNil))) fNil))) fNil))) (fC (.str "point")))) (fRet (fC (.bl false))) fSkip)
def g_law_1_9  : Sx → RS := (fIfS (fOr (fTst (fOp gNe (fTold hs__law_told (fCall m_hull (fCons (fTup (fCons (fTup (fCons (fC (.int 0)) (fCons (fC (.int 0)) fNil))) (fCons (fC .non) fNil))) fNil))) (fC (.str "point")))) (fTst (fOp gNe (fCall m_hull (fCons (fTup fNil) fNil)) (fTup fNil)))) (fRet (fC (.bl false))) fSkip)
def g_law_1 (sk : Option (Addr × List Int)) : Sx → RS := (fFor (fIt asLst (fCallO (m__law_rounds sk) (fCons (fVar 0) (fCons (fC (.int 3)) fNil)))) (bName 1) (fSeq g_law_1_1 (fSeq g_law_1_2 (fSeq g_law_1_3 (fSeq g_law_1_4 (fSeq g_law_1_5 (fSeq g_law_1_6 (fSeq g_law_1_7 (fSeq g_law_1_8 g_law_1_9)))))))))
def g_law (sk : Option (Addr × List Int)) : Sx → RS := (fSeq (g_law_1 sk) (fRet (fC (.bl true))))
theorem dv_law {f c Tb gt : Addr} {TL : List (Addr × Str)} {fdt : FuncData} {cl : Str → Addr} {w : World} {K : PySem.W.Frag} {mg : Str → Option Value} {base : Heap} (Z : Txt K mg) (sk : Option (Addr × List Int)) (C__law_rounds : CalO (tabT TL) PP w K mg base 2 "_law_rounds" 2 (m__law_rounds sk)) (C__law_roll : Cal (tabT TL) PP w K mg base 1 "_law_roll" 2 m__law_roll) (C__law_point : Cal (tabT TL) PP w K mg base 2 "_law_point" 2 m__law_point) (C__law_points : Cal (tabT TL) PP w K mg base 3 "_law_points" 3 m__law_points) (C_hull : Cal (tabT TL) PP w K mg base 5 "hull" 1 (lift m_hull)) (C_layers : Cal (tabT TL) PP w K mg base 6 "layers" 1 (lift m_layers)) (C__law_flat : Cal (tabT TL) PP w K mg base 1 "_law_flat" 1 (lift m__law_flat)) (C_is_hull : Cal (tabT TL) PP w K mg base 4 "is_hull" 1 (lift m_is_hull)) (C_check_hull : Cal (tabT TL) PP w K mg base 5 "check_hull" 1 (lift m_check_hull)) (C_hull_paper : Cal (tabT TL) PP w K mg base 6 "hull_paper" 1 (lift m_hull_paper)) (C__law_paper : Cal (tabT TL) PP w K mg base 7 "_law_paper" 3 m__law_paper) (C__law_turn : Cal (tabT TL) PP w K mg base 1 "_law_turn" 3 (lift m__law_turn)) (C_size : Cal (tabT TL) PP w K mg base 3 "size" 1 (lift m_size)) (C_place : Cal (tabT TL) PP w K mg base 4 "place" 2 (lift m_place)) (C__law_place : Cal (tabT TL) PP w K mg base 2 "_law_place" 2 (lift m__law_place)) (C_quick_place : Cal (tabT TL) PP w K mg base 4 "quick_place" 2 (lift m_quick_place)) (hk : KSt K sk) (TB : LamX.TabB base mg c Tb) (hTm : ((Tb, "law.<locals>.<lambda>") : Addr × Str) ∈ TL) (hTu : ∀ p ∈ TL, p.1 = Tb → p.2 = "law.<locals>.<lambda>") (ZT : ToldF K mg hs__law_told cl) (FT : FunD K "_law_told" "_law_told" (defArgs st__law_told) (defBody st__law_told) (defScope st__law_told) [] [] gt fdt) (hmt : mg "_law_told" = some (.ref gt)) (bnt : Binds K fdt ["what"] []) (A0 : Around) (outer0 : List Env) (s0 : Shared) (H0 : Hp) (E0 : XK) (hr : Room 8 (A0.deeper (envOfC "law" (defScope st_law) s0.heap.objs.size f (.ref c)))) :
    PSs (cxOf (L2.CX PP w) PP w K mg base N_law "law" (defScope st_law) f (.ref c) A0 outer0 s0 H0 E0) (defBody st_law) (tS (tabT TL) mg (fun cls d _ H => E0 cls d H) (g_law sk)) := by
  have nd := sc_law.nd
  have B : Bd (cxOf (L2.CX PP w) PP w K mg base N_law "law" (defScope st_law) f (.ref c) A0 outer0 s0 H0 E0) (fun cls d _ H => E0 cls d H) 8 := ⟨takes_of rfl rfl rfl rfl, hr⟩
  exact (s_cons (s_for (ws := [1]) (passes_of rfl) rfl (i_lst (e_callO B (C__law_rounds.mono (by decide)) (m__law_rounds_len sk) rfl (a_cons (e_var 0) (a_cons e_int a_nil)))) (g_name 1 nd) (s_cons (s_set 2 nd (e_callM B (C__law_points.mono (by decide)) m__law_points_len rfl (a_cons (e_var 1) (a_cons e_int (a_cons (e_op op_add od_add e_int (e_callM B (C__law_roll.mono (by decide)) m__law_roll_len rfl (a_cons (e_var 1) (a_cons e_int a_nil)))) a_nil))))) (s_cons (s_set 3 nd (e_call B (C_hull.mono (by decide)) m_hull_len rfl (a_cons (e_var 2) a_nil))) (s_cons (s_set 4 nd (e_fz (f_lc (own := [("k", 5)]) rfl nd (i_rg1 rfl Z.z_range (a_cons (e_cb call_len_seq cd_len rfl Z.z_len boot_len (a_cons (e_var 2) a_nil)) a_nil)) (blkOk_by (N := N_law) (sc := defScope st_law) (by decide +kernel)) (fun _ _ _ _ _ => (g_name 5 nd)) (fun _ _ _ _ _ => (ts_one (t_cmp (op_notInA B.blk.hu5) od_inA (e_ix (e_var 2) (e_var 5)) (e_sl (e_var 2) o_no (o_some (e_var 5)))))) (fun _ _ _ _ _ => (e_ix (e_var 2) (e_var 5)))))) (s_cons (s_set 6 nd (e_cmp (op_eqD B.hu) od_eq (e_call B (C__law_flat.mono (by decide)) m__law_flat_len rfl (a_cons (e_fz (f_lc (own := [("a", 9)]) rfl nd (i_lst (e_var 4)) (blkOk_by (N := N_law) (sc := defScope st_law) (by decide +kernel)) (fun _ _ _ _ _ => (g_name 9 nd)) (fun _ _ _ _ _ => ts_nil) (fun _ _ _ _ _ => (e_call B.blk (C__law_flat.mono (by decide)) m__law_flat_len rfl (a_cons (e_fz (f_lc (own := [("b", 8)]) rfl nd (i_lst (e_var 4)) (blkOk_in (N := N_law) (sc0 := (defScope st_law)) rfl (by decide +kernel)) (fun _ _ _ _ _ => (g_name 8 nd)) (fun _ _ _ _ _ => ts_nil) (fun _ _ _ _ _ => (e_fz (f_lc (own := [("c", 7)]) rfl nd (i_lst (e_var 4)) (blkOk_in (N := N_law) (sc0 := (relS _ (defScope st_law))) rfl (by decide +kernel)) (fun _ _ _ _ _ => (g_name 7 nd)) (fun _ _ _ _ _ => (ts_one (t_cmp (op_neD B.blk.hu) od_ne (e_call B.blk (C__law_turn.mono (by decide)) m__law_turn_len rfl (a_cons (e_var 9) (a_cons (e_var 8) (a_cons (e_var 7) a_nil)))) e_int))) (fun _ _ _ _ _ => e_int)))))) a_nil))))) a_nil)) (e_lst a_nil))) (s_cons (s_if (t_val (e_var 6)) (s_cons (s_set 10 nd (e_cb (cr_sortedD B.hu) cd_sorted rfl Z.z_sorted boot_sorted (a_cons (e_var 4) a_nil))) (s_cons (s_if (t_cmp (op_neD B.hu) od_ne (e_var 3) (e_ct call_tuple_of cd_tupOf rfl Z.z_tuple boot_tuple (a_cons (e_op op_cat od_catL (e_sl (e_var 10) o_no (o_some e_int)) (e_op op_rep od_rep (e_sl (e_var 10) (o_some (e_op op_sub od_sub (e_cb call_len_seq cd_len rfl Z.z_len boot_len (a_cons (e_var 10) a_nil)) e_int)) o_no) (e_ct call_int1 cd_int rfl Z.z_int boot_int (a_cons (e_cmp op_gt od_gt (e_cb call_len_seq cd_len rfl Z.z_len boot_len (a_cons (e_var 10) a_nil)) e_int) a_nil)))) a_nil))) (s_one (s_ret e_bl)) s_nil) (s_one (s_if (L2.PW.pt (w_or (t_cmp (op_neD B.hu) od_ne (e_told B ZT FT hmt bnt sc__law_told (.inl rfl) (gv__law_told ZT) TB rfl hTm hTu rfl (fun A outer s H E f2 c2 hr => 
      have B : Bd (LamX.lamCx (cxOf (L2.CX PP w) PP w K mg base N_law "law" (defScope st_law) f (.ref c) A0 outer0 s0 H0 E0) A outer s H E _ f2 c2) (fun cls d _ H => E cls d H) 6 := ⟨takes_of rfl rfl rfl rfl, hr⟩
      (e_call B (C_hull_paper.mono (by decide)) m_hull_paper_len rfl (a_cons (e_var 2) a_nil))) (LamX.lamS_by (sc := defScope st_law) (by decide +kernel))) e_str) (w_or1 (t_val (e_call B (C_is_hull.mono (by decide)) m_is_hull_len rfl (a_cons (e_var 3) a_nil)))))) (s_one (s_ret e_bl)) s_nil)))) (s_cons (s_expr (e_call B (C_check_hull.mono (by decide)) m_check_hull_len rfl (a_cons (e_var 3) a_nil))) (s_cons (s_if (L2.PW.pt (w_or (t_not (t_val (e_call B (C_is_hull.mono (by decide)) m_is_hull_len rfl (a_cons (e_var 3) a_nil)))) (w_or1 (t_cmp (op_neD B.hu) od_ne (e_fz (f_lc (own := [("one", 11)]) rfl nd (i_tup (e_var 3)) (blkOk_by (N := N_law) (sc := defScope st_law) (by decide +kernel)) (fun _ _ _ _ _ => (g_name 11 nd)) (fun _ _ _ _ _ => (ts_one (t_cmp (op_notInA B.blk.hu5) od_inA (e_var 11) (e_var 2)))) (fun _ _ _ _ _ => (e_var 11)))) (e_lst a_nil))))) (s_one (s_ret e_bl)) s_nil) (s_cons (s_if (t_cmp (op_neD B.hu) od_ne (e_fz (f_lc (own := [("one", 11)]) rfl nd (i_tup (e_var 2)) (blkOk_by (N := N_law) (sc := defScope st_law) (by decide +kernel)) (fun _ _ _ _ _ => (g_name 11 nd)) (fun _ _ _ _ _ => (ts_one (t_cmp op_lt od_lt (e_call B.blk (C__law_place.mono (by decide)) m__law_place_len rfl (a_cons (e_var 3) (a_cons (e_var 11) a_nil))) e_int))) (fun _ _ _ _ _ => (e_var 11)))) (e_lst a_nil)) (s_one (s_ret e_bl)) s_nil) (s_cons (s_set 12 nd (e_cb (cr_sumI rfl) cd_sumL rfl Z.z_sum boot_sum (a_cons (e_fz (f_lc (own := [("k", 5)]) rfl nd (i_rg2 rfl Z.z_range (a_cons e_int (a_cons (e_op op_sub od_sub (e_cb call_len_seq cd_len rfl Z.z_len boot_len (a_cons (e_var 3) a_nil)) e_int) a_nil))) (blkOk_by (N := N_law) (sc := defScope st_law) (by decide +kernel)) (fun _ _ _ _ _ => (g_name 5 nd)) (fun _ _ _ _ _ => ts_nil) (fun _ _ _ _ _ => (e_call B.blk (C__law_turn.mono (by decide)) m__law_turn_len rfl (a_cons (e_ix (e_var 3) e_int) (a_cons (e_ix (e_var 3) (e_var 5)) (a_cons (e_ix (e_var 3) (e_op op_add od_add (e_var 5) e_int)) a_nil))))))) a_nil))) (s_cons (s_if (L2.PW.pt (w_or (t_cmp (op_neD B.hu) od_ne (e_call B (C_size.mono (by decide)) m_size_len rfl (a_cons (e_var 3) a_nil)) (e_var 12)) (w_or (t_val (e_call B (C_is_hull.mono (by decide)) m_is_hull_len rfl (a_cons (e_tupRev rfl rfl Z.z_tuple rfl Z.z_reversed (e_var 3)) a_nil))) (w_or1 (t_val (e_call B (C_is_hull.mono (by decide)) m_is_hull_len rfl (a_cons (e_op op_catA od_catT (e_sl (e_var 3) (o_some e_int) o_no) (e_sl (e_var 3) o_no (o_some e_int))) a_nil))))))) (s_one (s_ret e_bl)) s_nil) (s_cons (s_for (ws := [13]) (passes_of rfl) rfl (i_lst (e_op op_cat od_catL (e_fz (f_lc (own := [("k", 5)]) rfl nd (i_rg1 rfl Z.z_range (a_cons e_int a_nil)) (blkOk_by (N := N_law) (sc := defScope st_law) (by decide +kernel)) (fun _ _ _ _ _ => (g_name 5 nd)) (fun _ _ _ _ _ => ts_nil) (fun _ _ _ _ _ => (e_callM B.blk (C__law_point.mono (by decide)) m__law_point_len rfl (a_cons (e_var 1) (a_cons e_int a_nil)))))) (e_ct call_list_of cd_listOf rfl Z.z_list boot_list (a_cons (e_sl (e_var 2) o_no (o_some e_int)) a_nil)))) (g_name 13 nd) (s_cons (s_if (t_cmp (op_neD B.hu) od_ne (e_call B (C_place.mono (by decide)) m_place_len rfl (a_cons (e_var 3) (a_cons (e_var 13) a_nil))) (e_call B (C__law_place.mono (by decide)) m__law_place_len rfl (a_cons (e_var 3) (a_cons (e_var 13) a_nil)))) (s_one (s_ret e_bl)) s_nil) (s_one (s_if (t_cmp (op_neD B.hu) od_ne (e_call B (C_quick_place.mono (by decide)) m_quick_place_len rfl (a_cons (e_var 3) (a_cons (e_var 13) a_nil))) (e_call B (C__law_place.mono (by decide)) m__law_place_len rfl (a_cons (e_var 3) (a_cons (e_var 13) a_nil)))) (s_one (s_ret e_bl)) s_nil)))) (s_cons (s_if (t_not (t_val (e_callM B (C__law_paper.mono (by decide)) m__law_paper_len rfl (a_cons (e_var 1) (a_cons (e_var 2) (a_cons (e_var 3) a_nil)))))) (s_one (s_ret e_bl)) s_nil) (s_cons (s_set 14 nd (e_ct call_tuple_of cd_tupOf rfl Z.z_tuple boot_tuple (a_cons (e_fz (f_lc (own := [("one", 11)]) rfl nd (i_tup (e_var 2)) (blkOk_by (N := N_law) (sc := defScope st_law) (by decide +kernel)) (fun _ _ _ _ _ => (g_name 11 nd)) (fun _ _ _ _ _ => (ts_one (t_cmp (op_neD B.blk.hu) od_ne (e_var 11) (e_ix (e_var 3) e_int)))) (fun _ _ _ _ _ => (e_var 11)))) a_nil))) (s_one (s_if (L2.PW.pt (w_and (t_cmp op_ge od_ge (e_call B (C_place.mono (by decide)) m_place_len rfl (a_cons (e_call B (C_hull.mono (by decide)) m_hull_len rfl (a_cons (e_var 14) a_nil)) (a_cons (e_ix (e_var 3) e_int) a_nil))) e_int) (w_and1 (t_cmp op_gt od_gt (e_cb call_len_seq cd_len rfl Z.z_len boot_len (a_cons (e_call B (C_hull.mono (by decide)) m_hull_len rfl (a_cons (e_var 14) a_nil)) a_nil)) e_int)))) (s_one (s_ret e_bl)) s_nil))))))))))) (s_cons (s_set 15 nd (e_call B (C_layers.mono (by decide)) m_layers_len rfl (a_cons (e_var 2) a_nil))) (s_cons (s_if (L2.PW.pt (w_or (t_cmp (op_neD B.hu) od_ne (e_cb (cr_sortedD B.hu) cd_sorted rfl Z.z_sorted boot_sorted (a_cons (e_call B (C__law_flat.mono (by decide)) m__law_flat_len rfl (a_cons (e_fz (f_lc (own := [("layer", 16)]) rfl nd (i_tup (e_var 15)) (blkOk_by (N := N_law) (sc := defScope st_law) (by decide +kernel)) (fun _ _ _ _ _ => (g_name 16 nd)) (fun _ _ _ _ _ => ts_nil) (fun _ _ _ _ _ => (e_fz (f_lc (own := [("one", 11)]) rfl nd (i_tup (e_var 16)) (blkOk_in (N := N_law) (sc0 := (defScope st_law)) rfl (by decide +kernel)) (fun _ _ _ _ _ => (g_name 11 nd)) (fun _ _ _ _ _ => ts_nil) (fun _ _ _ _ _ => (e_var 11))))))) a_nil)) a_nil)) (e_cb (cr_sortedD B.hu) cd_sorted rfl Z.z_sorted boot_sorted (a_cons (e_var 4) a_nil))) (w_or1 (t_cmp (op_neD B.hu) od_ne (e_ix (e_var 15) e_int) (e_var 3))))) (s_one (s_ret e_bl)) s_nil) (s_cons (s_if (t_cmp (op_neD B.hu) od_ne (e_told B ZT FT hmt bnt sc__law_told (.inl rfl) (gv__law_told ZT) TB rfl hTm hTu rfl (fun A outer s H E f2 c2 hr => 
      have B : Bd (LamX.lamCx (cxOf (L2.CX PP w) PP w K mg base N_law "law" (defScope st_law) f (.ref c) A0 outer0 s0 H0 E0) A outer s H E _ f2 c2) (fun cls d _ H => E cls d H) 6 := ⟨takes_of rfl rfl rfl rfl, hr⟩
      (e_call B (C_check_hull.mono (by decide)) m_check_hull_len rfl (a_cons (e_tup (a_cons (e_tup (a_cons e_int (a_cons e_int a_nil))) (a_cons (e_tup (a_cons e_int (a_cons e_int a_nil))) a_nil))) a_nil))) (LamX.lamS_by (sc := defScope st_law) (by decide +kernel))) e_str) (s_one (s_ret e_bl)) s_nil) (s_one (s_if (L2.PW.pt (w_or (t_cmp (op_neD B.hu) od_ne (e_told B ZT FT hmt bnt sc__law_told (.inl rfl) (gv__law_told ZT) TB rfl hTm hTu rfl (fun A outer s H E f2 c2 hr => 
      have B : Bd (LamX.lamCx (cxOf (L2.CX PP w) PP w K mg base N_law "law" (defScope st_law) f (.ref c) A0 outer0 s0 H0 E0) A outer s H E _ f2 c2) (fun cls d _ H => E cls d H) 6 := ⟨takes_of rfl rfl rfl rfl, hr⟩
      (e_call B (C_hull.mono (by decide)) m_hull_len rfl (a_cons (e_tup (a_cons (e_tup (a_cons e_int (a_cons e_int a_nil))) (a_cons e_non a_nil))) a_nil))) (LamX.lamS_by (sc := defScope st_law) (by decide +kernel))) e_str) (w_or1 (t_cmp (op_neD B.hu) od_ne (e_call B (C_hull.mono (by decide)) m_hull_len rfl (a_cons (e_tup a_nil) a_nil)) (e_tup a_nil))))) (s_one (s_ret e_bl)) s_nil))))))))))) (s_one (s_ret e_bl)))
end K04

namespace K04
open PySem PySem.Spec L2 DL
open PyProof.Rows hiding St
open Geo (g g_at g_mem mem_g tn chn pops hullL halves Rise lt val HullF)
open PG (Nr NrL isH pl lookP lay TPs RsD rowI fk tri srt_sub x_flat)
theorem q_hull : @m_hull = @PG.m_hull := rfl
theorem q_is_hull : @m_is_hull = @PG.m_is_hull := rfl
theorem q_check_hull : @m_check_hull = @PG.m_check_hull := rfl
theorem q_hull_paper : @m_hull_paper = @PG.m_hull_paper := rfl
theorem q_look : @m_look_paper = @PG.m_look_paper := rfl
theorem q_layers : @m_layers = @PG.m_layers := rfl
theorem q_flat : @m__law_flat = @PG.m__law_flat := rfl
theorem q_lturn : @m__law_turn = @PG.m__law_turn := rfl
theorem q_size : @m_size = @PG.m_size := rfl
theorem q_place : @m_place = @PG.m_place := rfl
theorem q_quick : @m_quick_place = @PG.m_quick_place := rfl
theorem q_roll : @m__law_roll = @PG.m__law_roll := rfl
theorem q_point : @m__law_point = @PG.m__law_point := rfl
theorem q_points : @m__law_points = @PG.m__law_points := rfl
theorem x_law_place {c : List Pt} {p : Pt} (h0 : c ≠ []) (hl : c.length ≤ 400) (hn : NrL c) : m__law_place [TP c, pt p] = .ok (.int (pl c p)) := PG.x_law_place' rfl h0 hl hn
/-! papers, told -/
def lpD (row c : List Pt) (rs : List (List Int)) : D := match lookP row c rs with
  | none => .str "right"
  | some k => .int k
theorem x_part {row c : List Pt} {rs : List (List Int)} (hl : c.length ≤ 400) (hn : NrL c) : m__law_part [TP row, .tup [TP c, RsD rs]] = .ok (lpD row c rs) := by
  have e := PG.x_look (row := row) (rs := rs) hl hn
  rw [← q_look] at e
  unfold m__law_part
  refine (aut_at rfl).trans ?_
  unfold g__law_part lpD
  have lf : lfs [TP row, .tup [TP c, RsD rs]] = true := by simp [PG.lf_rows]
  cases h : lookP row c rs with
  | none =>
    rw [h] at e
    have b : fDrop (fCall m_look_paper (fCons (fVar 0) (fCons (fVar 1) fNil))) ⟨init0 N__law_part [TP row, .tup [TP c, RsD rs]], []⟩ = .nx ⟨init0 N__law_part [TP row, .tup [TP c, RsD rs]], []⟩ := by
      simp [call_s, init0, e, PG.lf_rows]
    rw [seq_nx (s1 := ⟨init0 N__law_part [TP row, .tup [TP c, RsD rs]], []⟩) (by unfold fTryP; rw [b])]
    simp
  | some k =>
    rw [h] at e
    have b : fDrop (fCall m_look_paper (fCons (fVar 0) (fCons (fVar 1) fNil))) ⟨init0 N__law_part [TP row, .tup [TP c, RsD rs]], []⟩ = .ex ⟨"BadPaper", some (.int k)⟩ ⟨init0 N__law_part [TP row, .tup [TP c, RsD rs]], []⟩ := by
      simp [call_s, init0, e, PG.lf_rows]
    rw [seq_rt (d := .int k) (s1 := ⟨init0 N__law_part [TP row, .tup [TP c, RsD rs]], []⟩) (by unfold fTryP; rw [b]; rfl)]
    simp
/-! equal, unlike -/
theorem gNe_D {M : Cells} {d e : D} (h : d.cmp 50 = true) (g : e.cmp 50 = true) : ∃ b, gNe M d e = some (.bl b) ∧ (b = false ↔ d = e) := by
  have up : ∀ (k j : Nat), k ≤ j → (∀ d : D, d.cmp k = true → d.cmp j = true) := by
    intro k
    induction k with
    | zero =>
      intro j _ d hd
      cases d <;> first | (cases j <;> rfl) | (simp [D.cmp] at hd)
    | succ k ih =>
      intro j hj d hd
      obtain ⟨j, rfl⟩ : ∃ i, j = i + 1 := ⟨j - 1, by omega⟩
      have all : ∀ l : List D, cmps k l = true → cmps j l = true := by
        intro l
        induction l with
        | nil => intro _; simp [cmps]
        | cons a l ihl =>
          intro h
          unfold cmps at h ⊢
          obtain ⟨h1, h2⟩ := Bool.and_eq_true_iff.mp h
          rw [ih j (by omega) a h1, ihl h2]; rfl
      cases d <;> first | rfl | (simp only [D.cmp] at hd ⊢; exact all _ hd) | (simp [D.cmp] at hd)
  obtain ⟨b, h1, h2⟩ := dEq_cmp (M := M) (up 50 60 (by omega) _ h) (up 50 60 (by omega) _ g)
  refine ⟨!b, by unfold gNe; rw [h1]; rfl, ?_⟩
  rw [← h2]
  cases b <;> simp
theorem cmp_TP (c : List Pt) : (TP c).cmp 50 = true := by unfold D.cmp; exact pts_cmp (k := 48) c
theorem cmp_LsP (c : List Pt) : (LsP c).cmp 50 = true := by unfold D.cmp; exact pts_cmp (k := 48) c
theorem TP_inj {c d : List Pt} (h : TP c = TP d) : c = d := by
  injection h with h
  exact List.map_inj_right (fun _ _ => pt_inj) |>.mp h
theorem gNe_TP {M : Cells} (c d : List Pt) : gNe M (TP c) (TP d) = some (.bl (!decide (c = d))) := by
  obtain ⟨b, h1, h2⟩ := gNe_D (M := M) (cmp_TP c) (cmp_TP d)
  rw [h1]
  congr 2
  rw [Bool.eq_iff_iff]
  have : b = true ↔ ¬ (c = d) := by
    rw [← Bool.not_eq_false, h2]
    exact not_congr ⟨TP_inj, fun e => by rw [e]⟩
  simp [this]
theorem gNe_int_str {M : Cells} {i : Int} {x : Str} (h : PyData.strOk x = true) : gNe M (.int i) (.str x) = some (.bl true) := by
  unfold gNe dEq
  have e1 : pyAt M (.str x) = some (.str x) := by unfold pyAt pyOf; rfl
  have e2 : pyAt M (.int i) = some (.int i) := by unfold pyAt pyOf; rfl
  rw [e1, e2]
  simp [SeqAt.shaped, PyData.canLay0, PyData.depth, h, PyData.eqv]
theorem gNe_str_int {M : Cells} {i : Int} {x : Str} (h : PyData.strOk x = true) : gNe M (.str x) (.int i) = some (.bl true) := by
  unfold gNe dEq
  have e1 : pyAt M (.str x) = some (.str x) := by unfold pyAt pyOf; rfl
  have e2 : pyAt M (.int i) = some (.int i) := by unfold pyAt pyOf; rfl
  rw [e1, e2]
  simp [SeqAt.shaped, PyData.canLay0, PyData.depth, h, PyData.eqv]
end K04

namespace K04
open PySem PySem.Spec L2 DL
open PyProof.Rows hiding St
open Geo (g g_at g_mem mem_g tn chn pops hullL halves Rise lt val HullF)
open PG (Nr NrL isH pl lookP lay TPs RsD rowI rowD fk tri srt_sub x_flat)
abbrev fr (c : List Pt) (row : List Pt) : List (List Int) := row.map fun p => rowI (fk c p)
abbrev sW (row c : List Pt) (p k : Option D) (M : Cells) : Sx := ⟨[some (.loc 0), some (TP row), some (TP c), p, k], M⟩
def wRows (row c : List Pt) : D := .tup [TP c, RsD (fr c row)]
theorem strOk_right : PyData.strOk "right" = true := by decide +kernel
section
variable {row c : List Pt} {M : Cells} {k : Nat}
theorem w_call (x : Option D) {f : Sx → R D} {s : Sx} {c' : List Pt} {rs : List (List Int)} {v : D} (hl : c'.length ≤ 400) (hn : NrL c') (hr : s.ρ[1]? = some (some (TP row))) (h : f s = .ok (.tup [TP c', RsD rs]) s.M) (hv : lpD row c' rs = v) : fCall m__law_part (fCons (fVar 1) (fCons f fNil)) s = .ok v s.M := by
  obtain ⟨ρ, M0⟩ := s
  have e := x_part (row := row) (rs := rs) hl hn
  rw [hv] at e
  rw [call_s, fCons_s, fVar_s, hr]
  simp only [bind_ok, fCons_s, h, fNil_s]
  simp [e, PG.lf_rows]
theorem ix_1 : gIx M (wRows row c) (.int 1) = some (RsD (fr c row)) := by simp [wRows]
theorem ix_0 : gIx M (wRows row c) (.int 0) = some (TP c) := by simp [wRows]
theorem cut_to (rs : List (List Int)) : gCut M (RsD rs) none (some (k : Int)) = some (RsD (rs.take k)) := by
  unfold gCut seqOf
  dsimp only
  rw [dcut_to]
theorem cut_from (rs : List (List Int)) : gCut M (RsD rs) (some (k : Int)) none = some (RsD (rs.drop k)) := by
  unfold gCut seqOf
  dsimp only
  rw [dcut_from]
theorem cat_rs (a b : List (List Int)) (h : a.length + b.length ≤ 100000) : gCat M (RsD a) (RsD b) = some (RsD (a ++ b)) := by
  unfold gCat seqOf
  dsimp only
  rw [if_pos (by simpa using h), ← List.map_append]
theorem cutP_from (c : List Pt) : gCut M (TP c) (some (k : Int)) none = some (TP (c.drop k)) := by
  unfold gCut seqOf
  dsimp only
  rw [dcut_from]
theorem cutP_to (c : List Pt) : gCut M (TP c) none (some (k : Int)) = some (TP (c.take k)) := by
  unfold gCut seqOf
  dsimp only
  rw [dcut_to]
theorem revP (c : List Pt) (h : c.length ≤ 1000) : gRev true M (TP c) = some (TP c.reverse) := by
  unfold gRev seqOf
  simp
  omega
end
section
variable {row c : List Pt} {M : Cells} {k : Nat} (H : HullF (srt row) c) (hr : row.length ≤ 400) (hl : c.length ≤ 400) (nr : NrL row) (nc : NrL c)
include H hr hl nr nc
theorem w_2 {x : Option D} : fIfS (fOr (fTst (fOp gNe (fCall m__law_part (fCons (fVar 1) (fCons (fVar 3) fNil))) (fC (.str "right")))) (fTst (fOp gNe (fOp gIx (fVar 3) (fC (.int 0))) (fVar 2)))) (fRet (fC (.bl false))) fSkip (sW row c (some (wRows row c)) x M) = .nx (sW row c (some (wRows row c)) x M) := by
  have e := w_call (row := row) none (f := fVar 3) (s := sW row c (some (wRows row c)) x M) (c' := c) (rs := fr c row) (v := .str "right") hl nc rfl (by simp [wRows]) (by unfold lpD; rw [PG.hu_look_full H])
  have n1 : gNe M (.str "right") (.str "right") = some (.bl false) := by rw [gNe_str strOk_right strOk_right]; rfl
  refine ifS_f ((or_f (tst_of (op_of e rfl n1))).trans (tst_of (op_of (M1 := M) (d := TP c) (e := TP c) (op_of (M1 := M) rfl rfl ix_0) rfl ?_)))
  rw [gNe_TP]; simp
theorem w_part {f : Sx → R D} {fe : Sx → R D} {s : Sx} {c' : List Pt} {rs : List (List Int)} {i : Int} (nc' : NrL c') (hl' : c'.length ≤ 400) (h1 : s.ρ[1]? = some (some (TP row))) (h : f s = .ok (.tup [TP c', RsD rs]) s.M) (hv : lpD row c' rs = .int i) (he : fe s = .ok (.int i) s.M) : fIfS (fTst (fOp gNe (fCall m__law_part (fCons (fVar 1) (fCons f fNil))) fe)) (fRet (fC (.bl false))) fSkip s = .nx s := by
  have e := w_call (row := row) none (f := f) (s := s) (c' := c') (rs := rs) (v := .int i) hl' nc' h1 h hv
  obtain ⟨ρ, M0⟩ := s
  refine ifS_f (tst_of (op_of e he ?_))
  simp
theorem w_4 (hk : k < row.length) : fIfS (fTst (fOp gNe (fCall m__law_part (fCons (fVar 1) (fCons (fTup (fCons (fVar 2) (fCons (fSl (fOp gIx (fVar 3) (fC (.int 1))) fNoPart (fPart (fVar 4))) fNil))) fNil))) (fOp nAdd (fVar 4) (fC (.int 1))))) (fRet (fC (.bl false))) fSkip (sW row c (some (wRows row c)) (some (.int k)) M) = .nx (sW row c (some (wRows row c)) (some (.int k)) M) := by
  refine w_part H hr hl nr nc (c' := c) (rs := (fr c row).take k) (i := (k : Int) + 1) nc hl rfl ?_ (by unfold lpD; rw [PG.hu_look_take H hk]; rfl) (by simp)
  simp [fSl, fNoPart, fPart, ix_1, cut_to]
theorem w_5 (hk : k < row.length) : fIfS (fTst (fOp gNe (fCall m__law_part (fCons (fVar 1) (fCons (fTup (fCons (fVar 2) (fCons (fOp gCat (fOp gCat (fSl (fOp gIx (fVar 3) (fC (.int 1))) fNoPart (fPart (fVar 4))) (fTup (fCons (fTup (fCons (fC (.int 0)) (fCons (fC (.int 1)) fNil))) fNil))) (fSl (fOp gIx (fVar 3) (fC (.int 1))) (fPart (fOp nAdd (fVar 4) (fC (.int 1)))) fNoPart)) fNil))) fNil))) (fOp nAdd (fVar 4) (fC (.int 1))))) (fRet (fC (.bl false))) fSkip (sW row c (some (wRows row c)) (some (.int k)) M) = .nx (sW row c (some (wRows row c)) (some (.int k)) M) := by
  refine w_part H hr hl nr nc (c' := c) (rs := (fr c row).take k ++ [[0, 1]] ++ (fr c row).drop (k + 1)) (i := (k : Int) + 1) nc hl rfl ?_ (by unfold lpD; rw [PG.hu_look_short H hk]; rfl) (by simp)
  have e : D.tup [D.tup [.int 0, .int 1]] = RsD [[0, 1]] := rfl
  have a1 : ∀ (a b : List (List Int)), a.length + b.length ≤ 100000 → gCat M (RsD a) (RsD b) = some (RsD (a ++ b)) := fun a b h => cat_rs a b h
  have cf : gCut M (RsD (fr c row)) (some ((k : Int) + 1)) none = some (RsD ((fr c row).drop (k + 1))) := cut_from (k := k + 1) _
  have l1 : (fr c row).length = row.length := by simp
  have f1 : fOp gCat (fSl (fOp gIx (fVar 3) (fC (.int 1))) fNoPart (fPart (fVar 4))) (fTup (fCons (fTup (fCons (fC (.int 0)) (fCons (fC (.int 1)) fNil))) fNil)) (sW row c (some (wRows row c)) (some (.int k)) M) = .ok (RsD ((fr c row).take k ++ [[0, 1]])) M := by
    refine op_of (M1 := M) (d := RsD ((fr c row).take k)) (e := RsD [[0, 1]]) ?_ (by simp [RsD, rowD]) (a1 _ _ (by simp; omega))
    simp [fSl, fNoPart, fPart, ix_1, cut_to]
  have f2 : fSl (fOp gIx (fVar 3) (fC (.int 1))) (fPart (fOp nAdd (fVar 4) (fC (.int 1)))) fNoPart (sW row c (some (wRows row c)) (some (.int k)) M) = .ok (RsD ((fr c row).drop (k + 1))) M := by
    simp only [fSl, fNoPart, fPart, fOp_s, fVar_s, fC_s, ce0, List.getElem?_cons_succ, bind_ok, ix_1, opt_some, gI_s, cf]
  have f3 := op_of (g := gCat) f1 f2 (a1 ((fr c row).take k ++ [[0, 1]]) ((fr c row).drop (k + 1)) (by simp; omega))
  simp only [fTup_s, fCons_s, fVar_s, ce0, List.getElem?_cons_succ, bind_ok, f3, fNil_s]
  rfl
theorem w_6 : fIfS (fTst (fOp gEq (fCall m__law_part (fCons (fVar 1) (fCons (fTup (fCons (fSl (fVar 2) (fPart (fC (.int 1))) fNoPart) (fCons (fOp gIx (fVar 3) (fC (.int 1))) fNil))) fNil))) (fC (.str "right")))) (fRet (fC (.bl false))) fSkip (sW row c (some (wRows row c)) (some (.int k)) M) = .nx (sW row c (some (wRows row c)) (some (.int k)) M) := by
  obtain ⟨j, hj⟩ : ∃ j, lookP row (c.drop 1) (fr c row) = some j := by
    cases q : lookP row (c.drop 1) (fr c row) with
    | none => exact (PG.hu_look_tail H q).elim
    | some j => exact ⟨j, rfl⟩
  have cf : gCut M (TP c) (some (1 : Int)) none = some (TP (c.drop 1)) := cutP_from (k := 1) c
  have e := w_call (row := row) none (f := fTup (fCons (fSl (fVar 2) (fPart (fC (.int 1))) fNoPart) (fCons (fOp gIx (fVar 3) (fC (.int 1))) fNil))) (s := sW row c (some (wRows row c)) (some (.int k)) M) (c' := c.drop 1) (rs := fr c row) (v := .int j) (by simp; omega) (fun p hp => nc p (List.mem_of_mem_drop hp)) rfl (by
    simp only [fSl, fNoPart, fPart, fTup_s, fCons_s, fOp_s, fVar_s, fC_s, ce0, List.getElem?_cons_succ, bind_ok, ix_1, opt_some, cf, fNil_s]
    rfl) (by unfold lpD; rw [hj])
  refine ifS_f (tst_of (op_of e rfl ?_))
  have := gNe_int_str (M := M) (i := (j : Int)) strOk_right
  unfold gNe at this
  unfold gEq
  cases q : dEq M (.int j) (.str "right") with
  | none => rw [q] at this; cases this
  | some b =>
    rw [q] at this
    simp at this
    rw [this]; rfl
theorem w_7 : fIfS (fTst (fOp gNe (fCall m__law_part (fCons (fVar 1) (fCons (fTup (fCons (fUn (gRev true) (fVar 2)) (fCons (fOp gIx (fVar 3) (fC (.int 1))) fNil))) fNil))) (fC (.int 0)))) (fRet (fC (.bl false))) fSkip (sW row c (some (wRows row c)) (some (.int k)) M) = .nx (sW row c (some (wRows row c)) (some (.int k)) M) := by
  refine w_part H hr hl nr nc (c' := c.reverse) (rs := fr c row) (i := 0) (fun p hp => nc p (List.mem_reverse.mp hp)) (by simpa using hl) rfl ?_ (by unfold lpD; rw [PG.hu_look_rev H]; rfl) rfl
  simp only [fTup_s, fCons_s, fUn_s, fOp_s, fVar_s, fC_s, ce0, List.getElem?_cons_succ, bind_ok, ix_1, opt_some, revP (M := M) c (by omega), fNil_s]
  rfl
theorem w_8 : fIfS (fTst (fOp gNe (fCall m__law_part (fCons (fVar 1) (fCons (fTup (fCons (fVar 2) (fCons (fOp gCat (fOp gIx (fVar 3) (fC (.int 1))) (fSl (fOp gIx (fVar 3) (fC (.int 1))) fNoPart (fPart (fC (.int 1))))) fNil))) fNil))) (fOp nAdd (fCB gLen (fCons (fVar 1) fNil)) (fC (.int 1))))) (fRet (fC (.bl false))) fSkip (sW row c (some (wRows row c)) (some (.int k)) M) = .nx (sW row c (some (wRows row c)) (some (.int k)) M) := by
  refine w_part H hr hl nr nc (c' := c) (rs := fr c row ++ (fr c row).take 1) (i := (row.length : Int) + 1) nc hl rfl ?_ (by unfold lpD; rw [PG.hu_look_more H]; rfl) (by simp)
  have ct : gCut M (RsD (fr c row)) none (some (1 : Int)) = some (RsD ((fr c row).take 1)) := cut_to (k := 1) _
  have a1 : gCat M (RsD (fr c row)) (RsD ((fr c row).take 1)) = some (RsD (fr c row ++ (fr c row).take 1)) := cat_rs _ _ (by simp; omega)
  simp only [fSl, fNoPart, fPart, fTup_s, fCons_s, fOp_s, fVar_s, fC_s, ce0, List.getElem?_cons_succ, bind_ok, ix_1, opt_some, ct, a1, fNil_s]
  rfl
end
theorem x_paper {row c : List Pt} (H : HullF (srt row) c) (hc : hullL (srt row) = c) (h1 : 1 ≤ row.length) (hr : row.length ≤ 400) (hl : c.length ≤ 400) (nr : NrL row) (nc : NrL c) (a1 a2 a3 : Int) : ∃ x y z, m__law_paper [.loc 0, TP row, TP c] [Tri a1 a2 a3] = .ok (.bl true) [Tri x y z] := by
  obtain ⟨r, x, y, z, e1, b1, b2⟩ := PG.roll_ok (a := a1) (b := a2) (c := a3) (many := row.length) (by omega) (by omega)
  obtain ⟨k, rfl⟩ : ∃ k : Nat, r = k := ⟨r.toNat, by omega⟩
  have hp := PG.x_hull_paper hc hr nr nc H.n3 hl (fun p hp => (PG.hu_fk_ok H hp).1)
  have c1 := callM_at (fM := m__law_roll) (f := fCons (fVar 0) (fCons (fCB gLen (fCons (fVar 1) fNil)) fNil)) (s := sW row c (some (wRows row c)) none [Tri a1 a2 a3]) (n := 0) (M := [Tri a1 a2 a3]) (rest := [.int row.length]) (by simp) rfl rfl rfl rfl rfl e1
  refine ⟨x, y, z, ?_⟩
  unfold m__law_paper
  refine (autM_at rfl).trans ?_
  have body : g__law_paper ⟨init0 N__law_paper [.loc 0, TP row, TP c], [Tri a1 a2 a3]⟩ = .rt (.bl true) (sW row c (some (wRows row c)) (some (.int k)) [Tri x y z]) := by
    unfold g__law_paper
    have s1 : fAsg (fCall m_hull_paper (fCons (fVar 1) fNil)) (bName 3) ⟨init0 N__law_paper [.loc 0, TP row, TP c], [Tri a1 a2 a3]⟩ = .nx (sW row c (some (wRows row c)) none [Tri a1 a2 a3]) := by
      have hp' : m_hull_paper [TP row] = .ok (wRows row c) := hp
      simp only [init0, fAsg_s, call_s, fCons_s, fVar_s, fNil_s]
      simp [hp']
    refine (seq_nx s1).trans ((seq_nx (w_2 H hr hl nr nc)).trans ?_)
    have s3 : fAsg (fCallM m__law_roll (fCons (fVar 0) (fCons (fCB gLen (fCons (fVar 1) fNil)) fNil))) (bName 4) (sW row c (some (wRows row c)) none [Tri a1 a2 a3]) = .nx (sW row c (some (wRows row c)) (some (.int k)) [Tri x y z]) := by
      rw [fAsg_s, c1]; rfl
    refine (seq_nx s3).trans ((seq_nx (w_4 H hr hl nr nc (by omega))).trans ((seq_nx (w_5 H hr hl nr nc (by omega))).trans ((seq_nx (w_6 H hr hl nr nc)).trans ((seq_nx (w_7 H hr hl nr nc)).trans ((seq_nx (w_8 H hr hl nr nc)).trans ?_)))))
    rfl
  refine (congrArg (RS.out 1) body).trans ?_
  simp [RS.out, cutM]
end K04

namespace K04
open PySem PySem.Spec L2 DL
open PyProof.Rows hiding St
open Geo (g g_at g_mem mem_g tn chn pops hullL halves Rise lt val HullF Flat)
open PG (Nr NrL isH pl lookP lay TPs RsD rowI rowD fk tri srt_sub x_flat alone)
/-- small -/
def Sm (p : Pt) : Prop := -6 ≤ p.1 ∧ p.1 ≤ 6 ∧ -6 ≤ p.2 ∧ p.2 ≤ 6
theorem Sm.n {p : Pt} (h : Sm p) : Nr p := by unfold Sm at h; unfold Nr; omega
section
variable {x0 x1 x2 x3 x4 x5 x6 x7 x8 x9 x10 x11 x12 x13 x14 x15 x16 : Option D} {M : Cells} {n : Nat}
theorem st1 {a1 a2 a3 : Int} (hM : M[n]? = some (Tri a1 a2 a3)) : ∃ (ps : List Pt) (x y z : Int), g_law_1_1 ⟨[x0, some (.loc n), x2, x3, x4, x5, x6, x7, x8, x9, x10, x11, x12, x13, x14, x15, x16], M⟩ =
    .nx ⟨[x0, some (.loc n), some (TP ps), x3, x4, x5, x6, x7, x8, x9, x10, x11, x12, x13, x14, x15, x16], M.set n (Tri x y z)⟩ ∧ 1 ≤ ps.length ∧ ps.length ≤ 9 ∧ ∀ p ∈ ps, Sm p := by
  have hlt : n < M.length := (List.getElem?_eq_some_iff.mp hM).1
  obtain ⟨r, x, y, z, e1, b1, b2⟩ := PG.roll_ok (a := a1) (b := a2) (c := a3) (many := 5) (by omega) (by omega)
  have c1 := callM_at (fM := m__law_roll) (f := fCons (fVar 1) (fCons (fC (.int 5)) fNil)) (s := ⟨[x0, some (.loc n), x2, x3, x4, x5, x6, x7, x8, x9, x10, x11, x12, x13, x14, x15, x16], M⟩) (n := n) (M := M) (rest := [.int 5]) (by simp) hM tri_lf tri_lf rfl rfl e1
  obtain ⟨ps, x', y', z', e2, l1, l2, l3⟩ := PG.points_ok (a := x) (b := y) (c := z) (most := 9) (far := 2 + r) (by omega) (by omega) (by omega) (by omega)
  have hM2 : (M.set n (Tri x y z))[n]? = some (Tri x y z) := List.getElem?_set_self hlt
  have f : fCons (fVar 1) (fCons (fC (.int 9)) (fCons (fOp nAdd (fC (.int 2)) (fCallM m__law_roll (fCons (fVar 1) (fCons (fC (.int 5)) fNil)))) fNil)) ⟨[x0, some (.loc n), x2, x3, x4, x5, x6, x7, x8, x9, x10, x11, x12, x13, x14, x15, x16], M⟩ = .ok [.loc n, .int 9, .int (2 + r)] (M.set n (Tri x y z)) := by
    have o := op_of (g := nAdd) (fa := fC (.int 2)) (s := ⟨[x0, some (.loc n), x2, x3, x4, x5, x6, x7, x8, x9, x10, x11, x12, x13, x14, x15, x16], M⟩) (M1 := M) (d := .int 2) (e := .int r) (z := .int (2 + r)) rfl c1 rfl
    simp only [fCons_s, fVar_s, fC_s, ce0, List.getElem?_cons_succ, bind_ok, o, fNil_s]
  have c2 := callM_at (fM := m__law_points) (n := n) (rest := [.int 9, .int (2 + r)]) f hM2 tri_lf tri_lf rfl (by simp) e2
  refine ⟨ps, x', y', z', ?_, l1, by omega, fun p hp => by have := l3 p hp; unfold Sm; omega⟩
  unfold g_law_1_1
  rw [fAsg_s, c2, List.set_set]
  rfl
theorem st2 {row : List Pt} (hl : row.length ≤ 9) (hn : NrL row) : g_law_1_2 ⟨[x0, x1, some (TP row), x3, x4, x5, x6, x7, x8, x9, x10, x11, x12, x13, x14, x15, x16], M⟩ =
    .nx ⟨[x0, x1, some (TP row), some (TP (hullL (srt row))), x4, x5, x6, x7, x8, x9, x10, x11, x12, x13, x14, x15, x16], M⟩ := by
  have e := PG.x_hull (by omega : row.length ≤ 400) hn
  rw [← q_hull] at e
  simp [g_law_1_2, call_s, e]
theorem st3 {row : List Pt} (hl : row.length ≤ 9) : g_law_1_3 ⟨[x0, x1, some (TP row), x3, x4, x5, x6, x7, x8, x9, x10, x11, x12, x13, x14, x15, x16], M⟩ =
    .nx ⟨[x0, x1, some (TP row), x3, some (LsP (alone row)), x5, x6, x7, x8, x9, x10, x11, x12, x13, x14, x15, x16], M⟩ := by
  have rg : asRg1 [.int (row.length : Int)] = some ((List.range row.length).map fun (k : Nat) => D.int (k : Int)) := asRg1_n (by omega)
  have e := fLc_flt (enc := fun (k : Nat) => D.int (k : Int)) (i := 5) (t := fTst (fOp (gInA true) (fOp gIx (fVar 2) (fVar 5)) (fSl (fVar 2) fNoPart (fPart (fVar 5))))) (e := fOp gIx (fVar 2) (fVar 5)) (vs := [5]) (fi := fIts asRg1 (fCons (fCB gLen (fCons (fVar 2) fNil)) fNil)) (s := ⟨[x0, x1, some (TP row), x3, x4, x5, x6, x7, x8, x9, x10, x11, x12, x13, x14, x15, x16], M⟩) (M := M) (F := fun k => pt (g row k)) (pd := fun k => !decide (g row k ∈ row.take k)) (List.range row.length) (by simp [rg]) (by simp; omega) (fun k hk => by
    have hk : k < row.length := List.mem_range.mp hk
    have i := inA_pts (M := M) (p := g row k) (l := row.take k) (neg := true)
    rw [Bool.true_bne] at i
    refine tst_of (op_of (M1 := M) (d := pt (g row k)) (e := TP (row.take k)) ?_ ?_ i)
    · simp [wipeD, atI_g hk]
    · simp [wipeD, fSl, fNoPart, fPart, cutP_to]) (fun k hk _ => by
    have hk : k < row.length := List.mem_range.mp hk
    simp [wipeD, atI_g hk])
  unfold g_law_1_3
  rw [fAsg_s, fFz_s, e]
  have : ((List.range row.length).filter fun k => !decide (g row k ∈ row.take k)).map (fun k => pt (g row k)) = (alone row).map pt := by unfold alone; rw [List.map_map]; rfl
  rw [this]; rfl
def ones (al : List Pt) (a b : Pt) : List D := (al.filter fun c => !decide (tn a b c = 0)).map fun _ => D.int 1
def lns (al : List Pt) (a : Pt) : List D := (al.map (ones al a)).flatten
def all1 (l : List D) : Prop := ∀ d ∈ l, d = .int 1
theorem fz_all1 {l : List D} (h : all1 l) (M : Cells) (m : Nat) : fzs M m l = some l := by
  induction l with
  | nil => simp
  | cons d l ih =>
    have := h d (by simp)
    subst this
    simp [ih fun e he => h e (List.mem_cons_of_mem _ he)]
theorem ones_1 (al : List Pt) (a b : Pt) : all1 (ones al a b) := fun d h => by
  obtain ⟨c, _, e⟩ := List.mem_map.mp h; exact e.symm
theorem lns_1 (al : List Pt) (a : Pt) : all1 (lns al a) := fun d h => by
  obtain ⟨l, h1, h2⟩ := List.mem_flatten.mp h
  obtain ⟨b, _, rfl⟩ := List.mem_map.mp h1
  exact ones_1 al a b d h2
theorem flat_len {β : Type} {f : β → List D} {m : Nat} (h : ∀ b, (f b).length ≤ m) : ∀ l : List β, (l.map f).flatten.length ≤ l.length * m
  | [] => by simp
  | b :: l => by
    have := flat_len h l
    have := h b
    rw [List.map_cons, List.flatten_cons, List.length_append, List.length_cons, Nat.add_mul]
    omega
theorem ones_len (al : List Pt) (a b : Pt) : (ones al a b).length ≤ al.length := by
  unfold ones; rw [List.length_map]; exact List.length_filter_le _ _
theorem lns_len (al : List Pt) (a : Pt) : (lns al a).length ≤ al.length * al.length := flat_len (ones_len al a) al
theorem lf_all1 {l : List D} (h : all1 l) : lfs l = true := by
  induction l with
  | nil => rfl
  | cons d l ih =>
    have := h d (by simp)
    subst this
    simp [ih fun e he => h e (List.mem_cons_of_mem _ he)]
theorem in7 {al : List Pt} {a b : Pt} {z7 : Option D} (hn : NrL al) (hl : al.length ≤ 9) (na : Nr a) (nb : Nr b) : fFz (fLc (fIt asLst (fVar 4)) (bName 7) (fTst (fOp gNe (fCall m__law_turn (fCons (fVar 9) (fCons (fVar 8) (fCons (fVar 7) fNil)))) (fC (.int 0)))) (fC (.int 1)) [7]) ⟨[x0, x1, x2, x3, some (LsP al), x5, x6, z7, some (pt b), some (pt a), x10, x11, x12, x13, x14, x15, x16], M⟩ = .ok (.lst (ones al a b)) M := by
  have e := fLc_flt (enc := pt) (i := 7) (t := fTst (fOp gNe (fCall m__law_turn (fCons (fVar 9) (fCons (fVar 8) (fCons (fVar 7) fNil)))) (fC (.int 0)))) (e := fC (.int 1)) (vs := [7]) (fi := fIt asLst (fVar 4)) (s := ⟨[x0, x1, x2, x3, some (LsP al), x5, x6, z7, some (pt b), some (pt a), x10, x11, x12, x13, x14, x15, x16], M⟩) (M := M) (F := fun _ => D.int 1) (pd := fun c => !decide (tn a b c = 0)) al (by simp) (by omega) (fun c hc => by
    have t := PG.x_law_turn (c := c) na nb
    rw [← q_lturn] at t
    simp [wipeD, call_s, t]) (fun c hc _ => by simp)
  rw [fFz_s, e]; rfl
theorem in8 {al : List Pt} {a : Pt} {z7 z8 : Option D} (hn : NrL al) (hl : al.length ≤ 9) (na : Nr a) : fCall m__law_flat (fCons (fFz (fLc (fIt asLst (fVar 4)) (bName 8) fTrue (fFz (fLc (fIt asLst (fVar 4)) (bName 7) (fTst (fOp gNe (fCall m__law_turn (fCons (fVar 9) (fCons (fVar 8) (fCons (fVar 7) fNil)))) (fC (.int 0)))) (fC (.int 1)) [7])) [8])) fNil) ⟨[x0, x1, x2, x3, some (LsP al), x5, x6, z7, z8, some (pt a), x10, x11, x12, x13, x14, x15, x16], M⟩ = .ok (.lst (lns al a)) M := by
  have e := fLc_enc (enc := pt) (i := 8) (e := fFz (fLc (fIt asLst (fVar 4)) (bName 7) (fTst (fOp gNe (fCall m__law_turn (fCons (fVar 9) (fCons (fVar 8) (fCons (fVar 7) fNil)))) (fC (.int 0)))) (fC (.int 1)) [7])) (vs := [8]) (fi := fIt asLst (fVar 4)) (s := ⟨[x0, x1, x2, x3, some (LsP al), x5, x6, z7, z8, some (pt a), x10, x11, x12, x13, x14, x15, x16], M⟩) (M := M) (F := fun b => D.lst (ones al a b)) al (by simp) (by omega) (fun b hb => in7 hn hl na (hn b hb))
  have e2 : al.map (fun b => D.lst (ones al a b)) = (al.map (ones al a)).map D.lst := by rw [List.map_map]; rfl
  rw [e2] at e
  have f := x_flat (ls := al.map (ones al a)) (by
    have := lns_len al a
    have : al.length * al.length ≤ 9 * 9 := Nat.mul_le_mul hl hl
    unfold lns at *; omega) (fun M m => fz_all1 (lns_1 al a) M m)
  rw [← q_flat] at f
  have lf : lfs ((al.map (ones al a)).map D.lst) = true := lfs_mapm _ fun l hl => by
    obtain ⟨b, _, rfl⟩ := List.mem_map.mp hl
    rw [lf_lst]; exact lf_all1 (ones_1 al a b)
  rw [call_s, fCons_s, fFz_s, e]
  simp only [bind_ok, fNil_s, lfs_cons, lf_lst, lf, lfs_nil, Bool.and_self, if_true, f]
  rfl
theorem st4 {al : List Pt} (hn : NrL al) (hl : al.length ≤ 9) : g_law_1_4 ⟨[x0, x1, x2, x3, some (LsP al), x5, x6, x7, x8, x9, x10, x11, x12, x13, x14, x15, x16], M⟩ =
    .nx ⟨[x0, x1, x2, x3, some (LsP al), x5, some (.bl (((al.map (lns al)).flatten).isEmpty)), x7, x8, x9, x10, x11, x12, x13, x14, x15, x16], M⟩ := by
  have e := fLc_enc (enc := pt) (i := 9) (e := fCall m__law_flat (fCons (fFz (fLc (fIt asLst (fVar 4)) (bName 8) fTrue (fFz (fLc (fIt asLst (fVar 4)) (bName 7) (fTst (fOp gNe (fCall m__law_turn (fCons (fVar 9) (fCons (fVar 8) (fCons (fVar 7) fNil)))) (fC (.int 0)))) (fC (.int 1)) [7])) [8])) fNil)) (vs := [9]) (fi := fIt asLst (fVar 4)) (s := ⟨[x0, x1, x2, x3, some (LsP al), x5, x6, x7, x8, x9, x10, x11, x12, x13, x14, x15, x16], M⟩) (M := M) (F := fun a => D.lst (lns al a)) al (by simp) (by omega) (fun a ha => in8 hn hl (hn a ha))
  have e2 : al.map (fun a => D.lst (lns al a)) = (al.map (lns al)).map D.lst := by rw [List.map_map]; rfl
  rw [e2] at e
  have a1 : all1 (al.map (lns al)).flatten := fun d h => by
    obtain ⟨l, h1, h2⟩ := List.mem_flatten.mp h
    obtain ⟨b, _, rfl⟩ := List.mem_map.mp h1
    exact lns_1 al b d h2
  have f := x_flat (ls := al.map (lns al)) (by
    have := flat_len (lns_len al) al
    have h2 : al.length * al.length ≤ 9 * 9 := Nat.mul_le_mul hl hl
    have : al.length * (al.length * al.length) ≤ 9 * (9 * 9) := Nat.mul_le_mul hl h2
    omega) (fun M m => fz_all1 a1 M m)
  rw [← q_flat] at f
  have lf : lfs ((al.map (lns al)).map D.lst) = true := lfs_mapm _ fun l hl => by
    obtain ⟨b, _, rfl⟩ := List.mem_map.mp hl
    rw [lf_lst]; exact lf_all1 (lns_1 al b)
  have cl : fCall m__law_flat (fCons (fFz (fLc (fIt asLst (fVar 4)) (bName 9) fTrue (fCall m__law_flat (fCons (fFz (fLc (fIt asLst (fVar 4)) (bName 8) fTrue (fFz (fLc (fIt asLst (fVar 4)) (bName 7) (fTst (fOp gNe (fCall m__law_turn (fCons (fVar 9) (fCons (fVar 8) (fCons (fVar 7) fNil)))) (fC (.int 0)))) (fC (.int 1)) [7])) [8])) fNil)) [9])) fNil) ⟨[x0, x1, x2, x3, some (LsP al), x5, x6, x7, x8, x9, x10, x11, x12, x13, x14, x15, x16], M⟩ = .ok (.lst (al.map (lns al)).flatten) M := by
    rw [call_s, fCons_s, fFz_s, e]
    simp only [bind_ok, fNil_s, lfs_cons, lf_lst, lf, lfs_nil, Bool.and_self, if_true, f]
  have q : ∀ l : List D, all1 l → gEq M (.lst l) (.lst []) = some (.bl l.isEmpty) := by
    intro l hl
    cases l with
    | nil => exact gEq_self (by decide)
    | cons d l =>
      refine gEq_ne ?_ (by decide) (fun z => by injection z with z; cases z)
      show cmps 59 (d :: l) = true
      refine cmps_all fun d h => ?_
      rw [hl d h]; rfl
  unfold g_law_1_4
  rw [fAsg_s, op_of cl rfl (q _ a1)]
  rfl
theorem line_iff {al : List Pt} : ((al.map (lns al)).flatten).isEmpty = true ↔ Flat al := by
  rw [List.isEmpty_iff, List.flatten_eq_nil_iff]
  constructor
  · intro h a ha b hb c hc
    have h1 := h _ (List.mem_map.mpr ⟨a, ha, rfl⟩)
    unfold lns at h1
    rw [List.flatten_eq_nil_iff] at h1
    have h2 := h1 _ (List.mem_map.mpr ⟨b, hb, rfl⟩)
    unfold ones at h2
    rw [List.map_eq_nil_iff, List.filter_eq_nil_iff] at h2
    have h3 := h2 c hc
    simpa using h3
  · intro h l hl
    obtain ⟨a, ha, rfl⟩ := List.mem_map.mp hl
    unfold lns
    rw [List.flatten_eq_nil_iff]
    intro l hl
    obtain ⟨b, hb, rfl⟩ := List.mem_map.mp hl
    unfold ones
    rw [List.map_eq_nil_iff, List.filter_eq_nil_iff]
    intro c hc
    simp [h a ha b hb c hc]
end
end K04

namespace K04
open PySem PySem.Spec L2 DL
open PyProof.Rows hiding St
open Geo (g g_at g_mem mem_g tn chn pops hullL halves Rise lt val HullF Flat)
open PG (Nr NrL isH pl lookP lay TPs RsD rowI rowD fk tri srt_sub x_flat alone)
theorem gNe_LsP {M : Cells} (c d : List Pt) : gNe M (LsP c) (LsP d) = some (.bl (!decide (c = d))) := by
  obtain ⟨b, h1, h2⟩ := gNe_D (M := M) (cmp_LsP c) (cmp_LsP d)
  rw [h1]
  congr 2
  rw [Bool.eq_iff_iff]
  have inj : LsP c = LsP d → c = d := fun h => by
    injection h with h
    exact List.map_inj_right (fun _ _ => pt_inj) |>.mp h
  have : b = true ↔ ¬ (c = d) := by
    rw [← Bool.not_eq_false, h2]
    exact not_congr ⟨inj, fun e => by rw [e]⟩
  simp [this]
theorem told_at {f : Sx → R D} {s : Sx} {M : Cells} {x r : Str} (h : f s = .ex ⟨x, none⟩ M) (t : toldBy hs__law_told x = some r) : fTold hs__law_told f s = .ok (.str r) M := by
  unfold fTold
  rw [h]
  dsimp only
  rw [t]
theorem cut_l1 {M : Cells} (l : List Pt) : gCut M (LsP l) none (some (1 : Int)) = some (LsP (l.take 1)) := by
  unfold gCut seqOf
  dsimp only
  have := dcut_to (f := pt) (l := l) 1
  rw [show ((1 : Nat) : Int) = 1 from rfl] at this
  rw [this]
theorem cut_lf {M : Cells} (l : List Pt) (k : Nat) : gCut M (LsP l) (some (k : Int)) none = some (LsP (l.drop k)) := by
  unfold gCut seqOf
  dsimp only
  rw [dcut_from]
theorem drop_last {l : List Pt} (h : 0 < l.length) : l.drop (l.length - 1) = [g l (l.length - 1)] := by
  rw [List.drop_eq_getElem_cons (by omega), List.drop_of_length_le (by omega)]
  have := g_at (c := l) (i := l.length - 1) (by omega)
  rw [List.getElem?_eq_getElem (by omega)] at this
  rw [Option.some.inj this]
section
variable {x0 x1 x2 x3 x4 x5 x6 x7 x8 x9 x10 x11 x12 x13 x14 x15 x16 : Option D} {M : Cells} {n : Nat} {row : List Pt}
theorem st5_1 : g_law_1_5_1 ⟨[x0, x1, x2, x3, some (LsP (alone row)), x5, x6, x7, x8, x9, x10, x11, x12, x13, x14, x15, x16], M⟩ =
    .nx ⟨[x0, x1, x2, x3, some (LsP (alone row)), x5, x6, x7, x8, x9, some (LsP (srt row)), x11, x12, x13, x14, x15, x16], M⟩ := by
  simp [g_law_1_5_1, PG.alone_srt]
theorem st5_2 (f : Flat (srt row)) (h1 : 0 < (srt row).length) (h9 : (srt row).length ≤ 9) : g_law_1_5_2 ⟨[x0, x1, x2, some (TP (hullL (srt row))), x4, x5, x6, x7, x8, x9, some (LsP (srt row)), x11, x12, x13, x14, x15, x16], M⟩ =
    .nx ⟨[x0, x1, x2, some (TP (hullL (srt row))), x4, x5, x6, x7, x8, x9, some (LsP (srt row)), x11, x12, x13, x14, x15, x16], M⟩ := by
  have e := Geo.hullL_flat (srt_rise row) f
  generalize srt row = l at *
  rw [e]
  have d1 := drop_last h1
  have c2 : ∀ M, gCut M (LsP l) (some ((l.length : Int) - 1)) none = some (LsP [g l (l.length - 1)]) := fun M => by
    have := cut_lf (M := M) l (l.length - 1)
    rw [d1, show ((l.length - 1 : Nat) : Int) = (l.length : Int) - 1 by omega] at this
    exact this
  have tk : (l.take 1).length ≤ 1 := by simp; omega
  generalize hT : l.take 1 = tk1 at *
  generalize g l (l.length - 1) = z at *
  generalize hS : ([x0, x1, x2, some (TP (tk1 ++ if 1 < l.length then [z] else [])), x4, x5, x6, x7, x8, x9, some (LsP l), x11, x12, x13, x14, x15, x16] : List (Option D)) = ρ
  have v10 : ρ[10]? = some (some (LsP l)) := by rw [← hS]; rfl
  have v3 : ρ[3]? = some (some (TP (tk1 ++ if 1 < l.length then [z] else []))) := by rw [← hS]; rfl
  have A : fSl (fVar 10) fNoPart (fPart (fC (.int 1))) ⟨ρ, M⟩ = .ok (LsP tk1) M := by
    have := cut_l1 (M := M) l
    rw [hT] at this
    simp only [fSl, fNoPart, fPart, fVar_s, v10, bind_ok, fC_s, this, opt_some]
  have LN : fCB gLen (fCons (fVar 10) fNil) ⟨ρ, M⟩ = .ok (.int l.length) M := by
    simp only [fCB_s, fCons_s, fVar_s, v10, bind_ok, fNil_s, gLen_lst, List.length_map, opt_some]
  have B : fSl (fVar 10) (fPart (fOp nSub (fCB gLen (fCons (fVar 10) fNil)) (fC (.int 1)))) fNoPart ⟨ρ, M⟩ = .ok (LsP [z]) M := by
    have o := op_of (g := nSub) (z := .int ((l.length : Int) - 1)) (M1 := M) (fb := fC (.int 1)) LN rfl rfl
    simp only [fSl, fNoPart, fPart, fVar_s, v10, bind_ok, o, c2, opt_some]
  have C : fCB gInt (fCons (fOp nGt (fCB gLen (fCons (fVar 10) fNil)) (fC (.int 1))) fNil) ⟨ρ, M⟩ = .ok (.int (if 1 < l.length then 1 else 0)) M := by
    have o := op_of (g := nGt) (z := .bl (decide ((1 : Int) < (l.length : Int)))) (M1 := M) (fb := fC (.int 1)) LN rfl rfl
    simp only [fCB_s, fCons_s, o, bind_ok, fNil_s, gInt_b, opt_some]
    by_cases q : 1 < l.length
    · have : (1 : Int) < (l.length : Int) := by omega
      simp [q, this]
    · have : ¬ (1 : Int) < (l.length : Int) := by omega
      simp [q, this]
  have Dd : fOp gRep (fSl (fVar 10) (fPart (fOp nSub (fCB gLen (fCons (fVar 10) fNil)) (fC (.int 1)))) fNoPart) (fCB gInt (fCons (fOp nGt (fCB gLen (fCons (fVar 10) fNil)) (fC (.int 1))) fNil)) ⟨ρ, M⟩ = .ok (LsP (if 1 < l.length then [z] else [])) M := by
    refine op_of B C ?_
    by_cases q : 1 < l.length
    · rw [if_pos q, if_pos q]; rfl
    · rw [if_neg q, if_neg q]; rfl
  have E : fCB gTupOf (fCons (fOp gCatL (fSl (fVar 10) fNoPart (fPart (fC (.int 1)))) (fOp gRep (fSl (fVar 10) (fPart (fOp nSub (fCB gLen (fCons (fVar 10) fNil)) (fC (.int 1)))) fNoPart) (fCB gInt (fCons (fOp nGt (fCB gLen (fCons (fVar 10) fNil)) (fC (.int 1))) fNil)))) fNil) ⟨ρ, M⟩ = .ok (TP (tk1 ++ if 1 < l.length then [z] else [])) M := by
    have o := op_of (g := gCatL) (z := LsP (tk1 ++ if 1 < l.length then [z] else [])) A Dd (by
      unfold gCatL lstOf
      dsimp only
      have : (if 1 < l.length then [z] else []).length ≤ 1 := by split <;> simp
      rw [if_pos (by simp only [List.length_map]; omega), ← List.map_append])
    simp only [fCB_s, fCons_s, o, bind_ok, fNil_s, gTup_lst, opt_some]
  have V3 : fVar 3 ⟨ρ, M⟩ = .ok (TP (tk1 ++ if 1 < l.length then [z] else [])) M := by rw [fVar_s, v3]
  unfold g_law_1_5_2
  refine ifS_f (tst_of (op_of V3 E ?_))
  rw [gNe_TP]; simp
theorem st5_3 {c : List Pt} (hc : hullL (srt row) = c) (h3 : c.length < 3) (hr : row.length ≤ 9) (hn : NrL row) (nc : NrL c) : g_law_1_5_3 ⟨[x0, x1, some (TP row), some (TP c), x4, x5, x6, x7, x8, x9, x10, x11, x12, x13, x14, x15, x16], M⟩ =
    .nx ⟨[x0, x1, some (TP row), some (TP c), x4, x5, x6, x7, x8, x9, x10, x11, x12, x13, x14, x15, x16], M⟩ := by
  have e := PG.x_paper_line hc (by omega : row.length ≤ 400) hn h3
  rw [← q_hull_paper] at e
  have e2 := PG.x_is_hull (c := c) (by omega) nc
  rw [← q_is_hull, PG.isH_len h3] at e2
  have cl : fCall m_hull_paper (fCons (fVar 2) fNil) ⟨[x0, x1, some (TP row), some (TP c), x4, x5, x6, x7, x8, x9, x10, x11, x12, x13, x14, x15, x16], M⟩ = .ex ⟨"NoWay", none⟩ M := by simp [call_s, e]
  have t := told_at (r := "no way") cl (by rfl)
  have s1 : PyData.strOk "no way" = true := by decide +kernel
  have n0 : gNe M (.str "no way") (.str "no way") = some (.bl false) := by rw [gNe_str s1 s1]; rfl
  unfold g_law_1_5_3
  refine ifS_f ((or_f (tst_of (op_of t rfl n0))).trans (tst_of ?_))
  simp [call_s, e2]
/-! not on a line -/
variable {c : List Pt}
theorem e1 (H : HullF (srt row) c) (hl : c.length ≤ 400) (nc : NrL c) : g_law_1_5e_1 ⟨[x0, x1, x2, some (TP c), x4, x5, x6, x7, x8, x9, x10, x11, x12, x13, x14, x15, x16], M⟩ =
    .nx ⟨[x0, x1, x2, some (TP c), x4, x5, x6, x7, x8, x9, x10, x11, x12, x13, x14, x15, x16], M⟩ := by
  have e := PG.x_check_hull hl nc (PG.hu_isH H)
  rw [← q_check_hull] at e
  simp [g_law_1_5e_1, call_s, e]
theorem e2 (H : HullF (srt row) c) (hl : c.length ≤ 400) (nc : NrL c) : g_law_1_5e_2 ⟨[x0, x1, some (TP row), some (TP c), x4, x5, x6, x7, x8, x9, x10, x11, x12, x13, x14, x15, x16], M⟩ =
    .nx ⟨[x0, x1, some (TP row), some (TP c), x4, x5, x6, x7, x8, x9, x10, x11, x12, x13, x14, x15, x16], M⟩ := by
  have e := PG.x_is_hull hl nc
  rw [← q_is_hull, PG.hu_isH H] at e
  have l := fLc_flt (enc := pt) (i := 11) (t := fTst (fOp (gInA true) (fVar 11) (fVar 2))) (e := fVar 11) (vs := [11]) (fi := fIt asTup (fVar 3)) (s := ⟨[x0, x1, some (TP row), some (TP c), x4, x5, x6, x7, x8, x9, x10, x11, x12, x13, x14, x15, x16], M⟩) (M := M) (F := pt) (pd := fun p => !decide (p ∈ row)) c (by simp) (by omega) (fun p hp => by
    have i := inA_pts (M := M) (p := p) (l := row) (neg := true)
    rw [Bool.true_bne] at i
    refine tst_of (op_of (M1 := M) (d := pt p) (e := TP row) ?_ ?_ i)
    · simp [wipeD]
    · simp [wipeD]) (fun p hp _ => by simp [wipeD])
  have em : c.filter (fun p => !decide (p ∈ row)) = [] := by
    rw [List.filter_eq_nil_iff]
    intro p hp
    have := srt_mem.mp (H.sub p hp)
    simp [this]
  rw [em] at l
  unfold g_law_1_5e_2
  refine ifS_f ((or_f (not_of (b := true) (tst_of ?_))).trans (tst_of (op_of (M1 := M) (d := .lst []) (e := .lst []) (by rw [fFz_s, l]; rfl) rfl (gNe_self (by decide)))))
  simp [call_s, e]
theorem e3 (H : HullF (srt row) c) (hl : c.length ≤ 400) (hr : row.length ≤ 9) (nc : NrL c) : g_law_1_5e_3 ⟨[x0, x1, some (TP row), some (TP c), x4, x5, x6, x7, x8, x9, x10, x11, x12, x13, x14, x15, x16], M⟩ =
    .nx ⟨[x0, x1, some (TP row), some (TP c), x4, x5, x6, x7, x8, x9, x10, x11, x12, x13, x14, x15, x16], M⟩ := by
  have c0 : c ≠ [] := fun e => by have := H.n3; rw [e] at this; simp at this
  have l := fLc_flt (enc := pt) (i := 11) (t := fTst (fOp nLt (fCall m__law_place (fCons (fVar 3) (fCons (fVar 11) fNil))) (fC (.int 0)))) (e := fVar 11) (vs := [11]) (fi := fIt asTup (fVar 2)) (s := ⟨[x0, x1, some (TP row), some (TP c), x4, x5, x6, x7, x8, x9, x10, x11, x12, x13, x14, x15, x16], M⟩) (M := M) (F := pt) (pd := fun p => decide (pl c p < 0)) row (by simp) (by omega) (fun p hp => by
    have e := x_law_place (p := p) c0 hl nc
    simp [wipeD, call_s, e]) (fun p hp _ => by simp [wipeD])
  have em : row.filter (fun p => decide (pl c p < 0)) = [] := by
    rw [List.filter_eq_nil_iff]
    intro p hp
    have := PG.pl_nonneg (c := c) (p := p) fun k hk => H.sup k hk p (srt_mem.mpr hp)
    simp; omega
  rw [em] at l
  unfold g_law_1_5e_3
  exact ifS_f (tst_of (op_of (M1 := M) (d := .lst []) (e := .lst []) (by rw [fFz_s, l]; rfl) rfl (gNe_self (by decide))))
theorem e4 (H : HullF (srt row) c) (hl : c.length ≤ 400) (nc : NrL c) : g_law_1_5e_4 ⟨[x0, x1, x2, some (TP c), x4, x5, x6, x7, x8, x9, x10, x11, x12, x13, x14, x15, x16], M⟩ =
    .nx ⟨[x0, x1, x2, some (TP c), x4, x5, x6, x7, x8, x9, x10, x11, some (.int (PG.fan c)), x13, x14, x15, x16], M⟩ := by
  have n3 := H.n3
  have rg2 : asRg2 [.int 1, .int ((c.length : Int) - 1)] = some ((List.range' 1 (c.length - 1 - 1)).map fun (k : Nat) => D.int (k : Int)) := by
    have := asRg2_n (i := 1) (j := c.length - 1) (by omega) (by omega)
    rw [show ((c.length - 1 : Nat) : Int) = (c.length : Int) - 1 by omega] at this
    exact this
  have a0 : atI (c.map pt) 0 = some (pt (g c 0)) := atI_gi 0 rfl (by omega)
  have e := fLc_enc (enc := fun (k : Nat) => D.int (k : Int)) (i := 5) (e := fCall m__law_turn (fCons (fOp gIx (fVar 3) (fC (.int 0))) (fCons (fOp gIx (fVar 3) (fVar 5)) (fCons (fOp gIx (fVar 3) (fOp nAdd (fVar 5) (fC (.int 1)))) fNil)))) (vs := [5]) (fi := fIts asRg2 (fCons (fC (.int 1)) (fCons (fOp nSub (fCB gLen (fCons (fVar 3) fNil)) (fC (.int 1))) fNil))) (s := ⟨[x0, x1, x2, some (TP c), x4, x5, x6, x7, x8, x9, x10, x11, x12, x13, x14, x15, x16], M⟩) (M := M) (F := fun k => D.int (tn (g c 0) (g c k) (g c (k + 1)))) (List.range' 1 (c.length - 1 - 1)) (by simp [rg2]) (by simp; omega) (fun k hk => by
    rw [List.mem_range'_1] at hk
    have t := PG.x_law_turn (c := g c (k + 1)) (nc.g (k := 0) (by omega)) (nc.g (k := k) (by omega))
    rw [← q_lturn] at t
    simp [wipeD, call_s, a0, atI_g (c := c) (k := k) (by omega), atI_suc (c := c) (k := k) (by omega), t])
  have e2 : (List.range' 1 (c.length - 1 - 1)).map (fun k => D.int (tn (g c 0) (g c k) (g c (k + 1)))) = ((List.range' 1 (c.length - 1 - 1)).map fun k => tn (g c 0) (g c k) (g c (k + 1))).map D.int := by rw [List.map_map]; rfl
  rw [e2] at e
  have s : ∀ l : List Int, gSumL M [.lst (l.map .int)] = some (.int l.sum) := fun l => by
    unfold gSumL seqOf
    dsimp only
    rw [unInts_map]
  unfold g_law_1_5e_4
  rw [fAsg_s, fCB_s, fCons_s, fFz_s, e]
  simp only [bind_ok, fNil_s, s, opt_some, toS_ok, bName_s]
  rfl
theorem e5 (H : HullF (srt row) c) (hl : c.length ≤ 399) (nc : NrL c) : g_law_1_5e_5 ⟨[x0, x1, x2, some (TP c), x4, x5, x6, x7, x8, x9, x10, x11, some (.int (PG.fan c)), x13, x14, x15, x16], M⟩ =
    .nx ⟨[x0, x1, x2, some (TP c), x4, x5, x6, x7, x8, x9, x10, x11, some (.int (PG.fan c)), x13, x14, x15, x16], M⟩ := by
  have n3 := H.n3
  have s := PG.x_size (c := c) (by omega) nc
  rw [← q_size, PG.size_fan (by omega)] at s
  have h1 := PG.x_is_hull (c := c.reverse) (by simp; omega) (fun p hp => nc p (List.mem_reverse.mp hp))
  rw [← q_is_hull, PG.hu_rev_not H] at h1
  have h2 := PG.x_is_hull (c := c.drop 1 ++ c.take 1) (by simp; omega) (fun p hp => by
    rcases List.mem_append.mp hp with z | z
    · exact nc p (List.mem_of_mem_drop z)
    · exact nc p (List.mem_of_mem_take z))
  rw [← q_is_hull, PG.hu_rot_not H] at h2
  have cf : gCut M (TP c) (some (1 : Int)) none = some (TP (c.drop 1)) := cutP_from (k := 1) c
  have ct : gCut M (TP c) none (some (1 : Int)) = some (TP (c.take 1)) := cutP_to (k := 1) c
  have cc : gCat M (TP (c.drop 1)) (TP (c.take 1)) = some (TP (c.drop 1 ++ c.take 1)) := by
    unfold gCat seqOf
    dsimp only
    rw [if_pos (by simp; omega), ← List.map_append]
  have A : fOp gNe (fCall m_size (fCons (fVar 3) fNil)) (fVar 12) ⟨[x0, x1, x2, some (TP c), x4, x5, x6, x7, x8, x9, x10, x11, some (.int (PG.fan c)), x13, x14, x15, x16], M⟩ = .ok (.bl false) M := by
    simp [call_s, s]
  have B : fCall m_is_hull (fCons (fUn (gRev true) (fVar 3)) fNil) ⟨[x0, x1, x2, some (TP c), x4, x5, x6, x7, x8, x9, x10, x11, some (.int (PG.fan c)), x13, x14, x15, x16], M⟩ = .ok (.bl false) M := by
    rw [call_s, fCons_s, fUn_s]
    simp only [fVar_s, ce0, List.getElem?_cons_succ, bind_ok, revP (M := M) c (by omega), opt_some, fNil_s, lfs_cons, lf_tup, lfs_pts, lfs_nil, Bool.and_self, if_true, h1]
  have Cc : fCall m_is_hull (fCons (fOp gCat (fSl (fVar 3) (fPart (fC (.int 1))) fNoPart) (fSl (fVar 3) fNoPart (fPart (fC (.int 1))))) fNil) ⟨[x0, x1, x2, some (TP c), x4, x5, x6, x7, x8, x9, x10, x11, some (.int (PG.fan c)), x13, x14, x15, x16], M⟩ = .ok (.bl false) M := by
    rw [call_s, fCons_s, fOp_s]
    simp only [fSl, fNoPart, fPart, fVar_s, fC_s, ce0, List.getElem?_cons_succ, bind_ok, cf, ct, cc, opt_some, fNil_s, lfs_cons, lf_tup, lfs_pts, lfs_nil, Bool.and_self, if_true, h2]
  unfold g_law_1_5e_5
  exact ifS_f ((or_f (tst_of A)).trans ((or_f (tst_of B)).trans (tst_of Cc)))
end
end K04

namespace K04
open PySem PySem.Spec L2 DL
open PyProof.Rows hiding St
open Geo (g g_at g_mem mem_g tn chn pops hullL halves Rise lt val HullF Flat)
open PG (Nr NrL isH pl lookP lay TPs RsD rowI rowD fk tri srt_sub x_flat alone)
section
variable {x0 x1 x2 x3 x4 x5 x6 x7 x8 x9 x10 x11 x12 x13 x14 x15 x16 : Option D} {M : Cells} {n : Nat} {row c : List Pt}
theorem e6_body (H : HullF (srt row) c) (hl : c.length ≤ 400) (nc : NrL c) (p : Pt) : (fSeq g_law_1_5e_6_1 g_law_1_5e_6_2) ⟨[x0, x1, x2, some (TP c), x4, x5, x6, x7, x8, x9, x10, x11, x12, some (pt p), x14, x15, x16], M⟩ =
    .nx ⟨[x0, x1, x2, some (TP c), x4, x5, x6, x7, x8, x9, x10, x11, x12, some (pt p), x14, x15, x16], M⟩ := by
  have c0 : c ≠ [] := fun e => by have := H.n3; rw [e] at this; simp at this
  have a := PG.x_place (p := p) c0 hl nc
  rw [← q_place] at a
  have b := PG.x_quick (p := p) H hl nc
  rw [← q_quick] at b
  have d := x_law_place (p := p) c0 hl nc
  have s1 : g_law_1_5e_6_1 ⟨[x0, x1, x2, some (TP c), x4, x5, x6, x7, x8, x9, x10, x11, x12, some (pt p), x14, x15, x16], M⟩ = .nx ⟨[x0, x1, x2, some (TP c), x4, x5, x6, x7, x8, x9, x10, x11, x12, some (pt p), x14, x15, x16], M⟩ := by
    simp [g_law_1_5e_6_1, call_s, a, d]
  refine (seq_nx s1).trans ?_
  simp [g_law_1_5e_6_2, call_s, b, d]
theorem e6_it {a1 a2 a3 : Int} (hM : M[n]? = some (Tri a1 a2 a3)) : ∃ (ps : List Pt) (x y z : Int), fIt asLst (fOp gCatL (fFz (fLc (fIts asRg1 (fCons (fC (.int 3)) fNil)) (bName 5) fTrue (fCallM m__law_point (fCons (fVar 1) (fCons (fC (.int 6)) fNil))) [5])) (fCB gListOf (fCons (fSl (fVar 2) fNoPart (fPart (fC (.int 2)))) fNil))) ⟨[x0, some (.loc n), some (TP row), x3, x4, x5, x6, x7, x8, x9, x10, x11, x12, x13, x14, x15, x16], M⟩ = .ok (ps.map pt) (M.set n (Tri x y z)) := by
  have hlt : n < M.length := (List.getElem?_eq_some_iff.mp hM).1
  obtain ⟨ps, x, y, z, e, l, h⟩ := PG.lc_draw (enc := fun (k : Nat) => D.int (k : Int)) (i := 5) (n := n) (e := fCallM m__law_point (fCons (fVar 1) (fCons (fC (.int 6)) fNil))) (ρ := wipeD [x0, some (.loc n), some (TP row), x3, x4, x5, x6, x7, x8, x9, x10, x11, x12, x13, x14, x15, x16] [5]) (Pp := fun _ => True) (fun k M b1 b2 b3 hM => by
    obtain ⟨p, x, y, z, e, _⟩ := PG.point_ok (a := b1) (b := b2) (c := b3) (far := 6) (by omega) (by omega)
    exact ⟨p, x, y, z, callM_at (fM := m__law_point) (n := n) (M := M) (rest := [.int 6]) (by simp [wipeD]) hM rfl rfl rfl rfl e, trivial⟩) (List.range 3) M a1 a2 a3 hM
  have rg : asRg1 [.int 3] = some ((List.range 3).map fun (k : Nat) => D.int (k : Int)) := asRg1_n (j := 3) (by omega)
  have A : fFz (fLc (fIts asRg1 (fCons (fC (.int 3)) fNil)) (bName 5) fTrue (fCallM m__law_point (fCons (fVar 1) (fCons (fC (.int 6)) fNil))) [5]) ⟨[x0, some (.loc n), some (TP row), x3, x4, x5, x6, x7, x8, x9, x10, x11, x12, x13, x14, x15, x16], M⟩ = .ok (LsP ps) (M.set n (Tri x y z)) := by
    rw [fFz_s, fLc_s, fIts_s, fCons_s]
    simp only [fC_s, bind_ok, fNil_s, rg, opt_some]
    rw [if_pos (by simp), e]
    rfl
  have ct : ∀ M, gCut M (TP row) none (some (2 : Int)) = some (TP (row.take 2)) := fun M => cutP_to (k := 2) row
  have B : fCB gListOf (fCons (fSl (fVar 2) fNoPart (fPart (fC (.int 2)))) fNil) ⟨[x0, some (.loc n), some (TP row), x3, x4, x5, x6, x7, x8, x9, x10, x11, x12, x13, x14, x15, x16], M.set n (Tri x y z)⟩ = .ok (LsP (row.take 2)) (M.set n (Tri x y z)) := by
    rw [fCB_s, fCons_s]
    simp only [fSl, fNoPart, fPart, fVar_s, fC_s, ce0, List.getElem?_cons_succ, bind_ok, ct, opt_some, fNil_s]
    rfl
  refine ⟨ps ++ row.take 2, x, y, z, ?_⟩
  rw [fIt_s, op_of A B (z := LsP (ps ++ row.take 2)) (by
    unfold gCatL lstOf
    dsimp only
    rw [if_pos (by simp [l]; omega), ← List.map_append])]
  rfl
theorem e6 (H : HullF (srt row) c) (hl : c.length ≤ 400) (nc : NrL c) {a1 a2 a3 : Int} (hM : M[n]? = some (Tri a1 a2 a3)) : ∃ (y13 : Option D) (x y z : Int), g_law_1_5e_6 ⟨[x0, some (.loc n), some (TP row), some (TP c), x4, x5, x6, x7, x8, x9, x10, x11, x12, x13, x14, x15, x16], M⟩ =
    .nx ⟨[x0, some (.loc n), some (TP row), some (TP c), x4, x5, x6, x7, x8, x9, x10, x11, x12, y13, x14, x15, x16], M.set n (Tri x y z)⟩ := by
  obtain ⟨ps, x, y, z, e⟩ := e6_it (x0 := x0) (x3 := some (TP c)) (x4 := x4) (x5 := x5) (x6 := x6) (x7 := x7) (x8 := x8) (x9 := x9) (x10 := x10) (x11 := x11) (x12 := x12) (x13 := x13) (x14 := x14) (x15 := x15) (x16 := x16) (row := row) hM
  obtain ⟨s', q1, y13, q2⟩ := forL_inv (g := bName 13) (b := fSeq g_law_1_5e_6_1 g_law_1_5e_6_2) (fun d => ∃ p, d = pt p) (fun s => ∃ y13, s = ⟨[x0, some (.loc n), some (TP row), some (TP c), x4, x5, x6, x7, x8, x9, x10, x11, x12, y13, x14, x15, x16], M.set n (Tri x y z)⟩) (fun d s hd hs => by
    obtain ⟨p, rfl⟩ := hd
    obtain ⟨y13, rfl⟩ := hs
    exact ⟨_, rfl, _, e6_body H hl nc p, _, rfl⟩) (ps.map pt) ⟨[x0, some (.loc n), some (TP row), some (TP c), x4, x5, x6, x7, x8, x9, x10, x11, x12, x13, x14, x15, x16], M.set n (Tri x y z)⟩ (fun d hd => by
      obtain ⟨p, _, rfl⟩ := List.mem_map.mp hd
      exact ⟨p, rfl⟩) ⟨x13, rfl⟩
  refine ⟨y13, x, y, z, ?_⟩
  unfold g_law_1_5e_6
  rw [fFor_s, e]
  simp only [toS_ok]
  rw [q1, q2]
theorem e7 (H : HullF (srt row) c) (hc : hullL (srt row) = c) (h1 : 1 ≤ row.length) (hr : row.length ≤ 400) (hl : c.length ≤ 400) (nr : NrL row) (nc : NrL c) {a1 a2 a3 : Int} (hM : M[n]? = some (Tri a1 a2 a3)) : ∃ (x y z : Int), g_law_1_5e_7 ⟨[x0, some (.loc n), some (TP row), some (TP c), x4, x5, x6, x7, x8, x9, x10, x11, x12, x13, x14, x15, x16], M⟩ =
    .nx ⟨[x0, some (.loc n), some (TP row), some (TP c), x4, x5, x6, x7, x8, x9, x10, x11, x12, x13, x14, x15, x16], M.set n (Tri x y z)⟩ := by
  obtain ⟨x, y, z, e⟩ := x_paper H hc h1 hr hl nr nc a1 a2 a3
  have cl := callM_at (fM := m__law_paper) (f := fCons (fVar 1) (fCons (fVar 2) (fCons (fVar 3) fNil))) (s := ⟨[x0, some (.loc n), some (TP row), some (TP c), x4, x5, x6, x7, x8, x9, x10, x11, x12, x13, x14, x15, x16], M⟩) (n := n) (M := M) (rest := [TP row, TP c]) (by simp) hM tri_lf tri_lf (by simp) rfl e
  refine ⟨x, y, z, ?_⟩
  unfold g_law_1_5e_7
  exact ifS_f (not_of (b := true) (tst_of cl))
theorem e8 (hr : row.length ≤ 400) (h0 : 0 < c.length) : g_law_1_5e_8 ⟨[x0, x1, some (TP row), some (TP c), x4, x5, x6, x7, x8, x9, x10, x11, x12, x13, x14, x15, x16], M⟩ =
    .nx ⟨[x0, x1, some (TP row), some (TP c), x4, x5, x6, x7, x8, x9, x10, x11, x12, x13, some (TP (row.filter fun p => !decide (p = g c 0))), x15, x16], M⟩ := by
  have a0 : atI (c.map pt) 0 = some (pt (g c 0)) := atI_gi 0 rfl h0
  have l := fLc_flt (enc := pt) (i := 11) (t := fTst (fOp gNe (fVar 11) (fOp gIx (fVar 3) (fC (.int 0))))) (e := fVar 11) (vs := [11]) (fi := fIt asTup (fVar 2)) (s := ⟨[x0, x1, some (TP row), some (TP c), x4, x5, x6, x7, x8, x9, x10, x11, x12, x13, x14, x15, x16], M⟩) (M := M) (F := pt) (pd := fun p => !decide (p = g c 0)) row (by simp) (by omega) (fun p hp => by
    simp [wipeD, a0, PG.gNe_pts]) (fun p hp _ => by simp [wipeD])
  unfold g_law_1_5e_8
  rw [fAsg_s, fCB_s, fCons_s, fFz_s, l]
  rfl
theorem e9 (H : HullF (srt row) c) (hr : row.length ≤ 9) (hl : c.length ≤ 400) (nr : NrL row) : g_law_1_5e_9 ⟨[x0, x1, x2, some (TP c), x4, x5, x6, x7, x8, x9, x10, x11, x12, x13, some (TP (row.filter fun p => !decide (p = g c 0))), x15, x16], M⟩ =
    .nx ⟨[x0, x1, x2, some (TP c), x4, x5, x6, x7, x8, x9, x10, x11, x12, x13, some (TP (row.filter fun p => !decide (p = g c 0))), x15, x16], M⟩ := by
  have n3 := H.n3
  have mem : ∀ p, p ∈ row.filter (fun p => !decide (p = g c 0)) ↔ p ∈ row ∧ p ≠ g c 0 := fun p => by rw [List.mem_filter]; simp
  have nl : NrL (row.filter fun p => !decide (p = g c 0)) := fun p hp => nr p ((mem p).mp hp).1
  have ll : (row.filter fun p => !decide (p = g c 0)).length ≤ 9 := Nat.le_trans (List.length_filter_le _ _) hr
  have ne : row.filter (fun p => !decide (p = g c 0)) ≠ [] := by
    have m1 := srt_mem.mp (H.sub _ (g_mem (i := 1) (by omega)))
    have l1 := H.first 1 (by omega) (by omega)
    exact List.ne_nil_of_mem ((mem _).mpr ⟨m1, fun e => by rw [e] at l1; exact Geo.lt_irr l1⟩)
  have out := PG.less_out H mem
  have hh := PG.x_hull (by omega : (row.filter fun p => !decide (p = g c 0)).length ≤ 400) nl
  rw [← q_hull] at hh
  have sub := PG.hullL_sub (srt_rise (row.filter fun p => !decide (p = g c 0))) (by
    obtain ⟨p, hp⟩ := List.exists_mem_of_ne_nil _ ne
    exact List.ne_nil_of_mem (srt_mem.mpr hp))
  have nh : NrL (hullL (srt (row.filter fun p => !decide (p = g c 0)))) := fun p hp => nl p (srt_mem.mp (sub.1 p hp))
  have lh : (hullL (srt (row.filter fun p => !decide (p = g c 0)))).length ≤ 400 := Nat.le_trans (PG.hullL_len (srt_rise _)) (Nat.le_trans (PG.srt_len _) (Nat.le_trans ll (by omega)))
  have pc := PG.x_place (p := g c 0) sub.2 lh nh
  rw [← q_place] at pc
  have a0 : atI (c.map pt) 0 = some (pt (g c 0)) := atI_gi 0 rfl (by omega)
  generalize hullL (srt (row.filter fun p => !decide (p = g c 0))) = h at *
  generalize row.filter (fun p => !decide (p = g c 0)) = less at *
  generalize g c 0 = q at *
  generalize hq : pl h q = v at *
  have A : fTst (fOp nGe (fCall m_place (fCons (fCall m_hull (fCons (fVar 14) fNil)) (fCons (fOp gIx (fVar 3) (fC (.int 0))) fNil))) (fC (.int 0))) ⟨[x0, x1, x2, some (TP c), x4, x5, x6, x7, x8, x9, x10, x11, x12, x13, some (TP less), x15, x16], M⟩ = .ok (decide (0 ≤ v)) M := by
    simp [call_s, hh, a0, pc]
  have B : fTst (fOp nGt (fCB gLen (fCons (fCall m_hull (fCons (fVar 14) fNil)) fNil)) (fC (.int 2))) ⟨[x0, x1, x2, some (TP c), x4, x5, x6, x7, x8, x9, x10, x11, x12, x13, some (TP less), x15, x16], M⟩ = .ok (decide (2 < h.length)) M := by
    have : decide ((2 : Int) < (h.length : Int)) = decide (2 < h.length) := decide_eq_decide.mpr (by omega)
    simp [call_s, hh, this]
  unfold g_law_1_5e_9
  by_cases h2 : 0 ≤ v
  · rw [decide_eq_true h2] at A
    have : ¬ 2 < h.length := fun z => by have := out z; omega
    rw [decide_eq_false this] at B
    exact ifS_f ((and_t A).trans B)
  · rw [decide_eq_false h2] at A
    exact ifS_f (and_f A)
end
end K04

namespace K04
open PySem PySem.Spec L2 DL
open PyProof.Rows hiding St
open Geo (g g_at g_mem mem_g tn chn pops hullL halves Rise lt val HullF Flat)
open PG (Nr NrL isH pl lookP lay TPs RsD rowI rowD fk tri srt_sub x_flat alone)
section
variable {x0 x1 x2 x3 x4 x5 x6 x7 x8 x9 x10 x11 x12 x13 x14 x15 x16 : Option D} {M : Cells} {n : Nat} {row c : List Pt}
theorem st6 (hr : row.length ≤ 400) (hn : NrL row) : g_law_1_6 ⟨[x0, x1, some (TP row), x3, x4, x5, x6, x7, x8, x9, x10, x11, x12, x13, x14, x15, x16], M⟩ =
    .nx ⟨[x0, x1, some (TP row), x3, x4, x5, x6, x7, x8, x9, x10, x11, x12, x13, x14, some (.tup (TPs (lay (srt row).length (srt row)))), x16], M⟩ := by
  have e := PG.x_layers hr hn
  rw [← q_layers] at e
  simp [g_law_1_6, call_s, e]
theorem in16 {ly : List Pt} {z11 : Option D} (hl : ly.length ≤ 400) : fFz (fLc (fIt asTup (fVar 16)) (bName 11) fTrue (fVar 11) [11]) ⟨[x0, x1, x2, x3, x4, x5, x6, x7, x8, x9, x10, z11, x12, x13, x14, x15, some (TP ly)], M⟩ = .ok (LsP ly) M := by
  have e := fLc_enc (enc := pt) (i := 11) (e := fVar 11) (vs := [11]) (fi := fIt asTup (fVar 16)) (s := ⟨[x0, x1, x2, x3, x4, x5, x6, x7, x8, x9, x10, z11, x12, x13, x14, x15, some (TP ly)], M⟩) (M := M) (F := pt) ly (by simp) (by omega) (fun p _ => by simp [wipeD])
  rw [fFz_s, e]; rfl
theorem st7_a {ls : List (List Pt)} (hl : ls.flatten.length ≤ 9) (hk : ls.length ≤ 9) : fCall m__law_flat (fCons (fFz (fLc (fIt asTup (fVar 15)) (bName 16) fTrue (fFz (fLc (fIt asTup (fVar 16)) (bName 11) fTrue (fVar 11) [11])) [16])) fNil) ⟨[x0, x1, x2, x3, x4, x5, x6, x7, x8, x9, x10, x11, x12, x13, x14, some (.tup (TPs ls)), x16], M⟩ = .ok (LsP ls.flatten) M := by
  have sub : ∀ l ∈ ls, l.length ≤ 400 := fun l h => by
    have : l.length ≤ ls.flatten.length := by
      obtain ⟨a, b, rfl⟩ := List.append_of_mem h
      simp; omega
    omega
  have e := fLc_enc (enc := fun l : List Pt => TP l) (i := 16) (e := fFz (fLc (fIt asTup (fVar 16)) (bName 11) fTrue (fVar 11) [11])) (vs := [16]) (fi := fIt asTup (fVar 15)) (s := ⟨[x0, x1, x2, x3, x4, x5, x6, x7, x8, x9, x10, x11, x12, x13, x14, some (.tup (TPs ls)), x16], M⟩) (M := M) (F := fun l => LsP l) ls (by simp [TPs]) (by omega) (fun l h => in16 (sub l h))
  have e2 : ls.map (fun l => LsP l) = (ls.map fun l => l.map pt).map D.lst := by rw [List.map_map]; rfl
  rw [e2] at e
  have fl : (ls.map fun l => l.map pt).flatten = ls.flatten.map pt := by rw [List.map_flatten]
  have f := x_flat (ls := ls.map fun l => l.map pt) (by rw [fl, List.length_map]; omega) (fun M m => by rw [fl]; exact fzs_pts _)
  rw [← q_flat, fl] at f
  have lf : lfs ((ls.map fun l => l.map pt).map D.lst) = true := lfs_mapm _ fun l hl => by
    obtain ⟨b, _, rfl⟩ := List.mem_map.mp hl
    rw [lf_lst]; exact lfs_pts b
  rw [call_s, fCons_s, fFz_s, e]
  simp only [bind_ok, fNil_s, lfs_cons, lf_lst, lf, lfs_nil, Bool.and_self, if_true, f]
theorem lay_first {l : List Pt} (h : l ≠ []) : ∃ r, lay l.length l = hullL l :: r := by
  obtain ⟨m, hm⟩ : ∃ m, l.length = m + 1 := ⟨l.length - 1, by have := List.length_pos_iff.mpr h; omega⟩
  rw [hm, lay, if_neg h]
  exact ⟨_, rfl⟩
theorem lay_len : ∀ (n : Nat) (l : List Pt), (lay n l).length ≤ n
  | 0, l => Nat.le_refl _
  | n + 1, l => by
    rw [lay]
    split
    · simp
    · have := lay_len n (PG.rest l (hullL l))
      simp; omega
theorem st7 (h1 : 1 ≤ row.length) (hr : row.length ≤ 9) : g_law_1_7 ⟨[x0, x1, x2, some (TP (hullL (srt row))), some (LsP (alone row)), x5, x6, x7, x8, x9, x10, x11, x12, x13, x14, some (.tup (TPs (lay (srt row).length (srt row)))), x16], M⟩ =
    .nx ⟨[x0, x1, x2, some (TP (hullL (srt row))), some (LsP (alone row)), x5, x6, x7, x8, x9, x10, x11, x12, x13, x14, some (.tup (TPs (lay (srt row).length (srt row)))), x16], M⟩ := by
  have R := srt_rise row
  have ls := PG.srt_len row
  have n0 : srt row ≠ [] := by
    match row, h1 with
    | p :: r, _ => exact List.ne_nil_of_mem (srt_mem.mpr List.mem_cons_self)
  have p := PG.lay_perm (srt row).length (srt row) (Nat.le_refl _) R
  have pl := p.length_eq
  have ll := lay_len (srt row).length (srt row)
  have sA : (alone row).mergeSort lePt = srt row := PG.alone_srt row
  have sB : (lay (srt row).length (srt row)).flatten.mergeSort lePt = srt row := by
    refine rise_eq (sorted_rise (p.nodup_iff.mpr (R.imp fun {a b} z e => by subst e; exact Geo.lt_irr z))) R fun q => ?_
    rw [List.mem_mergeSort]; exact p.mem_iff
  obtain ⟨rr, e0⟩ := lay_first n0
  have a := st7_a (x0 := x0) (x1 := x1) (x2 := x2) (x3 := some (TP (hullL (srt row)))) (x4 := some (LsP (alone row))) (x5 := x5) (x6 := x6) (x7 := x7) (x8 := x8) (x9 := x9) (x10 := x10) (x11 := x11) (x12 := x12) (x13 := x13) (x14 := x14) (x16 := x16) (M := M) (ls := lay (srt row).length (srt row)) (by omega) (by omega)
  have ix : gIx M (.tup (TPs (lay (srt row).length (srt row)))) (.int 0) = some (TP (hullL (srt row))) := by rw [e0]; simp [TPs]
  generalize lay (srt row).length (srt row) = L at *
  generalize hullL (srt row) = h at *
  generalize srt row = s at *
  generalize alone row = al at *
  have A : fCB gSorted (fCons (fCall m__law_flat (fCons (fFz (fLc (fIt asTup (fVar 15)) (bName 16) fTrue (fFz (fLc (fIt asTup (fVar 16)) (bName 11) fTrue (fVar 11) [11])) [16])) fNil)) fNil) ⟨[x0, x1, x2, some (TP h), some (LsP al), x5, x6, x7, x8, x9, x10, x11, x12, x13, x14, some (.tup (TPs L)), x16], M⟩ = .ok (LsP s) M := by
    rw [fCB_s, fCons_s, a]
    simp only [bind_ok, fNil_s, fSorted_lst, sB, opt_some]
  have B : fCB gSorted (fCons (fVar 4) fNil) ⟨[x0, x1, x2, some (TP h), some (LsP al), x5, x6, x7, x8, x9, x10, x11, x12, x13, x14, some (.tup (TPs L)), x16], M⟩ = .ok (LsP s) M := by
    simp [sA]
  unfold g_law_1_7
  refine ifS_f ((or_f (tst_of (op_of A B (z := .bl false) (by rw [gNe_LsP]; simp)))).trans (tst_of (op_of (M1 := M) (d := TP h) (e := TP h) (op_of (M1 := M) rfl rfl ix) rfl ?_)))
  rw [gNe_TP]; simp
theorem st8 : g_law_1_8 ⟨[x0, x1, x2, x3, x4, x5, x6, x7, x8, x9, x10, x11, x12, x13, x14, x15, x16], M⟩ = .nx ⟨[x0, x1, x2, x3, x4, x5, x6, x7, x8, x9, x10, x11, x12, x13, x14, x15, x16], M⟩ := by
  have e := PG.x_check_not (c := [(0, 0), (1, 0)]) (by simp) (fun p hp => by
    simp at hp
    rcases hp with rfl | rfl <;> (unfold Nr; omega)) (PG.isH_len (by simp))
  rw [← q_check_hull] at e
  have cl : fCall m_check_hull (fCons (fTup (fCons (fTup (fCons (fC (.int 0)) (fCons (fC (.int 0)) fNil))) (fCons (fTup (fCons (fC (.int 1)) (fCons (fC (.int 0)) fNil))) fNil))) fNil) ⟨[x0, x1, x2, x3, x4, x5, x6, x7, x8, x9, x10, x11, x12, x13, x14, x15, x16], M⟩ = .ex ⟨"BadPoint", none⟩ M := by
    have e' : m_check_hull [.tup [.tup [.int 0, .int 0], .tup [.int 1, .int 0]]] = .ex ⟨"BadPoint", none⟩ := e
    simp [call_s, e']
  have t := told_at (r := "point") cl (by rfl)
  have s1 : PyData.strOk "point" = true := by decide +kernel
  have n0 : gNe M (.str "point") (.str "point") = some (.bl false) := by rw [gNe_str s1 s1]; rfl
  unfold g_law_1_8
  exact ifS_f (tst_of (op_of t rfl n0))
theorem x_badrow : m_hull [.tup [.tup [.int 0, .int 0], .non]] = .ex ⟨"BadPoint", none⟩ := by rfl
theorem st9 : g_law_1_9 ⟨[x0, x1, x2, x3, x4, x5, x6, x7, x8, x9, x10, x11, x12, x13, x14, x15, x16], M⟩ = .nx ⟨[x0, x1, x2, x3, x4, x5, x6, x7, x8, x9, x10, x11, x12, x13, x14, x15, x16], M⟩ := by
  have cl : fCall m_hull (fCons (fTup (fCons (fTup (fCons (fC (.int 0)) (fCons (fC (.int 0)) fNil))) (fCons (fC .non) fNil))) fNil) ⟨[x0, x1, x2, x3, x4, x5, x6, x7, x8, x9, x10, x11, x12, x13, x14, x15, x16], M⟩ = .ex ⟨"BadPoint", none⟩ M := by
    simp [call_s, x_badrow]
  have t := told_at (r := "point") cl (by rfl)
  have s1 : PyData.strOk "point" = true := by decide +kernel
  have n0 : gNe M (.str "point") (.str "point") = some (.bl false) := by rw [gNe_str s1 s1]; rfl
  have e := PG.x_hull (row := []) (by simp) (fun _ z => by cases z)
  rw [← q_hull] at e
  have e0 : hullL (srt []) = [] := by
    have : srt [] = [] := by unfold srt ddG; simp
    rw [this]; rfl
  rw [e0] at e
  have e' : m_hull [.tup []] = .ok (.tup []) := e
  unfold g_law_1_9
  refine ifS_f ((or_f (tst_of (op_of t rfl n0))).trans (tst_of (op_of (M1 := M) (d := .tup []) (e := .tup []) ?_ rfl (gNe_self (by decide)))))
  simp [call_s, e']
end
end K04

namespace K04
open PySem PySem.Spec L2 DL
open PyProof.Rows hiding St
open Geo (g g_at g_mem mem_g tn chn pops hullL halves Rise lt val HullF Flat)
open PG (Nr NrL isH pl lookP lay TPs RsD rowI rowD fk tri srt_sub x_flat alone)
section
variable {x0 x2 x3 x4 x5 x6 x7 x8 x9 x10 x11 x12 x13 x14 x15 x16 : Option D} {M : Cells} {n : Nat}
theorem body_ok (hM : AllTri M) (hn : n < M.length) : ∃ ρ' M', (fSeq g_law_1_1 (fSeq g_law_1_2 (fSeq g_law_1_3 (fSeq g_law_1_4 (fSeq g_law_1_5 (fSeq g_law_1_6 (fSeq g_law_1_7 (fSeq g_law_1_8 g_law_1_9))))))))
    ⟨[x0, some (.loc n), x2, x3, x4, x5, x6, x7, x8, x9, x10, x11, x12, x13, x14, x15, x16], M⟩ = .nx ⟨ρ', M'⟩ ∧ ρ'.length = 17 ∧ AllTri M' ∧ M'.length = M.length := by
  obtain ⟨a1, a2, a3, ht⟩ := hM.at hn
  obtain ⟨row, x, y, z, s1, l1, l9, sm⟩ := st1 (x0 := x0) (x2 := x2) (x3 := x3) (x4 := x4) (x5 := x5) (x6 := x6) (x7 := x7) (x8 := x8) (x9 := x9) (x10 := x10) (x11 := x11) (x12 := x12) (x13 := x13) (x14 := x14) (x15 := x15) (x16 := x16) ht
  have nr : NrL row := fun p hp => (sm p hp).n
  have al : NrL (alone row) := fun p hp => nr p (PG.alone_mem.mp hp)
  have all : (alone row).length ≤ 9 := Nat.le_trans (PG.alone_len row) l9
  have hM2 : (M.set n (Tri x y z))[n]? = some (Tri x y z) := List.getElem?_set_self hn
  rw [seq_nx s1, seq_nx (st2 l9 nr), seq_nx (st3 l9), seq_nx (st4 al all)]
  have sl := PG.srt_len row
  have n0 : srt row ≠ [] := by
    match row, l1 with
    | p :: r, _ => exact List.ne_nil_of_mem (srt_mem.mpr List.mem_cons_self)
  have hs := PG.hullL_sub (srt_rise row) n0
  have nc : NrL (hullL (srt row)) := fun p hp => nr p (srt_mem.mp (hs.1 p hp))
  have lc : (hullL (srt row)).length ≤ 9 := Nat.le_trans (PG.hullL_len (srt_rise row)) (by omega)
  have lnR : (hullL (srt row)).length ≤ 400 := by omega
  have mid : ∃ y10 y11 y12 y13 y14 x' y' z', g_law_1_5 ⟨[x0, some (.loc n), some (TP row), some (TP (hullL (srt row))), some (LsP (alone row)), x5, some (.bl (((alone row).map (lns (alone row))).flatten.isEmpty)), x7, x8, x9, x10, x11, x12, x13, x14, x15, x16], M.set n (Tri x y z)⟩ =
      .nx ⟨[x0, some (.loc n), some (TP row), some (TP (hullL (srt row))), some (LsP (alone row)), x5, some (.bl (((alone row).map (lns (alone row))).flatten.isEmpty)), x7, x8, x9, y10, y11, y12, y13, y14, x15, x16], M.set n (Tri x' y' z')⟩ := by
    have fi : ((alone row).map (lns (alone row))).flatten.isEmpty = true ↔ Flat (srt row) := line_iff.trans (PG.flat_iff fun p => by rw [PG.alone_mem, srt_mem])
    by_cases hF : Flat (srt row)
    · rw [fi.mpr hF]
      have h3 : (hullL (srt row)).length < 3 := by
        rw [Geo.hullL_flat (srt_rise row) hF, List.length_append]
        have : ((srt row).take 1).length ≤ 1 := by simp; omega
        split <;> simp <;> omega
      refine ⟨some (LsP (srt row)), x11, x12, x13, x14, x, y, z, ?_⟩
      unfold g_law_1_5
      refine (ifS_t rfl).trans ?_
      exact (seq_nx st5_1).trans ((seq_nx (st5_2 hF (List.length_pos_iff.mpr n0) (by omega))).trans (st5_3 rfl h3 l9 nr nc))
    · have hB : ((alone row).map (lns (alone row))).flatten.isEmpty = false := by
        rw [← Bool.not_eq_true]; exact fun q => hF (fi.mp q)
      rw [hB]
      have H := Geo.hullL_hull (srt_rise row) hF
      generalize hc : hullL (srt row) = c at *
      obtain ⟨y13, b1, b2, b3, q6⟩ := e6 (x0 := x0) (x4 := some (LsP (alone row))) (x5 := x5) (x6 := some (.bl false)) (x7 := x7) (x8 := x8) (x9 := x9) (x10 := x10) (x11 := x11) (x12 := some (.int (PG.fan c))) (x13 := x13) (x14 := x14) (x15 := x15) (x16 := x16) H lnR nc hM2
      rw [List.set_set] at q6
      have hM3 : (M.set n (Tri b1 b2 b3))[n]? = some (Tri b1 b2 b3) := List.getElem?_set_self hn
      obtain ⟨d1, d2, d3, q7⟩ := e7 (x0 := x0) (x4 := some (LsP (alone row))) (x5 := x5) (x6 := some (.bl false)) (x7 := x7) (x8 := x8) (x9 := x9) (x10 := x10) (x11 := x11) (x12 := some (.int (PG.fan c))) (x13 := y13) (x14 := x14) (x15 := x15) (x16 := x16) H hc l1 (by omega) lnR nr nc hM3
      rw [List.set_set] at q7
      refine ⟨x10, x11, some (.int (PG.fan c)), y13, some (TP (row.filter fun p => !decide (p = g c 0))), d1, d2, d3, ?_⟩
      unfold g_law_1_5
      refine (ifS_f rfl).trans ?_
      refine (seq_nx (e1 H lnR nc)).trans ((seq_nx (e2 H lnR nc)).trans ((seq_nx (e3 H lnR l9 nc)).trans ((seq_nx (e4 H lnR nc)).trans ((seq_nx (e5 H (by omega) nc)).trans ((seq_nx q6).trans ((seq_nx q7).trans ((seq_nx (e8 (by omega) (by have := H.n3; omega))).trans ?_)))))))
      exact e9 H l9 lnR nr
  obtain ⟨y10, y11, y12, y13, y14, x', y', z', e5⟩ := mid
  rw [seq_nx e5, seq_nx (st6 (by omega) nr), seq_nx (st7 l1 l9), seq_nx st8, st9]
  exact ⟨_, _, rfl, rfl, hM.put, by simp⟩
end
theorem len17 {α : Type} : ∀ {l : List α}, l.length = 17 → ∃ x0 x1 x2 x3 x4 x5 x6 x7 x8 x9 x10 x11 x12 x13 x14 x15 x16, l = [x0, x1, x2, x3, x4, x5, x6, x7, x8, x9, x10, x11, x12, x13, x14, x15, x16]
  | [x0, x1, x2, x3, x4, x5, x6, x7, x8, x9, x10, x11, x12, x13, x14, x15, x16], _ => ⟨x0, x1, x2, x3, x4, x5, x6, x7, x8, x9, x10, x11, x12, x13, x14, x15, x16, rfl⟩
theorem law_ok : ∀ sk d ns, Scr sk d ns → ns.length ≤ 63 → ∃ s1, g_law sk ⟨init0 N_law [d], []⟩ = .rt (.bl true) s1 := by
  intro sk d ns h hl
  obtain ⟨Mb, e1, hM⟩ := rounds_ok h hl (most := 3) (by decide)
  have e1 : m__law_rounds sk [d, .int 3] = .ok (.lst ((List.range Mb.length).map .loc)) Mb := e1
  obtain ⟨s', e2, _⟩ := forL_inv (g := bName 1) (b := fSeq g_law_1_1 (fSeq g_law_1_2 (fSeq g_law_1_3 (fSeq g_law_1_4 (fSeq g_law_1_5 (fSeq g_law_1_6 (fSeq g_law_1_7 (fSeq g_law_1_8 g_law_1_9))))))))
    (fun d => ∃ n, n < Mb.length ∧ d = .loc n) (fun s => s.ρ.length = 17 ∧ AllTri s.M ∧ s.M.length = Mb.length) (fun dd s hd hs => by
      obtain ⟨n, hn, rfl⟩ := hd
      obtain ⟨ρ, M⟩ := s
      obtain ⟨h1, h2, h3⟩ := hs
      obtain ⟨x0, x1, x2, x3, x4, x5, x6, x7, x8, x9, x10, x11, x12, x13, x14, x15, x16, rfl⟩ := len17 h1
      obtain ⟨ρ', M', q1, q2, q3, q4⟩ := body_ok (x0 := x0) (x2 := x2) (x3 := x3) (x4 := x4) (x5 := x5) (x6 := x6) (x7 := x7) (x8 := x8) (x9 := x9) (x10 := x10) (x11 := x11) (x12 := x12) (x13 := x13) (x14 := x14) (x15 := x15) (x16 := x16) (n := n) h2 (by rw [h3]; exact hn)
      exact ⟨_, rfl, _, q1, q2, q3, q4.trans h3⟩) ((List.range Mb.length).map .loc) ⟨init0 N_law [d], Mb⟩ (fun dd hd => by
        obtain ⟨n, hn, rfl⟩ := List.mem_map.mp hd
        exact ⟨n, List.mem_range.mp hn, rfl⟩) ⟨rfl, hM, rfl⟩
  have e3 : g_law_1 sk ⟨init0 N_law [d], []⟩ = .nx s' := by
    unfold g_law_1
    rw [fFor_s]
    have q : fCallO (m__law_rounds sk) (fCons (fVar 0) (fCons (fC (.int 3)) fNil)) ⟨init0 N_law [d], []⟩ = .ok (.lst ((List.range Mb.length).map .loc)) Mb := rounds_call (k := 3) h rfl (by simp [init0]) e1 hM
    rw [fIt_s, q]
    simp only [bind_ok, asLst_s, opt_some, toS_ok]
    exact e2
  unfold g_law
  rw [seq_nx e3]
  exact ⟨_, rfl⟩
end K04

namespace K04
open PySem PySem.Spec L2 DL PySem.W
open PyProof.Rows hiding St
def fn : List He.DefD := [⟨("_law_dice", none), "_law_dice", "_law_dice", defArgs st__law_dice, defBody st__law_dice, defScope st__law_dice, [], []⟩,
  ⟨("_law_rounds", none), "_law_rounds", "_law_rounds", defArgs st__law_rounds, defBody st__law_rounds, defScope st__law_rounds, [], []⟩,
  ⟨("_law_roll", none), "_law_roll", "_law_roll", defArgs st__law_roll, defBody st__law_roll, defScope st__law_roll, [], []⟩,
  ⟨("_law_point", none), "_law_point", "_law_point", defArgs st__law_point, defBody st__law_point, defScope st__law_point, [], []⟩,
  ⟨("_law_points", none), "_law_points", "_law_points", defArgs st__law_points, defBody st__law_points, defScope st__law_points, [], []⟩,
  ⟨("check_point", none), "check_point", "check_point", defArgs st_check_point, defBody st_check_point, defScope st_check_point, [], []⟩,
  ⟨("check_row", none), "check_row", "check_row", defArgs st_check_row, defBody st_check_row, defScope st_check_row, [], []⟩,
  ⟨("cross", none), "cross", "cross", defArgs st_cross, defBody st_cross, defScope st_cross, [], []⟩,
  ⟨("less", none), "less", "less", defArgs st_less, defBody st_less, defScope st_less, [], []⟩,
  ⟨("turn", none), "turn", "turn", defArgs st_turn, defBody st_turn, defScope st_turn, [], []⟩,
  ⟨("chain", none), "chain", "chain", defArgs st_chain, defBody st_chain, defScope st_chain, [], []⟩,
  ⟨("hull_of", none), "hull_of", "hull_of", defArgs st_hull_of, defBody st_hull_of, defScope st_hull_of, [], []⟩,
  ⟨("hull", none), "hull", "hull", defArgs st_hull, defBody st_hull, defScope st_hull, [], []⟩,
  ⟨("layers", none), "layers", "layers", defArgs st_layers, defBody st_layers, defScope st_layers, [], []⟩,
  ⟨("_law_flat", none), "_law_flat", "_law_flat", defArgs st__law_flat, defBody st__law_flat, defScope st__law_flat, [], []⟩,
  ⟨("is_hull", none), "is_hull", "is_hull", defArgs st_is_hull, defBody st_is_hull, defScope st_is_hull, [], []⟩,
  ⟨("check_hull", none), "check_hull", "check_hull", defArgs st_check_hull, defBody st_check_hull, defScope st_check_hull, [], []⟩,
  ⟨("in_three", none), "in_three", "in_three", defArgs st_in_three, defBody st_in_three, defScope st_in_three, [], []⟩,
  ⟨("hull_paper", none), "hull_paper", "hull_paper", defArgs st_hull_paper, defBody st_hull_paper, defScope st_hull_paper, [], []⟩,
  ⟨("look_paper", none), "look_paper", "look_paper", defArgs st_look_paper, defBody st_look_paper, defScope st_look_paper, [], []⟩,
  ⟨("_law_part", none), "_law_part", "_law_part", defArgs st__law_part, defBody st__law_part, defScope st__law_part, [], []⟩,
  ⟨("_law_paper", none), "_law_paper", "_law_paper", defArgs st__law_paper, defBody st__law_paper, defScope st__law_paper, [], []⟩,
  ⟨("_law_turn", none), "_law_turn", "_law_turn", defArgs st__law_turn, defBody st__law_turn, defScope st__law_turn, [], []⟩,
  ⟨("size", none), "size", "size", defArgs st_size, defBody st_size, defScope st_size, [], []⟩,
  ⟨("side", none), "side", "side", defArgs st_side, defBody st_side, defScope st_side, [], []⟩,
  ⟨("place", none), "place", "place", defArgs st_place, defBody st_place, defScope st_place, [], []⟩,
  ⟨("_law_place", none), "_law_place", "_law_place", defArgs st__law_place, defBody st__law_place, defScope st__law_place, [], []⟩,
  ⟨("quick_place", none), "quick_place", "quick_place", defArgs st_quick_place, defBody st_quick_place, defScope st_quick_place, [], []⟩,
  ⟨("law", none), "law", "law", defArgs st_law, defBody st_law, defScope st_law, [], []⟩,
  ⟨("_law_told", none), "_law_told", "_law_told", defArgs st__law_told, defBody st__law_told, defScope st__law_told, [], []⟩]
def fa : List He.Fa := [.glo "_law_dice", .glo "_law_rounds", .glo "_law_roll", .glo "_law_point", .glo "_law_points", .glo "check_point", .glo "check_row", .glo "cross", .glo "less", .glo "turn", .glo "chain", .glo "hull_of", .glo "hull", .glo "layers", .glo "_law_flat", .glo "is_hull", .glo "check_hull", .glo "in_three", .glo "hull_paper", .glo "look_paper", .glo "_law_part", .glo "_law_paper", .glo "_law_turn", .glo "size", .glo "side", .glo "place", .glo "_law_place", .glo "quick_place", .glo "law", .glo "_law_told", .free "abs", .free "all", .free "any", .free "bool", .free "enumerate", .free "int", .free "isinstance", .free "len", .free "list", .free "min", .free "range", .free "reversed", .free "sorted", .free "sum", .free "tuple", .glo "BadPoint", .exc "BadPoint", .glo "NoWay", .exc "NoWay", .glo "BadPaper", .free "super", .exm "BadPaper" "BadPaper" true, .exm "BadPoint" "BadPoint" true, .exm "BadPoint" "BadShape" false, .exm "BadPoint" "NoWay" false, .exm "BadPoint" "TooLarge" false, .glo "BadShape", .exm "BadShape" "BadPoint" false, .exm "BadShape" "BadShape" true, .exm "BadShape" "NoWay" false, .exm "BadShape" "TooLarge" false, .exm "NoWay" "BadPoint" false, .exm "NoWay" "BadShape" false, .exm "NoWay" "NoWay" true, .exm "NoWay" "TooLarge" false, .glo "TooLarge", .exm "TooLarge" "BadPoint" false, .exm "TooLarge" "BadShape" false, .exm "TooLarge" "NoWay" false, .exm "TooLarge" "TooLarge" true]
def loose0 : List PySem.Str := ["ShapeFault", "BadPoint", "BadShape", "BadPaper", "NoWay", "TooLarge", "check_point", "check_row", "less", "cross", "turn", "side", "hull", "hull_of", "chain", "is_hull", "check_hull", "place", "quick_place", "size", "hull_paper", "in_three", "look_paper", "layers", "_law_flat", "_law_dice", "_law_roll", "_law_rounds", "_law_told", "_law_point"]
def loose1 : List PySem.Str := ["_law_points", "_law_turn", "_law_part", "_law_place", "_law_paper"]
def loose : List PySem.Str := loose0 ++ loose1
abbrev Rr : PySem.W.OpenRow := PySem.W.OpenLaw.row PySem.Challenge.rw_hullhall_k04_hulls_and_papers
def tq : List (He.Defn × Str) := [(("is_hull", none), "is_hull.<locals>.<genexpr>"), (("look_paper", none), "look_paper.<locals>.<genexpr>"), (("size", none), "size.<locals>.<genexpr>"), (("law", none), "law.<locals>.<lambda>")]
def ex (K : PySem.W.Frag) : Bool := tabsApart tq K && partB PP K "BadPaper"
abbrev hkX : PySem.W.Hook := hookS 4 fa fn [] (tq.map (·.1)) ex
def ob (s : PySem.W.SharedT) : He.AlX := obsS 4 fa fn [] (tq.map (·.1)) ex (HandSHeadRun.getT s)
theorem ob_eq (s : PySem.W.SharedT) : ob s = hkX.obs s.abs := obsS_eq (HandSHeadRun.getT_eq s)
theorem run (w : World) : HandSHeadRun.RunEq Rr (PySem.W.view Rr.prog [39]) hkX ob 4000 loose w := by
  intro os
  kernel_rfl
end K04

namespace K04
open PySem PySem.Spec L2 DL
open PyProof.Rows hiding St
theorem facts {w : World} {K : PySem.W.Frag} {h : Heap} {mg : Str → Option Value} {f : Addr} (X : K.In h) (G : h.Ns mainGlobals mg) (hfa : mg ("law" : Str) = some (.ref f)) (c : He.SaysX fa fn [] (tq.map (·.1)) ex w h K) :
    LamX.LawAtS PySem.Challenge.rw_hullhall_k04_hulls_and_papers w K (L2.CX (PySem.Challenge.rw_hullhall_k04_hulls_and_papers).prog w) 9 63 "script" mg f h := by
  have G__law_dice : mg "_law_dice" = some (.ref (He.ga K "_law_dice")) := He.glo_ok X G (c.t.d.fact 0 rfl)
  have G__law_rounds : mg "_law_rounds" = some (.ref (He.ga K "_law_rounds")) := He.glo_ok X G (c.t.d.fact 1 rfl)
  have G__law_roll : mg "_law_roll" = some (.ref (He.ga K "_law_roll")) := He.glo_ok X G (c.t.d.fact 2 rfl)
  have G__law_point : mg "_law_point" = some (.ref (He.ga K "_law_point")) := He.glo_ok X G (c.t.d.fact 3 rfl)
  have G__law_points : mg "_law_points" = some (.ref (He.ga K "_law_points")) := He.glo_ok X G (c.t.d.fact 4 rfl)
  have G_check_point : mg "check_point" = some (.ref (He.ga K "check_point")) := He.glo_ok X G (c.t.d.fact 5 rfl)
  have G_check_row : mg "check_row" = some (.ref (He.ga K "check_row")) := He.glo_ok X G (c.t.d.fact 6 rfl)
  have G_cross : mg "cross" = some (.ref (He.ga K "cross")) := He.glo_ok X G (c.t.d.fact 7 rfl)
  have G_less : mg "less" = some (.ref (He.ga K "less")) := He.glo_ok X G (c.t.d.fact 8 rfl)
  have G_turn : mg "turn" = some (.ref (He.ga K "turn")) := He.glo_ok X G (c.t.d.fact 9 rfl)
  have G_chain : mg "chain" = some (.ref (He.ga K "chain")) := He.glo_ok X G (c.t.d.fact 10 rfl)
  have G_hull_of : mg "hull_of" = some (.ref (He.ga K "hull_of")) := He.glo_ok X G (c.t.d.fact 11 rfl)
  have G_hull : mg "hull" = some (.ref (He.ga K "hull")) := He.glo_ok X G (c.t.d.fact 12 rfl)
  have G_layers : mg "layers" = some (.ref (He.ga K "layers")) := He.glo_ok X G (c.t.d.fact 13 rfl)
  have G__law_flat : mg "_law_flat" = some (.ref (He.ga K "_law_flat")) := He.glo_ok X G (c.t.d.fact 14 rfl)
  have G_is_hull : mg "is_hull" = some (.ref (He.ga K "is_hull")) := He.glo_ok X G (c.t.d.fact 15 rfl)
  have G_check_hull : mg "check_hull" = some (.ref (He.ga K "check_hull")) := He.glo_ok X G (c.t.d.fact 16 rfl)
  have G_in_three : mg "in_three" = some (.ref (He.ga K "in_three")) := He.glo_ok X G (c.t.d.fact 17 rfl)
  have G_hull_paper : mg "hull_paper" = some (.ref (He.ga K "hull_paper")) := He.glo_ok X G (c.t.d.fact 18 rfl)
  have G_look_paper : mg "look_paper" = some (.ref (He.ga K "look_paper")) := He.glo_ok X G (c.t.d.fact 19 rfl)
  have G__law_part : mg "_law_part" = some (.ref (He.ga K "_law_part")) := He.glo_ok X G (c.t.d.fact 20 rfl)
  have G__law_paper : mg "_law_paper" = some (.ref (He.ga K "_law_paper")) := He.glo_ok X G (c.t.d.fact 21 rfl)
  have G__law_turn : mg "_law_turn" = some (.ref (He.ga K "_law_turn")) := He.glo_ok X G (c.t.d.fact 22 rfl)
  have G_size : mg "size" = some (.ref (He.ga K "size")) := He.glo_ok X G (c.t.d.fact 23 rfl)
  have G_side : mg "side" = some (.ref (He.ga K "side")) := He.glo_ok X G (c.t.d.fact 24 rfl)
  have G_place : mg "place" = some (.ref (He.ga K "place")) := He.glo_ok X G (c.t.d.fact 25 rfl)
  have G__law_place : mg "_law_place" = some (.ref (He.ga K "_law_place")) := He.glo_ok X G (c.t.d.fact 26 rfl)
  have G_quick_place : mg "quick_place" = some (.ref (He.ga K "quick_place")) := He.glo_ok X G (c.t.d.fact 27 rfl)
  have G_law : mg "law" = some (.ref (He.ga K "law")) := He.glo_ok X G (c.t.d.fact 28 rfl)
  have G__law_told : mg "_law_told" = some (.ref (He.ga K "_law_told")) := He.glo_ok X G (c.t.d.fact 29 rfl)
  have hex : ex K = true := c.more
  obtain ⟨hex0, hp_BadPaper⟩ := ba hex
  have apart : tabsApart tq K = true := hex0
  have T_BadPaper : TryC K mg "BadPaper" mt_BadPaper := tryC_of (He.glo_ok X G (c.t.d.fact 49 rfl)) (.cons ⟨_, He.glo_ok X G (c.t.d.fact 49 rfl), He.exm_ok (c.t.d.fact 51 rfl)⟩ .nil)
  have Z : Txt K mg := ⟨He.free_ok X G (c.t.d.fact 30 rfl), He.free_ok X G (c.t.d.fact 31 rfl), He.free_ok X G (c.t.d.fact 32 rfl), He.free_ok X G (c.t.d.fact 33 rfl), He.free_ok X G (c.t.d.fact 34 rfl), He.free_ok X G (c.t.d.fact 35 rfl), He.free_ok X G (c.t.d.fact 36 rfl), He.free_ok X G (c.t.d.fact 37 rfl), He.free_ok X G (c.t.d.fact 38 rfl), He.free_ok X G (c.t.d.fact 39 rfl), He.free_ok X G (c.t.d.fact 40 rfl), He.free_ok X G (c.t.d.fact 41 rfl), He.free_ok X G (c.t.d.fact 42 rfl), He.free_ok X G (c.t.d.fact 43 rfl), He.free_ok X G (c.t.d.fact 44 rfl), exC_of (He.glo_ok X G (c.t.d.fact 45 rfl)) (c.t.d.fact 46 rfl), exC_of (He.glo_ok X G (c.t.d.fact 47 rfl)) (c.t.d.fact 48 rfl), fun w base => partC_of (He.glo_ok X G (c.t.d.fact 49 rfl)) (He.free_ok X G (c.t.d.fact 50 rfl)) hp_BadPaper, T_BadPaper⟩
  obtain ⟨fd__law_dice, F0__law_dice⟩ := c.t.d.def_ 0 rfl
  have F__law_dice : FunD K "_law_dice" "_law_dice" (defArgs st__law_dice) (defBody st__law_dice) (defScope st__law_dice) [] [] (He.fAd K ("_law_dice", none)) fd__law_dice := F0__law_dice
  have b__law_dice : Binds K fd__law_dice ["cell"] [] := FunD.bindsN (ps := ["cell"]) F__law_dice fun _ _ _ _ _ _ us hl => match us, hl with | [_], _ => rfl
  obtain ⟨fd__law_rounds, F0__law_rounds⟩ := c.t.d.def_ 1 rfl
  have F__law_rounds : FunD K "_law_rounds" "_law_rounds" (defArgs st__law_rounds) (defBody st__law_rounds) (defScope st__law_rounds) [] [] (He.fAd K ("_law_rounds", none)) fd__law_rounds := F0__law_rounds
  have b__law_rounds : Binds K fd__law_rounds ["script", "most"] [] := FunD.bindsN (ps := ["script", "most"]) F__law_rounds fun _ _ _ _ _ _ us hl => match us, hl with | [_, _], _ => rfl
  obtain ⟨fd__law_roll, F0__law_roll⟩ := c.t.d.def_ 2 rfl
  have F__law_roll : FunD K "_law_roll" "_law_roll" (defArgs st__law_roll) (defBody st__law_roll) (defScope st__law_roll) [] [] (He.fAd K ("_law_roll", none)) fd__law_roll := F0__law_roll
  have b__law_roll : Binds K fd__law_roll ["dice", "many"] [] := FunD.bindsN (ps := ["dice", "many"]) F__law_roll fun _ _ _ _ _ _ us hl => match us, hl with | [_, _], _ => rfl
  obtain ⟨fd__law_point, F0__law_point⟩ := c.t.d.def_ 3 rfl
  have F__law_point : FunD K "_law_point" "_law_point" (defArgs st__law_point) (defBody st__law_point) (defScope st__law_point) [] [] (He.fAd K ("_law_point", none)) fd__law_point := F0__law_point
  have b__law_point : Binds K fd__law_point ["dice", "far"] [] := FunD.bindsN (ps := ["dice", "far"]) F__law_point fun _ _ _ _ _ _ us hl => match us, hl with | [_, _], _ => rfl
  obtain ⟨fd__law_points, F0__law_points⟩ := c.t.d.def_ 4 rfl
  have F__law_points : FunD K "_law_points" "_law_points" (defArgs st__law_points) (defBody st__law_points) (defScope st__law_points) [] [] (He.fAd K ("_law_points", none)) fd__law_points := F0__law_points
  have b__law_points : Binds K fd__law_points ["dice", "most", "far"] [] := FunD.bindsN (ps := ["dice", "most", "far"]) F__law_points fun _ _ _ _ _ _ us hl => match us, hl with | [_, _, _], _ => rfl
  obtain ⟨fd_check_point, F0_check_point⟩ := c.t.d.def_ 5 rfl
  have F_check_point : FunD K "check_point" "check_point" (defArgs st_check_point) (defBody st_check_point) (defScope st_check_point) [] [] (He.fAd K ("check_point", none)) fd_check_point := F0_check_point
  have b_check_point : Binds K fd_check_point ["point"] [] := FunD.bindsN (ps := ["point"]) F_check_point fun _ _ _ _ _ _ us hl => match us, hl with | [_], _ => rfl
  obtain ⟨fd_check_row, F0_check_row⟩ := c.t.d.def_ 6 rfl
  have F_check_row : FunD K "check_row" "check_row" (defArgs st_check_row) (defBody st_check_row) (defScope st_check_row) [] [] (He.fAd K ("check_row", none)) fd_check_row := F0_check_row
  have b_check_row : Binds K fd_check_row ["row"] [] := FunD.bindsN (ps := ["row"]) F_check_row fun _ _ _ _ _ _ us hl => match us, hl with | [_], _ => rfl
  obtain ⟨fd_cross, F0_cross⟩ := c.t.d.def_ 7 rfl
  have F_cross : FunD K "cross" "cross" (defArgs st_cross) (defBody st_cross) (defScope st_cross) [] [] (He.fAd K ("cross", none)) fd_cross := F0_cross
  have b_cross : Binds K fd_cross ["u", "v"] [] := FunD.bindsN (ps := ["u", "v"]) F_cross fun _ _ _ _ _ _ us hl => match us, hl with | [_, _], _ => rfl
  obtain ⟨fd_less, F0_less⟩ := c.t.d.def_ 8 rfl
  have F_less : FunD K "less" "less" (defArgs st_less) (defBody st_less) (defScope st_less) [] [] (He.fAd K ("less", none)) fd_less := F0_less
  have b_less : Binds K fd_less ["a", "b"] [] := FunD.bindsN (ps := ["a", "b"]) F_less fun _ _ _ _ _ _ us hl => match us, hl with | [_, _], _ => rfl
  obtain ⟨fd_turn, F0_turn⟩ := c.t.d.def_ 9 rfl
  have F_turn : FunD K "turn" "turn" (defArgs st_turn) (defBody st_turn) (defScope st_turn) [] [] (He.fAd K ("turn", none)) fd_turn := F0_turn
  have b_turn : Binds K fd_turn ["a", "b", "c"] [] := FunD.bindsN (ps := ["a", "b", "c"]) F_turn fun _ _ _ _ _ _ us hl => match us, hl with | [_, _, _], _ => rfl
  obtain ⟨fd_chain, F0_chain⟩ := c.t.d.def_ 10 rfl
  have F_chain : FunD K "chain" "chain" (defArgs st_chain) (defBody st_chain) (defScope st_chain) [] [] (He.fAd K ("chain", none)) fd_chain := F0_chain
  have b_chain : Binds K fd_chain ["points"] [] := FunD.bindsN (ps := ["points"]) F_chain fun _ _ _ _ _ _ us hl => match us, hl with | [_], _ => rfl
  obtain ⟨fd_hull_of, F0_hull_of⟩ := c.t.d.def_ 11 rfl
  have F_hull_of : FunD K "hull_of" "hull_of" (defArgs st_hull_of) (defBody st_hull_of) (defScope st_hull_of) [] [] (He.fAd K ("hull_of", none)) fd_hull_of := F0_hull_of
  have b_hull_of : Binds K fd_hull_of ["row"] [] := FunD.bindsN (ps := ["row"]) F_hull_of fun _ _ _ _ _ _ us hl => match us, hl with | [_], _ => rfl
  obtain ⟨fd_hull, F0_hull⟩ := c.t.d.def_ 12 rfl
  have F_hull : FunD K "hull" "hull" (defArgs st_hull) (defBody st_hull) (defScope st_hull) [] [] (He.fAd K ("hull", none)) fd_hull := F0_hull
  have b_hull : Binds K fd_hull ["row"] [] := FunD.bindsN (ps := ["row"]) F_hull fun _ _ _ _ _ _ us hl => match us, hl with | [_], _ => rfl
  obtain ⟨fd_layers, F0_layers⟩ := c.t.d.def_ 13 rfl
  have F_layers : FunD K "layers" "layers" (defArgs st_layers) (defBody st_layers) (defScope st_layers) [] [] (He.fAd K ("layers", none)) fd_layers := F0_layers
  have b_layers : Binds K fd_layers ["row"] [] := FunD.bindsN (ps := ["row"]) F_layers fun _ _ _ _ _ _ us hl => match us, hl with | [_], _ => rfl
  obtain ⟨fd__law_flat, F0__law_flat⟩ := c.t.d.def_ 14 rfl
  have F__law_flat : FunD K "_law_flat" "_law_flat" (defArgs st__law_flat) (defBody st__law_flat) (defScope st__law_flat) [] [] (He.fAd K ("_law_flat", none)) fd__law_flat := F0__law_flat
  have b__law_flat : Binds K fd__law_flat ["rows"] [] := FunD.bindsN (ps := ["rows"]) F__law_flat fun _ _ _ _ _ _ us hl => match us, hl with | [_], _ => rfl
  obtain ⟨fd_is_hull, F0_is_hull⟩ := c.t.d.def_ 15 rfl
  have F_is_hull : FunD K "is_hull" "is_hull" (defArgs st_is_hull) (defBody st_is_hull) (defScope st_is_hull) [] [] (He.fAd K ("is_hull", none)) fd_is_hull := F0_is_hull
  have b_is_hull : Binds K fd_is_hull ["corners"] [] := FunD.bindsN (ps := ["corners"]) F_is_hull fun _ _ _ _ _ _ us hl => match us, hl with | [_], _ => rfl
  obtain ⟨fd_check_hull, F0_check_hull⟩ := c.t.d.def_ 16 rfl
  have F_check_hull : FunD K "check_hull" "check_hull" (defArgs st_check_hull) (defBody st_check_hull) (defScope st_check_hull) [] [] (He.fAd K ("check_hull", none)) fd_check_hull := F0_check_hull
  have b_check_hull : Binds K fd_check_hull ["corners"] [] := FunD.bindsN (ps := ["corners"]) F_check_hull fun _ _ _ _ _ _ us hl => match us, hl with | [_], _ => rfl
  obtain ⟨fd_in_three, F0_in_three⟩ := c.t.d.def_ 17 rfl
  have F_in_three : FunD K "in_three" "in_three" (defArgs st_in_three) (defBody st_in_three) (defScope st_in_three) [] [] (He.fAd K ("in_three", none)) fd_in_three := F0_in_three
  have b_in_three : Binds K fd_in_three ["a", "b", "c", "point"] [] := FunD.bindsN (ps := ["a", "b", "c", "point"]) F_in_three fun _ _ _ _ _ _ us hl => match us, hl with | [_, _, _, _], _ => rfl
  obtain ⟨fd_hull_paper, F0_hull_paper⟩ := c.t.d.def_ 18 rfl
  have F_hull_paper : FunD K "hull_paper" "hull_paper" (defArgs st_hull_paper) (defBody st_hull_paper) (defScope st_hull_paper) [] [] (He.fAd K ("hull_paper", none)) fd_hull_paper := F0_hull_paper
  have b_hull_paper : Binds K fd_hull_paper ["row"] [] := FunD.bindsN (ps := ["row"]) F_hull_paper fun _ _ _ _ _ _ us hl => match us, hl with | [_], _ => rfl
  obtain ⟨fd_look_paper, F0_look_paper⟩ := c.t.d.def_ 19 rfl
  have F_look_paper : FunD K "look_paper" "look_paper" (defArgs st_look_paper) (defBody st_look_paper) (defScope st_look_paper) [] [] (He.fAd K ("look_paper", none)) fd_look_paper := F0_look_paper
  have b_look_paper : Binds K fd_look_paper ["row", "paper"] [] := FunD.bindsN (ps := ["row", "paper"]) F_look_paper fun _ _ _ _ _ _ us hl => match us, hl with | [_, _], _ => rfl
  obtain ⟨fd__law_part, F0__law_part⟩ := c.t.d.def_ 20 rfl
  have F__law_part : FunD K "_law_part" "_law_part" (defArgs st__law_part) (defBody st__law_part) (defScope st__law_part) [] [] (He.fAd K ("_law_part", none)) fd__law_part := F0__law_part
  have b__law_part : Binds K fd__law_part ["row", "paper"] [] := FunD.bindsN (ps := ["row", "paper"]) F__law_part fun _ _ _ _ _ _ us hl => match us, hl with | [_, _], _ => rfl
  obtain ⟨fd__law_paper, F0__law_paper⟩ := c.t.d.def_ 21 rfl
  have F__law_paper : FunD K "_law_paper" "_law_paper" (defArgs st__law_paper) (defBody st__law_paper) (defScope st__law_paper) [] [] (He.fAd K ("_law_paper", none)) fd__law_paper := F0__law_paper
  have b__law_paper : Binds K fd__law_paper ["dice", "row", "corners"] [] := FunD.bindsN (ps := ["dice", "row", "corners"]) F__law_paper fun _ _ _ _ _ _ us hl => match us, hl with | [_, _, _], _ => rfl
  obtain ⟨fd__law_turn, F0__law_turn⟩ := c.t.d.def_ 22 rfl
  have F__law_turn : FunD K "_law_turn" "_law_turn" (defArgs st__law_turn) (defBody st__law_turn) (defScope st__law_turn) [] [] (He.fAd K ("_law_turn", none)) fd__law_turn := F0__law_turn
  have b__law_turn : Binds K fd__law_turn ["a", "b", "c"] [] := FunD.bindsN (ps := ["a", "b", "c"]) F__law_turn fun _ _ _ _ _ _ us hl => match us, hl with | [_, _, _], _ => rfl
  obtain ⟨fd_size, F0_size⟩ := c.t.d.def_ 23 rfl
  have F_size : FunD K "size" "size" (defArgs st_size) (defBody st_size) (defScope st_size) [] [] (He.fAd K ("size", none)) fd_size := F0_size
  have b_size : Binds K fd_size ["corners"] [] := FunD.bindsN (ps := ["corners"]) F_size fun _ _ _ _ _ _ us hl => match us, hl with | [_], _ => rfl
  obtain ⟨fd_side, F0_side⟩ := c.t.d.def_ 24 rfl
  have F_side : FunD K "side" "side" (defArgs st_side) (defBody st_side) (defScope st_side) [] [] (He.fAd K ("side", none)) fd_side := F0_side
  have b_side : Binds K fd_side ["a", "b", "c"] [] := FunD.bindsN (ps := ["a", "b", "c"]) F_side fun _ _ _ _ _ _ us hl => match us, hl with | [_, _, _], _ => rfl
  obtain ⟨fd_place, F0_place⟩ := c.t.d.def_ 25 rfl
  have F_place : FunD K "place" "place" (defArgs st_place) (defBody st_place) (defScope st_place) [] [] (He.fAd K ("place", none)) fd_place := F0_place
  have b_place : Binds K fd_place ["corners", "point"] [] := FunD.bindsN (ps := ["corners", "point"]) F_place fun _ _ _ _ _ _ us hl => match us, hl with | [_, _], _ => rfl
  obtain ⟨fd__law_place, F0__law_place⟩ := c.t.d.def_ 26 rfl
  have F__law_place : FunD K "_law_place" "_law_place" (defArgs st__law_place) (defBody st__law_place) (defScope st__law_place) [] [] (He.fAd K ("_law_place", none)) fd__law_place := F0__law_place
  have b__law_place : Binds K fd__law_place ["corners", "point"] [] := FunD.bindsN (ps := ["corners", "point"]) F__law_place fun _ _ _ _ _ _ us hl => match us, hl with | [_, _], _ => rfl
  obtain ⟨fd_quick_place, F0_quick_place⟩ := c.t.d.def_ 27 rfl
  have F_quick_place : FunD K "quick_place" "quick_place" (defArgs st_quick_place) (defBody st_quick_place) (defScope st_quick_place) [] [] (He.fAd K ("quick_place", none)) fd_quick_place := F0_quick_place
  have b_quick_place : Binds K fd_quick_place ["corners", "point"] [] := FunD.bindsN (ps := ["corners", "point"]) F_quick_place fun _ _ _ _ _ _ us hl => match us, hl with | [_, _], _ => rfl
  obtain ⟨fd_law, F0_law⟩ := c.t.d.def_ 28 rfl
  have F_law : FunD K "law" "law" (defArgs st_law) (defBody st_law) (defScope st_law) [] [] (He.fAd K ("law", none)) fd_law := F0_law
  obtain ⟨fd__law_told, F0__law_told⟩ := c.t.d.def_ 29 rfl
  have F__law_told : FunD K "_law_told" "_law_told" (defArgs st__law_told) (defBody st__law_told) (defScope st__law_told) [] [] (He.fAd K ("_law_told", none)) fd__law_told := F0__law_told
  have b__law_told : Binds K fd__law_told ["what"] [] := FunD.bindsN (ps := ["what"]) F__law_told fun _ _ _ _ _ _ us hl => match us, hl with | [_], _ => rfl
  have b_law := FunD.bindsA (ps := ["script"]) F_law fun _ _ _ _ _ _ us hl => match us, hl with | [_], _ => rfl
  have ZT : ToldF K mg hs__law_told (He.ga K) := ⟨fun p hp => by
    simp only [hs__law_told, List.mem_cons, List.not_mem_nil, or_false] at hp
    rcases hp with rfl | rfl | rfl | rfl
    · exact He.glo_ok X G (c.t.d.fact 45 rfl)
    · exact He.glo_ok X G (c.t.d.fact 56 rfl)
    · exact He.glo_ok X G (c.t.d.fact 47 rfl)
    · exact He.glo_ok X G (c.t.d.fact 65 rfl), fun p hp q hq => by
    simp only [hs__law_told, List.mem_cons, List.not_mem_nil, or_false] at hp hq
    rcases hp with rfl | rfl | rfl | rfl
    · rcases hq with rfl | rfl | rfl | rfl
      · exact (He.exm_ok (c.t.d.fact 52 rfl)).trans (congrArg some (by decide))
      · exact (He.exm_ok (c.t.d.fact 53 rfl)).trans (congrArg some (by decide))
      · exact (He.exm_ok (c.t.d.fact 54 rfl)).trans (congrArg some (by decide))
      · exact (He.exm_ok (c.t.d.fact 55 rfl)).trans (congrArg some (by decide))
    · rcases hq with rfl | rfl | rfl | rfl
      · exact (He.exm_ok (c.t.d.fact 57 rfl)).trans (congrArg some (by decide))
      · exact (He.exm_ok (c.t.d.fact 58 rfl)).trans (congrArg some (by decide))
      · exact (He.exm_ok (c.t.d.fact 59 rfl)).trans (congrArg some (by decide))
      · exact (He.exm_ok (c.t.d.fact 60 rfl)).trans (congrArg some (by decide))
    · rcases hq with rfl | rfl | rfl | rfl
      · exact (He.exm_ok (c.t.d.fact 61 rfl)).trans (congrArg some (by decide))
      · exact (He.exm_ok (c.t.d.fact 62 rfl)).trans (congrArg some (by decide))
      · exact (He.exm_ok (c.t.d.fact 63 rfl)).trans (congrArg some (by decide))
      · exact (He.exm_ok (c.t.d.fact 64 rfl)).trans (congrArg some (by decide))
    · rcases hq with rfl | rfl | rfl | rfl
      · exact (He.exm_ok (c.t.d.fact 66 rfl)).trans (congrArg some (by decide))
      · exact (He.exm_ok (c.t.d.fact 67 rfl)).trans (congrArg some (by decide))
      · exact (He.exm_ok (c.t.d.fact 68 rfl)).trans (congrArg some (by decide))
      · exact (He.exm_ok (c.t.d.fact 69 rfl)).trans (congrArg some (by decide))⟩
  refine law_at (tq := tq) X hfa c G_law (fun s v => b_law s [v] rfl) fun base kb nb TB => fn_law (st := st_law) (Nm := N_law) (g := fun sk => g_law sk) F_law sc_law (fun sk hk A outer s H E hr => ?_) law_ok
  have C__law_dice := calO_of (st := st__law_dice) (T := tabT (tabsOf K tq)) (P := PP) (w := w) (base := base) G__law_dice F__law_dice b__law_dice (fn_autO (st := st__law_dice) F__law_dice sc__law_dice (fun cdv _ A outer s H E hr => dv__law_dice Z cdv A outer s H E hr))
  have C__law_rounds := calO_of (st := st__law_rounds) (T := tabT (tabsOf K tq)) (P := PP) (w := w) (base := base) G__law_rounds F__law_rounds b__law_rounds (fn_autO (st := st__law_rounds) F__law_rounds sc__law_rounds (fun cdv _ A outer s H E hr => dv__law_rounds Z sk C__law_dice hk cdv A outer s H E hr))
  have C__law_roll := cal_of (st := st__law_roll) (T := tabT (tabsOf K tq)) (P := PP) (w := w) (base := base) G__law_roll F__law_roll b__law_roll (fn_autM (st := st__law_roll) F__law_roll sc__law_roll (fun cdv _ A outer s H E hr => dv__law_roll Z cdv A outer s H E hr))
  have C__law_point := cal_of (st := st__law_point) (T := tabT (tabsOf K tq)) (P := PP) (w := w) (base := base) G__law_point F__law_point b__law_point (fn_autM (st := st__law_point) F__law_point sc__law_point (fun cdv _ A outer s H E hr => dv__law_point Z C__law_roll cdv A outer s H E hr))
  have C__law_points := cal_of (st := st__law_points) (T := tabT (tabsOf K tq)) (P := PP) (w := w) (base := base) G__law_points F__law_points b__law_points (fn_autM (st := st__law_points) F__law_points sc__law_points (fun cdv _ A outer s H E hr => dv__law_points Z C__law_roll C__law_point cdv A outer s H E hr))
  have C_check_point := cal_of (st := st_check_point) (T := tabT (tabsOf K tq)) (P := PP) (w := w) (base := base) G_check_point F_check_point b_check_point (fn_aut (st := st_check_point) F_check_point sc_check_point (fun cdv _ A outer s H E hr => dv_check_point Z cdv A outer s H E hr))
  have C_check_row := cal_of (st := st_check_row) (T := tabT (tabsOf K tq)) (P := PP) (w := w) (base := base) G_check_row F_check_row b_check_row (fn_aut (st := st_check_row) F_check_row sc_check_row (fun cdv _ A outer s H E hr => dv_check_row Z C_check_point cdv A outer s H E hr))
  have C_cross := cal_of (st := st_cross) (T := tabT (tabsOf K tq)) (P := PP) (w := w) (base := base) G_cross F_cross b_cross (fn_aut (st := st_cross) F_cross sc_cross (fun cdv _ A outer s H E hr => dv_cross Z cdv A outer s H E hr))
  have C_less := cal_of (st := st_less) (T := tabT (tabsOf K tq)) (P := PP) (w := w) (base := base) G_less F_less b_less (fn_aut (st := st_less) F_less sc_less (fun cdv _ A outer s H E hr => dv_less Z cdv A outer s H E hr))
  have C_turn := cal_of (st := st_turn) (T := tabT (tabsOf K tq)) (P := PP) (w := w) (base := base) G_turn F_turn b_turn (fn_aut (st := st_turn) F_turn sc_turn (fun cdv _ A outer s H E hr => dv_turn Z C_cross C_less cdv A outer s H E hr))
  have C_chain := calO_of (st := st_chain) (T := tabT (tabsOf K tq)) (P := PP) (w := w) (base := base) G_chain F_chain b_chain (fn_autO (st := st_chain) F_chain sc_chain (fun cdv _ A outer s H E hr => dv_chain Z 1000 C_turn cdv A outer s H E hr))
  have C_hull_of := cal_of (st := st_hull_of) (T := tabT (tabsOf K tq)) (P := PP) (w := w) (base := base) G_hull_of F_hull_of b_hull_of (fn_aut (st := st_hull_of) F_hull_of sc_hull_of (fun cdv _ A outer s H E hr => dv_hull_of Z C_chain cdv A outer s H E hr))
  have C_hull := cal_of (st := st_hull) (T := tabT (tabsOf K tq)) (P := PP) (w := w) (base := base) G_hull F_hull b_hull (fn_aut (st := st_hull) F_hull sc_hull (fun cdv _ A outer s H E hr => dv_hull Z C_check_row C_hull_of cdv A outer s H E hr))
  have C_layers := cal_of (st := st_layers) (T := tabT (tabsOf K tq)) (P := PP) (w := w) (base := base) G_layers F_layers b_layers (fn_autF (st := st_layers) F_layers sc_layers (fun n cdv _ A outer s H E hr => dv_layers Z n C_hull cdv A outer s H E hr))
  have C__law_flat := cal_of (st := st__law_flat) (T := tabT (tabsOf K tq)) (P := PP) (w := w) (base := base) G__law_flat F__law_flat b__law_flat (fn_aut (st := st__law_flat) F__law_flat sc__law_flat (fun cdv _ A outer s H E hr => dv__law_flat Z cdv A outer s H E hr))
  have C_is_hull := cal_of (st := st_is_hull) (T := tabT (tabsOf K tq)) (P := PP) (w := w) (base := base) G_is_hull F_is_hull b_is_hull (fn_aut (st := st_is_hull) F_is_hull sc_is_hull (fun cdv hcdv A outer s H E hr => by
    have e := (code_ref F_is_hull).symm.trans hcdv
    subst e
    exact dv_is_hull Z C_turn (TB _ (show ((("is_hull", none) : He.Defn), ("is_hull.<locals>.<genexpr>" : Str)) ∈ tq from List.mem_cons_self)) (tabs_mem (show ((("is_hull", none) : He.Defn), ("is_hull.<locals>.<genexpr>" : Str)) ∈ tq from List.mem_cons_self)) (tabs_uni apart (show ((("is_hull", none) : He.Defn), ("is_hull.<locals>.<genexpr>" : Str)) ∈ tq from List.mem_cons_self)) A outer s H E hr))
  have C_check_hull := cal_of (st := st_check_hull) (T := tabT (tabsOf K tq)) (P := PP) (w := w) (base := base) G_check_hull F_check_hull b_check_hull (fn_aut (st := st_check_hull) F_check_hull sc_check_hull (fun cdv _ A outer s H E hr => dv_check_hull Z C_check_row C_is_hull cdv A outer s H E hr))
  have C_in_three := cal_of (st := st_in_three) (T := tabT (tabsOf K tq)) (P := PP) (w := w) (base := base) G_in_three F_in_three b_in_three (fn_aut (st := st_in_three) F_in_three sc_in_three (fun cdv _ A outer s H E hr => dv_in_three Z C_turn cdv A outer s H E hr))
  have C_hull_paper := cal_of (st := st_hull_paper) (T := tabT (tabsOf K tq)) (P := PP) (w := w) (base := base) G_hull_paper F_hull_paper b_hull_paper (fn_aut (st := st_hull_paper) F_hull_paper sc_hull_paper (fun cdv _ A outer s H E hr => dv_hull_paper Z C_hull C_in_three cdv A outer s H E hr))
  have C_look_paper := cal_of (st := st_look_paper) (T := tabT (tabsOf K tq)) (P := PP) (w := w) (base := base) G_look_paper F_look_paper b_look_paper (fn_aut (st := st_look_paper) F_look_paper sc_look_paper (fun cdv hcdv A outer s H E hr => by
    have e := (code_ref F_look_paper).symm.trans hcdv
    subst e
    exact dv_look_paper Z C_is_hull C_in_three (TB _ (show ((("look_paper", none) : He.Defn), ("look_paper.<locals>.<genexpr>" : Str)) ∈ tq from (List.mem_cons_of_mem _ List.mem_cons_self))) (tabs_mem (show ((("look_paper", none) : He.Defn), ("look_paper.<locals>.<genexpr>" : Str)) ∈ tq from (List.mem_cons_of_mem _ List.mem_cons_self))) (tabs_uni apart (show ((("look_paper", none) : He.Defn), ("look_paper.<locals>.<genexpr>" : Str)) ∈ tq from (List.mem_cons_of_mem _ List.mem_cons_self))) A outer s H E hr))
  have C__law_part := cal_of (st := st__law_part) (T := tabT (tabsOf K tq)) (P := PP) (w := w) (base := base) G__law_part F__law_part b__law_part (fn_aut (st := st__law_part) F__law_part sc__law_part (fun cdv _ A outer s H E hr => dv__law_part Z C_look_paper cdv A outer s H E hr))
  have C__law_paper := cal_of (st := st__law_paper) (T := tabT (tabsOf K tq)) (P := PP) (w := w) (base := base) G__law_paper F__law_paper b__law_paper (fn_autM (st := st__law_paper) F__law_paper sc__law_paper (fun cdv _ A outer s H E hr => dv__law_paper Z C__law_roll C_hull_paper C__law_part cdv A outer s H E hr))
  have C__law_turn := cal_of (st := st__law_turn) (T := tabT (tabsOf K tq)) (P := PP) (w := w) (base := base) G__law_turn F__law_turn b__law_turn (fn_aut (st := st__law_turn) F__law_turn sc__law_turn (fun cdv _ A outer s H E hr => dv__law_turn Z cdv A outer s H E hr))
  have C_size := cal_of (st := st_size) (T := tabT (tabsOf K tq)) (P := PP) (w := w) (base := base) G_size F_size b_size (fn_aut (st := st_size) F_size sc_size (fun cdv hcdv A outer s H E hr => by
    have e := (code_ref F_size).symm.trans hcdv
    subst e
    exact dv_size Z C_cross (TB _ (show ((("size", none) : He.Defn), ("size.<locals>.<genexpr>" : Str)) ∈ tq from (List.mem_cons_of_mem _ (List.mem_cons_of_mem _ List.mem_cons_self)))) (tabs_mem (show ((("size", none) : He.Defn), ("size.<locals>.<genexpr>" : Str)) ∈ tq from (List.mem_cons_of_mem _ (List.mem_cons_of_mem _ List.mem_cons_self)))) (tabs_uni apart (show ((("size", none) : He.Defn), ("size.<locals>.<genexpr>" : Str)) ∈ tq from (List.mem_cons_of_mem _ (List.mem_cons_of_mem _ List.mem_cons_self)))) A outer s H E hr))
  have C_side := cal_of (st := st_side) (T := tabT (tabsOf K tq)) (P := PP) (w := w) (base := base) G_side F_side b_side (fn_aut (st := st_side) F_side sc_side (fun cdv _ A outer s H E hr => dv_side Z C_turn cdv A outer s H E hr))
  have C_place := cal_of (st := st_place) (T := tabT (tabsOf K tq)) (P := PP) (w := w) (base := base) G_place F_place b_place (fn_aut (st := st_place) F_place sc_place (fun cdv _ A outer s H E hr => dv_place Z C_side cdv A outer s H E hr))
  have C__law_place := cal_of (st := st__law_place) (T := tabT (tabsOf K tq)) (P := PP) (w := w) (base := base) G__law_place F__law_place b__law_place (fn_aut (st := st__law_place) F__law_place sc__law_place (fun cdv _ A outer s H E hr => dv__law_place Z C__law_turn cdv A outer s H E hr))
  have C_quick_place := cal_of (st := st_quick_place) (T := tabT (tabsOf K tq)) (P := PP) (w := w) (base := base) G_quick_place F_quick_place b_quick_place (fn_autF (st := st_quick_place) F_quick_place sc_quick_place (fun n cdv _ A outer s H E hr => dv_quick_place Z n C_side cdv A outer s H E hr))
  exact dv_law Z sk C__law_rounds C__law_roll C__law_point C__law_points C_hull C_layers C__law_flat C_is_hull C_check_hull C_hull_paper C__law_paper C__law_turn C_size C_place C__law_place C_quick_place hk (TB _ (show ((("law", none) : He.Defn), ("law.<locals>.<lambda>" : Str)) ∈ tq from (List.mem_cons_of_mem _ (List.mem_cons_of_mem _ (List.mem_cons_of_mem _ List.mem_cons_self))))) (tabs_mem (show ((("law", none) : He.Defn), ("law.<locals>.<lambda>" : Str)) ∈ tq from (List.mem_cons_of_mem _ (List.mem_cons_of_mem _ (List.mem_cons_of_mem _ List.mem_cons_self))))) (tabs_uni apart (show ((("law", none) : He.Defn), ("law.<locals>.<lambda>" : Str)) ∈ tq from (List.mem_cons_of_mem _ (List.mem_cons_of_mem _ (List.mem_cons_of_mem _ List.mem_cons_self))))) ZT F__law_told G__law_told b__law_told A outer s H E hr
end K04

open PySem PySem.W PySem.Calls PyProof.Rows
theorem PySem.Challenge.cw_hullhall_k04_hulls_and_papers_holds : PySem.Challenge.rw_hullhall_k04_hulls_and_papers.Holds := by
  w_on; o_law
  refine HandSHeadRun.head_any (r := PySem.W.OpenLaw.row PySem.Challenge.rw_hullhall_k04_hulls_and_papers) (q := PySem.W.view (PySem.W.OpenLaw.row PySem.Challenge.rw_hullhall_k04_hulls_and_papers).prog [39]) (H := K04.hkX) (ob := K04.ob) (M := 4000) (loose := K04.loose) (d := HandSHeadRun.topDef (PySem.W.OpenLaw.row PySem.Challenge.rw_hullhall_k04_hulls_and_papers).prog 39) (kwd := []) K04.ob_eq
    (by kernel_rfl) (fun s => by kernel_rfl) K04.run (by kernel_rfl) (by kernel_rfl) (by kernel_rfl) (by rfl) (by first | assumption | decide +kernel) (by decide +kernel) ⟨rfl, rfl, rfl, rfl, rfl, by decide +kernel⟩ ?hw ?hc
  case hw => w_witness2
  case hc =>
    refine LamX.walk_ofTsE (l := PySem.Challenge.rw_hullhall_k04_hulls_and_papers) (n := 63) (k := 9) (x := "script") (CX := fun w => L2.CX (PySem.Challenge.rw_hullhall_k04_hulls_and_papers).prog w) rfl (by decide) (by kernel_rfl) ⟨rfl, by decide, by decide⟩ ?F (fun _ _ _ _ _ z => DL.cx_no z)
    intro w mg fa h Y G hmg0
    obtain ⟨K, KX, c⟩ := Y
    have hmg : mg ("law" : PySem.Str) = some (.ref fa) := by
      have e : (HandSHeadRun.topDef (PySem.W.OpenLaw.row PySem.Challenge.rw_hullhall_k04_hulls_and_papers).prog 39).name = ("law" : PySem.Str) := by kernel_rfl
      rw [← e]
      exact hmg0
    exact ⟨K, KX, K04.facts KX G hmg c⟩

