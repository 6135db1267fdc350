import PyProof.Rows.All
import Wide.All
import OpenK.AllK
import Wide.FinOn
import HandS.Base
import HandS.Call
import HandS.List
import HandS.Comp
import HandS.Ends
import HandS.Exc
import HandS.TryOnly
import HandS.ExcOwn
import HandS.Words
import HandS.Strs
import KE.KeyNested
import PyProof.DictRoadsH
import PyProof.DictStraight
import HandS.TupAny
import HandS.Wide
import HandS.More
import HandS.WordsExc
import HandS.Dict
import KE.KDictDisplayH
import HandS.Iter
import KE.KDictWalk
import KE.GoesMore
import PyProof.EnumMake
import HandS.SetFor
import HandS.SortInts
import HandS.IsInst
import HandS.ForMost
import HandS.Style
import HandS.Rev
import HandS.Conv
import KE.SortData
import PyProof.ReprRoads
import PyProof.ReprBulk
import PyProof.CallFns
import HandS.RaiseMore
import HandS.Zip
import KE.KDictPairs
import KE.KDictKeyed
import KE.KDictSum
import KE.KDictCopyH
import PySem.Challenge.RW_ropewarren_k43_depths_by_going
set_option Elab.async false
set_option linter.all false
set_option maxRecDepth 100000
/-! SEa: values as data (tuples are values), an own memory of cells, and how both stand in HandS's abstract heap. -/
namespace RW
open PySem L2

inductive D where
  | non | bl (b : Bool) | int (i : Int) | str (s : Str) | tup (l : List D) | frl (l : List D) | ref (n : Nat) | fn (x : Str)
instance : Inhabited D := ⟨.non⟩
inductive Cell where
  | lst (l : List D) | dic (l : List (D × D)) | tdic (l : List (D × D)) | iset (l : List Int) | lck (t : Bool) (l : List (D × D)) | ins (c : Str) (fs : List (Str × D))
abbrev Mem := List Cell
abbrev Rho := List (Option D)
inductive Res (α : Type) where
  | ok (a : α) (m : Mem) | exc (c : Str) (fs : List D) (m : Mem) | stuck
@[simp] def Res.bind {α β : Type} (r : Res α) (k : α → Mem → Res β) : Res β := match r with
  | .ok a m => k a m
  | .exc c fs m => .exc c fs m
  | .stuck => .stuck
theorem Res.bind_assoc {α β γ : Type} (r : Res α) (k : α → Mem → Res β) (k' : β → Mem → Res γ) : (r.bind k).bind k' = r.bind fun a m => (k a m).bind k' := by
  cases r <;> rfl

/-! ### how data stand in the heap -/
/-- what stays through the whole law -/
structure Gd where
  P : Program
  w : World
  K : PySem.W.Frag
  mg : Str → Option Value
section
variable (G : Gd) (ι : List Addr) (H : Hp)
/-- at a stands a list that nobody changes -/
def FrL (a : Addr) (vs : List V) : Prop := (∃ o, H a = some (.frz o (.lst vs))) ∨
  ∃ (o : Obj) (its : Array Value) (n : Nat), G.K.lookup a = some o ∧ o.cls = .type "list" ∧ o.dict = none ∧ o.data = .seq its n ∧ its.size ≤ sizeLine ∧ Vals vs its.toList
theorem FrL.sq {a : Addr} {vs : List V} (h : FrL G H a vs) : SqL G.K H a vs := by
  rcases h with ⟨o, h⟩ | h
  · exact .inl (.inr ⟨o, h⟩)
  · exact .inr h
mutual
def Rep : D → V → Prop
  | .non, v => v = .non
  | .bl b, v => v = .bl b
  | .int i, v => v = .int i
  | .str s, v => v = .str s
  | .ref n, v => ∃ a, ι[n]? = some a ∧ v = .ref a
  | .fn x, v => ∃ a, G.mg x = some (.ref a) ∧ v = .ref a
  | .tup l, v => ∃ a vs, v = .ref a ∧ SqT G.K H a vs ∧ Reps l vs
  | .frl l, v => ∃ a vs, v = .ref a ∧ FrL G H a vs ∧ Reps l vs
def Reps : List D → List V → Prop
  | [], vs => vs = []
  | d :: l, vs => ∃ v r, vs = v :: r ∧ Rep d v ∧ Reps l r
end
end
section
variable {G : Gd} {ι : List Addr} {H : Hp}
theorem Reps.nil : Reps G ι H [] [] := by unfold Reps; rfl
theorem Reps.cons {d : D} {v : V} {l : List D} {r : List V} (h : Rep G ι H d v) (t : Reps G ι H l r) : Reps G ι H (d :: l) (v :: r) := by
  unfold Reps; exact ⟨v, r, rfl, h, t⟩
theorem Reps.nil_inv {vs : List V} (h : Reps G ι H [] vs) : vs = [] := by unfold Reps at h; exact h
theorem Reps.cons_inv {d : D} {l : List D} {vs : List V} (h : Reps G ι H (d :: l) vs) : ∃ v r, vs = v :: r ∧ Rep G ι H d v ∧ Reps G ι H l r := by
  unfold Reps at h; exact h
theorem Reps.length : ∀ {l : List D} {vs : List V}, Reps G ι H l vs → vs.length = l.length
  | [], _, h => by rw [h.nil_inv]; rfl
  | d :: l, _, h => by
    obtain ⟨v, r, rfl, _, t⟩ := h.cons_inv
    simp [Reps.length t]
theorem Reps.get : ∀ {l : List D} {vs : List V} {i : Nat} {d : D}, Reps G ι H l vs → l[i]? = some d → ∃ v, vs[i]? = some v ∧ Rep G ι H d v
  | [], _, _, _, _, e => by simp at e
  | d :: l, _, i, x, h, e => by
    obtain ⟨v, r, rfl, h1, t⟩ := h.cons_inv
    cases i with
    | zero => simp at e; subst e; exact ⟨v, rfl, h1⟩
    | succ i => simpa using Reps.get t (by simpa using e)
theorem Reps.get' {l : List D} {vs : List V} {i : Nat} {v : V} (h : Reps G ι H l vs) (e : vs[i]? = some v) : ∃ d, l[i]? = some d ∧ Rep G ι H d v := by
  have hl := h.length
  have hi : i < vs.length := (List.getElem?_eq_some_iff.mp e).1
  have e2 : l[i]? = some l[i] := List.getElem?_eq_getElem (by omega)
  obtain ⟨v', e3, r⟩ := h.get e2
  rw [e] at e3; cases e3
  exact ⟨_, e2, r⟩
theorem Reps.append : ∀ {l l' : List D} {vs vs' : List V}, Reps G ι H l vs → Reps G ι H l' vs' → Reps G ι H (l ++ l') (vs ++ vs')
  | [], _, _, _, h, h' => by rw [h.nil_inv]; exact h'
  | d :: l, _, _, _, h, h' => by
    obtain ⟨v, r, rfl, h1, t⟩ := h.cons_inv
    exact .cons h1 (Reps.append t h')
theorem Reps.set : ∀ {l : List D} {vs : List V} (i : Nat) {d : D} {v : V}, Reps G ι H l vs → Rep G ι H d v → Reps G ι H (l.set i d) (vs.set i v)
  | [], _, _, _, _, h, _ => by rw [h.nil_inv]; exact .nil
  | x :: l, _, 0, _, _, h, h' => by
    obtain ⟨v, r, rfl, h1, t⟩ := h.cons_inv
    exact .cons h' t
  | x :: l, _, i + 1, _, _, h, h' => by
    obtain ⟨v, r, rfl, h1, t⟩ := h.cons_inv
    exact .cons h1 (Reps.set i t h')
theorem Reps.take : ∀ {l : List D} {vs : List V} (n : Nat), Reps G ι H l vs → Reps G ι H (l.take n) (vs.take n)
  | _, _, 0, _ => by simp; exact .nil
  | [], _, n + 1, h => by rw [h.nil_inv]; simp; exact .nil
  | d :: l, _, n + 1, h => by
    obtain ⟨v, r, rfl, h1, t⟩ := h.cons_inv
    simp; exact .cons h1 (Reps.take n t)
theorem Reps.drop : ∀ {l : List D} {vs : List V} (n : Nat), Reps G ι H l vs → Reps G ι H (l.drop n) (vs.drop n)
  | _, _, 0, h => by simpa using h
  | [], _, n + 1, h => by rw [h.nil_inv]; simp; exact .nil
  | d :: l, _, n + 1, h => by
    obtain ⟨v, r, rfl, h1, t⟩ := h.cons_inv
    simp; exact Reps.drop n t
theorem Reps.reverse : ∀ {l : List D} {vs : List V}, Reps G ι H l vs → Reps G ι H l.reverse vs.reverse
  | [], _, h => by rw [h.nil_inv]; exact .nil
  | d :: l, _, h => by
    obtain ⟨v, r, rfl, h1, t⟩ := h.cons_inv
    rw [List.reverse_cons, List.reverse_cons]
    exact (Reps.reverse t).append (.cons h1 .nil)
theorem Reps.ints : ∀ {ns : List Int} {vs : List V}, Reps G ι H (ns.map D.int) vs → vs = ns.map V.int
  | [], _, h => h.nil_inv
  | n :: ns, _, h => by
    obtain ⟨v, r, rfl, h1, t⟩ := h.cons_inv
    unfold Rep at h1
    rw [h1, Reps.ints t]; rfl
theorem Reps.of_ints : ∀ (ns : List Int), Reps G ι H (ns.map D.int) (ns.map V.int)
  | [] => .nil
  | n :: ns => .cons (by unfold Rep; rfl) (Reps.of_ints ns)
theorem Reps.strs : ∀ {ns : List Str} {vs : List V}, Reps G ι H (ns.map D.str) vs → vs = ns.map V.str
  | [], _, h => h.nil_inv
  | n :: ns, _, h => by
    obtain ⟨v, r, rfl, h1, t⟩ := h.cons_inv
    unfold Rep at h1
    rw [h1, Reps.strs t]; rfl
theorem Reps.of_strs : ∀ (ns : List Str), Reps G ι H (ns.map D.str) (ns.map V.str)
  | [] => .nil
  | n :: ns => .cons (by unfold Rep; rfl) (Reps.of_strs ns)
theorem Reps.bls : ∀ {ns : List Bool} {vs : List V}, Reps G ι H (ns.map D.bl) vs → vs = ns.map V.bl
  | [], _, h => h.nil_inv
  | n :: ns, _, h => by
    obtain ⟨v, r, rfl, h1, t⟩ := h.cons_inv
    unfold Rep at h1
    rw [h1, Reps.bls t]; rfl
end

/-- what stays: the tuples, the locked lists; places of cells -/
structure Ext (ι : List Addr) (H : Hp) (ι' : List Addr) (H' : Hp) : Prop where
  pre : ι <+: ι'
  tup : ∀ a xs, H a = some (.tup xs) → H' a = some (.tup xs)
  frz : ∀ a o u, H a = some (.frz o u) → (∃ xs, u = .lst xs ∨ u = .tup xs) → H' a = some (.frz o u)
section
variable {G : Gd} {ι ι' : List Addr} {H H' : Hp}
theorem prefix_get {ι ι' : List Addr} (p : ι <+: ι') {n : Nat} {a : Addr} (h : ι[n]? = some a) : ι'[n]? = some a := by
  obtain ⟨t, rfl⟩ := p
  rw [List.getElem?_append_left (List.getElem?_eq_some_iff.mp h).1]; exact h
mutual
theorem Rep.ext (x : Ext ι H ι' H') : ∀ {d : D} {v : V}, Rep G ι H d v → Rep G ι' H' d v
  | .non, _, h => by unfold Rep at h ⊢; exact h
  | .bl _, _, h => by unfold Rep at h ⊢; exact h
  | .int _, _, h => by unfold Rep at h ⊢; exact h
  | .str _, _, h => by unfold Rep at h ⊢; exact h
  | .fn _, _, h => by unfold Rep at h ⊢; exact h
  | .ref n, _, h => by
    unfold Rep at h ⊢
    obtain ⟨a, h1, h2⟩ := h
    exact ⟨a, prefix_get x.pre h1, h2⟩
  | .tup l, _, h => by
    unfold Rep at h ⊢
    obtain ⟨a, vs, h1, h2, h3⟩ := h
    refine ⟨a, vs, h1, ?_, Reps.ext x h3⟩
    rcases h2 with (h2 | ⟨o, h2⟩) | h2
    · exact .inl (.inl (x.tup _ _ h2))
    · exact .inl (.inr ⟨o, x.frz _ _ _ h2 ⟨_, .inr rfl⟩⟩)
    · exact .inr h2
  | .frl l, _, h => by
    unfold Rep at h ⊢
    obtain ⟨a, vs, h1, h2, h3⟩ := h
    refine ⟨a, vs, h1, ?_, Reps.ext x h3⟩
    rcases h2 with ⟨o, h2⟩ | h2
    · exact .inl ⟨o, x.frz _ _ _ h2 ⟨_, .inl rfl⟩⟩
    · exact .inr h2
theorem Reps.ext (x : Ext ι H ι' H') : ∀ {l : List D} {vs : List V}, Reps G ι H l vs → Reps G ι' H' l vs
  | [], _, h => by rw [h.nil_inv]; exact .nil
  | d :: l, _, h => by
    obtain ⟨v, r, rfl, h1, t⟩ := h.cons_inv
    exact .cons (Rep.ext x h1) (Reps.ext x t)
end
end

/-! ### cells -/
/-- keys of a plain dict: ints and texts -/
def D.key? : D → Option Key
  | .int i => some (.inl i)
  | .str s => some (.inr s)
  | _ => none
section
variable (G : Gd) (ι : List Addr) (H : Hp)
abbrev RepP : (D × D) → (Key × V) → Prop := fun p q => p.1.key? = some q.1 ∧ Rep G ι H p.2 q.2
abbrev RepF : (Str × D) → (Str × V) → Prop := fun p q => p.1 = q.1 ∧ Rep G ι H p.2 q.2
/-- the dict object at a, its keys nested tuples -/
def tdPhi (a : Addr) (xs : List (NestedKey × Addr × Value)) : Heap → Prop := fun h => ∃ o es ep, h.get? a = some o ∧ o.ExactDict ∧ o.data = .dict es ep ∧ es.toList = xs.map (entryOfKey (nestedKind G.P G.w))
mutual
def D.nk? : D → Option NestedKey
  | .non => some .none
  | .bl b => some (.num (if b = true then 1 else 0))
  | .int i => some (.num i)
  | .str s => some (.text s)
  | .tup l => (D.nks? l).map NestedKey.tup
  | _ => none
def D.nks? : List D → Option (List NestedKey)
  | [] => some []
  | d :: l => match D.nk? d, D.nks? l with
    | some k, some r => some (k :: r)
    | _, _ => none
end
abbrev RepT : (D × D) → (NestedKey × Addr × Value) → Prop := fun p x => p.1.nk? = some x.1 ∧ x.1.depth ≤ 8 ∧ Rep G ι H p.1 (.ref x.2.1) ∧ ∃ v, Rep G ι H p.2 v ∧ RelV v x.2.2
def CellOk (a : Addr) : Cell → Prop
  | .lst l => ∃ vs, H a = some (.lst vs) ∧ Reps G ι H l vs
  | .dic l => ∃ kvs, H a = some (.dK kvs) ∧ Paired (RepP G ι H) l kvs
  | .tdic l => ∃ xs, H a = some (.ext (tdPhi G a xs)) ∧ Paired (RepT G ι H) l xs ∧ (xs.map (·.1)).Nodup ∧ xs.length ≤ sizeLine ∧ (a == sysModules) = false
  | .iset l => H a = some (SetO G.w a (fun i => decide (i ∈ l)) l.length) ∧ l.Pairwise (· < ·)
  | .lck false l => ∃ od kvs, H a = some (.frz od (.dK kvs)) ∧ Paired (RepP G ι H) l kvs
  | .lck true l => ∃ od xs, H a = some (.frz od (.ext (tdPhi G a xs))) ∧ Paired (RepT G ι H) l xs ∧ (xs.map (·.1)).Nodup ∧ xs.length ≤ sizeLine ∧ (a == sysModules) = false
  | .ins c fs => ∃ C dx gs, G.mg c = some (.ref C) ∧ H a = some (.ins C dx gs) ∧ Paired (RepF G ι H) fs gs
structure Rel (μ : Mem) : Prop where
  len : ι.length = μ.length
  nd : ι.Nodup
  cell : ∀ (i : Nat) (c : Cell) (a : Addr), μ[i]? = some c → ι[i]? = some a → CellOk G ι H a c
/-- the environment -/
structure EnvOk (ρ : Rho) (σ : St) : Prop where
  len : ρ.length = σ.length
  at_ : ∀ (i : Nat) (d : D), ρ[i]? = some (some d) → ∃ v, σ[i]? = some (some v) ∧ Rep G ι H d v
end
end RW

/-! SEb: what grows; mirrors of expressions and statements; the judgements. -/
namespace RW
open PySem L2
def gOf (X : Cx) : Gd := ⟨X.prog, X.w, X.K, X.mg⟩

structure Grow (ι : List Addr) (H : Hp) (ι' : List Addr) (H' : Hp) : Prop where
  pre : ι <+: ι'
  keep : ∀ a o, H a = some o → a ∉ ι → H' a = some o
  new : ∀ a ∈ ι', a ∈ ι ∨ H a = none
  lock : ∀ a o u, H a = some (.frz o u) → H' a = some (.frz o u)
section
variable {G : Gd} {ι ι' ι2 : List Addr} {H H' H2 : Hp} {μ μ' : Mem} {ρ : Rho} {σ : St}
theorem Grow.refl : Grow ι H ι H := ⟨List.prefix_refl _, fun _ _ h _ => h, fun _ h => .inl h, fun _ _ _ h => h⟩
theorem Grow.trans (a : Grow ι H ι' H') (b : Grow ι' H' ι2 H2) : Grow ι H ι2 H2 := by
  refine ⟨a.pre.trans b.pre, fun x o h n => ?_, fun x h => ?_, fun x o u h => b.lock x o u (a.lock x o u h)⟩
  · refine b.keep x o (a.keep x o h n) fun z => ?_
    rcases a.new x z with z | z
    · exact n z
    · rw [h] at z; cases z
  · rcases b.new x h with z | z
    · exact a.new x z
    · by_cases n : x ∈ ι
      · exact .inl n
      · refine .inr ?_
        cases q : H x with
        | none => rfl
        | some o => rw [a.keep x o q n] at z; cases z
theorem mem_at {x : Addr} (h : x ∈ ι) : ∃ i : Nat, ι[i]? = some x := List.mem_iff_getElem?.mp h
theorem Rel.at_mem (r : Rel G ι H μ) {x : Addr} (h : x ∈ ι) : ∃ (i : Nat) (c : Cell), ι[i]? = some x ∧ μ[i]? = some c ∧ CellOk G ι H x c := by
  obtain ⟨i, e⟩ := mem_at h
  have hi : i < μ.length := by rw [← r.len]; exact (List.getElem?_eq_some_iff.mp e).1
  exact ⟨i, μ[i], e, List.getElem?_eq_getElem hi, r.cell i _ x (List.getElem?_eq_getElem hi) e⟩
/-- no tuple, no locked thing among the cells -/
theorem CellOk.some {x : Addr} {c : Cell} (h : CellOk G ι H x c) : ∃ o, H x = some o ∧ (∀ xs, o ≠ .tup xs) ∧ (∀ a xs, o ≠ .frz a (.lst xs)) ∧ (∀ a xs, o ≠ .frz a (.tup xs)) ∧ (∀ y, o ≠ .own y) := by
  cases c with
  | lst l => obtain ⟨vs, h, _⟩ := h; exact ⟨_, h, fun _ e => (nomatch e), fun _ _ e => (nomatch e), fun _ _ e => (nomatch e), fun _ e => (nomatch e)⟩
  | dic l => obtain ⟨vs, h, _⟩ := h; exact ⟨_, h, fun _ e => (nomatch e), fun _ _ e => (nomatch e), fun _ _ e => (nomatch e), fun _ e => (nomatch e)⟩
  | tdic l => obtain ⟨vs, h, _⟩ := h; exact ⟨_, h, fun _ e => (nomatch e), fun _ _ e => (nomatch e), fun _ _ e => (nomatch e), fun _ e => (nomatch e)⟩
  | iset l => obtain ⟨h, _⟩ := h; exact ⟨_, h, fun _ e => (nomatch e), fun _ _ e => (nomatch e), fun _ _ e => (nomatch e), fun _ e => (nomatch e)⟩
  | lck t l =>
    cases t with
    | false => obtain ⟨_, vs, h, _⟩ := h; exact ⟨_, h, fun _ e => (nomatch e), fun _ _ e => (nomatch e), fun _ _ e => (nomatch e), fun _ e => (nomatch e)⟩
    | true => obtain ⟨_, vs, h, _⟩ := h; exact ⟨_, h, fun _ e => (nomatch e), fun _ _ e => (nomatch e), fun _ _ e => (nomatch e), fun _ e => (nomatch e)⟩
  | ins c fs => obtain ⟨_, _, _, _, h, _⟩ := h; exact ⟨_, h, fun _ e => (nomatch e), fun _ _ e => (nomatch e), fun _ _ e => (nomatch e), fun _ e => (nomatch e)⟩
theorem Rel.notTup (r : Rel G ι H μ) {x : Addr} {xs : List V} (h : H x = some (.tup xs)) : x ∉ ι := fun hm => by
  obtain ⟨i, c, _, _, z⟩ := r.at_mem hm
  obtain ⟨o, e, n, _⟩ := z.some
  rw [h] at e; cases e; exact n _ rfl
theorem Rel.notFrz (r : Rel G ι H μ) {x : Addr} {o : Obj} {u : HO} (h : H x = some (.frz o u)) (hu : ∃ xs, u = .lst xs ∨ u = .tup xs) : x ∉ ι := fun hm => by
  obtain ⟨i, c, _, _, z⟩ := r.at_mem hm
  obtain ⟨o, e, _, n, n2, _⟩ := z.some
  obtain ⟨xs, rfl | rfl⟩ := hu
  · rw [h] at e; cases e; exact n _ _ rfl
  · rw [h] at e; cases e; exact n2 _ _ rfl
theorem Rel.notOwn (r : Rel G ι H μ) {x y : Addr} (h : H x = some (.own y)) : x ∉ ι := fun hm => by
  obtain ⟨i, c, _, _, z⟩ := r.at_mem hm
  obtain ⟨o, e, _, _, _, n⟩ := z.some
  rw [h] at e; cases e; exact n _ rfl
theorem Rel.notNone (r : Rel G ι H μ) {x : Addr} (h : H x = none) : x ∉ ι := fun hm => by
  obtain ⟨i, c, _, _, z⟩ := r.at_mem hm
  obtain ⟨o, e, _⟩ := z.some
  rw [h] at e; cases e
theorem Grow.ext (g : Grow ι H ι' H') (r : Rel G ι H μ) : Ext ι H ι' H' :=
  ⟨g.pre, fun _ _ h => g.keep _ _ h (r.notTup h), fun _ _ _ h q => g.keep _ _ h (r.notFrz h q)⟩
theorem EnvOk.ext (e : EnvOk G ι H ρ σ) (x : Ext ι H ι' H') : EnvOk G ι' H' ρ σ :=
  ⟨e.len, fun i d h => let ⟨v, h1, h2⟩ := e.at_ i d h; ⟨v, h1, h2.ext x⟩⟩
theorem EnvOk.set (e : EnvOk G ι H ρ σ) (i : Nat) {d : D} {v : V} (r : Rep G ι H d v) : EnvOk G ι H (ρ.set i (some d)) (σ.set i (some v)) := by
  refine ⟨by simp [e.len], fun j x h => ?_⟩
  by_cases hj : i = j
  · subst hj
    by_cases hi : i < ρ.length
    · rw [List.getElem?_set_self hi] at h
      cases h
      exact ⟨v, List.getElem?_set_self (by rw [← e.len]; exact hi), r⟩
    · rw [List.getElem?_eq_none (by simpa using hi)] at h; cases h
  · rw [List.getElem?_set_ne hj] at h
    rw [List.getElem?_set_ne hj]
    exact e.at_ j x h

/-! ### new things, things changed -/
theorem Paired.imp' {α β : Type} {F F' : α → β → Prop} : ∀ {l₁ : List α} {l₂ : List β}, Paired F l₁ l₂ → (∀ a b, F a b → F' a b) → Paired F' l₁ l₂
  | _, _, .nil, _ => .nil
  | _, _, .cons r t, f => .cons (f _ _ r) (Paired.imp' t f)
/-- a cell not touched stays a cell -/
theorem CellOk.ext {x : Addr} {c : Cell} (h : CellOk G ι H x c) (e : Ext ι H ι' H') (s : H' x = H x) : CellOk G ι' H' x c := by
  cases c with
  | lst l => obtain ⟨vs, h, r⟩ := h; exact ⟨vs, s.trans h, r.ext e⟩
  | dic l => obtain ⟨vs, h, r⟩ := h; exact ⟨vs, s.trans h, Paired.imp' r fun _ _ z => ⟨z.1, z.2.ext e⟩⟩
  | tdic l =>
    obtain ⟨vs, h, r, q⟩ := h
    exact ⟨vs, s.trans h, Paired.imp' r fun _ _ z => ⟨z.1, z.2.1, z.2.2.1.ext e, let ⟨v, z1, z2⟩ := z.2.2.2; ⟨v, z1.ext e, z2⟩⟩, q⟩
  | iset l => exact ⟨s.trans h.1, h.2⟩
  | lck t l =>
    cases t with
    | false => obtain ⟨od, vs, h, r⟩ := h; exact ⟨od, vs, s.trans h, Paired.imp' r fun _ _ z => ⟨z.1, z.2.ext e⟩⟩
    | true =>
      obtain ⟨od, vs, h, r, q⟩ := h
      exact ⟨od, vs, s.trans h, Paired.imp' r fun _ _ z => ⟨z.1, z.2.1, z.2.2.1.ext e, let ⟨v, z1, z2⟩ := z.2.2.2; ⟨v, z1.ext e, z2⟩⟩, q⟩
  | ins c fs => obtain ⟨C, dx, gs, h1, h2, h3⟩ := h; exact ⟨C, dx, gs, h1, s.trans h2, Paired.imp' h3 fun _ _ z => ⟨z.1, z.2.ext e⟩⟩
/-- a thing laid that is no cell -/
theorem grow_laid {p : Addr} {o : HO} (r : Rel G ι H μ) (h : H p = none) : Grow ι H ι (upd H p o) ∧ Rel G ι (upd H p o) μ := by
  have g : Grow ι H ι (upd H p o) := ⟨List.prefix_refl _, fun a u e _ => by rw [upd_ne (ne_of_none e h)]; exact e, fun _ z => .inl z, fun a o u e => by rw [upd_ne (ne_of_none e h)]; exact e⟩
  refine ⟨g, r.len, r.nd, fun i c a h1 h2 => ?_⟩
  have z := r.cell i c a h1 h2
  obtain ⟨u, e, _⟩ := z.some
  exact z.ext (g.ext r) (upd_ne (ne_of_none e h))
theorem nodup_snoc {p : Addr} (nd : ι.Nodup) (h : p ∉ ι) : (ι ++ [p]).Nodup := by
  rw [List.nodup_append]
  exact ⟨nd, by simp, fun a ha b hb e => by simp at hb; subst hb; subst e; exact h ha⟩
/-- what is tracked already becomes a cell -/
theorem grow_adopt {p : Addr} {c : Cell} (r : Rel G ι H μ) (hn : p ∉ ι) (new : CellOk G (ι ++ [p]) H p c) : Rel G (ι ++ [p]) H (μ ++ [c]) := by
  have x : Ext ι H (ι ++ [p]) H := ⟨List.prefix_append _ _, fun _ _ h => h, fun _ _ _ h _ => h⟩
  refine ⟨by simp [r.len], nodup_snoc r.nd hn, fun i d a h1 h2 => ?_⟩
  by_cases hi : i < μ.length
  · rw [List.getElem?_append_left hi] at h1
    rw [List.getElem?_append_left (by rw [r.len]; exact hi)] at h2
    exact (r.cell i d a h1 h2).ext x rfl
  · by_cases he : i = μ.length
    · subst he
      have e1 : (μ ++ [c])[μ.length]? = some c := by simp
      have e2 : (ι ++ [p])[μ.length]? = some p := by rw [← r.len]; simp
      rw [e1] at h1; rw [e2] at h2
      cases h1; cases h2
      exact new
    · rw [List.getElem?_eq_none (by simp; omega)] at h1; cases h1
theorem grow_cell {p : Addr} {o : HO} {c : Cell} (r : Rel G ι H μ) (h : H p = none) (new : Ext ι H (ι ++ [p]) (upd H p o) → CellOk G (ι ++ [p]) (upd H p o) p c) : Grow ι H (ι ++ [p]) (upd H p o) ∧ Rel G (ι ++ [p]) (upd H p o) (μ ++ [c]) := by
  obtain ⟨g, r'⟩ := grow_laid (o := o) r h
  have x : Ext ι H (ι ++ [p]) (upd H p o) := ⟨List.prefix_append _ _, (g.ext r).tup, (g.ext r).frz⟩
  have hn := r.notNone h
  refine ⟨⟨List.prefix_append _ _, g.keep, fun a ha => ?_, g.lock⟩, grow_adopt r' hn (new x)⟩
  rcases List.mem_append.mp ha with z | z
  · exact .inl z
  · simp at z; subst z; exact .inr h
/-- a cell changed -/
theorem grow_set {n : Nat} {p : Addr} {o : HO} {c : Cell} (r : Rel G ι H μ) (hp : ι[n]? = some p) (nf : ∀ a u, H p ≠ some (.frz a u)) (new : Ext ι H ι (upd H p o) → CellOk G ι (upd H p o) p c) : Grow ι H ι (upd H p o) ∧ Rel G ι (upd H p o) (μ.set n c) := by
  have hm : p ∈ ι := List.mem_of_getElem? hp
  have g : Grow ι H ι (upd H p o) := ⟨List.prefix_refl _, fun a u e na => by rw [upd_ne (fun z => na (by rw [z]; exact hm))]; exact e, fun _ z => .inl z, fun a o u e => by rw [upd_ne (fun z => nf o u (by rw [← z]; exact e))]; exact e⟩
  refine ⟨g, by simp [r.len], r.nd, fun i d a h1 h2 => ?_⟩
  have hn : n < μ.length := by rw [← r.len]; exact (List.getElem?_eq_some_iff.mp hp).1
  by_cases hi : n = i
  · subst hi
    rw [List.getElem?_set_self hn] at h1
    rw [hp] at h2
    cases h1; cases h2
    exact new (g.ext r)
  · rw [List.getElem?_set_ne hi] at h1
    have ne : a ≠ p := by
      rintro rfl
      have hn' : n < ι.length := (List.getElem?_eq_some_iff.mp hp).1
      have hi' : i < ι.length := (List.getElem?_eq_some_iff.mp h2).1
      have e1 : ι[n] = a := (List.getElem?_eq_some_iff.mp hp).2
      have e2 : ι[i] = a := (List.getElem?_eq_some_iff.mp h2).2
      exact hi ((List.getElem_inj r.nd).mp (e1.trans e2.symm))
    exact (r.cell i d a h1 h2).ext (g.ext r) (upd_ne ne)
theorem rep_new {p : Addr} {r : Rel G ι H μ} : Rep G (ι ++ [p]) H' (.ref μ.length) (.ref p) := by
  unfold Rep
  exact ⟨p, by rw [← r.len]; simp, rfl⟩
end

/-! ### mirrors -/
abbrev MD := Rho → Mem → Res D
abbrev MB := Rho → Mem → Res Bool
abbrev ML := Rho → Mem → Res (List D)
inductive Fl where
  | nx (ρ : Rho) | brk (ρ : Rho) | cnt (ρ : Rho) | ret (d : D) | exc (c : Str) (fs : List D) (ρ : Rho)
abbrev MS := Rho → Mem → Res Fl

section
variable (G : Gd) (ι : List Addr) (H : Hp)
/-- an exception as it lies -/
def ExcIs (c : Str) (fs : List D) (cls : Value) (dx : Option Addr) : Prop :=
  ∃ C, G.mg c = some (.ref C) ∧ cls = .ref C ∧ fs = [] ∧ dx = none
def XPost (W : WX) (σ : St) (c : Str) (fs : List D) (μ' : Mem) : Prop :=
  ∀ ι' H' cls dx, Grow ι H ι' H' → Rel G ι' H' μ' → ExcIs G c fs cls dx → W cls dx σ H'
def Post {α : Type} (W : WX) (σ : St) (r : Res α) (k : List Addr → Hp → Mem → α → Prop) : Prop := match r with
  | .ok a μ' => ∀ ι' H', Grow ι H ι' H' → Rel G ι' H' μ' → k ι' H' μ' a
  | .exc c fs μ' => XPost G ι H W σ c fs μ'
  | .stuck => False
end
section
variable {G : Gd} {ι ι' : List Addr} {H H' : Hp} {W : WX} {σ : St} {μ : Mem} {α β : Type}
theorem Post.imp {r : Res α} {k k' : List Addr → Hp → Mem → α → Prop} (h : Post G ι H W σ r k) (f : ∀ ι' H' μ' a, Grow ι H ι' H' → Rel G ι' H' μ' → k ι' H' μ' a → k' ι' H' μ' a) : Post G ι H W σ r k' := by
  cases r with
  | ok a m => exact fun ι' H' g r => f _ _ _ _ g r (h ι' H' g r)
  | exc c fs m => exact h
  | stuck => exact h
theorem Post.grow {r : Res α} {k : List Addr → Hp → Mem → α → Prop} (h : Post G ι H W σ r k) (g : Grow ι H ι' H') : Post G ι' H' W σ r k := by
  cases r with
  | ok a m => exact fun ι2 H2 g2 r => h ι2 H2 (g.trans g2) r
  | exc c fs m => exact fun ι2 H2 cls dx g2 r e => h ι2 H2 cls dx (g.trans g2) r e
  | stuck => exact h
theorem Post.bind {r : Res α} {f : α → Mem → Res β} {k : List Addr → Hp → Mem → β → Prop} (h : Post G ι H W σ (r.bind f) k) :
    Post G ι H W σ r fun ι' H' μ' a => Grow ι H ι' H' ∧ Rel G ι' H' μ' ∧ Post G ι' H' W σ (f a μ') k := by
  cases r with
  | ok a m => exact fun ι' H' g r => ⟨g, r, Post.grow h g⟩
  | exc c fs m => exact h
  | stuck => exact h
end

section
variable (G : Gd) (W : WX)
def tE (m : MD) : TE := fun σ H Q => ∃ ρ μ ι, EnvOk G ι H ρ σ ∧ Rel G ι H μ ∧ Post G ι H W σ (m ρ μ) fun ι' H' _ d => ∀ v, Rep G ι' H' d v → Q v H'
def tB (m : MB) : TT := fun σ H Q => ∃ ρ μ ι, EnvOk G ι H ρ σ ∧ Rel G ι H μ ∧ Post G ι H W σ (m ρ μ) fun ι' H' _ b => Q b H'
def tL (m : ML) : TA := fun σ H Q => ∃ ρ μ ι, EnvOk G ι H ρ σ ∧ Rel G ι H μ ∧ Post G ι H W σ (m ρ μ) fun ι' H' _ ds => ∀ vs, Reps G ι' H' ds vs → Q vs H'
/-- a statement's end -/
def FlK (D : Ends) : List Addr → Hp → Mem → Fl → Prop := fun ι' H' _ f => match f with
  | .nx ρ' => ∀ σ', EnvOk G ι' H' ρ' σ' → D.nx σ' H'
  | .brk ρ' => ∀ σ', EnvOk G ι' H' ρ' σ' → D.bk σ' H'
  | .cnt ρ' => ∀ σ', EnvOk G ι' H' ρ' σ' → D.ct σ' H'
  | .ret d => ∀ v, Rep G ι' H' d v → D.rt v H'
  | .exc c fs ρ' => ∀ σ' cls dx, EnvOk G ι' H' ρ' σ' → ExcIs G c fs cls dx → W cls dx σ' H'
end
section
variable (G : Gd) (ι : List Addr) (H : Hp)
def PostS (r : Res Fl) (k : List Addr → Hp → Mem → Fl → Prop) : Prop := match r with
  | .ok f μ' => ∀ ι' H', Grow ι H ι' H' → Rel G ι' H' μ' → k ι' H' μ' f
  | _ => False
def tS (W : WX) (m : MS) : TS := fun D σ H => ∃ ρ μ ι, EnvOk G ι H ρ σ ∧ Rel G ι H μ ∧ PostS G ι H (m ρ μ) (FlK G W D)
end
section
variable {G : Gd} {ι ι' : List Addr} {H H' : Hp} {W : WX} {σ : St} {ρ : Rho} {α : Type}
theorem PostS.grow {r : Res Fl} {k : List Addr → Hp → Mem → Fl → Prop} (h : PostS G ι H r k) (g : Grow ι H ι' H') : PostS G ι' H' r k := by
  cases r with
  | ok a m => exact fun ι2 H2 g2 r => h ι2 H2 (g.trans g2) r
  | exc c fs m => exact h
  | stuck => exact h
/-- an expression within a statement -/
@[simp] def onE (r : Res α) (ρ : Rho) (k : α → Mem → Res Fl) : Res Fl := match r with
  | .ok a m => k a m
  | .exc c fs m => .ok (.exc c fs ρ) m
  | .stuck => .stuck
theorem PostS.onE {D : Ends} {r : Res α} {k : α → Mem → Res Fl} (h : PostS G ι H (onE r ρ k) (FlK G W D)) (e : EnvOk G ι H ρ σ) (rel : ∃ μ, Rel G ι H μ) :
    Post G ι H W σ r fun ι' H' μ' a => Grow ι H ι' H' ∧ Rel G ι' H' μ' ∧ EnvOk G ι' H' ρ σ ∧ PostS G ι' H' (k a μ') (FlK G W D) := by
  obtain ⟨μ, rel⟩ := rel
  cases r with
  | ok a m => exact fun ι' H' g r => ⟨g, r, e.ext (g.ext rel), PostS.grow h g⟩
  | exc c fs m => exact fun ι' H' cls dx g r x => h ι' H' g r σ cls dx (e.ext (g.ext rel)) x
  | stuck => exact h
end
end RW

/-! SEc: expressions. -/
namespace RW
open PySem L2
abbrev SE (X : Cx) (W : WX) (e : Expr) (m : MD) : Prop := PE X e (tE (gOf X) W m)
abbrev ST (X : Cx) (W : WX) (e : Expr) (m : MB) : Prop := PT X e (tB (gOf X) W m)
abbrev SW (X : Cx) (W : WX) (e : Expr) (m : MB) : Prop := PW X e (tB (gOf X) W m)
abbrev SA (X : Cx) (W : WX) (es : List Expr) (m : ML) : Prop := PA X es (tL (gOf X) W m)
theorem PE.mono {X : Cx} {e : Expr} {t t' : TE} (h : PE X e t) (f : ∀ σ H Q, t' σ H Q → t σ H Q) : PE X e t' := ⟨fun pins s σ H Q I w => h.run pins s σ H Q I (f σ H Q w)⟩
theorem PT.mono {X : Cx} {e : Expr} {t t' : TT} (h : PT X e t) (f : ∀ σ H Q, t' σ H Q → t σ H Q) : PT X e t' := ⟨fun pins s σ H Q I w => h.run pins s σ H Q I (f σ H Q w)⟩
theorem PW.mono {X : Cx} {e : Expr} {t t' : TT} (h : PW X e t) (f : ∀ σ H Q, t' σ H Q → t σ H Q) : PW X e t' := ⟨fun wh pins s σ H Q I w => h.run wh pins s σ H Q I (f σ H Q w)⟩
theorem PA.mono {X : Cx} {e : List Expr} {t t' : TA} (h : PA X e t) (f : ∀ σ H Q, t' σ H Q → t σ H Q) : PA X e t' := ⟨fun ps pins s σ H Q I w => h.run ps pins s σ H Q I (f σ H Q w)⟩
theorem PS.mono {X : Cx} {e : Stmt} {t t' : TS} (h : PS X e t) (f : ∀ D σ H, t' D σ H → t D σ H) : PS X e t' := ⟨fun pins s σ H D I w => h.run pins s σ H D I (f D σ H w)⟩
theorem PSs.mono {X : Cx} {e : List Stmt} {t t' : TS} (h : PSs X e t) (f : ∀ D σ H, t' D σ H → t D σ H) : PSs X e t' := ⟨fun pins s σ H D I w => h.run pins s σ H D I (f D σ H w)⟩

/-! ### mirrors -/
@[simp] def mVar (i : Nat) : MD := fun ρ μ => match ρ[i]? with
  | some (some d) => .ok d μ
  | _ => .stuck
@[simp] def mC (d : D) : MD := fun _ μ => .ok d μ
@[simp] def mBin (f : D → D → Mem → Res D) (a b : MD) : MD := fun ρ μ => (a ρ μ).bind fun x μ1 => (b ρ μ1).bind fun y μ2 => f x y μ2
@[simp] def mUn (f : D → Mem → Res D) (a : MD) : MD := fun ρ μ => (a ρ μ).bind fun x μ1 => f x μ1
@[simp] def mTest (a : MD) : MB := fun ρ μ => (a ρ μ).bind fun x μ1 => match x with
  | .bl b => .ok b μ1
  | _ => .stuck
@[simp] def mAnd (a b : MB) : MB := fun ρ μ => (a ρ μ).bind fun x μ1 => if x = true then b ρ μ1 else .ok false μ1
@[simp] def mOr (a b : MB) : MB := fun ρ μ => (a ρ μ).bind fun x μ1 => if x = true then .ok true μ1 else b ρ μ1
@[simp] def mNot (a : MB) : MB := fun ρ μ => (a ρ μ).bind fun x μ1 => .ok (!x) μ1
@[simp] def mAndV (a b : MD) : MD := fun ρ μ => (a ρ μ).bind fun x μ1 => match x with
  | .bl c => if c = true then b ρ μ1 else .ok (.bl false) μ1
  | _ => .stuck
@[simp] def mOrV (a b : MD) : MD := fun ρ μ => (a ρ μ).bind fun x μ1 => match x with
  | .bl c => if c = true then .ok (.bl true) μ1 else b ρ μ1
  | _ => .stuck
@[simp] def mNotV (a : MD) : MD := fun ρ μ => (a ρ μ).bind fun x μ1 => match x with
  | .bl c => .ok (.bl (!c)) μ1
  | _ => .stuck
@[simp] def mIfE (c : MB) (a b : MD) : MD := fun ρ μ => (c ρ μ).bind fun x μ1 => if x = true then a ρ μ1 else b ρ μ1
@[simp] def mNil : ML := fun _ μ => .ok [] μ
@[simp] def mCons (a : MD) (r : ML) : ML := fun ρ μ => (a ρ μ).bind fun x μ1 => (r ρ μ1).bind fun xs μ2 => .ok (x :: xs) μ2
@[simp] def mTup (a : ML) : MD := fun ρ μ => (a ρ μ).bind fun xs μ1 => if xs.length ≤ 1000 then .ok (.tup xs) μ1 else .stuck
@[simp] def mLst (a : ML) : MD := fun ρ μ => (a ρ μ).bind fun xs μ1 => if xs.length ≤ 1000 then .ok (.ref μ1.length) (μ1 ++ [.lst xs]) else .stuck

section
variable {X : Cx} {W : WX} {a b c e : Expr} {ma mb mc : MD} {pos : Pos}
theorem se_var (i : Nat) {x : Str} (hN : X.N[i]? = some x) (hv : Vis X.env.scope x) (hd : (x == ("__debug__" : Str)) = false := by decide) (hcd : (x == ("__classdict__" : Str)) = false := by decide) : SE X W (.Name x pos) (mVar i) :=
  PE.mono (pe_var hN hv hd hcd) fun σ H Q ⟨ρ, μ, ι, env, rel, h⟩ => by
    simp only [mVar] at h
    cases e : ρ[i]? with
    | none => rw [e] at h; exact h.elim
    | some o =>
      rw [e] at h
      cases o with
      | none => exact h.elim
      | some d =>
        obtain ⟨v, h1, h2⟩ := env.at_ i d e
        exact ⟨v, h1, h ι H .refl rel v h2⟩
theorem se_c {d : D} {v : V} (h : PE X e (tC v)) (hr : ∀ ι H, Rep (gOf X) ι H d v) : SE X W e (mC d) :=
  PE.mono h fun σ H Q ⟨ρ, μ, ι, env, rel, h⟩ => h ι H .refl rel v (hr ι H)
theorem se_int {i : Int} {j} : SE X W (.Constant (.int i) j pos) (mC (.int i)) := se_c pe_int fun _ _ => by unfold Rep; rfl
theorem se_bl {b : Bool} {j} : SE X W (.Constant (.bool b) j pos) (mC (.bl b)) := se_c pe_bl fun _ _ => by unfold Rep; rfl
theorem se_non {j} : SE X W (.Constant .none j pos) (mC .non) := se_c pe_non fun _ _ => by unfold Rep; rfl
theorem se_str {x : Str} {j} : SE X W (.Constant (.str x) j pos) (mC (.str x)) := se_c pe_str fun _ _ => by unfold Rep; rfl
/-- a module's whole number -/
theorem se_globI {x : Str} {i : Int} {t : Tok} (hg : Gl X x) (hm : X.mg x = some (.int i t)) (hd : (x == ("__debug__" : Str)) = false := by decide) : SE X W (.Name x pos) (mC (.int i)) :=
  se_c (v := .int i) (pe_glob hg hm ⟨t, rfl⟩ hd) fun _ _ => by unfold Rep; rfl
theorem se_globS {x : Str} {i : Str} {t : Tok} (hg : Gl X x) (hm : X.mg x = some (.str i t)) (hd : (x == ("__debug__" : Str)) = false := by decide) : SE X W (.Name x pos) (mC (.str i)) :=
  se_c (v := .str i) (pe_glob hg hm ⟨t, rfl⟩ hd) fun _ _ => by unfold Rep; rfl
/-- a def as a value -/
theorem se_globF {x : Str} {f : Addr} (hg : Gl X x) (hm : X.mg x = some (.ref f)) (hd : (x == ("__debug__" : Str)) = false := by decide) : SE X W (.Name x pos) (mC (.fn x)) :=
  se_c (v := .ref f) (pe_glob hg hm rfl hd) fun _ _ => by unfold Rep; exact ⟨f, hm, rfl⟩

/-- what a rule by values asks, from its mirror -/
def Snd2 (G : Gd) (r : R2) (f : D → D → Mem → Res D) : Prop := ∀ (ι : List Addr) (H : Hp) (μ : Mem) (x y : D) (v u : V) (W : WX) (σ : St) (Q : VK), Rel G ι H μ → Rep G ι H x v → Rep G ι H y u →
  Post G ι H W σ (f x y μ) (fun ι' H' _ d => ∀ v, Rep G ι' H' d v → Q v H') → r v u H Q
def Snd1 (G : Gd) (r : V → Hp → VK → Prop) (f : D → Mem → Res D) : Prop := ∀ (ι : List Addr) (H : Hp) (μ : Mem) (x : D) (v : V) (W : WX) (σ : St) (Q : VK), Rel G ι H μ → Rep G ι H x v →
  Post G ι H W σ (f x μ) (fun ι' H' _ d => ∀ v, Rep G ι' H' d v → Q v H') → r v H Q
theorem bin_red {r : R2} {f : D → D → Mem → Res D} (hf : Snd2 (gOf X) r f) {σ : St} {H : Hp} {Q : VK} (h : tE (gOf X) W (mBin f ma mb) σ H Q) : tOp r (tE (gOf X) W ma) (tE (gOf X) W mb) σ H Q := by
  obtain ⟨ρ, μ, ι, env, rel, h⟩ := h
  refine ⟨ρ, μ, ι, env, rel, (Post.bind h).imp fun ι1 H1 μ1 x _ _ ⟨g1, r1, h1⟩ v rv => ?_⟩
  refine ⟨ρ, μ1, ι1, env.ext (g1.ext rel), r1, (Post.bind h1).imp fun ι2 H2 μ2 y _ _ ⟨g2, r2, h2⟩ u ru => ?_⟩
  exact hf ι2 H2 μ2 x y v u W σ Q r2 (rv.ext (g2.ext r1)) ru h2
theorem se_op {op : Operator} {r : R2} {f : D → D → Mem → Res D} (ho : OpR X (binaryOp op) r) (hf : Snd2 (gOf X) r f) (ha : SE X W a ma) (hb : SE X W b mb) : SE X W (.BinOp a op b pos) (mBin f ma mb) :=
  PE.mono (pe_op ho ha hb) fun σ H Q h => bin_red hf h
theorem se_cmp {op : CmpOp} {r : R2} {f : D → D → Mem → Res D} (ho : OpR X (compareOp op) r) (hf : Snd2 (gOf X) r f) (ha : SE X W a ma) (hb : SE X W b mb) (hm : behindInMarks op b = false) : SE X W (.Compare a [op] [b] pos) (mBin f ma mb) :=
  PE.mono (pe_cmpR ho ha hb hm) fun σ H Q h => bin_red hf h
theorem se_un {op : UnaryOp} {r : V → Hp → VK → Prop} {f : D → Mem → Res D} (ho : UnR X (unaryOp op) r) (hf : Snd1 (gOf X) r f) (ha : SE X W a ma) : SE X W (.UnaryOp op a pos) (mUn f ma) :=
  PE.mono (pe_un ho ha) fun σ H Q ⟨ρ, μ, ι, env, rel, h⟩ =>
    ⟨ρ, μ, ι, env, rel, (Post.bind h).imp fun ι1 H1 μ1 x _ _ ⟨g1, r1, h1⟩ v rv => hf ι1 H1 μ1 x v W σ Q r1 rv h1⟩
theorem test_red {t : TE} (m : MD) (ht : ∀ σ H Q, tE (gOf X) W m σ H Q → t σ H Q) {σ : St} {H : Hp} {Q : Bool → Hp → Prop} (h : tB (gOf X) W (mTest m) σ H Q) : t σ H fun x H' => ∃ k, x = .bl k ∧ Q k H' := by
  obtain ⟨ρ, μ, ι, env, rel, h⟩ := h
  refine ht _ _ _ ⟨ρ, μ, ι, env, rel, (Post.bind h).imp fun ι1 H1 μ1 x _ _ ⟨g1, r1, h1⟩ v rv => ?_⟩
  cases x with
  | bl k => unfold Rep at rv; exact ⟨k, rv, h1 ι1 H1 .refl r1⟩
  | _ => exact h1.elim
/-- a comparison as a test -/
theorem st_cmp {op : CmpOp} {r : R2} {f : D → D → Mem → Res D} (ho : OpR X (compareOp op) r) (hf : Snd2 (gOf X) r f) (ha : SE X W a ma) (hb : SE X W b mb) (hm : behindInMarks op b = false) : ST X W (.Compare a [op] [b] pos) (mTest (mBin f ma mb)) :=
  PT.mono (pt_cmpR ho ha hb hm) fun σ H Q h => test_red (mBin f ma mb) (fun σ H Q h => bin_red hf h) h
/-- an expression whose value is a truth, as a test -/
theorem st_val (h : SE X W e ma) (he : ∀ whole, isTrue e X.env whole = (do let v ← whole; standAt e.pos; holding [v] (truthy v)) := by intro _; rfl) : ST X W e (mTest ma) :=
  PT.mono (pt_val h he) fun σ H Q h => test_red ma (fun _ _ _ h => h) h
variable {ta tb : MB} {rest : List Expr}
theorem sw_and1 (ha : ST X W a ta) : SW X W (.BoolOp .And [a] pos) ta := pw_and1 ha
theorem sw_or1 (ha : ST X W a ta) : SW X W (.BoolOp .Or [a] pos) ta := pw_or1 ha
theorem sw_and (ha : ST X W a ta) (hb : SW X W (.BoolOp .And (b :: rest) pos) tb) : SW X W (.BoolOp .And (a :: b :: rest) pos) (mAnd ta tb) :=
  PW.mono (pw_and ha hb) fun σ H Q ⟨ρ, μ, ι, env, rel, h⟩ =>
    ⟨ρ, μ, ι, env, rel, (Post.bind h).imp fun ι1 H1 μ1 x _ _ ⟨g1, r1, h1⟩ => by
      cases x with
      | true => exact iteT ⟨ρ, μ1, ι1, env.ext (g1.ext rel), r1, h1⟩
      | false => exact iteF (h1 ι1 H1 .refl r1)⟩
theorem sw_or (ha : ST X W a ta) (hb : SW X W (.BoolOp .Or (b :: rest) pos) tb) : SW X W (.BoolOp .Or (a :: b :: rest) pos) (mOr ta tb) :=
  PW.mono (pw_or ha hb) fun σ H Q ⟨ρ, μ, ι, env, rel, h⟩ =>
    ⟨ρ, μ, ι, env, rel, (Post.bind h).imp fun ι1 H1 μ1 x _ _ ⟨g1, r1, h1⟩ => by
      cases x with
      | true => exact iteT (h1 ι1 H1 .refl r1)
      | false => exact iteF ⟨ρ, μ1, ι1, env.ext (g1.ext rel), r1, h1⟩⟩
theorem st_not (ha : ST X W a ta) : ST X W (.UnaryOp .Not a pos) (mNot ta) :=
  PT.mono (pt_not ha) fun σ H Q ⟨ρ, μ, ι, env, rel, h⟩ =>
    ⟨ρ, μ, ι, env, rel, (Post.bind h).imp fun ι1 H1 μ1 x _ _ ⟨g1, r1, h1⟩ => h1 ι1 H1 .refl r1⟩
/-- .. as values -/
theorem se_one {op} (h : SE X W a ma) : SE X W (.BoolOp op [a] pos) ma := pe_one h
theorem se_and (ha : SE X W a ma) (hb : SE X W (.BoolOp .And (b :: rest) pos) mb) : SE X W (.BoolOp .And (a :: b :: rest) pos) (mAndV ma mb) :=
  PE.mono (pe_and ha hb) fun σ H Q ⟨ρ, μ, ι, env, rel, h⟩ =>
    ⟨ρ, μ, ι, env, rel, (Post.bind h).imp fun ι1 H1 μ1 x _ _ ⟨g1, r1, h1⟩ v rv => by
      cases x with
      | bl c =>
        unfold Rep at rv
        refine ⟨c, rv, ?_⟩
        cases c with
        | true => exact iteT ⟨ρ, μ1, ι1, env.ext (g1.ext rel), r1, h1⟩
        | false => exact iteF (h1 ι1 H1 .refl r1 _ (by unfold Rep; rfl))
      | _ => exact h1.elim⟩
theorem se_or (ha : SE X W a ma) (hb : SE X W (.BoolOp .Or (b :: rest) pos) mb) : SE X W (.BoolOp .Or (a :: b :: rest) pos) (mOrV ma mb) :=
  PE.mono (pe_or ha hb) fun σ H Q ⟨ρ, μ, ι, env, rel, h⟩ =>
    ⟨ρ, μ, ι, env, rel, (Post.bind h).imp fun ι1 H1 μ1 x _ _ ⟨g1, r1, h1⟩ v rv => by
      cases x with
      | bl c =>
        unfold Rep at rv
        refine ⟨c, rv, ?_⟩
        cases c with
        | true => exact iteT (h1 ι1 H1 .refl r1 _ (by unfold Rep; rfl))
        | false => exact iteF ⟨ρ, μ1, ι1, env.ext (g1.ext rel), r1, h1⟩
      | _ => exact h1.elim⟩
theorem se_not (ha : SE X W a ma) : SE X W (.UnaryOp .Not a pos) (mNotV ma) :=
  PE.mono (pe_not ha) fun σ H Q ⟨ρ, μ, ι, env, rel, h⟩ =>
    ⟨ρ, μ, ι, env, rel, (Post.bind h).imp fun ι1 H1 μ1 x _ _ ⟨g1, r1, h1⟩ v rv => by
      cases x with
      | bl c => unfold Rep at rv; exact ⟨c, rv, h1 ι1 H1 .refl r1 _ (by unfold Rep; rfl)⟩
      | _ => exact h1.elim⟩
theorem se_ifE {tc : MB} (hc : ST X W c tc) (ha : SE X W a ma) (hb : SE X W b mb) : SE X W (.IfExp c a b pos) (mIfE tc ma mb) :=
  PE.mono (pe_ifExp hc ha hb) fun σ H Q ⟨ρ, μ, ι, env, rel, h⟩ =>
    ⟨ρ, μ, ι, env, rel, (Post.bind h).imp fun ι1 H1 μ1 x _ _ ⟨g1, r1, h1⟩ => by
      cases x with
      | true => exact iteT ⟨ρ, μ1, ι1, env.ext (g1.ext rel), r1, h1⟩
      | false => exact iteF ⟨ρ, μ1, ι1, env.ext (g1.ext rel), r1, h1⟩⟩
/-! argument lists, displays -/
variable {es : List Expr} {me : MD} {ms : ML}
theorem sa_nil : SA X W [] mNil := PA.mono pa_nil fun σ H Q ⟨ρ, μ, ι, env, rel, h⟩ => h ι H .refl rel [] .nil
theorem sa_cons (ha : SE X W e me) (hr : SA X W es ms) (hs : starEach (e :: es) X.env = (false, eval e X.env) :: starEach es X.env := by rfl) : SA X W (e :: es) (mCons me ms) :=
  PA.mono (pa_cons ha hr hs) fun σ H Q ⟨ρ, μ, ι, env, rel, h⟩ => by
    refine ⟨ρ, μ, ι, env, rel, (Post.bind h).imp fun ι1 H1 μ1 x _ _ ⟨g1, r1, h1⟩ v rv => ?_⟩
    refine ⟨ρ, μ1, ι1, env.ext (g1.ext rel), r1, (Post.bind h1).imp fun ι2 H2 μ2 xs _ _ ⟨g2, r2, h2⟩ vs rvs => ?_⟩
    exact h2 ι2 H2 .refl r2 (v :: vs) (.cons (rv.ext (g2.ext r1)) rvs)
theorem le_line {n : Nat} (h : n ≤ 1000) : n ≤ sizeLine := Nat.le_of_lt (small1000 h)
theorem se_tup {k} (h : SA X W es ms) : SE X W (.Tuple es k pos) (mTup ms) :=
  PE.mono (pe_tup h) fun σ H Q ⟨ρ, μ, ι, env, rel, h⟩ => by
    refine ⟨ρ, μ, ι, env, rel, (Post.bind h).imp fun ι1 H1 μ1 xs _ _ ⟨g1, r1, h1⟩ vs rv => ?_⟩
    split at h1
    · rename_i hl
      refine ⟨by rw [rv.length]; exact le_line hl, fun p hp => ?_⟩
      obtain ⟨g2, r2⟩ := grow_laid (o := .tup vs) r1 hp
      refine h1 ι1 _ g2 r2 (.ref p) ?_
      unfold Rep
      exact ⟨p, vs, rfl, .of upd_same, rv.ext (g2.ext r1)⟩
    · exact h1.elim
theorem se_lst (h : SA X W es ms) : SE X W (.List es pos) (mLst ms) :=
  PE.mono (pe_lst h) fun σ H Q ⟨ρ, μ, ι, env, rel, h⟩ => by
    refine ⟨ρ, μ, ι, env, rel, (Post.bind h).imp fun ι1 H1 μ1 xs _ _ ⟨g1, r1, h1⟩ vs rv => ?_⟩
    split at h1
    · rename_i hl
      refine ⟨by rw [rv.length]; exact le_line hl, fun p hp => ?_⟩
      obtain ⟨g2, r2⟩ := grow_cell (o := .lst vs) (c := .lst xs) r1 hp fun x => ⟨vs, upd_same, rv.ext x⟩
      exact h1 _ _ g2 r2 (.ref p) (rep_new (r := r1))
    · exact h1.elim
end
end RW

/-! SEd: operators. -/
namespace RW
open PySem L2
open Classical in
section
noncomputable def addD : D → D → Mem → Res D
  | .int i, .int j, μ => .ok (.int (i + j)) μ
  | .str x, .str y, μ => if x.length + y.length ≤ sizeLine then .ok (.str (x ++ y)) μ else .stuck
  | .tup a, .tup b, μ => if a.length + b.length ≤ sizeLine then .ok (.tup (a ++ b)) μ else .stuck
  | .ref n, .ref m, μ => match μ[n]?, μ[m]? with
    | some (.lst a), some (.lst b) => if a.length + b.length ≤ sizeLine then .ok (.ref μ.length) (μ ++ [.lst (a ++ b)]) else .stuck
    | _, _ => .stuck
  | _, _, _ => .stuck
end
def subD : D → D → Mem → Res D
  | .int i, .int j, μ => .ok (.int (i - j)) μ
  | _, _, _ => .stuck
def mulD : D → D → Mem → Res D
  | .int i, .int j, μ => if i.natAbs < 18446744073709551616 ∨ j.natAbs < 18446744073709551616 then .ok (.int (i * j)) μ else .stuck
  | .ref n, .int k, μ => match μ[n]? with
    | some (.lst a) => if -(2 ^ 63) ≤ k ∧ k < 2 ^ 63 ∧ a.length * k.toNat ≤ sizeLine then .ok (.ref μ.length) (μ ++ [.lst (List.replicate k.toNat a).flatten]) else .stuck
    | _ => .stuck
  | _, _, _ => .stuck
def fdivD : D → D → Mem → Res D
  | .int i, .int j, μ => if 0 < j ∧ j < 18446744073709551616 then .ok (.int (i / j)) μ else .stuck
  | _, _, _ => .stuck
def modD : D → D → Mem → Res D
  | .int i, .int j, μ => if 0 < j then .ok (.int (i % j)) μ else .stuck
  | _, _, _ => .stuck
def powD : D → D → Mem → Res D
  | .int i, .int j, μ => if 0 ≤ j ∧ j ≤ 1000 ∧ i.natAbs < 18446744073709551616 then .ok (.int (i ^ j.toNat)) μ else .stuck
  | _, _, _ => .stuck
def negD : D → Mem → Res D
  | .int i, μ => .ok (.int (-i)) μ
  | _, _ => .stuck
def cmpI (p : Int → Int → Bool) : D → D → Mem → Res D
  | .int i, .int j, μ => .ok (.bl (p i j)) μ
  | _, _, _ => .stuck
def isNonD : D → Bool
  | .non => true
  | _ => false
def isD : D → D → Mem → Res D
  | x, .non, μ => .ok (.bl (isNonD x)) μ
  | _, _, _ => .stuck
def isNotD : D → D → Mem → Res D
  | x, .non, μ => .ok (.bl (!isNonD x)) μ
  | _, _, _ => .stuck

section
variable {G : Gd} {ι : List Addr} {H : Hp}
theorem Rep.int {i : Int} {v : V} (h : Rep G ι H (.int i) v) : v = .int i := by unfold Rep at h; exact h
theorem Rep.str {i : Str} {v : V} (h : Rep G ι H (.str i) v) : v = .str i := by unfold Rep at h; exact h
theorem Rep.bl {i : Bool} {v : V} (h : Rep G ι H (.bl i) v) : v = .bl i := by unfold Rep at h; exact h
theorem Rep.non {v : V} (h : Rep G ι H .non v) : v = .non := by unfold Rep at h; exact h
theorem Rep.tup {l : List D} {v : V} (h : Rep G ι H (.tup l) v) : ∃ a vs, v = .ref a ∧ SqT G.K H a vs ∧ Reps G ι H l vs := by unfold Rep at h; exact h
theorem Rep.frl {l : List D} {v : V} (h : Rep G ι H (.frl l) v) : ∃ a vs, v = .ref a ∧ FrL G H a vs ∧ Reps G ι H l vs := by unfold Rep at h; exact h
theorem Rep.ref {n : Nat} {v : V} (h : Rep G ι H (.ref n) v) : ∃ a, ι[n]? = some a ∧ v = .ref a := by unfold Rep at h; exact h
theorem rep_int (i : Int) : Rep G ι H (.int i) (.int i) := by unfold Rep; rfl
theorem rep_str (i : Str) : Rep G ι H (.str i) (.str i) := by unfold Rep; rfl
theorem rep_bl (i : Bool) : Rep G ι H (.bl i) (.bl i) := by unfold Rep; rfl
theorem rep_non : Rep G ι H .non .non := by unfold Rep; rfl
theorem rep_tup {l : List D} {a : Addr} {vs : List V} (h : SqT G.K H a vs) (r : Reps G ι H l vs) : Rep G ι H (.tup l) (.ref a) := by unfold Rep; exact ⟨a, vs, rfl, h, r⟩
theorem rep_ref {n : Nat} {a : Addr} (h : ι[n]? = some a) : Rep G ι H (.ref n) (.ref a) := by unfold Rep; exact ⟨a, h, rfl⟩
/-- a list cell at an address -/
theorem Rel.lst {μ : Mem} (r : Rel G ι H μ) {n : Nat} {l : List D} {v : V} (h : μ[n]? = some (.lst l)) (hv : Rep G ι H (.ref n) v) : ∃ a vs, v = .ref a ∧ ι[n]? = some a ∧ H a = some (.lst vs) ∧ Reps G ι H l vs := by
  obtain ⟨a, h1, rfl⟩ := hv.ref
  obtain ⟨vs, h2, h3⟩ := r.cell n _ a h h1
  exact ⟨a, vs, rfl, h1, h2, h3⟩
/-- a new list -/
theorem new_lst {μ : Mem} {W : WX} {σ : St} {l : List D} {vs : List V} {Q : VK} (r : Rel G ι H μ) (h : Reps G ι H l vs)
    (k : Post G ι H W σ (.ok (D.ref μ.length) (μ ++ [.lst l])) fun ι' H' _ d => ∀ v, Rep G ι' H' d v → Q v H') : ∀ p, H p = none → Q (.ref p) (upd H p (.lst vs)) := fun p hp => by
  obtain ⟨g2, r2⟩ := grow_cell (o := .lst vs) (c := .lst l) r hp fun x => ⟨vs, upd_same, h.ext x⟩
  exact k _ _ g2 r2 (.ref p) (rep_new (r := r))
theorem new_tup {μ : Mem} {W : WX} {σ : St} {l : List D} {vs : List V} {Q : VK} (r : Rel G ι H μ) (h : Reps G ι H l vs)
    (k : Post G ι H W σ (.ok (D.tup l) μ) fun ι' H' _ d => ∀ v, Rep G ι' H' d v → Q v H') : ∀ p, H p = none → Q (.ref p) (upd H p (.tup vs)) := fun p hp => by
  obtain ⟨g2, r2⟩ := grow_laid (o := .tup vs) r hp
  exact k _ _ g2 r2 (.ref p) (rep_tup (.of upd_same) (h.ext (g2.ext r)))
end

theorem snd_int {G : Gd} {g : Int → Int → Int} {f : D → D → Mem → Res D} (hf : ∀ x y μ, f x y μ = match x, y with
  | .int i, .int j => .ok (.int (g i j)) μ
  | _, _ => .stuck) : Snd2 G (rI0 fun i j => .int (g i j)) f := fun ι H μ x y v u W σ Q r rx ry h => by
  rw [hf] at h
  cases x <;> cases y <;> first | exact h.elim | skip
  exact ⟨_, _, rx.int, ry.int, h ι H .refl r _ (rep_int _)⟩
theorem snd_sub {G : Gd} : Snd2 G (rI0 fun i j => .int (i - j)) subD := snd_int fun x y μ => by cases x <;> cases y <;> rfl
theorem snd_cmpI {G : Gd} {p : Int → Int → Bool} : Snd2 G (rI0 fun i j => .bl (p i j)) (cmpI p) := fun ι H μ x y v u W σ Q r rx ry h => by
  cases x <;> cases y <;> first | exact h.elim | skip
  exact ⟨_, _, rx.int, ry.int, h ι H .refl r _ (rep_bl _)⟩
theorem snd_mod {G : Gd} : Snd2 G (rI (fun _ j => 0 < j) fun i j => .int (i % j)) modD := fun ι H μ x y v u W σ Q r rx ry h => by
  cases x <;> cases y <;> first | exact h.elim | skip
  rename_i i j
  simp only [modD] at h
  split at h
  · rename_i hc
    exact ⟨_, _, rx.int, ry.int, hc, h ι H .refl r _ (rep_int _)⟩
  · exact h.elim
theorem snd_fdiv {G : Gd} : Snd2 G (rI CDivW fun i j => .int (i / j)) fdivD := fun ι H μ x y v u W σ Q r rx ry h => by
  cases x <;> cases y <;> first | exact h.elim | skip
  rename_i i j
  simp only [fdivD] at h
  split at h
  · rename_i hc
    exact ⟨_, _, rx.int, ry.int, wide_div (b := 64) hc.1 (by omega) (by decide) (by decide), h ι H .refl r _ (rep_int _)⟩
  · exact h.elim
theorem snd_pow {G : Gd} : Snd2 G (rI CPow fun i j => .int (i ^ j.toNat)) powD := fun ι H μ x y v u W σ Q r rx ry h => by
  cases x <;> cases y <;> first | exact h.elim | skip
  rename_i i j
  simp only [powD] at h
  split at h
  · rename_i hc
    exact ⟨_, _, rx.int, ry.int, ⟨hc.1, by omega, by omega⟩, h ι H .refl r _ (rep_int _)⟩
  · exact h.elim
def rMulA : R2 := fun x y H Q => rI CMul (fun i j => .int (i * j)) x y H Q ∨ rRep x y H Q
theorem op_mulA {X : Cx} : OpR X (binaryOp .Mult) rMulA := op_mul.or op_rep
theorem Reps.rep {G : Gd} {ι : List Addr} {H : Hp} {l : List D} {vs : List V} (h : Reps G ι H l vs) : ∀ k : Nat, Reps G ι H (List.replicate k l).flatten (List.replicate k vs).flatten
  | 0 => .nil
  | k + 1 => by rw [List.replicate_succ, List.replicate_succ, List.flatten_cons, List.flatten_cons]; exact h.append (Reps.rep h k)
theorem snd_mul {G : Gd} : Snd2 G rMulA mulD := fun ι H μ x y v u W σ Q r rx ry h => by
  cases x <;> cases y <;> first | exact h.elim | skip
  · rename_i i j
    simp only [mulD] at h
    split at h
    · rename_i hc
      refine .inl ⟨_, _, rx.int, ry.int, ?_, h ι H .refl r _ (rep_int _)⟩
      rcases hc with hc | hc
      · exact .inl (by omega)
      · exact .inr (by omega)
    · exact h.elim
  · rename_i n k
    simp only [mulD] at h
    split at h
    · rename_i a e
      split at h
      · rename_i hc
        obtain ⟨p, vs, rfl, h1, h2, h3⟩ := r.lst e rx
        refine .inr ⟨p, k, vs, rfl, ry.int, h2, hc.1, hc.2.1, by rw [h3.length]; exact hc.2.2, ?_⟩
        exact new_lst r (h3.rep k.toNat) h
      · exact h.elim
    · exact h.elim
def rAddA (K : PySem.W.Frag) : R2 := fun x y H Q => rI0 (fun i j => .int (i + j)) x y H Q ∨ (∃ i j, x = .str i ∧ y = .str j ∧ i.length + j.length ≤ sizeLine ∧ Q (.str (i ++ j)) H) ∨ rCatA K x y H Q ∨ rCat x y H Q
theorem op_addA {X : Cx} : OpR X (binaryOp .Add) (rAddA X.K) := op_add.or (op_add_str.or (op_catA.or op_cat))
theorem snd_add {G : Gd} : Snd2 G (rAddA G.K) addD := fun ι H μ x y v u W σ Q r rx ry h => by
  cases x <;> cases y <;> first | exact h.elim | skip
  · exact .inl ⟨_, _, rx.int, ry.int, h ι H .refl r _ (rep_int _)⟩
  · simp only [addD] at h
    split at h
    · rename_i hc
      exact .inr (.inl ⟨_, _, rx.str, ry.str, hc, h ι H .refl r _ (rep_str _)⟩)
    · exact h.elim
  · simp only [addD] at h
    split at h
    · rename_i l l' hc
      obtain ⟨a, vs, rfl, h1, h2⟩ := rx.tup
      obtain ⟨b, ws, rfl, h3, h4⟩ := ry.tup
      refine .inr (.inr (.inl ⟨a, b, vs, ws, rfl, rfl, h1, h3, by rw [h2.length, h4.length]; exact hc, fun e => ?_, fun e1 e2 => ?_, fun _ _ => new_tup r (h2.append h4) h⟩))
      · subst e
        have e := h2.length
        cases l with
        | nil => exact h ι H .refl r _ ry
        | cons _ _ => simp at e
      · subst e2
        have e := h4.length
        cases l' with
        | nil => exact h ι H .refl r _ (by rw [List.append_nil]; exact rx)
        | cons _ _ => simp at e
    · exact h.elim
  · simp only [addD] at h
    split at h
    · rename_i a b e1 e2
      split at h
      · rename_i hc
        obtain ⟨p, vs, rfl, h1, h2, h3⟩ := r.lst e1 rx
        obtain ⟨q, ws, rfl, h4, h5, h6⟩ := r.lst e2 ry
        exact .inr (.inr (.inr ⟨p, q, vs, ws, rfl, rfl, h2, h5, by rw [h3.length, h6.length]; exact hc, new_lst r (h3.append h6) h⟩))
      · exact h.elim
    · exact h.elim
theorem snd_neg {G : Gd} : Snd1 G (rU fun i => .int (-i)) negD := fun ι H μ x v W σ Q r rx h => by
  cases x <;> first | exact h.elim | skip
  exact ⟨_, rx.int, h ι H .refl r _ (rep_int _)⟩
theorem isNon_of {G : Gd} {ι : List Addr} {H : Hp} {x : D} {v : V} (h : Rep G ι H x v) : decide (v = .non) = isNonD x := by
  cases x with
  | non => rw [h.non]; rfl
  | bl b => rw [h.bl]; rfl
  | int b => rw [h.int]; rfl
  | str b => rw [h.str]; rfl
  | tup l => obtain ⟨a, _, rfl, _⟩ := h.tup; rfl
  | frl l => obtain ⟨a, _, rfl, _⟩ := h.frl; rfl
  | ref l => obtain ⟨a, _, rfl⟩ := h.ref; rfl
  | fn l => unfold Rep at h; obtain ⟨a, _, rfl⟩ := h; rfl
theorem snd_is {G : Gd} : Snd2 G (fun x y H Q => y = .non ∧ Q (.bl (decide (x = .non))) H) isD := fun ι H μ x y v u W σ Q r rx ry h => by
  cases y <;> first | (simp only [isD] at h; exact h.elim) | (exact h.elim) | skip
  exact ⟨ry.non, by rw [isNon_of rx]; exact h ι H .refl r _ (rep_bl _)⟩
theorem snd_isNot {G : Gd} : Snd2 G (fun x y H Q => y = .non ∧ Q (.bl (!decide (x = .non))) H) isNotD := fun ι H μ x y v u W σ Q r rx ry h => by
  cases y <;> first | (simp only [isNotD] at h; exact h.elim) | (exact h.elim) | skip
  exact ⟨ry.non, by rw [isNon_of rx]; exact h ι H .refl r _ (rep_bl _)⟩

/-! ### == -/
mutual
/-- data, no deeper than so many, lists within read -/
def D.py? : Nat → Mem → D → Option PyData
  | _, _, .non => some .none
  | _, _, .bl b => some (.bool b)
  | _, _, .int i => some (.int i)
  | _, _, .str s => some (.str s)
  | n + 1, μ, .tup l => (D.pys? n μ l).map PyData.tuple
  | n + 1, μ, .frl l => (D.pys? n μ l).map PyData.list
  | n + 1, μ, .ref m => match μ[m]? with
    | some (.lst l) => (D.pys? n μ l).map PyData.list
    | _ => none
  | _, _, _ => none
def D.pys? : Nat → Mem → List D → Option (List PyData)
  | _, _, [] => some []
  | n, μ, d :: l => match D.py? n μ d, D.pys? n μ l with
    | some k, some r => some (k :: r)
    | _, _ => none
end
end RW

/-! SEe: ==, subscripts, slices. -/
namespace RW
open PySem L2
def eqD (x y : D) (μ : Mem) : Res D := match D.py? 8 μ x, D.py? 8 μ y with
  | some p, some q => if (SeqAt.shaped p && SeqAt.shaped q) = true then .ok (.bl (PyData.eqv p q)) μ else .stuck
  | _, _ => .stuck
def neD (x y : D) (μ : Mem) : Res D := match D.py? 8 μ x, D.py? 8 μ y with
  | some p, some q => if (SeqAt.shaped p && SeqAt.shaped q) = true then .ok (.bl (!PyData.eqv p q)) μ else .stuck
  | _, _ => .stuck
section
variable {G : Gd} {ι : List Addr} {H : Hp} {μ : Mem}
mutual
theorem dp_of (r : Rel G ι H μ) : ∀ (n : Nat) (d : D) (v : V) (p : PyData), Rep G ι H d v → D.py? n μ d = some p → Dp G.K H v p
  | n, .non, v, p, h, e => by unfold D.py? at e; cases e; rw [h.non]; exact .non
  | n, .bl b, v, p, h, e => by unfold D.py? at e; cases e; rw [h.bl]; exact .bl b
  | n, .int b, v, p, h, e => by unfold D.py? at e; cases e; rw [h.int]; exact .int b
  | n, .str b, v, p, h, e => by unfold D.py? at e; cases e; rw [h.str]; exact .str b
  | n + 1, .tup l, v, p, h, e => by
    unfold D.py? at e
    obtain ⟨q, e1, rfl⟩ := Option.map_eq_some_iff.mp e
    obtain ⟨a, vs, rfl, h1, h2⟩ := h.tup
    exact .tup h1 (dps_of r n l vs q h2 e1)
  | n + 1, .frl l, v, p, h, e => by
    unfold D.py? at e
    obtain ⟨q, e1, rfl⟩ := Option.map_eq_some_iff.mp e
    obtain ⟨a, vs, rfl, h1, h2⟩ := h.frl
    exact .lst (FrL.sq _ _ h1) (dps_of r n l vs q h2 e1)
  | n + 1, .ref m, v, p, h, e => by
    unfold D.py? at e
    split at e
    · rename_i l em
      obtain ⟨q, e1, rfl⟩ := Option.map_eq_some_iff.mp e
      obtain ⟨a, vs, rfl, h1, h2, h3⟩ := r.lst em h
      exact .lst (.of h2) (dps_of r n l vs q h3 e1)
    · cases e
  | _, .fn _, _, _, _, e => by unfold D.py? at e; cases e
  | 0, .tup _, _, _, _, e => by unfold D.py? at e; cases e
  | 0, .frl _, _, _, _, e => by unfold D.py? at e; cases e
  | 0, .ref _, _, _, _, e => by unfold D.py? at e; cases e
theorem dps_of (r : Rel G ι H μ) : ∀ (n : Nat) (l : List D) (vs : List V) (p : List PyData), Reps G ι H l vs → D.pys? n μ l = some p → DpAll G.K H vs p
  | n, [], vs, p, h, e => by unfold D.pys? at e; cases e; rw [h.nil_inv]; exact .nil
  | n, d :: l, vs, p, h, e => by
    unfold D.pys? at e
    obtain ⟨v, w, rfl, h1, h2⟩ := h.cons_inv
    split at e
    · rename_i k q e1 e2
      cases e
      exact .cons (dp_of r n d v k h1 e1) (dps_of r n l w q h2 e2)
    · cases e
end
end
theorem snd_eq {G : Gd} : Snd2 G (rEqD G.K) eqD := fun ι H μ x y v u W σ Q r rx ry h => by
  unfold eqD at h
  split at h
  · rename_i p q e1 e2
    split at h
    · rename_i hs
      rw [Bool.and_eq_true] at hs
      exact ⟨p, q, dp_of r _ _ _ _ rx e1, dp_of r _ _ _ _ ry e2, hs.1, hs.2, h ι H .refl r _ (rep_bl _)⟩
    · exact h.elim
  · exact h.elim
theorem snd_ne {G : Gd} : Snd2 G (rNeD G.K) neD := fun ι H μ x y v u W σ Q r rx ry h => by
  unfold neD at h
  split at h
  · rename_i p q e1 e2
    split at h
    · rename_i hs
      rw [Bool.and_eq_true] at hs
      exact ⟨p, q, dp_of r _ _ _ _ rx e1, dp_of r _ _ _ _ ry e2, hs.1, hs.2, h ι H .refl r _ (rep_bl _)⟩
    · exact h.elim
  · exact h.elim

/-! ### a[b] of lists, tuples, texts -/
def idxD : D → D → Mem → Res D
  | .tup l, .int i, μ => match atI l i with
    | some d => .ok d μ
    | none => .stuck
  | .frl l, .int i, μ => match atI l i with
    | some d => .ok d μ
    | none => .stuck
  | .ref n, .int i, μ => match μ[n]? with
    | some (.lst l) => (match atI l i with
      | some d => .ok d μ
      | none => .stuck)
    | _ => .stuck
  | .str z, .int i, μ => if z.length ≤ sizeLine then (match atI z.cps.toList i with
      | some c => .ok (.str ⟨#[c]⟩) μ
      | none => .stuck) else .stuck
  | _, _, _ => .stuck
theorem Reps.atI {G : Gd} {ι : List Addr} {H : Hp} {l : List D} {vs : List V} {i : Int} {d : D} (h : Reps G ι H l vs) (e : L2.atI l i = some d) : ∃ v, L2.atI vs i = some v ∧ Rep G ι H d v := by
  unfold L2.atI at e ⊢
  rw [h.length]
  obtain ⟨j, e1, e2⟩ := Option.bind_eq_some_iff.mp e
  obtain ⟨v, e3, r⟩ := h.get e2
  exact ⟨v, Option.bind_eq_some_iff.mpr ⟨j, e1, e3⟩, r⟩
theorem snd_idx {G : Gd} : Snd2 G (rIx G.K) idxD := fun ι H μ x y v u W σ Q r rx ry h => by
  cases x <;> cases y <;> first | exact h.elim | skip
  · rename_i z i
    simp only [idxD] at h
    split at h
    · rename_i hl
      split at h
      · rename_i c e
        exact .inr (.inr ⟨z, i, c, rx.str, ry.int, hl, e, h ι H .refl r _ (rep_str _)⟩)
      · exact h.elim
    · exact h.elim
  · rename_i l i
    simp only [idxD] at h
    split at h
    · rename_i d e
      obtain ⟨a, vs, rfl, h1, h2⟩ := rx.tup
      obtain ⟨w, e1, r1⟩ := h2.atI e
      exact .inr (.inl ⟨a, vs, i, w, rfl, ry.int, h1, e1, h ι H .refl r _ r1⟩)
    · exact h.elim
  · rename_i l i
    simp only [idxD] at h
    split at h
    · rename_i d e
      obtain ⟨a, vs, rfl, h1, h2⟩ := rx.frl
      obtain ⟨w, e1, r1⟩ := h2.atI e
      exact .inl ⟨a, vs, i, w, rfl, ry.int, FrL.sq _ _ h1, e1, h ι H .refl r _ r1⟩
    · exact h.elim
  · rename_i n i
    simp only [idxD] at h
    split at h
    · rename_i l em
      split at h
      · rename_i d e
        obtain ⟨a, vs, rfl, h1, h2, h3⟩ := r.lst em rx
        obtain ⟨w, e1, r1⟩ := h3.atI e
        exact .inl ⟨a, vs, i, w, rfl, ry.int, .of h2, e1, h ι H .refl r _ r1⟩
      · exact h.elim
    · exact h.elim
section
variable {X : Cx} {W : WX} {a b : Expr} {ma mb : MD} {pos p2 : Pos}
theorem se_idx (ha : SE X W a ma) (hb : SE X W b mb) (hs : PlainIx b := by exact fun _ _ => rfl) : SE X W (.Subscript a b pos) (mBin idxD ma mb) :=
  PE.mono (pe_ix ix_seq ha hb hs) fun σ H Q h => bin_red snd_idx h

/-! ### slices -/
abbrev MO := Rho → Mem → Res (Option Int)
@[simp] def oNone : MO := fun _ μ => .ok none μ
@[simp] def oSome (m : MD) : MO := fun ρ μ => (m ρ μ).bind fun x μ1 => match x with
  | .int i => .ok (some i) μ1
  | _ => .stuck
def tO (G : Gd) (W : WX) (m : MO) : TO := fun σ H Q => ∃ ρ μ ι, EnvOk G ι H ρ σ ∧ Rel G ι H μ ∧ Post G ι H W σ (m ρ μ) fun ι' H' _ o => Q o H'
theorem PO.mono {X : Cx} {e : Option Expr} {t t' : TO} (h : PO X e t) (f : ∀ σ H Q, t' σ H Q → t σ H Q) : PO X e t' := ⟨fun pins s σ H Q I w => h.run pins s σ H Q I (f σ H Q w)⟩
theorem so_none : PO X none (tO (gOf X) W oNone) := PO.mono po_none fun σ H Q ⟨ρ, μ, ι, env, rel, h⟩ => h ι H .refl rel
theorem so_some (h : SE X W a ma) : PO X (some a) (tO (gOf X) W (oSome ma)) := PO.mono (po_some h) fun σ H Q ⟨ρ, μ, ι, env, rel, h⟩ =>
  ⟨ρ, μ, ι, env, rel, (Post.bind h).imp fun ι1 H1 μ1 x _ _ ⟨g1, r1, h1⟩ v rv => by
    cases x with
    | int i => exact ⟨i, rv.int, h1 ι1 H1 .refl r1⟩
    | _ => exact h1.elim⟩
def cutD (l : List D) (lo hi : Option Int) : List D := (l.drop (HT.sIx l.length 0 lo)).take (HT.sIx l.length l.length hi - HT.sIx l.length 0 lo)
def slcD (x : D) (lo hi : Option Int) (μ : Mem) : Res D := match x with
  | .tup l => .ok (.tup (cutD l lo hi)) μ
  | .frl l => .ok (.ref μ.length) (μ ++ [.lst (cutD l lo hi)])
  | .ref n => (match μ[n]? with
    | some (.lst l) => .ok (.ref μ.length) (μ ++ [.lst (cutD l lo hi)])
    | _ => .stuck)
  | _ => .stuck
@[simp] def mSlc (a : MD) (lo hi : MO) : MD := fun ρ μ => (a ρ μ).bind fun x μ1 => (lo ρ μ1).bind fun l μ2 => (hi ρ μ2).bind fun u μ3 => slcD x l u μ3
def rSlAll (K : PySem.W.Frag) : V → Option Int → Option Int → Hp → VK → Prop := fun x lo hi H Q => rSlA K x lo hi H Q ∨ rSlL K x lo hi H Q
theorem Reps.cut {G : Gd} {ι : List Addr} {H : Hp} {l : List D} {vs : List V} (h : Reps G ι H l vs) (lo hi : Option Int) : Reps G ι H (cutD l lo hi) (cutV vs lo hi) := by
  unfold cutD cutV
  rw [h.length]
  exact (h.drop _).take _
theorem cutD_whole {l : List D} {lo hi : Option Int} (h : HT.sIx l.length 0 lo = 0 ∧ HT.sIx l.length l.length hi = l.length) : cutD l lo hi = l := by
  unfold cutD
  rw [h.1, h.2]; simp
theorem se_slc {lo hi : Option Expr} {ml mh : MO} (ha : SE X W a ma) (hl : PO X lo (tO (gOf X) W ml)) (hh : PO X hi (tO (gOf X) W mh)) : SE X W (.Subscript a (.Slice lo hi none p2) pos) (mSlc ma ml mh) :=
  PE.mono (pe_slice (SlR.or sl_tupA sl_list) ha hl hh) fun σ H Q ⟨ρ, μ, ι, env, rel, h⟩ => by
    refine ⟨ρ, μ, ι, env, rel, (Post.bind h).imp fun ι1 H1 μ1 x _ _ ⟨g1, r1, h1⟩ v rv => ?_⟩
    refine ⟨ρ, μ1, ι1, env.ext (g1.ext rel), r1, (Post.bind h1).imp fun ι2 H2 μ2 l _ _ ⟨g2, r2, h2⟩ => ?_⟩
    refine ⟨ρ, μ2, ι2, (env.ext (g1.ext rel)).ext (g2.ext r1), r2, (Post.bind h2).imp fun ι3 H3 μ3 u _ _ ⟨g3, r3, h3⟩ => ?_⟩
    have rv := (rv.ext (g2.ext r1)).ext (g3.ext r2)
    cases x with
    | tup t =>
      obtain ⟨a, vs, rfl, q1, q2⟩ := rv.tup
      refine .inl ⟨a, vs, rfl, q1, fun hw => ?_, fun _ => new_tup r3 (q2.cut l u) h3⟩
      rw [q2.length] at hw
      exact h3 ι3 H3 .refl r3 _ (by rw [cutD_whole hw]; exact rv)
    | frl t =>
      obtain ⟨a, vs, rfl, q1, q2⟩ := rv.frl
      exact .inr ⟨a, vs, rfl, FrL.sq _ _ q1, new_lst r3 (q2.cut l u) h3⟩
    | ref n =>
      simp only [slcD] at h3
      split at h3
      · rename_i t em
        obtain ⟨a, vs, rfl, q0, q1, q2⟩ := r3.lst em rv
        exact .inr ⟨a, vs, rfl, .of q1, new_lst r3 (q2.cut l u) h3⟩
      · exact h3.elim
    | _ => exact h3.elim
end

/-! ### built-in functions -/
section
variable {X : Cx} {W : WX} {x : Str} {p pos : Pos} {e : Expr} {es : List Expr} {ms : ML} {id T : String}
@[simp] def mB (f : List D → Mem → Res D) (a : ML) : MD := fun ρ μ => (a ρ μ).bind fun xs μ1 => f xs μ1
def SndL (G : Gd) (r : List V → Hp → VK → Prop) (f : List D → Mem → Res D) : Prop := ∀ (ι : List Addr) (H : Hp) (μ : Mem) (xs : List D) (vs : List V) (W : WX) (σ : St) (Q : VK), Rel G ι H μ → Reps G ι H xs vs →
  Post G ι H W σ (f xs μ) (fun ι' H' _ d => ∀ v, Rep G ι' H' d v → Q v H') → r vs H Q
theorem cb_red {r : List V → Hp → VK → Prop} {f : List D → Mem → Res D} (hf : SndL (gOf X) r f) {σ : St} {H : Hp} {Q : VK} (h : tE (gOf X) W (mB f ms) σ H Q) : tCB r (tL (gOf X) W ms) σ H Q := by
  obtain ⟨ρ, μ, ι, env, rel, h⟩ := h
  exact ⟨ρ, μ, ι, env, rel, (Post.bind h).imp fun ι1 H1 μ1 xs _ _ ⟨g1, r1, h1⟩ vs rvs => hf ι1 H1 μ1 xs vs W σ Q r1 rvs h1⟩
theorem se_B {r : List V → Hp → VK → Prop} {f : List D → Mem → Res D} (hc : CallR X (.builtin id) r) (hf : SndL (gOf X) r f) (hg : Gl X x) (hm : X.mg x = none) (hv : bootBuiltins x = some (.builtin id)) (ha : SA X W (e :: es) ms) (hn : x ≠ "__name__" := by decide) (hdb : (x == ("__debug__" : Str)) = false := by decide)
    (he : starEach (e :: es) X.env = (false, eval e X.env) :: starEach es X.env := by rfl) (hpl : (backTo pos (starEach es X.env)).any (·.1) = false := by rfl) : SE X W (.Call (.Name x p) (e :: es) [] pos) (mB f ms) :=
  PE.mono (pe_callB hc hg hm hv ha hn hdb he hpl) fun σ H Q h => cb_red hf h
theorem se_T {r : List V → Hp → VK → Prop} {f : List D → Mem → Res D} (hc : CallR X (.type T) r) (hf : SndL (gOf X) r f) (hg : Gl X x) (hm : X.mg x = none) (hv : bootBuiltins x = some (.type T)) (ha : SA X W (e :: es) ms) (hn : x ≠ "__name__" := by decide) (hdb : (x == ("__debug__" : Str)) = false := by decide)
    (he : starEach (e :: es) X.env = (false, eval e X.env) :: starEach es X.env := by rfl) (hpl : (backTo pos (starEach es X.env)).any (·.1) = false := by rfl) : SE X W (.Call (.Name x p) (e :: es) [] pos) (mB f ms) :=
  PE.mono (pe_callTy hc hg hm hv ha hn hdb he hpl) fun σ H Q h => cb_red hf h
end
theorem Reps.one {G : Gd} {ι : List Addr} {H : Hp} {x : D} {vs : List V} (h : Reps G ι H [x] vs) : ∃ v, vs = [v] ∧ Rep G ι H x v := by
  obtain ⟨v, r, rfl, h1, h2⟩ := h.cons_inv
  rw [h2.nil_inv]; exact ⟨v, rfl, h1⟩
theorem Reps.two {G : Gd} {ι : List Addr} {H : Hp} {x y : D} {vs : List V} (h : Reps G ι H [x, y] vs) : ∃ v w, vs = [v, w] ∧ Rep G ι H x v ∧ Rep G ι H y w := by
  obtain ⟨v, r, rfl, h1, h2⟩ := h.cons_inv
  obtain ⟨w, rfl, h3⟩ := h2.one
  exact ⟨v, w, rfl, h1, h3⟩
def absL : List D → Mem → Res D
  | [.int i], μ => .ok (.int (if i < 0 then -i else i)) μ
  | _, _ => .stuck
def lenL : List D → Mem → Res D
  | [.tup l], μ => .ok (.int l.length) μ
  | [.frl l], μ => .ok (.int l.length) μ
  | [.ref n], μ => (match μ[n]? with
    | some (.lst l) => .ok (.int l.length) μ
    | _ => .stuck)
  | [.str z], μ => if z.length ≤ sizeLine then .ok (.int z.length) μ else .stuck
  | _, _ => .stuck
def min2L : List D → Mem → Res D
  | [.int i, .int j], μ => .ok (.int (if j < i then j else i)) μ
  | _, _ => .stuck
def max2L : List D → Mem → Res D
  | [.int i, .int j], μ => .ok (.int (if j > i then j else i)) μ
  | _, _ => .stuck
def intL : List D → Mem → Res D
  | [.int i], μ => .ok (.int i) μ
  | [.bl k], μ => .ok (.int (if k then 1 else 0)) μ
  | _, _ => .stuck
def tupleL : List D → Mem → Res D
  | [.tup l], μ => .ok (.tup l) μ
  | [.frl l], μ => .ok (.tup l) μ
  | [.ref n], μ => (match μ[n]? with
    | some (.lst l) => .ok (.tup l) μ
    | _ => .stuck)
  | _, _ => .stuck
def listL : List D → Mem → Res D
  | [.tup l], μ => .ok (.ref μ.length) (μ ++ [.lst l])
  | [.frl l], μ => .ok (.ref μ.length) (μ ++ [.lst l])
  | [.ref n], μ => (match μ[n]? with
    | some (.lst l) => .ok (.ref μ.length) (μ ++ [.lst l])
    | _ => .stuck)
  | _, _ => .stuck
theorem snd_abs {G : Gd} : SndL G (fun xs H Q => ∃ i, xs = [.int i] ∧ Q (.int (if i < 0 then -i else i)) H) absL := fun ι H μ xs vs W σ Q r rxs h => by
  unfold absL at h
  split at h
  · obtain ⟨v, rfl, rv⟩ := rxs.one
    exact ⟨_, by rw [rv.int], h ι H .refl r _ (rep_int _)⟩
  · exact h.elim
theorem snd_min2 {G : Gd} : SndL G (fun xs H Q => ∃ i j, xs = [.int i, .int j] ∧ Q (.int (if j < i then j else i)) H) min2L := fun ι H μ xs vs W σ Q r rxs h => by
  unfold min2L at h
  split at h
  · obtain ⟨v, w, rfl, rv, rw'⟩ := rxs.two
    exact ⟨_, _, by rw [rv.int, rw'.int], h ι H .refl r _ (rep_int _)⟩
  · exact h.elim
theorem snd_max2 {G : Gd} : SndL G (fun xs H Q => ∃ i j, xs = [.int i, .int j] ∧ Q (.int (if j > i then j else i)) H) max2L := fun ι H μ xs vs W σ Q r rxs h => by
  unfold max2L at h
  split at h
  · obtain ⟨v, w, rfl, rv, rw'⟩ := rxs.two
    exact ⟨_, _, by rw [rv.int, rw'.int], h ι H .refl r _ (rep_int _)⟩
  · exact h.elim
theorem snd_intL {G : Gd} : SndL G (fun xs H Q => (∃ i, xs = [.int i] ∧ Q (.int i) H) ∨ ∃ k, xs = [.bl k] ∧ Q (.int (if k then 1 else 0)) H) intL := fun ι H μ xs vs W σ Q r rxs h => by
  unfold intL at h
  split at h
  · obtain ⟨v, rfl, rv⟩ := rxs.one
    exact .inl ⟨_, by rw [rv.int], h ι H .refl r _ (rep_int _)⟩
  · obtain ⟨v, rfl, rv⟩ := rxs.one
    exact .inr ⟨_, by rw [rv.bl], h ι H .refl r _ (rep_int _)⟩
  · exact h.elim
def rLenA (K : PySem.W.Frag) : List V → Hp → VK → Prop := fun xs H Q => (∃ p ys, xs = [.ref p] ∧ (SqL K H p ys ∨ SqT K H p ys) ∧ Q (.int ys.length) H) ∨ (∃ z, xs = [.str z] ∧ z.length ≤ sizeLine ∧ Q (.int z.length) H)
theorem call_lenA {X : Cx} : CallR X (.builtin "len") (rLenA X.K) := call_len_seq.or call_len_str
theorem snd_len {G : Gd} : SndL G (rLenA G.K) lenL := fun ι H μ xs vs W σ Q r rxs h => by
  unfold lenL at h
  split at h
  · obtain ⟨v, rfl, rv⟩ := rxs.one
    obtain ⟨a, vs, rfl, h1, h2⟩ := rv.tup
    exact .inl ⟨a, vs, rfl, .inr h1, by rw [h2.length]; exact h ι H .refl r _ (rep_int _)⟩
  · obtain ⟨v, rfl, rv⟩ := rxs.one
    obtain ⟨a, vs, rfl, h1, h2⟩ := rv.frl
    exact .inl ⟨a, vs, rfl, .inl (FrL.sq _ _ h1), by rw [h2.length]; exact h ι H .refl r _ (rep_int _)⟩
  · obtain ⟨v, rfl, rv⟩ := rxs.one
    split at h
    · rename_i l em
      obtain ⟨a, vs, rfl, h0, h1, h2⟩ := r.lst em rv
      exact .inl ⟨a, vs, rfl, .inl (.of h1), by rw [h2.length]; exact h ι H .refl r _ (rep_int _)⟩
    · exact h.elim
  · obtain ⟨v, rfl, rv⟩ := rxs.one
    split at h
    · rename_i hl
      exact .inr ⟨_, by rw [rv.str], hl, h ι H .refl r _ (rep_int _)⟩
    · exact h.elim
  · exact h.elim
theorem snd_tupleL {G : Gd} : SndL G (fun xs H Q => ∃ p ys, xs = [.ref p] ∧ ((SqL G.K H p ys ∧ ∀ l, H l = none → Q (.ref l) (upd H l (.tup ys))) ∨ (SqT G.K H p ys ∧ Q (.ref p) H))) tupleL := fun ι H μ xs vs W σ Q r rxs h => by
  unfold tupleL at h
  split at h
  · obtain ⟨v, rfl, rv⟩ := rxs.one
    obtain ⟨a, vs, rfl, h1, h2⟩ := id rv.tup
    exact ⟨a, vs, rfl, .inr ⟨h1, h ι H .refl r _ rv⟩⟩
  · obtain ⟨v, rfl, rv⟩ := rxs.one
    obtain ⟨a, vs, rfl, h1, h2⟩ := rv.frl
    exact ⟨a, vs, rfl, .inl ⟨FrL.sq _ _ h1, new_tup r h2 h⟩⟩
  · obtain ⟨v, rfl, rv⟩ := rxs.one
    split at h
    · rename_i l em
      obtain ⟨a, vs, rfl, h0, h1, h2⟩ := r.lst em rv
      exact ⟨a, vs, rfl, .inl ⟨.of h1, new_tup r h2 h⟩⟩
    · exact h.elim
  · exact h.elim
theorem snd_listL {G : Gd} : SndL G (fun xs H Q => ∃ p ys, xs = [.ref p] ∧ (SqL G.K H p ys ∨ SqT G.K H p ys) ∧ ∀ l, H l = none → Q (.ref l) (upd H l (.lst ys))) listL := fun ι H μ xs vs W σ Q r rxs h => by
  unfold listL at h
  split at h
  · obtain ⟨v, rfl, rv⟩ := rxs.one
    obtain ⟨a, vs, rfl, h1, h2⟩ := id rv.tup
    exact ⟨a, vs, rfl, .inr h1, new_lst r h2 h⟩
  · obtain ⟨v, rfl, rv⟩ := rxs.one
    obtain ⟨a, vs, rfl, h1, h2⟩ := rv.frl
    exact ⟨a, vs, rfl, .inl (FrL.sq _ _ h1), new_lst r h2 h⟩
  · obtain ⟨v, rfl, rv⟩ := rxs.one
    split at h
    · rename_i l em
      obtain ⟨a, vs, rfl, h0, h1, h2⟩ := r.lst em rv
      exact ⟨a, vs, rfl, .inl (.of h1), new_lst r h2 h⟩
    · exact h.elim
  · exact h.elim
end RW

/-! SEf: statements, loops. -/
namespace RW
open PySem L2
abbrev SS (X : Cx) (W : WX) (st : Stmt) (m : MS) : Prop := PS X st (tS (gOf X) W m)
abbrev SSs (X : Cx) (W : WX) (st : List Stmt) (m : MS) : Prop := PSs X st (tS (gOf X) W m)
abbrev MG := D → Rho → Mem → Res Rho
abbrev MIt := Rho → Mem → Res (List D × (Mem → Prop))
@[simp] def sNil : MS := fun ρ μ => .ok (.nx ρ) μ
@[simp] def sNever : MS := fun ρ μ => .stuck
@[simp] def sBrk : MS := fun ρ μ => .ok (.brk ρ) μ
@[simp] def sCnt : MS := fun ρ μ => .ok (.cnt ρ) μ
@[simp] def thenS (b : MS) : Fl → Mem → Res Fl
  | .nx ρ', μ => b ρ' μ
  | f, μ => .ok f μ
@[simp] def sSeq (a b : MS) : MS := fun ρ μ => (a ρ μ).bind (thenS b)
@[simp] def sIf (c : MB) (a b : MS) : MS := fun ρ μ => onE (c ρ μ) ρ fun t μ1 => if t = true then a ρ μ1 else b ρ μ1
@[simp] def sExpr (e : MD) : MS := fun ρ μ => onE (e ρ μ) ρ fun _ μ1 => .ok (.nx ρ) μ1
@[simp] def sRet (e : MD) : MS := fun ρ μ => onE (e ρ μ) ρ fun d μ1 => .ok (.ret d) μ1
@[simp] def sRetN : MS := fun ρ μ => .ok (.ret .non) μ
@[simp] def sSet (i : Nat) (e : MD) : MS := fun ρ μ => onE (e ρ μ) ρ fun d μ1 => .ok (.nx (ρ.set i (some d))) μ1
/-- no exception here -/
@[simp] def pureE {α β : Type} (r : Res α) (k : α → Mem → Res β) : Res β := match r with
  | .ok a m => k a m
  | _ => .stuck
@[simp] def sAsg (e : MD) (g : MG) : MS := fun ρ μ => onE (e ρ μ) ρ fun d μ1 => pureE (g d ρ μ1) fun ρ' μ2 => .ok (.nx ρ') μ2
@[simp] def sAug (i : Nat) (f : D → D → Mem → Res D) (e : MD) : MS := fun ρ μ => onE (mVar i ρ μ) ρ fun x μ1 => onE (e ρ μ1) ρ fun y μ2 => pureE (f x y μ2) fun z μ3 => .ok (.nx (ρ.set i (some z))) μ3
@[simp] def endL (k : MS) : Fl → Mem → Res Fl
  | .nx ρ, μ => k ρ μ
  | .cnt ρ, μ => k ρ μ
  | .brk ρ, μ => .ok (.nx ρ) μ
  | f, μ => .ok f μ
open Classical in
noncomputable def forL (chk : Mem → Prop) (g : MG) (body : MS) : List D → MS
  | [], ρ, μ => if chk μ then .ok (.nx ρ) μ else .stuck
  | d :: ds, ρ, μ => if chk μ then pureE (g d ρ μ) fun ρ1 μ1 => (body ρ1 μ1).bind (endL (forL chk g body ds)) else .stuck
@[simp] noncomputable def sFor (it : MIt) (g : MG) (body : MS) : MS := fun ρ μ => onE (it ρ μ) ρ fun p μ1 => forL p.2 g body p.1 ρ μ1
def whileL (c : MB) (body : MS) : Nat → MS
  | 0, _, _ => .stuck
  | n + 1, ρ, μ => onE (c ρ μ) ρ fun b μ1 => if b = true then (body ρ μ1).bind (endL (whileL c body n)) else .ok (.nx ρ) μ1

section
variable {G : Gd} {ι ι' : List Addr} {H H' : Hp} {W : WX} {σ : St} {ρ : Rho} {α : Type}
theorem PostS.bind {r : Res Fl} {f : Fl → Mem → Res Fl} {k : List Addr → Hp → Mem → Fl → Prop} (h : PostS G ι H (r.bind f) k) :
    PostS G ι H r fun ι' H' μ' a => Grow ι H ι' H' ∧ Rel G ι' H' μ' ∧ PostS G ι' H' (f a μ') k := by
  cases r with
  | ok a m => exact fun ι' H' g r => ⟨g, r, PostS.grow h g⟩
  | exc c fs m => exact h
  | stuck => exact h
theorem PostS.imp {r : Res Fl} {k k' : List Addr → Hp → Mem → Fl → Prop} (h : PostS G ι H r k) (f : ∀ ι' H' μ' a, Grow ι H ι' H' → Rel G ι' H' μ' → k ι' H' μ' a → k' ι' H' μ' a) : PostS G ι H r k' := by
  cases r with
  | ok a m => exact fun ι' H' g r => f _ _ _ _ g r (h ι' H' g r)
  | exc c fs m => exact h
  | stuck => exact h
/-- a step that may not raise -/
theorem PostS.pureE {D : Ends} {r : Res α} {k : α → Mem → Res Fl} (h : PostS G ι H (pureE r k) (FlK G W D)) :
    Post G ι H W σ r fun ι' H' μ' a => Grow ι H ι' H' ∧ Rel G ι' H' μ' ∧ PostS G ι' H' (k a μ') (FlK G W D) := by
  cases r with
  | ok a m => exact fun ι' H' g r => ⟨g, r, PostS.grow h g⟩
  | exc c fs m => exact h.elim
  | stuck => exact h.elim
end

section
variable {X : Cx} {W : WX} {st : Stmt} {rest : List Stmt} {m m' : MS} {e c : Expr} {me : MD} {pos : Pos}
theorem sss_nil : SSs X W [] sNil := PSs.mono pss_nil fun D σ H ⟨ρ, μ, ι, env, rel, h⟩ => h ι H .refl rel σ env
theorem sss_one (h : SS X W st m) : SSs X W [st] m := pss_one h
theorem sss_cons (h1 : SS X W st m) (h2 : SSs X W rest m') : SSs X W (st :: rest) (sSeq m m') :=
  PSs.mono (pss_cons h1 h2) fun D σ H ⟨ρ, μ, ι, env, rel, h⟩ => by
    refine ⟨ρ, μ, ι, env, rel, (PostS.bind h).imp fun ι1 H1 μ1 f _ _ ⟨g1, r1, h1⟩ => ?_⟩
    cases f with
    | nx ρ' => exact fun σ' env' => ⟨ρ', μ1, ι1, env', r1, h1⟩
    | brk ρ' => exact h1 ι1 H1 .refl r1
    | cnt ρ' => exact h1 ι1 H1 .refl r1
    | ret d => exact h1 ι1 H1 .refl r1
    | exc c fs ρ' => exact h1 ι1 H1 .refl r1
theorem ss_pass : SS X W (.Pass pos) sNil := PS.mono ps_pass fun D σ H ⟨ρ, μ, ι, env, rel, h⟩ => h ι H .refl rel σ env
theorem ss_brk : SS X W (.Break pos) sBrk := PS.mono ps_break fun D σ H ⟨ρ, μ, ι, env, rel, h⟩ => h ι H .refl rel σ env
theorem ss_cnt : SS X W (.Continue pos) sCnt := PS.mono ps_continue fun D σ H ⟨ρ, μ, ι, env, rel, h⟩ => h ι H .refl rel σ env
theorem ss_retN : SS X W (.Return none pos) sRetN := PS.mono ps_retN fun D σ H ⟨ρ, μ, ι, env, rel, h⟩ => h ι H .refl rel _ rep_non
theorem ss_expr (he : SE X W e me) (hs : swapsWith e none pos.line X.env = pure false := by rfl) : SS X W (.Expr e pos) (sExpr me) :=
  PS.mono (ps_expr he hs) fun D σ H ⟨ρ, μ, ι, env, rel, h⟩ =>
    ⟨ρ, μ, ι, env, rel, (PostS.onE h env ⟨μ, rel⟩).imp fun ι1 H1 μ1 d _ _ ⟨g1, r1, env1, h1⟩ v rv => h1 ι1 H1 .refl r1 σ env1⟩
theorem ss_ret (he : SE X W e me) : SS X W (.Return (some e) pos) (sRet me) :=
  PS.mono (ps_ret he) fun D σ H ⟨ρ, μ, ι, env, rel, h⟩ =>
    ⟨ρ, μ, ι, env, rel, (PostS.onE h env ⟨μ, rel⟩).imp fun ι1 H1 μ1 d _ _ ⟨g1, r1, env1, h1⟩ v rv => h1 ι1 H1 .refl r1 v rv⟩
theorem ss_if {a b : List Stmt} {mc : MB} (hc : ST X W c mc) (ha : SSs X W a m) (hb : SSs X W b m') : SS X W (.If c a b pos) (sIf mc m m') :=
  PS.mono (ps_if hc ha hb) fun D σ H ⟨ρ, μ, ι, env, rel, h⟩ => by
    refine ⟨ρ, μ, ι, env, rel, (PostS.onE h env ⟨μ, rel⟩).imp fun ι1 H1 μ1 t _ _ ⟨g1, r1, env1, h1⟩ => ?_⟩
    cases t with
    | true => exact iteT ⟨ρ, μ1, ι1, env1, r1, h1⟩
    | false => exact iteF ⟨ρ, μ1, ι1, env1, r1, h1⟩
theorem ss_set {i : Nat} {x : Str} {pos' : Pos} (hN : X.N.Nodup) (hi : X.N[i]? = some x) (hx : Loc X.env.scope x) (he : SE X W e me) (hs : swapsWith e (some (.Name x pos')) pos.line X.env = pure false := by rfl) (hf : X.fn x = true ∨ X.env.scope.names.lookup x = some .local := by first | exact .inl rfl | exact .inr rfl | assumption) :
    SS X W (.Assign [.Name x pos'] e pos) (sSet i me) :=
  PS.mono (ps_set hN hi hx he hs hf) fun D σ H ⟨ρ, μ, ι, env, rel, h⟩ =>
    ⟨ρ, μ, ι, env, rel, (PostS.onE h env ⟨μ, rel⟩).imp fun ι1 H1 μ1 d _ _ ⟨g1, r1, env1, h1⟩ v rv => h1 ι1 H1 .refl r1 _ (env1.set i rv)⟩
end

/-! ### targets -/
def tG (G : Gd) (W : WX) (g : MG) : TG := fun v σ H Q => ∃ d ρ μ ι, Rep G ι H d v ∧ EnvOk G ι H ρ σ ∧ Rel G ι H μ ∧ Post G ι H W σ (g d ρ μ) fun ι' H' _ ρ' => ∀ σ', EnvOk G ι' H' ρ' σ' → Q σ' H'
abbrev MGs := List D → Rho → Mem → Res Rho
def tGs (G : Gd) (W : WX) (g : MGs) : TGs := fun vs σ H Q => ∃ ds ρ μ ι, Reps G ι H ds vs ∧ EnvOk G ι H ρ σ ∧ Rel G ι H μ ∧ Post G ι H W σ (g ds ρ μ) fun ι' H' _ ρ' => ∀ σ', EnvOk G ι' H' ρ' σ' → Q σ' H'
@[simp] def gN (i : Nat) : MG := fun d ρ μ => .ok (ρ.set i (some d)) μ
@[simp] def gNilM : MGs := fun ds ρ μ => match ds with
  | [] => .ok ρ μ
  | _ => .stuck
/-- where an exception in a target would do, nothing is promised -/
@[simp] def gConsM (a : MG) (r : MGs) : MGs := fun ds ρ μ => match ds with
  | [] => .stuck
  | d :: l => pureE (a d ρ μ) fun ρ1 μ1 => pureE (r l ρ1 μ1) fun ρ2 μ2 => .ok ρ2 μ2
@[simp] def gTupM (n : Nat) (r : MGs) : MG := fun d ρ μ => match d with
  | .tup l => if l.length = n then r l ρ μ else .stuck
  | .ref k => (match μ[k]? with
    | some (.lst l) => if l.length = n then r l ρ μ else .stuck
    | _ => .stuck)
  | _ => .stuck
theorem PG.or {X : Cx} {e : Expr} {t t' : TG} (h : PG X e t) (h' : PG X e t') : PG X e fun v σ H Q => t v σ H Q ∨ t' v σ H Q := ⟨fun pins s σ H v u Q I r w => w.elim (h.run pins s σ H v u Q I r) (h'.run pins s σ H v u Q I r)⟩
theorem PG.mono {X : Cx} {e : Expr} {t t' : TG} (h : PG X e t) (f : ∀ v σ H Q, t' v σ H Q → t v σ H Q) : PG X e t' := ⟨fun pins s σ H v u Q I r w => h.run pins s σ H v u Q I r (f v σ H Q w)⟩
theorem PGs.mono {X : Cx} {e : List Expr} {t t' : TGs} (h : PGs X e t) (f : ∀ v σ H Q, t' v σ H Q → t v σ H Q) : PGs X e t' := ⟨fun pins s σ H v u Q I r w => h.run pins s σ H v u Q I r (f v σ H Q w)⟩
abbrev SG (X : Cx) (W : WX) (e : Expr) (g : MG) : Prop := PG X e (tG (gOf X) W g)
abbrev SGs (X : Cx) (W : WX) (e : List Expr) (g : MGs) : Prop := PGs X e (tGs (gOf X) W g)
section
variable {G : Gd} {ι ι' : List Addr} {H H' : Hp} {W : WX} {σ : St} {α β : Type}
theorem Post.pureE {r : Res α} {k : α → Mem → Res β} {kk : List Addr → Hp → Mem → β → Prop} (W' : WX) (σ' : St) (h : Post G ι H W σ (RW.pureE r k) kk) :
    Post G ι H W' σ' r fun ι' H' μ' a => Grow ι H ι' H' ∧ Rel G ι' H' μ' ∧ Post G ι' H' W σ (k a μ') kk := by
  cases r with
  | ok a m => exact fun ι' H' g r => ⟨g, r, Post.grow h g⟩
  | exc c fs m => exact h.elim
  | stuck => exact h.elim
end
section
variable {X : Cx} {W : WX} {pos : Pos} {e o i : Expr} {es : List Expr} {me mo mi : MD}
theorem sg_name {j : Nat} {x : Str} (hN : X.N.Nodup) (hi : X.N[j]? = some x) (hx : Loc X.env.scope x) (hf : X.fn x = true ∨ X.env.scope.names.lookup x = some .local := by first | exact .inl rfl | exact .inr rfl | assumption) : SG X W (.Name x pos) (gN j) :=
  PG.mono (pg_name hN hi hx hf) fun v σ H Q ⟨d, ρ, μ, ι, rv, env, rel, h⟩ => h ι H .refl rel _ (env.set j rv)
theorem sgs_nil : SGs X W [] gNilM := PGs.mono pgs_nil fun vs σ H Q ⟨ds, ρ, μ, ι, rv, env, rel, h⟩ => by
  cases ds with
  | nil => exact ⟨rv.nil_inv, h ι H .refl rel σ env⟩
  | cons _ _ => exact h.elim
theorem sgs_cons {g : MG} {gs : MGs} (h1 : SG X W e g) (h2 : SGs X W es gs) (hs : (assignEach (e :: es) X.env).map (·.2) = assign e X.env :: (assignEach es X.env).map (·.2) := by rfl) : SGs X W (e :: es) (gConsM g gs) :=
  PGs.mono (pgs_cons h1 h2 hs) fun vs σ H Q ⟨ds, ρ, μ, ι, rv, env, rel, h⟩ => by
    cases ds with
    | nil => exact h.elim
    | cons d l =>
      obtain ⟨v, r, rfl, h3, h4⟩ := rv.cons_inv
      refine ⟨v, r, rfl, d, ρ, μ, ι, h3, env, rel, (Post.pureE W σ h).imp fun ι1 H1 μ1 ρ1 _ _ ⟨g1, r1, h1⟩ σ1 env1 => ?_⟩
      exact ⟨l, ρ1, μ1, ι1, h4.ext (g1.ext rel), env1, r1, (Post.pureE W σ1 h1).imp fun ι2 H2 μ2 ρ2 _ _ ⟨g2, r2, h2⟩ σ2 env2 => h2 ι2 H2 .refl r2 σ2 env2⟩
theorem sg_tup {k n : Nat} {gs : MGs} (hc : X.calm = true) (h : SGs X W es gs) (hn : (assignEach es X.env).length = n := by rfl) (hst : (assignEach es X.env).findIdx? (·.1) = none := by rfl) : SG X W (.Tuple es k pos) (gTupM n gs) :=
  PG.mono (PG.or (pg_tup hc h hn hst) (pg_lst hc h hn hst)) fun v σ H Q ⟨d, ρ, μ, ι, rv, env, rel, h⟩ => by
    cases d with
    | tup l =>
      simp only [gTupM] at h
      split at h
      · rename_i hl
        obtain ⟨a, vs, rfl, h1, h2⟩ := rv.tup
        exact .inl ⟨a, vs, rfl, h1, h2.length.trans hl, l, ρ, μ, ι, h2, env, rel, h⟩
      · exact h.elim
    | ref m =>
      simp only [gTupM] at h
      split at h
      · rename_i l em
        split at h
        · rename_i hl
          obtain ⟨a, vs, rfl, h0, h1, h2⟩ := rel.lst em rv
          exact .inr ⟨a, vs, rfl, .of h1, h2.length.trans hl, l, ρ, μ, ι, h2, env, rel, h⟩
        · exact h.elim
      · exact h.elim
    | _ => exact h.elim
/-! a store at a place -/
def SndSet (G : Gd) (r : TSet) (f : D → D → D → Mem → Res Unit) : Prop := ∀ (ι : List Addr) (H : Hp) (μ : Mem) (o i x : D) (ov iv v : V) (W : WX) (σ : St) (Q : Hp → Prop), Rel G ι H μ → Rep G ι H o ov → Rep G ι H i iv → Rep G ι H x v →
  Post G ι H W σ (f o i x μ) (fun ι' H' _ _ => Q H') → r ov iv v H Q
@[simp] def gSubM (f : D → D → D → Mem → Res Unit) (o i : MD) : MG := fun d ρ μ => (o ρ μ).bind fun x μ1 => (i ρ μ1).bind fun y μ2 => pureE (f x y d μ2) fun _ μ3 => .ok ρ μ3
theorem sg_sub {t : TSet} {f : D → D → D → Mem → Res Unit} (ho : SE X W o mo) (hi : SE X W i mi) (hs : PSet X t) (hf : SndSet (gOf X) t f)
    (ha : ∀ v, assign (.Subscript o i pos) X.env v = (do
      let ov ← holding [v] (eval o X.env)
      let iv ← holding [v, ov] (eval i X.env)
      standAt pos
      holding [v, ov, iv] (setItem ov iv v)
      release [v, ov, iv] []) := by intro _; rfl) : SG X W (.Subscript o i pos) (gSubM f mo mi) :=
  PG.mono (pg_sub ho hi hs ha) fun v σ H Q ⟨d, ρ, μ, ι, rv, env, rel, h⟩ => by
    refine ⟨ρ, μ, ι, env, rel, (Post.bind h).imp fun ι1 H1 μ1 x _ _ ⟨g1, r1, h1⟩ ov rov => ?_⟩
    have env1 := env.ext (g1.ext rel)
    refine ⟨ρ, μ1, ι1, env1, r1, (Post.bind h1).imp fun ι2 H2 μ2 y _ _ ⟨g2, r2, h2⟩ iv riv => ?_⟩
    have env2 := env1.ext (g2.ext r1)
    exact hf ι2 H2 μ2 x y d ov iv v W σ _ r2 (rov.ext (g2.ext r1)) riv ((rv.ext (g1.ext rel)).ext (g2.ext r1)) ((Post.pureE W σ h2).imp fun ι3 H3 μ3 _ _ _ ⟨g3, r3, h3⟩ => h3 ι3 H3 .refl r3 σ (env2.ext (g3.ext r2)))
def setLD : D → D → D → Mem → Res Unit
  | .ref n, .int k, d, μ => (match μ[n]? with
    | some (.lst l) => (match ixN l.length k with
      | some j => .ok () (μ.set n (.lst (l.set j d)))
      | none => .stuck)
    | _ => .stuck)
  | _, _, _, _ => .stuck
theorem snd_setL {G : Gd} : SndSet G rSetL setLD := fun ι H μ o i x ov iv v W σ Q r ro ri rx h => by
  cases o <;> first | exact h.elim | skip
  cases i <;> first | exact h.elim | skip
  simp only [setLD] at h
  split at h
  · rename_i l em
    split at h
    · rename_i j ej
      obtain ⟨a, vs, rfl, h0, h1, h2⟩ := r.lst em ro
      refine ⟨a, vs, _, j, rfl, ri.int, h1, by rw [h2.length]; exact ej, ?_⟩
      obtain ⟨g2, r2⟩ := grow_set (o := .lst (vs.set j v)) (c := .lst (l.set j x)) r h0 (fun _ _ e => by rw [h1] at e; cases e) fun e => ⟨_, upd_same, (h2.set j rx).ext e⟩
      exact h ι _ g2 r2
    · exact h.elim
  · exact h.elim
theorem ss_asg {tg : Expr} {g : MG} (he : SE X W e me) (hg : SG X W tg g) (hs : swapsWithSole [tg] e pos.line X.env = pure false := by rfl) (hw : swappedStores [tg] e X.env = pure none := by rfl)
    (h1 : (assignEach [tg] X.env).map (·.2) = [assign tg X.env] := by rfl) : SS X W (.Assign [tg] e pos) (sAsg me g) :=
  PS.mono (ps_asg he hg hs hw h1) fun D σ H ⟨ρ, μ, ι, env, rel, h⟩ =>
    ⟨ρ, μ, ι, env, rel, (PostS.onE h env ⟨μ, rel⟩).imp fun ι1 H1 μ1 d _ _ ⟨g1, r1, env1, h1⟩ v rv =>
      ⟨d, ρ, μ1, ι1, rv, env1, r1, (PostS.pureE (W := W) (σ := σ) h1).imp fun ι2 H2 μ2 ρ2 _ _ ⟨g2, r2, h2⟩ σ2 env2 => h2 ι2 H2 .refl r2 σ2 env2⟩⟩
def SndIp (G : Gd) (r : TIp) (f : D → D → Mem → Res D) : Prop := Snd2 G r f
theorem ss_aug {j : Nat} {x : Str} {op : Operator} {ti : TIp} {f : D → D → Mem → Res D} {pos' : Pos} (hN : X.N.Nodup) (hi : X.N[j]? = some x) (hx : Loc X.env.scope x) (he : SE X W e me) (ho : PIp X op ti) (hf : Snd2 (gOf X) ti f) (hfn : X.fn x = true ∨ X.env.scope.names.lookup x = some .local := by first | exact .inl rfl | exact .inr rfl | assumption) :
    SS X W (.AugAssign (.Name x pos') op e pos) (sAug j f me) :=
  PS.mono (ps_aug hN hi hx he ho hfn) fun D σ H ⟨ρ, μ, ι, env, rel, h⟩ => by
    have h := PostS.onE h env ⟨μ, rel⟩
    simp only [mVar] at h
    cases eq : ρ[j]? with
    | none => rw [eq] at h; exact h.elim
    | some od =>
      rw [eq] at h
      cases od with
      | none => exact h.elim
      | some d =>
        obtain ⟨v, h1, h2⟩ := env.at_ j d eq
        obtain ⟨_, _, _, h3⟩ := h ι H .refl rel
        refine ⟨v, h1, ρ, μ, ι, env, rel, (PostS.onE h3 env ⟨μ, rel⟩).imp fun ι1 H1 μ1 y _ _ ⟨g1, r1, env1, h4⟩ u ru => ?_⟩
        exact hf ι1 H1 μ1 d y v u W σ _ r1 (h2.ext (g1.ext rel)) ru ((PostS.pureE h4).imp fun ι2 H2 μ2 z _ _ ⟨g2, r2, h5⟩ w rw' => h5 ι2 H2 .refl r2 _ ((env1.ext (g2.ext r1)).set j rw'))
theorem pip_of {op : Operator} {r : R2} (ho : OpR X (inplaceOp op) r) : PIp X op r := fun pins s σ H x y v u Q I r1 r2 h => augR ho I r1 r2 h
end

/-! ### what is walked -/
structure ItOk (G : Gd) (ι0 : List Addr) (H0 : Hp) (J : It) (items : List D) (chk : Mem → Prop) : Prop where
  go : ∀ (i : Nat) (d : D) (ι : List Addr) (H : Hp) (μ : Mem), items[i]? = some d → Grow ι0 H0 ι H → Rel G ι H μ → chk μ → J.go i H
  yld : ∀ (i : Nat) (d : D) (ι : List Addr) (H : Hp) (μ : Mem) (x : V) (H' : Hp), items[i]? = some d → Grow ι0 H0 ι H → Rel G ι H μ → chk μ → J.yld i H x H' → Grow ι H ι H' ∧ Rel G ι H' μ ∧ Rep G ι H' d x
  stop : ∀ (ι : List Addr) (H : Hp) (μ : Mem), Grow ι0 H0 ι H → Rel G ι H μ → chk μ → J.stop items.length H
def tI (G : Gd) (W : WX) (m : MIt) : TI := fun σ H R => ∃ ρ μ ι, EnvOk G ι H ρ σ ∧ Rel G ι H μ ∧ Post G ι H W σ (m ρ μ) fun ι' H' _ p => ∀ J, ItOk G ι' H' J p.1 p.2 → R J H'
abbrev SI (X : Cx) (W : WX) (tg iter : Expr) (m : MIt) : Prop := PI X tg iter (tI (gOf X) W m)
theorem PI.mono {X : Cx} {tg e : Expr} {t t' : TI} (h : PI X tg e t) (f : ∀ σ H Q, t' σ H Q → t σ H Q) : PI X tg e t' := ⟨fun pins s σ H Q I w => h.run pins s σ H Q I (f σ H Q w)⟩
theorem PI.or {X : Cx} {tg e : Expr} {t t' : TI} (h : PI X tg e t) (h' : PI X tg e t') : PI X tg e fun σ H R => t σ H R ∨ t' σ H R := ⟨fun pins s σ H Q I w => w.elim (h.run pins s σ H Q I) (h'.run pins s σ H Q I)⟩
def itSeq : D → Mem → Res (List D × (Mem → Prop))
  | .tup l, μ => .ok (l, fun _ => True) μ
  | .frl l, μ => .ok (l, fun _ => True) μ
  | .ref n, μ => (match μ[n]? with
    | some (.lst l) => .ok (l, fun μ' => μ'[n]? = some (.lst l)) μ
    | _ => .stuck)
  | _, _ => .stuck
@[simp] def iSeq (a : MD) : MIt := fun ρ μ => (a ρ μ).bind fun x μ1 => itSeq x μ1
section
variable {G : Gd} {ι : List Addr} {H : Hp} {μ : Mem}
theorem it_tup {a : Addr} {l : List D} {vs : List V} (rel : Rel G ι H μ) (h1 : SqT G.K H a vs) (h2 : Reps G ι H l vs) : ItOk G ι H (Itt G.K a) l (fun _ => True) where
  go := fun i d ι' H' μ' e g r _ => by
    have x := g.ext rel
    obtain ⟨v, e1, _⟩ := h2.get e
    refine ⟨vs, v, ?_, e1⟩
    rcases h1 with (h1 | ⟨o, h1⟩) | h1
    · exact .inl (.inl (x.tup _ _ h1))
    · exact .inl (.inr ⟨o, x.frz _ _ _ h1 ⟨_, by first | exact .inl rfl | exact .inr rfl⟩⟩)
    · exact .inr h1
  yld := fun i d ι' H' μ' v H2 e g r _ ⟨e1, e2⟩ => by
    subst e1
    have x := g.ext rel
    have sq : SqT G.K H2 a vs := by
      rcases h1 with (h1 | ⟨o, h1⟩) | h1
      · exact .inl (.inl (x.tup _ _ h1))
      · exact .inl (.inr ⟨o, x.frz _ _ _ h1 ⟨_, by first | exact .inl rfl | exact .inr rfl⟩⟩)
      · exact .inr h1
    obtain ⟨v', e3, r3⟩ := h2.get e
    rw [e2 vs sq] at e3; cases e3
    exact ⟨.refl, r, r3.ext x⟩
  stop := fun ι' H' μ' g r _ => by
    have x := g.ext rel
    refine ⟨vs, ?_, by rw [h2.length]; exact Nat.le_refl _⟩
    rcases h1 with (h1 | ⟨o, h1⟩) | h1
    · exact .inl (.inl (x.tup _ _ h1))
    · exact .inl (.inr ⟨o, x.frz _ _ _ h1 ⟨_, by first | exact .inl rfl | exact .inr rfl⟩⟩)
    · exact .inr h1
theorem it_frl {a : Addr} {l : List D} {vs : List V} (rel : Rel G ι H μ) (h1 : FrL G H a vs) (h2 : Reps G ι H l vs) : ItOk G ι H (Itl G.K a) l (fun _ => True) := by
  have key : ∀ {ι' : List Addr} {H' : Hp}, Grow ι H ι' H' → SqL G.K H' a vs := fun {ι' H'} g => by
    have x := g.ext rel
    rcases h1 with ⟨o, h1⟩ | h1
    · exact .inl (.inr ⟨o, x.frz _ _ _ h1 ⟨_, by first | exact .inl rfl | exact .inr rfl⟩⟩)
    · exact .inr h1
  refine ⟨fun i d ι' H' μ' e g r _ => ?_, fun i d ι' H' μ' v H2 e g r _ ⟨e1, e2⟩ => ?_, fun ι' H' μ' g r _ => ⟨vs, key g, by rw [h2.length]; exact Nat.le_refl _⟩⟩
  · obtain ⟨v, e1, _⟩ := h2.get e
    exact ⟨vs, v, key g, e1⟩
  · subst e1
    obtain ⟨v', e3, r3⟩ := h2.get e
    rw [e2 vs (key g)] at e3; cases e3
    exact ⟨.refl, r, r3.ext (g.ext rel)⟩
theorem it_lst {a : Addr} {n : Nat} {l : List D} (hn : ι[n]? = some a) : ItOk G ι H (Itl G.K a) l (fun μ' => μ'[n]? = some (.lst l)) := by
  have key : ∀ {ι' : List Addr} {H' : Hp} {μ' : Mem}, Grow ι H ι' H' → Rel G ι' H' μ' → μ'[n]? = some (.lst l) → ∃ vs, SqL G.K H' a vs ∧ Reps G ι' H' l vs := fun {ι' H' μ'} g r e => by
    obtain ⟨vs, h1, h2⟩ := r.cell n _ a e (prefix_get g.pre hn)
    exact ⟨vs, .of h1, h2⟩
  refine ⟨fun i d ι' H' μ' e g r c => ?_, fun i d ι' H' μ' v H2 e g r c ⟨e1, e2⟩ => ?_, fun ι' H' μ' g r c => ?_⟩
  · obtain ⟨vs, h1, h2⟩ := key g r c
    obtain ⟨v, e1, _⟩ := h2.get e
    exact ⟨vs, v, h1, e1⟩
  · subst e1
    obtain ⟨vs, h1, h2⟩ := key g r c
    obtain ⟨v', e3, r3⟩ := h2.get e
    rw [e2 vs h1] at e3; cases e3
    exact ⟨.refl, r, r3⟩
  · obtain ⟨vs, h1, h2⟩ := key g r c
    exact ⟨vs, h1, by rw [h2.length]; exact Nat.le_refl _⟩
end
section
variable {X : Cx} {W : WX} {tg e : Expr} {me : MD} {pos p : Pos}
theorem si_seq (he : SE X W e me) : SI X W tg e (iSeq me) :=
  PI.mono (PI.or (pi_tup he) (pi_list he)) fun σ H R ⟨ρ, μ, ι, env, rel, h⟩ => by
    have h := Post.bind h
    cases hm : me ρ μ with
    | stuck => rw [hm] at h; exact h.elim
    | exc c fs m => exact .inl ⟨ρ, μ, ι, env, rel, by rw [hm] at h ⊢; exact h⟩
    | ok d μ1 =>
      rw [hm] at h
      by_cases ht : ∃ l, d = .tup l
      · obtain ⟨l, rfl⟩ := ht
        refine .inl ⟨ρ, μ, ι, env, rel, ?_⟩
        rw [hm]
        intro ι1 H1 g1 r1 v rv
        obtain ⟨a, vs, rfl, h1, h2⟩ := rv.tup
        obtain ⟨_, _, h3⟩ := h ι1 H1 g1 r1
        exact ⟨a, rfl, ⟨vs, h1⟩, h3 ι1 H1 .refl r1 _ (it_tup r1 h1 h2)⟩
      · refine .inr ⟨ρ, μ, ι, env, rel, ?_⟩
        rw [hm]
        intro ι1 H1 g1 r1 v rv
        obtain ⟨_, _, h3⟩ := h ι1 H1 g1 r1
        cases d with
        | tup l => exact (ht ⟨l, rfl⟩).elim
        | frl l =>
          obtain ⟨a, vs, rfl, h1, h2⟩ := rv.frl
          exact ⟨a, rfl, ⟨vs, FrL.sq _ _ h1⟩, h3 ι1 H1 .refl r1 _ (it_frl r1 h1 h2)⟩
        | ref n =>
          simp only [itSeq] at h3
          split at h3
          · rename_i l em
            obtain ⟨a, vs, rfl, h0, h1, h2⟩ := r1.lst em rv
            exact ⟨a, rfl, ⟨vs, .of h1⟩, h3 ι1 H1 .refl r1 _ (it_lst h0)⟩
          · exact h3.elim
        | _ => exact h3.elim
/-! range -/
def rangeItems (lo : Int) (n : Nat) : List D := (List.range n).map fun (i : Nat) => D.int (lo + (i : Int))
def range1 : List D → Mem → Res (List D × (Mem → Prop))
  | [.int j], μ => if -4611686018427387904 ≤ j ∧ j < 4611686018427387904 then .ok (rangeItems 0 j.toNat, fun _ => True) μ else .stuck
  | _, _ => .stuck
def range2 : List D → Mem → Res (List D × (Mem → Prop))
  | [.int i, .int j], μ => if -4611686018427387904 ≤ i ∧ i < 4611686018427387904 ∧ -4611686018427387904 ≤ j ∧ j < 4611686018427387904 then .ok (rangeItems i (j - i).toNat, fun _ => True) μ else .stuck
  | _, _ => .stuck
@[simp] def iRange1 (a : ML) : MIt := fun ρ μ => (a ρ μ).bind fun xs μ1 => range1 xs μ1
@[simp] def iRange2 (a : ML) : MIt := fun ρ μ => (a ρ μ).bind fun xs μ1 => range2 xs μ1
theorem it_range {G : Gd} {ι : List Addr} {H : Hp} (lo : Int) (n : Nat) : ItOk G ι H (Itr lo n) (rangeItems lo n) (fun _ => True) := by
  have key : ∀ {i : Nat} {d : D}, (rangeItems lo n)[i]? = some d → i < n ∧ d = .int (lo + (i : Int)) := fun {i d} e => by
    unfold rangeItems at e
    rw [List.getElem?_map] at e
    obtain ⟨k, e1, rfl⟩ := Option.map_eq_some_iff.mp e
    obtain ⟨h1, h2⟩ := List.getElem?_eq_some_iff.mp e1
    simp at h1 h2
    subst h2
    exact ⟨h1, rfl⟩
  refine ⟨fun i d ι' H' μ' e g r _ => (key e).1, fun i d ι' H' μ' v H2 e g r _ ⟨e1, e2⟩ => ?_, fun ι' H' μ' g r _ => ?_⟩
  · subst e1; subst e2
    obtain ⟨_, rfl⟩ := key e
    exact ⟨.refl, r, rep_int _⟩
  · show n ≤ (rangeItems lo n).length
    unfold rangeItems; simp
theorem si_range1 {a : Expr} {ms : ML} (hg : Gl X "range") (hm : X.mg "range" = none) (ha : SA X W [a] ms) (hs : starEach [a] X.env = [(false, eval a X.env)] := by rfl) : SI X W tg (.Call (.Name "range" p) [a] [] pos) (iRange1 ms) :=
  PI.mono (pi_range1 hg hm ha hs) fun σ H R ⟨ρ, μ, ι, env, rel, h⟩ =>
    ⟨ρ, μ, ι, env, rel, (Post.bind h).imp fun ι1 H1 μ1 xs _ _ ⟨g1, r1, h1⟩ vs rvs => by
      unfold range1 at h1
      split at h1
      · split at h1
        · rename_i hc
          obtain ⟨v, rfl, rv⟩ := rvs.one
          exact ⟨_, by rw [rv.int], by omega, by omega, h1 ι1 H1 .refl r1 _ (it_range 0 _)⟩
        · exact h1.elim
      · exact h1.elim⟩
theorem si_range2 {a b : Expr} {ms : ML} (hg : Gl X "range") (hm : X.mg "range" = none) (ha : SA X W [a, b] ms) (hs : starEach [a, b] X.env = [(false, eval a X.env), (false, eval b X.env)] := by rfl) (hs2 : starEach [b] X.env = [(false, eval b X.env)] := by rfl) : SI X W tg (.Call (.Name "range" p) [a, b] [] pos) (iRange2 ms) :=
  PI.mono (pi_range2 hg hm ha hs hs2) fun σ H R ⟨ρ, μ, ι, env, rel, h⟩ =>
    ⟨ρ, μ, ι, env, rel, (Post.bind h).imp fun ι1 H1 μ1 xs _ _ ⟨g1, r1, h1⟩ vs rvs => by
      unfold range2 at h1
      split at h1
      · split at h1
        · rename_i hc
          obtain ⟨v, w, rfl, rv, rw'⟩ := rvs.two
          exact ⟨_, _, by rw [rv.int, rw'.int], by omega, h1 ι1 H1 .refl r1 _ (it_range _ _)⟩
        · exact h1.elim
      · exact h1.elim⟩
end

/-! ### loops -/
section
variable {X : Cx} {W : WX} {tg iter c : Expr} {body : List Stmt} {pos : Pos} {mi : MIt} {g : MG} {m : MS} {mc : MB}
theorem ss_for (hp : PassesOwn (model X.prog X.w) X.A X.env X.xe) (hc : X.calm = true) (hi : SI X W tg iter mi) (hg : SG X W tg g) (hb : SSs X W body m)
    (hs : ∀ x, foldedSetIterable iter X.env x = pure x := by intro _; rfl) : SS X W (.For tg iter body [] pos) (sFor mi g m) :=
  PS.mono (ps_for hp hc hi hg hb hs) fun D σ H ⟨ρ, μ, ι, env, rel, h⟩ => by
    refine ⟨ρ, μ, ι, env, rel, (PostS.onE h env ⟨μ, rel⟩).imp fun ι1 H1 μ1 p _ _ ⟨g1, r1, env1, h1⟩ J ok => ?_⟩
    obtain ⟨items, chk⟩ := p
    refine ⟨fun i n σ' H' => n + i = items.length ∧ ∃ ρ' μ' ι', Grow ι1 H1 ι' H' ∧ EnvOk (gOf X) ι' H' ρ' σ' ∧ Rel (gOf X) ι' H' μ' ∧ PostS (gOf X) ι' H' (forL chk g m (items.drop i) ρ' μ') (FlK (gOf X) W D),
      ⟨items.length, rfl, ρ, μ1, ι1, .refl, env1, r1, h1⟩, ?_⟩
    rintro i n σ' H' ⟨hn, ρ', μ', ι', gr, env', rel', h'⟩
    by_cases hi : i < items.length
    · have e : items.drop i = items[i] :: items.drop (i + 1) := List.drop_eq_getElem_cons hi
      have ei : items[i]? = some items[i] := List.getElem?_eq_getElem hi
      rw [e] at h'
      simp only [forL] at h'
      split at h'
      · rename_i hk
        refine .inr ⟨ok.go i _ ι' H' μ' ei gr rel' hk, fun σ2 H2 => ∃ ρ2 μ2 ι2, Grow ι1 H1 ι2 H2 ∧ EnvOk (gOf X) ι2 H2 ρ2 σ2 ∧ Rel (gOf X) ι2 H2 μ2 ∧ PostS (gOf X) ι2 H2 (forL chk g m (items.drop (i + 1)) ρ2 μ2) (FlK (gOf X) W D),
          fun σ2 H2 ⟨ρ2, μ2, ι2, q⟩ => ⟨n - 1, by omega, by omega, ρ2, μ2, ι2, q⟩, fun x H2 y => ?_⟩
        obtain ⟨g2, r2, rx⟩ := ok.yld i _ ι' H' μ' x H2 ei gr rel' hk y
        have env2 := env'.ext (g2.ext rel')
        refine ⟨_, ρ', μ', ι', rx, env2, r2, (PostS.pureE (PostS.grow h' g2)).imp fun ι3 H3 μ3 ρ3 _ _ ⟨g3, r3, h3⟩ σ3 env3 => ?_⟩
        refine ⟨ρ3, μ3, ι3, env3, r3, (PostS.bind h3).imp fun ι4 H4 μ4 f _ _ ⟨g4, r4, h4⟩ => ?_⟩
        have gr4 := ((gr.trans g2).trans g3).trans g4
        cases f with
        | nx ρ4 => exact fun σ4 env4 => ⟨ρ4, μ4, ι4, gr4, env4, r4, h4⟩
        | cnt ρ4 => exact fun σ4 env4 => ⟨ρ4, μ4, ι4, gr4, env4, r4, h4⟩
        | brk ρ4 => exact h4 ι4 H4 .refl r4
        | ret d => exact h4 ι4 H4 .refl r4
        | exc c fs ρ4 => exact h4 ι4 H4 .refl r4
      · exact h'.elim
    · have e : items.drop i = [] := List.drop_eq_nil_of_le (by omega)
      rw [e] at h'
      simp only [forL] at h'
      split at h'
      · rename_i hk
        have ei : i = items.length := by omega
        subst ei
        exact .inl ⟨ok.stop ι' H' μ' gr rel' hk, h' ι' H' .refl rel' σ' env'⟩
      · exact h'.elim
theorem ss_while (n : Nat) (hp : PassesOwn (model X.prog X.w) X.A X.env X.xe) (hc : ST X W c mc) (hb : SSs X W body m) : SS X W (.While c body [] pos) (whileL mc m n) :=
  PS.mono (ps_while hp hc hb) fun D σ H ⟨ρ, μ, ι, env, rel, h⟩ => by
    refine ⟨fun k σ' H' => ∃ ρ' μ' ι', EnvOk (gOf X) ι' H' ρ' σ' ∧ Rel (gOf X) ι' H' μ' ∧ PostS (gOf X) ι' H' (whileL mc m k ρ' μ') (FlK (gOf X) W D), ⟨n, ρ, μ, ι, env, rel, h⟩, ?_⟩
    rintro k σ' H' ⟨ρ', μ', ι', env', rel', h'⟩
    cases k with
    | zero => exact h'.elim
    | succ k =>
      simp only [whileL] at h'
      refine ⟨ρ', μ', ι', env', rel', (PostS.onE h' env' ⟨μ', rel'⟩).imp fun ι1 H1 μ1 b _ _ ⟨g1, r1, env1, h1⟩ => ?_⟩
      cases b with
      | false => exact iteF (h1 ι1 H1 .refl r1 σ' env1)
      | true =>
        refine iteT ⟨fun σ2 H2 => ∃ ρ2 μ2 ι2, EnvOk (gOf X) ι2 H2 ρ2 σ2 ∧ Rel (gOf X) ι2 H2 μ2 ∧ PostS (gOf X) ι2 H2 (whileL mc m k ρ2 μ2) (FlK (gOf X) W D), fun σ2 H2 q => ⟨k, Nat.lt_succ_self k, q⟩, ?_⟩
        refine ⟨ρ', μ1, ι1, env1, r1, (PostS.bind h1).imp fun ι4 H4 μ4 f _ _ ⟨g4, r4, h4⟩ => ?_⟩
        cases f with
        | nx ρ4 => exact fun σ4 env4 => ⟨ρ4, μ4, ι4, env4, r4, h4⟩
        | cnt ρ4 => exact fun σ4 env4 => ⟨ρ4, μ4, ι4, env4, r4, h4⟩
        | brk ρ4 => exact h4 ι4 H4 .refl r4
        | ret d => exact h4 ι4 H4 .refl r4
        | exc c fs ρ4 => exact h4 ι4 H4 .refl r4
end
end RW

/-! SEg: comprehensions, own defs, classes. -/
namespace RW
open PySem L2
/-! ### list comprehensions -/
def tGv (G : Gd) (W : WX) (vs : List Nat) (g : MG) : TG := fun v σ H Q => ∃ d ρ μ ι, Rep G ι H d v ∧ EnvOk G ι H ρ σ ∧ Rel G ι H μ ∧ Post G ι H W σ (g d ρ μ) fun ι' H' _ ρ' => ∀ σ', EnvOk G ι' H' ρ' σ' → wipe σ' vs = wipe σ vs → Q σ' H'
def tGsv (G : Gd) (W : WX) (is : List Nat) (g : MGs) : TGs := fun vs σ H Q => ∃ ds ρ μ ι, Reps G ι H ds vs ∧ EnvOk G ι H ρ σ ∧ Rel G ι H μ ∧ Post G ι H W σ (g ds ρ μ) fun ι' H' _ ρ' => ∀ σ', EnvOk G ι' H' ρ' σ' → wipe σ' is = wipe σ is → Q σ' H'
abbrev SGv (X : Cx) (W : WX) (vs : List Nat) (e : Expr) (g : MG) : Prop := PG X e (tGv (gOf X) W vs g)
abbrev SGsv (X : Cx) (W : WX) (vs : List Nat) (e : List Expr) (g : MGs) : Prop := PGs X e (tGsv (gOf X) W vs g)
theorem wipe_set {σ : St} {j : Nat} {o : Option V} : ∀ {vs : List Nat}, j ∈ vs → wipe (σ.set j o) vs = wipe σ vs
  | v :: vs, h => by
    unfold wipe
    by_cases hm : j ∈ vs
    · rw [wipe_set hm]
    · have e : j = v := by
        rcases List.mem_cons.mp h with e | e
        · exact e
        · exact absurd e hm
      subst e
      have : wipe (σ.set j o) vs = (wipe σ vs).set j o := by
        clear h
        induction vs with
        | nil => rfl
        | cons w ws ih =>
          simp only [List.mem_cons, not_or] at hm
          unfold wipe
          rw [ih hm.2, List.set_comm _ _ (Ne.symm hm.1)]
      rw [this, List.set_set]
section
variable {X : Cx} {W : WX} {vs : List Nat} {pos : Pos} {e : Expr} {es : List Expr}
theorem sgv_name {j : Nat} {x : Str} (hN : X.N.Nodup) (hi : X.N[j]? = some x) (hx : Loc X.env.scope x) (hj : j ∈ vs) (hf : X.fn x = true ∨ X.env.scope.names.lookup x = some .local := by first | exact .inl rfl | exact .inr rfl | assumption) : SGv X W vs (.Name x pos) (gN j) :=
  PG.mono (pg_name hN hi hx hf) fun v σ H Q ⟨d, ρ, μ, ι, rv, env, rel, h⟩ => h ι H .refl rel _ (env.set j rv) (wipe_set hj)
theorem sgsv_nil : SGsv X W vs [] gNilM := PGs.mono pgs_nil fun vs σ H Q ⟨ds, ρ, μ, ι, rv, env, rel, h⟩ => by
  cases ds with
  | nil => exact ⟨rv.nil_inv, h ι H .refl rel σ env rfl⟩
  | cons _ _ => exact h.elim
theorem sgsv_cons {g : MG} {gs : MGs} (h1 : SGv X W vs e g) (h2 : SGsv X W vs es gs) (hs : (assignEach (e :: es) X.env).map (·.2) = assign e X.env :: (assignEach es X.env).map (·.2) := by rfl) : SGsv X W vs (e :: es) (gConsM g gs) :=
  PGs.mono (pgs_cons h1 h2 hs) fun vs σ H Q ⟨ds, ρ, μ, ι, rv, env, rel, h⟩ => by
    cases ds with
    | nil => exact h.elim
    | cons d l =>
      obtain ⟨v, r, rfl, h3, h4⟩ := rv.cons_inv
      refine ⟨v, r, rfl, d, ρ, μ, ι, h3, env, rel, (Post.pureE W σ h).imp fun ι1 H1 μ1 ρ1 _ _ ⟨g1, r1, h1⟩ σ1 env1 w1 => ?_⟩
      exact ⟨l, ρ1, μ1, ι1, h4.ext (g1.ext rel), env1, r1, (Post.pureE W σ1 h1).imp fun ι2 H2 μ2 ρ2 _ _ ⟨g2, r2, h2⟩ σ2 env2 w2 => h2 ι2 H2 .refl r2 σ2 env2 (w2.trans w1)⟩
theorem sgv_tup {k n : Nat} {gs : MGs} (hc : X.calm = true) (h : SGsv X W vs es gs) (hn : (assignEach es X.env).length = n := by rfl) (hst : (assignEach es X.env).findIdx? (·.1) = none := by rfl) : SGv X W vs (.Tuple es k pos) (gTupM n gs) :=
  PG.mono (PG.or (pg_tup hc h hn hst) (pg_lst hc h hn hst)) fun v σ H Q ⟨d, ρ, μ, ι, rv, env, rel, h⟩ => by
    cases d with
    | tup l =>
      simp only [gTupM] at h
      split at h
      · rename_i hl
        obtain ⟨a, vs, rfl, h1, h2⟩ := rv.tup
        exact .inl ⟨a, vs, rfl, h1, h2.length.trans hl, l, ρ, μ, ι, h2, env, rel, h⟩
      · exact h.elim
    | ref m =>
      simp only [gTupM] at h
      split at h
      · rename_i l em
        split at h
        · rename_i hl
          obtain ⟨a, vs, rfl, h0, h1, h2⟩ := rel.lst em rv
          exact .inr ⟨a, vs, rfl, .of h1, h2.length.trans hl, l, ρ, μ, ι, h2, env, rel, h⟩
        · exact h.elim
      · exact h.elim
    | _ => exact h.elim
end
theorem wipe_at {σ : St} {i : Nat} : ∀ {vs : List Nat}, (L2.wipe σ vs)[i]? = if i ∈ vs then (σ[i]?).map (fun _ => none) else σ[i]?
  | [] => by simp [L2.wipe]
  | v :: vs => by
    unfold L2.wipe
    by_cases h : v = i
    · subst h
      rw [List.getElem?_set_self']
      have e : ((L2.wipe σ vs)[v]?).isSome = (σ[v]?).isSome := by
        rw [wipe_at]; split <;> simp
      simp only [List.mem_cons, true_or, if_true]
      cases h1 : (L2.wipe σ vs)[v]? <;> cases h2 : σ[v]? <;> simp_all
    · rw [List.getElem?_set_ne h, wipe_at]
      have : (i ∈ v :: vs) ↔ i ∈ vs := by simp [Ne.symm h]
      simp only [this]
theorem wipe_idem {σ : St} {vs : List Nat} : L2.wipe (L2.wipe σ vs) vs = L2.wipe σ vs := by
  refine List.ext_getElem? fun i => ?_
  rw [wipe_at, wipe_at]
  split
  · cases σ[i]? <;> rfl
  · rfl
def wipeR (ρ : Rho) : List Nat → Rho
  | [] => ρ
  | v :: vs => (wipeR ρ vs).set v none
open Classical in
noncomputable def compL (chk : Mem → Prop) (g : MG) (tt : MB) (te : MD) (ρ0 : Rho) : List D → List D → Mem → Res (List D)
  | [], acc, μ => if chk μ then .ok acc μ else .stuck
  | d :: ds, acc, μ => if chk μ then pureE (g d ρ0 μ) fun ρ1 μ1 => pureE (tt ρ1 μ1) fun b μ2 => if b = true then
      (pureE (te ρ1 μ2) fun y μ3 => if acc.length < sizeLine then compL chk g tt te ρ0 ds (acc ++ [y]) μ3 else .stuck) else compL chk g tt te ρ0 ds acc μ2 else .stuck
@[simp] noncomputable def mComp (it : MIt) (g : MG) (tt : MB) (te : MD) (own : List Nat) : MD := fun ρ μ => (it ρ μ).bind fun p μ1 => (compL p.2 g tt te (wipeR ρ own) p.1 [] μ1).bind fun l μ2 => .ok (.ref μ2.length) (μ2 ++ [.lst l])
@[simp] def mYes : MB := fun _ μ => .ok true μ
abbrev W0 : WX := fun _ _ _ _ => False
theorem EnvOk.wipe {G : Gd} {ι : List Addr} {H : Hp} {ρ : Rho} {σ : St} (e : EnvOk G ι H ρ σ) : ∀ vs, EnvOk G ι H (wipeR ρ vs) (L2.wipe σ vs)
  | [] => e
  | v :: vs => by
    have ih := EnvOk.wipe e vs
    unfold wipeR L2.wipe
    refine ⟨by simp [ih.len], fun i d h => ?_⟩
    by_cases hi : v = i
    · subst hi
      by_cases hl : v < (wipeR ρ vs).length
      · rw [List.getElem?_set_self hl] at h; cases h
      · rw [List.getElem?_eq_none (by simpa using hl)] at h; cases h
    · rw [List.getElem?_set_ne hi] at h ⊢
      exact ih.at_ i d h
theorem Post.step {G : Gd} {ι ι' : List Addr} {H H' : Hp} {W W' : WX} {σ σ' : St} {α β : Type} {r : Res α} {k : α → Mem → Res β} {kk : List Addr → Hp → Mem → β → Prop} (h : Post G ι H W σ (RW.pureE r k) kk) :
    Post G ι' H' W' σ' r fun ι2 H2 μ2 a => Grow ι' H' ι2 H2 ∧ Rel G ι2 H2 μ2 ∧ Post G ι H W σ (k a μ2) kk := by
  cases r with
  | ok a m => exact fun ι2 H2 g r => ⟨g, r, h⟩
  | exc c fs m => exact h.elim
  | stuck => exact h.elim
section
variable {X : Cx} {W : WX}
theorem lc_red {wi : TI} {g : MG} {tt : MB} {te : MD} {mi : MIt} {vs : List Nat} (hwi : ∀ σ H R, tI (gOf X) W mi σ H R → wi σ H R) {σ : St} {H : Hp} {Q : VK}
    (h : tE (gOf X) W (mComp mi g tt te vs) σ H Q) : tLc wi (tGv (gOf X) W0 vs g) (tB (gOf X) W0 tt) (tE (gOf X) W0 te) vs σ H Q := by
  obtain ⟨ρ, μ, ι, env, rel, h⟩ := h
  refine hwi _ _ _ ⟨ρ, μ, ι, env, rel, (Post.bind h).imp fun ι1 H1 μ1 p _ _ ⟨g1, r1, h1⟩ J ok => ?_⟩
  obtain ⟨items, chk⟩ := p
  intro dd hD
  obtain ⟨gD, rD⟩ := grow_laid (o := .lst []) r1 hD
  have env1 := env.ext (g1.ext rel)
  -- what is wanted at the end, from the place where the walk begins
  refine ⟨fun i m H' => m + i = items.length ∧ ∃ μ' ι' acc ws, Grow ι1 H1 ι' H' ∧ Rel (gOf X) ι' H' μ' ∧ H' dd = some (.lst ws) ∧ dd ∉ ι' ∧ Reps (gOf X) ι' H' acc ws ∧
    Post (gOf X) ι1 H1 W σ ((compL chk g tt te (wipeR ρ vs) (items.drop i) acc μ').bind fun l μ2 => .ok (RW.D.ref μ2.length) (μ2 ++ [Cell.lst l])) fun ι' H' _ d => ∀ v, Rep (gOf X) ι' H' d v → Q v H',
    ⟨items.length, rfl, μ1, ι1, [], [], gD, rD, upd_same, r1.notNone hD, .nil, h1⟩, ?_⟩
  rintro i m H' ⟨hm, μ', ι', acc, ws, grB, rel', hHD, hDn, ra, h'⟩
  by_cases hi : i < items.length
  · have e : items.drop i = items[i] :: items.drop (i + 1) := List.drop_eq_getElem_cons hi
    have ei : items[i]? = some items[i] := List.getElem?_eq_getElem hi
    rw [e] at h'
    simp only [compL] at h'
    split at h'
    · rename_i hk
      refine .inr ⟨ok.go i _ ι' H' μ' ei grB rel' hk, fun H2 => ∃ μ2 ι2 acc ws, Grow ι1 H1 ι2 H2 ∧ Rel (gOf X) ι2 H2 μ2 ∧ H2 dd = some (.lst ws) ∧ dd ∉ ι2 ∧ Reps (gOf X) ι2 H2 acc ws ∧
        Post (gOf X) ι1 H1 W σ ((compL chk g tt te (wipeR ρ vs) (items.drop (i + 1)) acc μ2).bind fun l μ2 => .ok (RW.D.ref μ2.length) (μ2 ++ [Cell.lst l])) fun ι' H' _ d => ∀ v, Rep (gOf X) ι' H' d v → Q v H',
        fun H2 q => ⟨m - 1, by omega, by omega, q⟩, fun x H2 y => ?_⟩
      obtain ⟨g2, r2, rx⟩ := ok.yld i _ ι' H' μ' x H2 ei grB rel' hk y
      have env2 : EnvOk (gOf X) ι' H2 (wipeR ρ vs) (L2.wipe σ vs) := ((env1.ext (grB.ext r1)).ext (g2.ext rel')).wipe vs
      -- the list in hand stands through steps
      have stand : ∀ {ιa ιb : List Addr} {Ha Hb : Hp} {ws : List V}, Grow ιa Ha ιb Hb → Ha dd = some (.lst ws) → dd ∉ ιa → Hb dd = some (.lst ws) ∧ dd ∉ ιb := fun {ιa ιb Ha Hb ws} gg e n =>
        ⟨gg.keep _ _ e n, fun z => (gg.new dd z).elim n fun z => by rw [e] at z; cases z⟩
      have h'' : Post (gOf X) ι1 H1 W σ (RW.pureE (g items[i] (wipeR ρ vs) μ') fun ρ1 μ1 => ((RW.pureE (tt ρ1 μ1) fun b μ2 => if b = true then
          (RW.pureE (te ρ1 μ2) fun y μ3 => if acc.length < sizeLine then compL chk g tt te (wipeR ρ vs) (items.drop (i + 1)) (acc ++ [y]) μ3 else .stuck) else compL chk g tt te (wipeR ρ vs) (items.drop (i + 1)) acc μ2).bind fun l μ2 => .ok (RW.D.ref μ2.length) (μ2 ++ [Cell.lst l])))
          fun ι' H' _ d => ∀ v, Rep (gOf X) ι' H' d v → Q v H' := by
        cases hg : g items[i] (wipeR ρ vs) μ' with
        | ok a m => rw [hg] at h'; exact h'
        | exc c fs m => rw [hg] at h'; exact h'.elim
        | stuck => rw [hg] at h'; exact h'.elim
      refine ⟨_, wipeR ρ vs, μ', ι', rx, env2, r2, (Post.step (ι' := ι') (H' := H2) (W' := W0) (σ' := L2.wipe σ vs) h'').imp fun ι3 H3 μ3 ρ3 _ _ ⟨g3, r3, h3⟩ σ3 env3 w3 => ⟨w3.trans wipe_idem, ?_⟩⟩
      have h3' : Post (gOf X) ι1 H1 W σ (RW.pureE (tt ρ3 μ3) fun b μ2 => ((if b = true then
          (RW.pureE (te ρ3 μ2) fun y μ3 => if acc.length < sizeLine then compL chk g tt te (wipeR ρ vs) (items.drop (i + 1)) (acc ++ [y]) μ3 else .stuck) else compL chk g tt te (wipeR ρ vs) (items.drop (i + 1)) acc μ2 : Res (List RW.D)).bind fun l μ2 => .ok (RW.D.ref μ2.length) (μ2 ++ [Cell.lst l])))
          fun ι' H' _ d => ∀ v, Rep (gOf X) ι' H' d v → Q v H' := by
        cases hg : tt ρ3 μ3 with
        | ok a m => rw [hg] at h3; exact h3
        | exc c fs m => rw [hg] at h3; exact h3.elim
        | stuck => rw [hg] at h3; exact h3.elim
      refine ⟨ρ3, μ3, ι3, env3, r3, (Post.step (ι' := ι3) (H' := H3) (W' := W0) (σ' := σ3) h3').imp fun ι4 H4 μ4 b _ _ ⟨g4, r4, h4⟩ => ?_⟩
      have gA := ((grB.trans g2).trans g3).trans g4
      obtain ⟨d2, n2⟩ := stand g2 hHD hDn
      obtain ⟨d3, n3⟩ := stand g3 d2 n2
      obtain ⟨d4, n4⟩ := stand g4 d3 n3
      have ra4 := ((ra.ext (g2.ext rel')).ext (g3.ext r2)).ext (g4.ext r3)
      cases b with
      | false => exact iteF ⟨μ4, ι4, acc, ws, gA, r4, d4, n4, ra4, h4⟩
      | true =>
        refine iteT ?_
        have h4' : Post (gOf X) ι1 H1 W σ (RW.pureE (te ρ3 μ4) fun y μ3 => ((if acc.length < sizeLine then compL chk g tt te (wipeR ρ vs) (items.drop (i + 1)) (acc ++ [y]) μ3 else .stuck : Res (List RW.D)).bind fun l μ2 => .ok (RW.D.ref μ2.length) (μ2 ++ [Cell.lst l])))
            fun ι' H' _ d => ∀ v, Rep (gOf X) ι' H' d v → Q v H' := by
          cases hg : te ρ3 μ4 with
          | ok a m => rw [hg] at h4; exact h4
          | exc c fs m => rw [hg] at h4; exact h4.elim
          | stuck => rw [hg] at h4; exact h4.elim
        refine ⟨ρ3, μ4, ι4, env3.ext (g4.ext r3), r4, (Post.step (ι' := ι4) (H' := H4) (W' := W0) (σ' := σ3) h4').imp fun ι5 H5 μ5 y' _ _ ⟨g5, r5, h5⟩ v rv => ?_⟩
        obtain ⟨d5, n5⟩ := stand g5 d4 n4
        split at h5
        · rename_i hsz
          have ra5 := ra4.ext (g5.ext r4)
          refine ⟨ws, d5, by rw [ra5.length]; exact hsz, μ5, ι5, acc ++ [y'], ws ++ [v], ?_⟩
          have ex : Ext ι5 H5 ι5 (upd H5 dd (.lst (ws ++ [v]))) := ⟨List.prefix_refl _, fun a xs z => by rw [upd_ne (fun q => by rw [q, d5] at z; cases z)]; exact z, fun a o u z _ => by rw [upd_ne (fun q => by rw [q, d5] at z; cases z)]; exact z⟩
          have r6 : Rel (gOf X) ι5 (upd H5 dd (.lst (ws ++ [v]))) μ5 := ⟨r5.len, r5.nd, fun j c a e1 e2 => (r5.cell j c a e1 e2).ext ex (upd_ne fun q => n5 (q ▸ List.mem_of_getElem? e2))⟩
          have gA5 := gA.trans g5
          refine ⟨⟨gA5.pre, fun a o z na => ?_, gA5.new, fun a o u z => by rw [upd_ne (fun q => by rw [q, hD] at z; cases z)]; exact gA5.lock a o u z⟩, r6, upd_same, n5, (ra5.append (.cons rv .nil)).ext ex, h5⟩
          rw [upd_ne (fun q => by rw [q, hD] at z; cases z)]; exact gA5.keep a o z na
        · exact h5.elim
    · exact h'.elim
  · have e : items.drop i = [] := List.drop_eq_nil_of_le (by omega)
    rw [e] at h'
    simp only [compL] at h'
    split at h'
    · rename_i hk
      have ei : i = items.length := by omega
      subst ei
      refine .inl ⟨ok.stop ι' H' μ' grB rel' hk, ?_⟩
      have rA := grow_adopt (c := .lst acc) rel' hDn ⟨ws, hHD, ra.ext ⟨List.prefix_append _ _, fun _ _ z => z, fun _ _ _ z _ => z⟩⟩
      refine h' (ι' ++ [dd]) H' ⟨grB.pre.trans (List.prefix_append _ _), grB.keep, fun a ha => ?_, grB.lock⟩ rA (.ref dd) (rep_new (r := rel'))
      rcases List.mem_append.mp ha with z | z
      · exact grB.new a z
      · simp at z; subst z; exact .inr hD
    · exact h'.elim
end
end RW

/-! SEgr: room in which no repr is under way, and what stands on it: defs, calls, classes, the law's head. -/
namespace RW
open PySem PySem.Spec L2
open PyProof.Rows hiding St

structure RoomG (k : Nat) (A : Around) : Prop extends Room k A where
  gd : A.guards = some []
theorem RoomG.le {j k : Nat} {A : Around} (r : RoomG k A) (h : j ≤ k) : RoomG j A := ⟨r.toRoom.mono h, r.gd⟩
theorem RoomG.down {k : Nat} {A : Around} (r : RoomG (k + 1) A) (n : Env) : RoomG k (A.deeper n) := ⟨r.toRoom.deeper n, r.gd⟩
theorem RoomG.born {k : Nat} {A : Around} (r : RoomG (k + 1) A) (C : Addr) (xs : List Value) : RoomG k (A.under (.builtin "type.__call__" ⟨.ref C :: xs, []⟩)) :=
  ⟨r.toRoom.make C xs [], by
    have h := r.gd
    show pushGuards (Code.builtin "type.__call__" ⟨.ref C :: xs, []⟩).guards A.guards = some []
    rw [h]; rfl⟩

/-- what a def promises where no repr is under way -/
structure FnG (P : Program) (w : World) (K : PySem.W.Frag) (mg : Str → Option Value) (base : Heap) (Z : CXT) (k : Nat) (g : Addr) (d : FuncData) (ns : List Str) (pr : Sp) : Prop where
  many : ∀ xs M R T, pr xs M R T → xs.length = ns.length
  goes : ∀ (A : Around) (fr : List Env) (c : Shared) (M : Hp) (al : Args) (ws : List Value) (xs : List V) (R : VK) (T : XK), RoomG k A → Env0 P w K mg base A fr c M → BindsTo c d al (ns.zip ws) → Vals xs ws → pr xs M R T →
    codeAny (model P w) A (.call (.ref g) al) (CR Z fr P w M c R T) c
section
variable {P : Program} {w : World} {K : PySem.W.Frag} {mg : Str → Option Value} {base : Heap} {Z : CXT} {j k : Nat} {g : Addr} {d : FuncData} {ns : List Str} {pr pr' : Sp}
theorem FnG.le (F : FnG P w K mg base Z j g d ns pr) (h : j ≤ k) : FnG P w K mg base Z k g d ns pr := ⟨F.many, fun A fr c M al ws xs R T r => F.goes A fr c M al ws xs R T (r.le h)⟩
theorem FnG.less (F : FnG P w K mg base Z k g d ns pr) (h : ∀ xs M R T, pr' xs M R T → pr xs M R T) : FnG P w K mg base Z k g d ns pr' :=
  ⟨fun xs M R T q => F.many xs M R T (h xs M R T q), fun A fr c M al ws xs R T r e b v q => F.goes A fr c M al ws xs R T r e b v (h xs M R T q)⟩
/-- the def by its body -/
theorem fnG_of {nm qu : Str} {pa : Arguments} {bo : List Stmt} {sco : Scope} {v1 v2 v3 v4 v5 v6 v7 : Value} {u1 u2 : Option Addr} {sl : Array (Option Value)} {L : List Str}
    (h1 : K.lookup g = some ⟨v7, u2, .func (PySem.W.fnOf nm qu pa bo sco v1 v2 v3 v4 u1 v5 v6), sl⟩) (h2 : PySem.W.codeIn K v5 qu = true) (S : FnScope L ns sco) (hn : ∀ xs M R T, pr xs M R T → xs.length = ns.length)
    (hb : ∀ (A : Around) (fr : List Env) (c : Shared) (M : Hp) (xs : List V) (R : VK) (T : XK), RoomG k (A.deeper (envOfC qu sco c.heap.objs.size g v5)) → pr xs M R T →
      ∃ t, PSs (cxOf Z P w K mg base L qu sco g v5 A fr c M T) bo t ∧ t { nx := fun _ N => R .non N, rt := R } (start L xs) M) :
    FnG P w K mg base Z (k + 1) g (PySem.W.fnOf nm qu pa bo sco v1 v2 v3 v4 u1 v5 v6) ns pr := by
  constructor
  · exact hn
  · intro A fr c M al ws xs R T r e b v q
    have kin : K.In c.heap := e.mod.kin.keeps fun i o z => (e.bs i o z).1
    have nol : c.heap.NoLimit := e.mod.nolimit.keeps fun i o z => (e.bs i o z).1
    have where_ : ∀ z ∈ ns.zip ws, sco.names.lookup z.1 = some .local ∨ (sco.names.lookup z.1 = some .cell ∧ ((cellsFrom (c.heap.objs.size + 1) sco.names []).lookup z.1).isSome = true) := by
      rintro ⟨n, x⟩ hz
      exact (S.par n (List.of_mem_zip hz).1).imp id fun q => ⟨q, PySem.W.cellsFrom_some _ _ _ (.inl q)⟩
    apply codeAny_call_function r.toRoom.depth (kin _ _ h1) rfl S.co S.gen rfl (PySem.W.codeRec_of kin h2)
    apply b
    apply wpAny_newFunctionEnv_cells S.kind where_
    rintro env rfl c1 x
    refine ⟨nol.keeps x.toInCall.keep, codeAny_func ?_⟩
    obtain ⟨t, ht, tq⟩ := hb A fr c M xs R T (r.down _) q
    have J0 := inv_start (CX := Z) (E := T) S r.toRoom.hd e (hn _ _ _ _ q) v x
    apply wpAny_mono (ht.run [] c1 (start L xs) M _ J0 tq) _ fun _ _ z => z
    rintro (_ | _ | _ | u) c2 hs
    · obtain ⟨τ, N, J, z⟩ := hs
      exact ⟨.non, N, J.os, J.bare, J.base, J.hok, rfl, z⟩
    · exact hs.elim fun _ z => z.elim fun _ z => z.2.elim
    · exact hs.elim fun _ z => z.elim fun _ z => z.2.elim
    · obtain ⟨x, τ, N, J, rx, z⟩ := hs
      exact ⟨x, N, J.os, J.bare, J.base, J.hok, rx, z⟩
theorem okG {x qual : Str} {st : Stmt} {L : List Str} (F : L2.Fun K x qual st g d) (S : FnScope L ns (defScope st)) (hn : ∀ xs M R T, pr xs M R T → xs.length = ns.length)
    (hb : ∀ (cd : Value) (A : Around) (fr : List Env) (c : Shared) (M : Hp) (xs : List V) (R : VK) (T : XK), RoomG k (A.deeper (envOfC qual (defScope st) c.heap.objs.size g cd)) → pr xs M R T →
      ∃ t, PSs (cxOf Z P w K mg base L qual (defScope st) g cd A fr c M T) (defBody st) t ∧ t { nx := fun _ N => R .non N, rt := R } (start L xs) M) : FnG P w K mg base Z (k + 1) g d ns pr := by
  obtain ⟨_, _, _, _, _, _, cd, _, _, rfl, h1, h2⟩ := F.ex
  exact fnG_of h1 h2 S hn fun A fr c M xs R T => hb cd A fr c M xs R T
end
section
variable {X : Cx} {Z : CXT} {k : Nat} {f C g : Addr} {d : FuncData} {ns : List Str} {pr : Sp} {x : Str} {p pos : Pos} {e : Expr} {es : List Expr} {t : TA}
/-- how a call ends -/
theorem end_of {pins : List (Addr × Obj)} {τ : St} {M : Hp} {c c' : Shared} {R : VK} {T : XK} {r : Result} (I : Inv X pins τ M c) (hx : ∀ v, Z X.stack M c T v c' → X.xe v c') (h : CR Z X.stack X.prog X.w M c R T r c') :
    match (motive := Result → Prop) r with
    | .ok (.ret u) => EP X pins τ R u c'
    | .ok _ => False
    | .error v => X.xe v c' := by
  rcases r with v | fl
  · exact hx v h
  · cases fl <;> first | exact h.elim | exact I.after h
theorem goG {pins : List (Addr × Obj)} {τ : St} {M : Hp} {c : Shared} {R : VK} {ws : List Value} {xs : List V} {T : St → XK} (F : FnG X.prog X.w X.K X.mg X.base Z k f d ns pr) (hr : RoomG k X.A) (hb : Binds X.K d ns []) (hx : PassesAt Z X τ (T τ)) (I : Inv X pins τ M c)
    (v : Vals xs ws) (h : pr xs M R (T τ)) : wpAny (model X.prog X.w) X.A (call (.ref f) ws) (EP X pins τ R) X.xe c := by
  have b := hb c ws I.kIn (by simp [← v.length, F.many _ _ _ _ h])
  simp only [List.append_nil] at b
  apply wpAny_call
  apply codeAny_mono (F.goes X.A X.stack c M ⟨ws, []⟩ ws xs R (T τ) hr I.env0 b v h)
  intro r c' q
  have z := end_of I (fun v q => hx pins M c v c' I q) q
  rcases r with _ | fl
  · exact z
  · cases fl <;> first | exact z | exact z.elim
theorem callG {T : St → XK} (F : FnG X.prog X.w X.K X.mg X.base Z k f d ns pr) (hr : RoomG k X.A) (hg : Gl X x) (hm : X.mg x = some (.ref f)) (hk : PySem.W.keepIn X.K (.ref f) = true) (hb : Binds X.K d ns []) (hx : ∀ τ, PassesAt Z X τ (T τ)) (ha : PA X (e :: es) t)
    (hdb : (x == ("__debug__" : Str)) = false) (he : starEach (e :: es) X.env = (false, eval e X.env) :: starEach es X.env) (hpl : (backTo pos (starEach es X.env)).any (·.1) = false) : PE X (.Call (.Name x p) (e :: es) [] pos) (tCallS pr T t) := by
  constructor
  intro pins c τ M R I h
  apply wpAny_Call_Name_kw (ld_glob I hg hm _ hdb)
  apply PySem.W.callWith_K (h₀ := X.base) I.ok.mod.kin hk _ he hpl
  apply thn (ha.run pos pins c τ M _ I h)
  rintro ws c1 ⟨xs, M1, I1, v, q⟩
  exact ⟨I1.kIn, goG F hr hb (hx τ) I1 v q⟩
theorem bornG {pins : List (Addr × Obj)} {τ : St} {M : Hp} {c : Shared} {R : VK} {ws : List Value} {xs : List V} {T : XK} (B : Mk X.K C g) (F : FnG X.prog X.w X.K X.mg X.base Z k g d ns pr) (hr : RoomG (k + 1) X.A) (hb : Binds X.K d ns []) (hx : Passes Z X T) (I : Inv X pins τ M c) (v : Vals xs ws)
    (h : ∀ y dy, M y = none → M dy = none → dy ≠ y → pr (.ref y :: xs) (upd (upd M dy (.own y)) y (.ins C dy [])) (fun u N => u = .non ∧ R (.ref y) N) T) :
    wpAny (model X.prog X.w) X.A (call (.ref C) ws) (EP X pins τ R) X.xe c := by
  have I2 := Inv.made (C := C) I
  have above : ∀ n, c.heap.objs.size ≤ n → M n = none := fun n => I.hok.fresh
  have q := h _ _ (above _ (Nat.le_succ _)) (above _ (Nat.le_refl _)) (Nat.ne_of_lt (Nat.lt_succ_self _))
  have v2 : Vals (V.ref (c.heap.objs.size + 1) :: xs) (Value.ref (c.heap.objs.size + 1) :: ws) := .cons rfl v
  have b := hb _ (Value.ref (c.heap.objs.size + 1) :: ws) I2.kIn (by rw [List.append_nil, ← v2.length]; exact F.many _ _ _ _ q)
  rw [List.append_nil] at b
  have go := F.goes _ X.stack _ _ ⟨Value.ref (c.heap.objs.size + 1) :: ws, []⟩ (Value.ref (c.heap.objs.size + 1) :: ws) _ _ T (hr.born C ws) (I2.env0.make C ws []) b v2 q
  apply wpAny_call
  apply make_map (f := g) I.kIn B.makes B.init (beq_iff_eq.mp B.fn)
  apply codeAny_mono go
  intro r c' q'
  have z := end_of I2 (fun u q => hx pins τ _ _ u c' I2 q) q'
  rcases r with _ | fl
  · exact z
  · cases fl <;> first | exact z.elim | skip
    obtain ⟨u, N, I3, ru, rfl, q3⟩ := z
    exact ⟨ru, V.ref (c.heap.objs.size + 1), N, I3, rfl, q3⟩
theorem makeG {T : XK} (B : Mk X.K C g) (F : FnG X.prog X.w X.K X.mg X.base Z k g d ns pr) (hr : RoomG (k + 1) X.A) (hg : Gl X x) (hm : X.mg x = some (.ref C)) (hb : Binds X.K d ns []) (hx : Passes Z X T) (ha : PA X (e :: es) t) (hdb : (x == ("__debug__" : Str)) = false)
    (he : starEach (e :: es) X.env = (false, eval e X.env) :: starEach es X.env) (hpl : (backTo pos (starEach es X.env)).any (·.1) = false) : PE X (.Call (.Name x p) (e :: es) [] pos) (tMake C pr [] T t) := by
  constructor
  intro pins c τ M R I h
  apply wpAny_Call_Name_kw (ld_glob I hg hm _ hdb)
  apply PySem.W.callWith_K (h₀ := X.base) I.ok.mod.kin B.kp _ he hpl
  apply thn (ha.run pos pins c τ M _ I h)
  rintro ws c1 ⟨xs, M1, I1, v, q⟩
  refine ⟨I1.kIn, bornG B F hr hb hx I1 v fun y dy h1 h2 h3 => ?_⟩
  have q := q y dy h1 h2 h3
  rw [List.append_nil] at q
  exact q
end
end RW

/-! SEgt: the head of a law that stands on guarded room. -/
namespace RW
open PySem PySem.Spec L2
open PyProof.Rows hiding St
section
variable {P : Program} {w : World} {K : PySem.W.Frag} {mg mb : Str → Option Value} {Z : CXT} {k : Nat} {g a : Addr} {d : FuncData} {x : Str} {pr : Sp} {c : Shared} {ws : List Value} {ns : List Int}
abbrev told (c : Shared) (r : Result) (c' : Shared) : Prop := r = .ok (.ret (.bool true)) ∧ OldK c.heap c'.heap ∧ c'.os = c.os ∧ AllBare c'.gens
/-- the call at a heap of which at most the script is known -/
theorem head_at (kin : K.In c.heap) (hns : c.heap.Ns mainGlobals mg) (hb : c.heap.Ns builtinsNs mb) (hbb : ∀ x : Str, x ≠ "__name__" → mb x = bootBuiltins x) (nol : c.heap.NoLimit) (hg : c.gens = #[])
    (hr : RoomG k callerA) (F : ∀ base : Heap, K.In base → base.Ns mainGlobals mg → FnG P w K mg base Z k g d [x] pr) (bi : ∀ (c : Shared) (u : Value), BindsTo c d ⟨[u], []⟩ [(x, u)])
    (hZ : ∀ M v c', Z [] M c (fun _ _ _ => False) v c' → False) (M : Hp) (hO : Only M) (lists : ∀ b o, c.heap.get? b = some o → M b ≠ none → K.lookup b = none ∧ ∀ es n, o.data ≠ .dict es n)
    (hok : HOk P w M c.heap) (hp : pr [.ref a] M (fun v _ => v = .bl true) fun _ _ _ => False) : codeAny (model P w) callerA (.call (.ref g) ⟨[.ref a], []⟩) (told c) c := by
  have plain : ∀ {b : Addr} {m : Str → Option Value}, c.heap.Ns b m → (hidT c.heap M).Ns b m := by
    rintro b m ⟨o, es, n, h1, h2, h3⟩
    have free : M b = none := Classical.byContradiction fun z => (lists b o h1 z).2 es n h2
    exact ⟨o, es, n, hidT_get h1 free, h2, h3⟩
  have kb : K.In (hidT c.heap M) := fun b o h => hidT_get (kin b o h) (Classical.byContradiction fun z => by
    have := (lists b o (kin b o h) z).1
    rw [h] at this
    cases this)
  obtain ⟨ml, n1, n2⟩ := nol
  have md : Mod K mg (hidT c.heap M) := ⟨kb, plain hns, ⟨mb, plain hb, hbb⟩, ⟨ml, plain n1, n2⟩⟩
  have en : Env0 P w K mg (hidT c.heap M) callerA [] c M :=
    ⟨rfl, md, fun _ _ z => of_hidT z, Nat.le_of_eq (hidT_size _ _), trivial, fun _ z => absurd (show _ ∈ ([] : List Addr) from z) List.not_mem_nil, hok, .of_eq hg⟩
  apply codeAny_mono ((F _ kb (plain hns)).goes callerA [] c M ⟨[.ref a], []⟩ [.ref a] [.ref a] _ _ hr en (bi c (.ref a)) (.cons rfl .nil) hp)
  rintro (v | fl) c' q
  · exact (hZ M v c' q).elim
  cases fl <;> first | exact q.elim | skip
  obtain ⟨v, N, e1, e2, un, ok2, rv, rfl⟩ := q
  cases (show _ = Value.bool true from rv)
  refine ⟨rfl, OldK.of_keep fun b o h => ?_, e1, e2⟩
  rcases hO b with z | ⟨ob, ys, z⟩
  · exact un.keep b o h z (fun y => absurd (show b ∈ ([] : List Addr) from y) List.not_mem_nil) List.not_mem_nil
  · have t1 := (hok b _ z).1
    rw [h] at t1
    cases t1
    exact (ok2 b _ (un.frzs b _ _ z)).1
theorem headG (kin : K.In c.heap) (hns : c.heap.Ns mainGlobals mg) (hb : c.heap.Ns builtinsNs mb) (hbb : ∀ x : Str, x ≠ "__name__" → mb x = bootBuiltins x) (nol : c.heap.NoLimit) (hg : c.gens = #[])
    (ha : c.heap.get? a = some { cls := .type "list", data := .seq ws.toArray }) (hi : IntsAre ws ns) (hl : ns.length ≤ sizeLine) (hr : RoomG k callerA)
    (F : ∀ base : Heap, K.In base → base.Ns mainGlobals mg → FnG P w K mg base Z k g d [x] pr) (bi : ∀ (c : Shared) (u : Value), BindsTo c d ⟨[u], []⟩ [(x, u)])
    (hp : ∀ M : Hp, Only M → SqL K M a (ns.map V.int) → pr [.ref a] M (fun v _ => v = .bl true) fun _ _ _ => False) (hZ : ∀ M v c', Z [] M c (fun _ _ _ => False) v c' → False) :
    codeAny (model P w) callerA (.call (.ref g) ⟨[.ref a], []⟩) (told c) c := by
  have vals := vals_ints hi
  by_cases hk : K.lookup a = none
  · let M : Hp := fun b => if b = a then some (.frz { cls := .type "list", data := .seq ws.toArray } (.lst (ns.map V.int))) else none
    have at_ : ∀ {b u}, M b = some u → b = a ∧ u = .frz { cls := .type "list", data := .seq ws.toArray } (.lst (ns.map V.int)) := by
      intro b u h
      simp only [M] at h
      split at h
      · exact ⟨‹_›, (Option.some.inj h).symm⟩
      · cases h
    have hO : Only M := fun b => by
      cases h : M b with
      | none => exact .inl rfl
      | some u => exact .inr ⟨_, _, congrArg some (at_ h).2⟩
    refine head_at kin hns hb hbb nol hg hr F bi hZ M hO (fun b o h z => ?_) (fun b u h => ?_) (hp M hO (.inl (.inr ⟨{ cls := .type "list", data := .seq ws.toArray }, if_pos rfl⟩)))
    · obtain ⟨u, hu⟩ := Option.ne_none_iff_exists'.mp z
      obtain ⟨rfl, -⟩ := at_ hu
      rw [ha] at h
      cases h
      exact ⟨hk, fun _ _ z => by cases z⟩
    · obtain ⟨rfl, rfl⟩ := at_ h
      exact ⟨ha, by simpa using hl, ws, _, vals, ha⟩
  · obtain ⟨o, hk⟩ := Option.ne_none_iff_exists'.mp hk
    have h := kin a o hk
    rw [ha] at h
    cases h
    have hO : Only (fun _ => none) := fun _ => .inl rfl
    exact head_at kin hns hb hbb nol hg hr F bi hZ _ hO (fun _ _ _ z => absurd rfl z) (fun _ _ z => by cases z) (hp _ hO (.inr ⟨_, ws.toArray, _, hk, rfl, rfl, rfl, by rw [List.size_toArray, hi.length]; exact hl, by simpa using vals⟩))
end
theorem walkG {l : PySem.W.OpenLaw} {n k : Nat} {q : Program} {lo : List Str} {XP : (Str → Option Value) → Heap → Prop} {YP : World → Heap → Prop} {d : DefRec} {K : Params → PySem.W.Frag} {Z : World → CXT} {pr : World → Sp} {x : Str}
    (hn : l.most = some n) (hs : n ≤ sizeLine) (hdf : d.params.defaults = []) (hr : RoomG k callerA) (hY : ∀ (w : World) (h : Heap), YP w h → (K w.params).In h)
    (F : ∀ (w : World) (mg : Str → Option Value) (g : Addr) (h : Heap), (K w.params).In h → h.Ns mainGlobals mg → mg d.name = some (.ref g) → ∃ f : FuncData, (∀ (c : Shared) (u : Value), BindsTo c f ⟨[u], []⟩ [(x, u)]) ∧
      ∀ base : Heap, (K w.params).In base → base.Ns mainGlobals mg → FnG l.prog w (K w.params) mg base (Z w) k g f [x] (pr w))
    (hp : ∀ (w : World) (M : Hp) (a : Addr) (ns : List Int), ns.length ≤ n → Only M → SqL (K w.params) M a (ns.map V.int) → pr w [.ref a] M (fun v _ => v = .bl true) fun _ _ _ => False)
    (hZ : ∀ (w : World) (M : Hp) (c : Shared) (v : Value) (c' : Shared), Z w [] M c (fun _ _ _ => False) v c' → False) : PySem.W.WalkO q lo XP YP l.row.toRowW d [] (fun f vs => PySem.call f vs) := by
  apply Att.attach_call hn hdf
  intro w s₀ s₁ mg mb fa o pm cd doc a vs ns G Y ho hd hcd hmg hobj hints hlen hg
  obtain ⟨f, bi, hF⟩ := F w mg fa _ (hY w _ Y) G.T.g hmg
  exact headG (hY w _ Y) G.T.g G.T.b G.T.builtins G.T.nolimit hg hobj hints (Nat.le_trans hlen hs) hr hF bi (fun M h1 h2 => hp w M a ns hlen h1 h2) fun M v c' => hZ w M s₁ v c'
end RW

/-! SEh: comprehensions as rules, own defs, classes, methods of lists. -/
namespace RW
open PySem L2
open PyProof.Rows (envOfC)
section
variable {X : Cx} {W : WX}
theorem sts_nil : PTs X [] (tB (gOf X) W mYes) := ⟨fun pins s σ H Q I ⟨ρ, μ, ι, env, rel, h⟩ => pts_nil.run pins s σ H Q I (h ι H .refl rel)⟩
theorem sts_one {c : Expr} {m : MB} (h : ST X W c m) : PTs X [c] (tB (gOf X) W m) := pts_one h
theorem se_lc {elt tg iter : Expr} {ifs : List Expr} {scope : Scope} {own : List (Str × Nat)} {pos : Pos} {mi : MIt} {g : MG} {tt : MB} {te : MD} (hc : X.calm = true) (hN : X.N.Nodup) (hi : SI X W tg iter mi) (ok : BlkOk X.N X.env.scope scope own)
    (hg : ∀ (s : Shared) (H : Hp) (C : Addr) (cl : List (Str × Addr)) (fp : List Addr), SGv (X.blk s H scope (compEnvC scope cl C X.env) fp) W0 (own.map (·.2)) tg g)
    (ht : ∀ (s : Shared) (H : Hp) (C : Addr) (cl : List (Str × Addr)) (fp : List Addr), PTs (X.blk s H scope (compEnvC scope cl C X.env) fp) ifs (tB (gOf X) W0 tt))
    (he : ∀ (s : Shared) (H : Hp) (C : Addr) (cl : List (Str × Addr)) (fp : List Addr), SE (X.blk s H scope (compEnvC scope cl C X.env) fp) W0 elt te) (hs : ∀ x, foldedSetIterable iter X.env x = pure x := by intro _; rfl) :
    SE X W (.ListComp elt [⟨tg, iter, ifs, 0⟩] scope pos) (mComp mi g tt te (own.map (·.2))) :=
  PE.mono (pe_lc hc hN hi ok hg ht he hs) fun σ H Q h => lc_red (fun _ _ _ z => z) h
theorem ss_setLc {i : Nat} {y : Str} {py : Pos} {elt tg iter : Expr} {ifs : List Expr} {scope : Scope} {own : List (Str × Nat)} {pos spos : Pos} {mi : MIt} {g : MG} {tt : MB} {te : MD} (hc : X.calm = true) (hN : X.N.Nodup) (hy : X.N[i]? = some y) (hyl : X.env.scope.names.lookup y = some .local)
    (hsw : swapsWith (.ListComp elt [⟨tg, iter, ifs, 0⟩] scope pos) (some (.Name y py)) spos.line X.env = pure true) (hi : SI X W tg iter mi) (ok : BlkOk X.N X.env.scope scope own)
    (hg : ∀ (s : Shared) (H : Hp) (C : Addr) (cl : List (Str × Addr)) (fp : List Addr), SGv (X.blk s H scope (compEnvC scope cl C X.env) fp) W0 (own.map (·.2)) tg g)
    (ht : ∀ (s : Shared) (H : Hp) (C : Addr) (cl : List (Str × Addr)) (fp : List Addr), PTs (X.blk s H scope (compEnvC scope cl C X.env) fp) ifs (tB (gOf X) W0 tt))
    (he : ∀ (s : Shared) (H : Hp) (C : Addr) (cl : List (Str × Addr)) (fp : List Addr), SE (X.blk s H scope (compEnvC scope cl C X.env) fp) W0 elt te) (hs : ∀ x, foldedSetIterable iter X.env x = pure x := by intro _; rfl) :
    SS X W (.Assign [.Name y py] (.ListComp elt [⟨tg, iter, ifs, 0⟩] scope pos) spos) (sSet i (mComp mi g tt te (own.map (·.2)))) :=
  PS.mono (ps_setLc (g := tGv (gOf X) W0 (own.map fun x : Str × Nat => x.2) g) (te := tE (gOf X) W0 te) hc hN hy hyl hsw hi ok hg ht he hs) fun D σ H ⟨ρ, μ, ι, env, rel, h⟩ => by
    refine lc_red (W := W) (X := X) (mi := mi) (g := g) (tt := tt) (te := te) (fun _ _ _ z => z) ⟨ρ, μ, ι, env, rel, ?_⟩
    exact (PostS.onE h env ⟨μ, rel⟩).imp fun ι1 H1 μ1 d _ _ ⟨g1, r1, env1, h1⟩ v rv => h1 ι1 H1 .refl r1 _ (env1.set i rv)
end

/-! ### own defs -/
abbrev Sem := List D → Mem → Res D
def spM (G : Gd) (n : Nat) (sem : Sem) : Sp := fun vs H Q E => ∃ ds μ ι, Reps G ι H ds vs ∧ ds.length = n ∧ Rel G ι H μ ∧ Post G ι H (fun cls dx _ H' => E cls dx H') [] (sem ds μ) fun ι' H' _ d => ∀ v, Rep G ι' H' d v → Q v H'
theorem Post.re {G : Gd} {ι : List Addr} {H : Hp} {W W' : WX} {σ σ' : St} {α : Type} {r : Res α} {k : List Addr → Hp → Mem → α → Prop} (h : Post G ι H W σ r k) (f : ∀ c d H, W c d σ H → W' c d σ' H) : Post G ι H W' σ' r k := by
  cases r with
  | ok a m => exact h
  | exc c fs m => exact fun ι' H' cls dx g r e => f _ _ _ (h ι' H' cls dx g r e)
  | stuck => exact h
def startR (n : Nat) (ds : List D) : Rho := ds.map some ++ List.replicate (n - ds.length) none
@[simp] def endB : Fl → Mem → Res D
  | .nx _, μ => .ok .non μ
  | .ret d, μ => .ok d μ
  | .exc c fs _, μ => .exc c fs μ
  | _, _ => .stuck
def runB (n : Nat) (m : MS) : Sem := fun ds μ => pureE (m (startR n ds) μ) endB
theorem env_start {G : Gd} {ι : List Addr} {H : Hp} {N : List Str} {ds : List D} {vs : List V} (h : Reps G ι H ds vs) : EnvOk G ι H (startR N.length ds) (L2.start N vs) := by
  unfold startR L2.start
  refine ⟨by simp [h.length], fun i d e => ?_⟩
  by_cases hi : i < ds.length
  · rw [List.getElem?_append_left (by simpa using hi), List.getElem?_map] at e
    obtain ⟨x, e1, e2⟩ := Option.map_eq_some_iff.mp e
    cases e2
    obtain ⟨v, e3, r⟩ := h.get e1
    refine ⟨v, ?_, r⟩
    rw [List.getElem?_append_left (by simpa [h.length] using hi), List.getElem?_map, e3]; rfl
  · rw [List.getElem?_append_right (by simpa using hi), List.getElem?_replicate] at e
    split at e <;> cases e
/-- what a caller has of a def -/
def Fn (G : Gd) (base : Heap) (x : Str) (k n : Nat) (sem : Sem) : Prop := ∃ (f : Addr) (fd : FuncData) (ps : List Str),
  G.mg x = some (.ref f) ∧ PySem.W.keepIn G.K (.ref f) = true ∧ Binds G.K fd ps [] ∧ FnG G.P G.w G.K G.mg base (L2.CX G.P G.w) k f fd ps (spM G n sem)
theorem spM_len {G : Gd} {n : Nat} {sem : Sem} {vs : List V} {H : Hp} {Q : VK} {E : XK} (h : spM G n sem vs H Q E) : vs.length = n := by
  obtain ⟨ds, μ, ι, h1, h2, _⟩ := h
  rw [h1.length, h2]
section
variable {P : Program} {w : World} {K : PySem.W.Frag} {mg : Str → Option Value} {base : Heap}
theorem fn_ok {x qual : Str} {st : Stmt} {f : Addr} {fd : FuncData} {N ps : List Str} {k : Nat} {m : MS} (F : L2.Fun K x qual st f fd) (S : FnScope N ps (defScope st))
    (hb : ∀ (cdv : Value) (A : Around) (outer : List Env) (s : Shared) (H : Hp) (E : XK), RoomG k (A.deeper (envOfC qual (defScope st) s.heap.objs.size f cdv)) →
      SSs (cxOf (L2.CX P w) P w K mg base N qual (defScope st) f cdv A outer s H E) (fun cls dx _ H' => E cls dx H') (defBody st) m) :
    FnG P w K mg base (L2.CX P w) (k + 1) f fd ps (spM ⟨P, w, K, mg⟩ ps.length (runB N.length m)) := by
  refine okG F S (fun vs H Q E h => spM_len h) fun cdv A outer s H vs Q E hr ⟨ds, μ, ι, h1, h2, h3, h4⟩ => ⟨_, hb cdv A outer s H E hr, ?_⟩
  refine ⟨startR N.length ds, μ, ι, env_start h1, h3, ?_⟩
  unfold runB at h4
  cases hm : m (startR N.length ds) μ with
  | stuck => rw [hm] at h4; exact h4.elim
  | exc c fs m' => rw [hm] at h4; exact h4.elim
  | ok fl μ' =>
    rw [hm] at h4
    intro ι' H' g r
    cases fl with
    | nx ρ' => exact fun σ' env' => h4 ι' H' g r _ rep_non
    | brk ρ' => exact h4.elim
    | cnt ρ' => exact h4.elim
    | ret d => exact fun v rv => h4 ι' H' g r v rv
    | exc c fs ρ' => exact fun σ' cls dx env' ex => h4 ι' H' cls dx g r ex
end
section
variable {X : Cx} {W : WX} {k n : Nat} {sem : Sem} {x : Str} {p pos : Pos} {e : Expr} {es : List Expr} {ms : ML}
theorem se_call {j : Nat} (F : Fn (gOf X) X.base x j n sem) (hr : RoomG k X.A) (hj : j ≤ k) (hg : Gl X x) (tk : Takes X W) (ha : SA X W (e :: es) ms) (hn : ∀ ρ μ ds μ', ms ρ μ = .ok ds μ' → ds.length = n)
    (hdb : (x == ("__debug__" : Str)) = false := by decide) (he : starEach (e :: es) X.env = (false, eval e X.env) :: starEach es X.env := by rfl) (hpl : (backTo pos (starEach es X.env)).any (·.1) = false := by rfl) :
    SE X W (.Call (.Name x p) (e :: es) [] pos) (mB sem ms) := by
  obtain ⟨f, fd, ps, hm, hk, hb, F⟩ := F
  refine PE.mono (callG F (hr.le hj) hg hm hk hb (T := WE W) (fun σ => passAt tk σ) ha hdb he hpl) fun σ H Q ⟨ρ, μ, ι, env, rel, h⟩ => ?_
  refine ⟨ρ, μ, ι, env, rel, ?_⟩
  have h := Post.bind h
  cases hm : ms ρ μ with
  | stuck => rw [hm] at h; exact h.elim
  | exc c fs m => rw [hm] at h; exact h
  | ok ds μ1 =>
    rw [hm] at h
    intro ι1 H1 g1 r1 vs rvs
    obtain ⟨_, _, h1⟩ := h ι1 H1 g1 r1
    exact ⟨ds, μ1, ι1, rvs, hn ρ μ ds μ1 hm, r1, h1.re fun c d H z => z⟩
end
theorem mCons_len {a : MD} {r : ML} {n : Nat} (h : ∀ ρ μ ds μ', r ρ μ = .ok ds μ' → ds.length = n) : ∀ ρ μ ds μ', mCons a r ρ μ = .ok ds μ' → ds.length = n + 1 := fun ρ μ ds μ' e => by
  simp only [mCons] at e
  cases h1 : a ρ μ with
  | ok x m =>
    rw [h1] at e
    simp only [Res.bind] at e
    cases h2 : r ρ m with
    | ok xs m2 =>
      rw [h2] at e
      simp only [Res.bind, Res.ok.injEq] at e
      rw [← e.1, List.length_cons, h _ _ _ _ h2]
    | exc c fs m2 => rw [h2] at e; cases e
    | stuck => rw [h2] at e; cases e
  | exc c fs m2 => rw [h1] at e; cases e
  | stuck => rw [h1] at e; cases e
theorem mNil_len : ∀ ρ μ ds μ', mNil ρ μ = .ok ds μ' → ds.length = 0 := fun ρ μ ds μ' e => by
  simp only [mNil, Res.ok.injEq] at e
  rw [← e.1]; rfl

/-! ### classes -/
def Cl (G : Gd) (c : Str) (C : Addr) : Prop := G.mg c = some (.ref C) ∧ Cls G.K C
def putD (f : Str) (v : D) : List (Str × D) → List (Str × D)
  | [] => [(f, v)]
  | (g, x) :: r => if g = f then (g, v) :: r else (g, x) :: putD f v r
def fldD (c f : Str) : D → Mem → Res D
  | .ref n, μ => (match μ[n]? with
    | some (.ins c' fs) => if c' = c then (match fs.lookup f with
      | some d => .ok d μ
      | none => .stuck) else .stuck
    | _ => .stuck)
  | _, _ => .stuck
def setFD (c f : Str) : D → D → Mem → Res Unit
  | .ref n, v, μ => (match μ[n]? with
    | some (.ins c' fs) => if c' = c ∧ fs.length < 1000 then .ok () (μ.set n (.ins c (putD f v fs))) else .stuck
    | _ => .stuck)
  | _, _, _ => .stuck
@[simp] def sFldM (c f : Str) (o v : MD) : MS := fun ρ μ => onE (v ρ μ) ρ fun y μ1 => onE (o ρ μ1) ρ fun x μ2 => pureE (setFD c f x y μ2) fun _ μ3 => .ok (.nx ρ) μ3
@[simp] def mMake (c : Str) (sem : Sem) (a : ML) : MD := fun ρ μ => (a ρ μ).bind fun ds μ1 => (sem (.ref μ1.length :: ds) (μ1 ++ [.ins c []])).bind fun d μ2 => match d with
  | .non => .ok (.ref μ1.length) μ2
  | _ => .stuck
section
variable {G : Gd} {ι : List Addr} {H : Hp}
theorem repF_lookup {f : Str} {d : D} : ∀ {fs : List (Str × D)} {gs : List (Str × V)}, Paired (RepF G ι H) fs gs → fs.lookup f = some d → ∃ v, gs.lookup f = some v ∧ Rep G ι H d v
  | _, _, .nil, e => by simp at e
  | (g, x) :: r, (g', y) :: r', .cons ⟨h1, h2⟩ t, e => by
    have h1 : g = g' := h1
    subst h1
    rw [List.lookup_cons] at e ⊢
    split at e
    · cases e; exact ⟨y, rfl, h2⟩
    · exact repF_lookup t e
theorem repF_put {f : Str} {d : D} {v : V} (h : Rep G ι H d v) : ∀ {fs : List (Str × D)} {gs : List (Str × V)}, Paired (RepF G ι H) fs gs → Paired (RepF G ι H) (putD f d fs) (putF f v gs)
  | _, _, .nil => .cons ⟨rfl, h⟩ .nil
  | (g, x) :: r, (g', y) :: r', .cons ⟨h1, h2⟩ t => by
    have h1 : g = g' := h1
    subst h1
    unfold putD putF
    split
    · exact .cons ⟨rfl, h⟩ t
    · exact .cons ⟨rfl, h2⟩ (repF_put h t)
theorem Rel.ins {μ : Mem} (r : Rel G ι H μ) {n : Nat} {c : Str} {fs : List (Str × D)} {v : V} (h : μ[n]? = some (.ins c fs)) (hv : Rep G ι H (.ref n) v) :
    ∃ a C dx gs, v = .ref a ∧ ι[n]? = some a ∧ G.mg c = some (.ref C) ∧ H a = some (.ins C dx gs) ∧ Paired (RepF G ι H) fs gs := by
  obtain ⟨a, h1, rfl⟩ := hv.ref
  obtain ⟨C, dx, gs, h2, h3, h4⟩ := r.cell n _ a h h1
  exact ⟨a, C, dx, gs, rfl, h1, h2, h3, h4⟩
end
section
variable {X : Cx} {W : WX} {e o value : Expr} {me mo mv : MD} {c f : Str} {pos pos' : Pos} {C : Addr}
theorem se_fld (hc : Cl (gOf X) c C) (hn : NoAttr X.K C f) (he : SE X W e me) (hb : attributeBase e f X.env (eval e X.env) = eval e X.env := by rfl) : SE X W (.Attribute e f pos) (mUn (fldD c f) me) :=
  PE.mono (pe_fld he hb) fun σ H Q ⟨ρ, μ, ι, env, rel, h⟩ =>
    ⟨ρ, μ, ι, env, rel, (Post.bind h).imp fun ι1 H1 μ1 x _ _ ⟨g1, r1, h1⟩ v rv => by
      cases x <;> first | exact h1.elim | skip
      simp only [fldD] at h1
      split at h1
      · rename_i c' fs em
        split at h1
        · rename_i hcc
          subst hcc
          split at h1
          · rename_i d el
            obtain ⟨a, C', dx, gs, rfl, q1, q2, q3, q4⟩ := r1.ins em rv
            obtain rfl : C' = C := by
              have := q2.symm.trans hc.1
              cases this; rfl
            obtain ⟨u, e1, ru⟩ := repF_lookup q4 el
            exact ⟨a, C', dx, gs, u, rfl, q3, hc.2, hn, e1, h1 ι1 H1 .refl r1 u ru⟩
          · exact h1.elim
        · exact h1.elim
      · exact h1.elim⟩
theorem ss_fld (hc : Cl (gOf X) c C) (hn : NoAttr X.K C f) (ha : SE X W o mo) (hv : SE X W value mv) (hs : swapsWith value (some (.Attribute o f pos')) pos.line X.env = pure false := by rfl) : SS X W (.Assign [.Attribute o f pos'] value pos) (sFldM c f mo mv) :=
  PS.mono (ps_fld ha hv hs) fun D σ H ⟨ρ, μ, ι, env, rel, h⟩ => by
    refine ⟨ρ, μ, ι, env, rel, (PostS.onE h env ⟨μ, rel⟩).imp fun ι1 H1 μ1 y _ _ ⟨g1, r1, env1, h1⟩ u ru => ?_⟩
    refine ⟨ρ, μ1, ι1, env1, r1, (PostS.onE h1 env1 ⟨μ1, r1⟩).imp fun ι2 H2 μ2 x _ _ ⟨g2, r2, env2, h2⟩ v rv => ?_⟩
    have h2 := PostS.pureE (W := W) (σ := σ) h2
    have ru := ru.ext (g2.ext r1)
    cases x <;> first | exact h2.elim | skip
    simp only [setFD] at h2
    split at h2
    · rename_i c' fs em
      split at h2
      · rename_i hcc
        obtain ⟨hcc, hl⟩ := hcc
        subst hcc
        obtain ⟨a, C', dx, gs, rfl, q1, q2, q3, q4⟩ := r2.ins em rv
        obtain rfl : C' = C := by
          have := q2.symm.trans hc.1
          cases this; rfl
        have hlen : fs.length = gs.length := Paired.length q4
        refine ⟨a, C', dx, gs, rfl, q3, hc.2, hn, by omega, ?_⟩
        obtain ⟨g3, r3⟩ := grow_set (o := .ins C' dx (putF f u gs)) (c := .ins c' (putD f y fs)) r2 q1 (fun _ _ e => by rw [q3] at e; cases e) fun ex => ⟨C', dx, _, q2, upd_same, Paired.imp' (repF_put ru q4) fun _ _ z => ⟨z.1, z.2.ext ex⟩⟩
        obtain ⟨_, _, h3⟩ := h2 ι2 _ g3 r3
        exact h3 ι2 _ .refl r3 σ (env2.ext (g3.ext r2))
      · exact h2.elim
    · exact h2.elim
/-- C(..) -/
theorem se_make {k j n : Nat} {sem : Sem} {x : Str} {f : Addr} {fd : FuncData} {ps : List Str} {p : Pos} {es : List Expr} {ms : ML} (M : Mk X.K C f) (F : FnG X.prog X.w X.K X.mg X.base (L2.CX X.prog X.w) j f fd ps (spM (gOf X) (n + 1) sem)) (hr : RoomG k X.A) (hj : j + 1 ≤ k) (hg : Gl X x) (hm : X.mg x = some (.ref C))
    (hb : Binds X.K fd ps []) (hns : ∀ ds μ, (∃ d m, sem ds μ = .ok d m) ∨ sem ds μ = .stuck) (ha : SA X W (e :: es) ms) (hn : ∀ ρ μ ds μ', ms ρ μ = .ok ds μ' → ds.length = n) (hdb : (x == ("__debug__" : Str)) = false := by decide) (he : starEach (e :: es) X.env = (false, eval e X.env) :: starEach es X.env := by rfl)
    (hpl : (backTo pos (starEach es X.env)).any (·.1) = false := by rfl) : SE X W (.Call (.Name x p) (e :: es) [] pos) (mMake x sem ms) :=
  PE.mono (makeG (T := E0) M F (hr.le hj) hg hm hb passL ha hdb he hpl) fun σ H Q ⟨ρ, μ, ι, env, rel, h⟩ => by
    refine ⟨ρ, μ, ι, env, rel, ?_⟩
    have h := Post.bind h
    cases hms : ms ρ μ with
    | stuck => rw [hms] at h; exact h.elim
    | exc c fs m => rw [hms] at h; exact h
    | ok ds μ1 =>
      rw [hms] at h
      intro ι1 H1 g1 r1 vs rvs x' dx hx hdx hne
      obtain ⟨_, _, h1⟩ := h ι1 H1 g1 r1
      obtain ⟨g2, r2⟩ := grow_laid (o := .own x') r1 hdx
      have hx2 : upd H1 dx (.own x') x' = none := by rw [upd_ne hne.symm]; exact hx
      obtain ⟨g3, r3⟩ := grow_cell (o := .ins C dx []) (c := .ins x []) r2 hx2 fun ex => ⟨C, dx, [], hm, upd_same, .nil⟩
      have g := g2.trans g3
      refine ⟨.ref μ1.length :: ds, μ1 ++ [.ins x []], ι1 ++ [x'], ?_, by rw [List.length_cons, hn ρ μ ds μ1 hms], r3, ?_⟩
      · rw [List.append_nil]
        exact .cons (rep_new (r := r1)) (rvs.ext (g.ext r1))
      · have h1 := Post.bind h1
        rcases hns (.ref μ1.length :: ds) (μ1 ++ [.ins x []]) with ⟨d, m, e⟩ | e
        · rw [e] at h1 ⊢
          intro ι4 H4 g4 r4 v rv
          obtain ⟨_, _, h5⟩ := h1 ι4 H4 (g.trans g4) r4
          cases d <;> first | exact h5.elim | skip
          refine ⟨rv.non, h5 ι4 H4 .refl r4 _ ?_⟩
          refine rep_ref (prefix_get g4.pre ?_)
          rw [← r1.len]; simp
        · rw [e] at h1; exact h1.elim
end

/-! ### methods of lists -/
def SndM (G : Gd) (r : V → List V → Hp → VK → Prop) (f : D → List D → Mem → Res D) : Prop := ∀ (ι : List Addr) (H : Hp) (μ : Mem) (x : D) (xs : List D) (v : V) (vs : List V) (W : WX) (σ : St) (Q : VK), Rel G ι H μ → Rep G ι H x v → Reps G ι H xs vs →
  Post G ι H W σ (f x xs μ) (fun ι' H' _ d => ∀ v, Rep G ι' H' d v → Q v H') → r v vs H Q
def SndTy (G : Gd) (T : String) (ty : D → Mem → Bool) : Prop := ∀ (ι : List Addr) (H : Hp) (μ : Mem) (x : D) (v : V), Rel G ι H μ → Rep G ι H x v → ty x μ = true → tyV G.K T v H
@[simp] def mMt (ty : D → Mem → Bool) (f : D → List D → Mem → Res D) (o : MD) (a : ML) : MD := fun ρ μ => (o ρ μ).bind fun x μ1 => if ty x μ1 = true then (a ρ μ1).bind fun xs μ2 => f x xs μ2 else .stuck
@[simp] def mMt0 (ty : D → Mem → Bool) (f : D → List D → Mem → Res D) (o : MD) : MD := fun ρ μ => (o ρ μ).bind fun x μ1 => if ty x μ1 = true then f x [] μ1 else .stuck
section
variable {X : Cx} {W : WX} {o e : Expr} {es : List Expr} {mo : MD} {ms : ML} {name : Str} {apos cpos : Pos} {T id : String} {r : V → List V → Hp → VK → Prop} {f : D → List D → Mem → Res D} {ty : D → Mem → Bool}
theorem se_mt0 (pa : PlainAttrs T) (slot : Slot T name id) (hty : typeOf (.builtin id) = pure (.type "method_descriptor")) (hm : MtR X id r) (hT : SndTy (gOf X) T ty) (hf : SndM (gOf X) r f) (ho : SE X W o mo)
    (hbase : attributeBase o name X.env (eval o X.env) = eval o X.env := by rfl) (hline : (apos.endLine == cpos.line) = true := by rfl) : SE X W (.Call (.Attribute o name apos) [] [] cpos) (mMt0 ty f mo) :=
  PE.mono (pe_bm0 pa slot hty hm ho hbase hline) fun σ H Q ⟨ρ, μ, ι, env, rel, h⟩ =>
    ⟨ρ, μ, ι, env, rel, (Post.bind h).imp fun ι1 H1 μ1 x _ _ ⟨g1, r1, h1⟩ v rv => by
      split at h1
      · rename_i ht
        exact ⟨hT _ _ _ _ _ r1 rv ht, hf _ _ _ _ _ _ _ _ _ _ r1 rv .nil h1⟩
      · exact h1.elim⟩
theorem se_mt (pa : PlainAttrs T) (slot : Slot T name id) (hty : typeOf (.builtin id) = pure (.type "method_descriptor")) (hm : MtR X id r) (hT : SndTy (gOf X) T ty) (hf : SndM (gOf X) r f) (ho : SE X W o mo) (ha : SA X W (e :: es) ms)
    (hbase : attributeBase o name X.env (eval o X.env) = eval o X.env := by rfl)
    (hfew : ((backTo cpos (starEach (e :: es) X.env)).all (fun x => !x.1) && (backToKw cpos (keywordEach [] X.env)).all (fun x => x.1.isSome)
      && decide ((e :: es).length + ([] : List Keyword).length + (if ([] : List Keyword).isEmpty then 0 else 1) < 30)) = true := by rfl)
    (hline : (apos.endLine == cpos.line) = true := by rfl) (hs : starEach (e :: es) X.env = (false, eval e X.env) :: starEach es X.env := by rfl) (hplain : (backTo cpos (starEach es X.env)).any (·.1) = false := by rfl) :
    SE X W (.Call (.Attribute o name apos) (e :: es) [] cpos) (mMt ty f mo ms) :=
  PE.mono (pe_bm pa slot hty hm ho ha hbase hfew hline hs hplain) fun σ H Q ⟨ρ, μ, ι, env, rel, h⟩ =>
    ⟨ρ, μ, ι, env, rel, (Post.bind h).imp fun ι1 H1 μ1 x _ _ ⟨g1, r1, h1⟩ v rv => by
      split at h1
      · rename_i ht
        refine ⟨hT _ _ _ _ _ r1 rv ht, ρ, μ1, ι1, env.ext (g1.ext rel), r1, (Post.bind h1).imp fun ι2 H2 μ2 xs _ _ ⟨g2, r2, h2⟩ vs rvs => ?_⟩
        exact hf _ _ _ _ _ _ _ _ _ _ r2 (rv.ext (g2.ext r1)) rvs h2
      · exact h1.elim⟩
end
def isLst : D → Mem → Bool
  | .ref n, μ => (match μ[n]? with
    | some (.lst _) => true
    | _ => false)
  | _, _ => false
theorem ty_list {G : Gd} : SndTy G "list" isLst := fun ι H μ x v r rx h => by
  cases x <;> first | (simp [isLst] at h; done) | skip
  simp only [isLst] at h
  split at h
  · rename_i l em
    obtain ⟨a, vs, rfl, h0, h1, h2⟩ := r.lst em rx
    exact .inl ⟨rfl, vs, .of h1⟩
  · cases h
def appendM : D → List D → Mem → Res D
  | .ref n, [y], μ => (match μ[n]? with
    | some (.lst l) => if l.length < sizeLine then .ok .non (μ.set n (.lst (l ++ [y]))) else .stuck
    | _ => .stuck)
  | _, _, _ => .stuck
def extendM : D → List D → Mem → Res D
  | .ref n, [.ref m], μ => (match μ[n]?, μ[m]? with
    | some (.lst l), some (.lst k) => if l.length + k.length ≤ sizeLine then .ok .non (μ.set n (.lst (l ++ k))) else .stuck
    | _, _ => .stuck)
  | _, _, _ => .stuck
def insertM : D → List D → Mem → Res D
  | .ref n, [.int i, y], μ => (match μ[n]? with
    | some (.lst l) => if l.length < sizeLine ∧ 0 ≤ i ∧ i < 2 ^ 63 then .ok .non (μ.set n (.lst (l.take i.toNat ++ [y] ++ l.drop i.toNat))) else .stuck
    | _ => .stuck)
  | _, _, _ => .stuck
def popM : D → List D → Mem → Res D
  | .ref n, [], μ => (match μ[n]? with
    | some (.lst l) => (match l.getLast? with
      | some y => .ok y (μ.set n (.lst l.dropLast))
      | none => .stuck)
    | _ => .stuck)
  | _, _, _ => .stuck
/-- the list at a is another one -/
theorem set_lst {G : Gd} {ι : List Addr} {H : Hp} {μ : Mem} {n : Nat} {a : Addr} {l : List D} {vs : List V} (r : Rel G ι H μ) (h0 : ι[n]? = some a) (hl : ∃ ws, H a = some (.lst ws)) (h : Reps G ι H l vs) : Grow ι H ι (upd H a (.lst vs)) ∧ Rel G ι (upd H a (.lst vs)) (μ.set n (.lst l)) :=
  grow_set (o := .lst vs) (c := .lst l) r h0 (fun _ _ e => by obtain ⟨_, q⟩ := hl; rw [q] at e; cases e) fun e => ⟨vs, upd_same, h.ext e⟩
theorem snd_append {G : Gd} : SndM G rAppend appendM := fun ι H μ x xs v vs W σ Q r rx rxs h => by
  unfold appendM at h
  split at h
  · split at h
    · rename_i l em
      split at h
      · rename_i hl
        obtain ⟨a, ws, rfl, h0, h1, h2⟩ := r.lst em rx
        obtain ⟨u, rfl, ru⟩ := rxs.one
        obtain ⟨g2, r2⟩ := set_lst r h0 ⟨_, h1⟩ (h2.append (.cons ru .nil))
        exact ⟨a, ws, u, rfl, rfl, h1, by rw [h2.length]; exact hl, h ι _ g2 r2 _ rep_non⟩
      · exact h.elim
    · exact h.elim
  · exact h.elim
theorem snd_extend {G : Gd} : SndM G rExtend extendM := fun ι H μ x xs v vs W σ Q r rx rxs h => by
  unfold extendM at h
  split at h
  · split at h
    · rename_i l k em ek
      split at h
      · rename_i hl
        obtain ⟨a, ws, rfl, h0, h1, h2⟩ := r.lst em rx
        obtain ⟨u, rfl, ru⟩ := rxs.one
        obtain ⟨b, zs, rfl, h3, h4, h5⟩ := r.lst ek ru
        obtain ⟨g2, r2⟩ := set_lst r h0 ⟨_, h1⟩ (h2.append h5)
        exact ⟨a, b, ws, zs, rfl, rfl, h1, h4, by rw [h2.length, h5.length]; exact hl, h ι _ g2 r2 _ rep_non⟩
      · exact h.elim
    · exact h.elim
  · exact h.elim
theorem snd_insert {G : Gd} : SndM G (fun x vs H Q => ∃ (l : Addr) (xs : List V) (i : Int) (y : V), x = .ref l ∧ vs = [.int i, y] ∧ H l = some (.lst xs) ∧ xs.length < sizeLine ∧ 0 ≤ i ∧ i < 2 ^ 63 ∧
    Q .non (upd H l (.lst (xs.take i.toNat ++ [y] ++ xs.drop i.toNat)))) insertM := fun ι H μ x xs v vs W σ Q r rx rxs h => by
  unfold insertM at h
  split at h
  · split at h
    · rename_i l em
      split at h
      · rename_i hl
        obtain ⟨a, ws, rfl, h0, h1, h2⟩ := r.lst em rx
        obtain ⟨u, u2, rfl, ru, ru2⟩ := rxs.two
        obtain ⟨g2, r2⟩ := set_lst r h0 ⟨_, h1⟩ (((h2.take _).append (.cons ru2 .nil)).append (h2.drop _))
        exact ⟨a, ws, _, u2, rfl, by rw [ru.int], h1, by rw [h2.length]; exact hl.1, hl.2.1, hl.2.2, h ι _ g2 r2 _ rep_non⟩
      · exact h.elim
    · exact h.elim
  · exact h.elim
theorem snd_pop {G : Gd} : SndM G rPop popM := fun ι H μ x xs v vs W σ Q r rx rxs h => by
  unfold popM at h
  split at h
  · split at h
    · rename_i l em
      split at h
      · rename_i y ey
        obtain ⟨a, ws, rfl, h0, h1, h2⟩ := r.lst em rx
        obtain ⟨u, e1, ru⟩ := h2.get (i := l.length - 1) (by rw [← List.getLast?_eq_getElem?]; exact ey)
        have h3 : Reps G ι H l.dropLast ws.dropLast := by
          rw [List.dropLast_eq_take, List.dropLast_eq_take, h2.length]; exact h2.take _
        obtain ⟨g2, r2⟩ := set_lst r h0 ⟨_, h1⟩ h3
        exact ⟨a, ws, u, rfl, rxs.nil_inv, h1, by rw [h2.length]; exact e1, h ι _ g2 r2 _ (ru.ext (g2.ext r))⟩
      · exact h.elim
    · exact h.elim
  · exact h.elim
end RW

/-! SEi: dicts. -/
namespace RW
open PySem L2
/-! ### by keys -/
def dGet : List (D × D) → D → Option D
  | [], _ => none
  | (a, d) :: r, k => if a.nk? = k.nk? then some d else dGet r k
def dHas (l : List (D × D)) (k : D) : Bool := (dGet l k).isSome
def dRep (k v : D) : List (D × D) → List (D × D)
  | [] => []
  | (a, d) :: r => (if a.nk? = k.nk? then (a, v) else (a, d)) :: dRep k v r
def dPut (l : List (D × D)) (k v : D) : List (D × D) := if dHas l k = true then dRep k v l else l ++ [(k, v)]
/-- a key that a plain dict may have, one that a dict of tuples may -/
def isK (k : D) : Bool := k.key?.isSome
def isT : D → Bool
  | .tup l => match D.nk? (.tup l) with
    | some n => decide (n.depth ≤ 8)
    | none => false
  | _ => false
def Key.nk : Key → NestedKey
  | .inl i => .num i
  | .inr s => .text s
theorem Key.nk_inj {a b : Key} : Key.nk a = Key.nk b ↔ a = b := by
  cases a <;> cases b <;> simp [Key.nk]
theorem key_nk {d : D} {k : Key} (h : d.key? = some k) : d.nk? = some (Key.nk k) := by
  cases d <;> simp [D.key?] at h <;> subst h <;> simp [D.nk?, Key.nk]
section
variable {G : Gd} {ι ι' : List Addr} {H H' : Hp}
theorem key_rep {d : D} {k : Key} {v : V} (h : d.key? = some k) (r : Rep G ι H d v) : v = kV k := by
  cases d <;> simp [D.key?] at h <;> subst h
  · exact r.int
  · exact r.str
theorem dGet_K {k : D} {kk : Key} (hk : k.key? = some kk) : ∀ {l : List (D × D)} {kvs : List (Key × V)}, Paired (RepP G ι H) l kvs →
    (dGet l k = none ∧ valV kvs kk = none) ∨ ∃ d v, dGet l k = some d ∧ valV kvs kk = some v ∧ Rep G ι H d v
  | _, _, .nil => .inl ⟨rfl, rfl⟩
  | (a, d) :: r, (q, v) :: r', .cons ⟨h1, h2⟩ t => by
    have e1 : a.nk? = some (Key.nk q) := key_nk h1
    have e2 := key_nk hk
    by_cases hq : q = kk
    · exact .inr ⟨d, v, by simp [dGet, e1, e2, hq], valV_pos hq, h2⟩
    · have hne : ¬ (a.nk? = k.nk?) := by rw [e1, e2]; simp [Key.nk_inj, hq]
      rcases dGet_K hk t with ⟨x, y⟩ | ⟨d', v', x, y, z⟩
      · exact .inl ⟨by simp [dGet, hne, x], by rw [valV_neg hq]; exact y⟩
      · exact .inr ⟨d', v', by simp [dGet, hne, x], by rw [valV_neg hq]; exact y, z⟩
theorem dRep_K {k x : D} {kk : Key} {u : V} (hk : k.key? = some kk) (rx : Rep G ι H x u) : ∀ {l : List (D × D)} {kvs : List (Key × V)}, Paired (RepP G ι H) l kvs →
    Paired (RepP G ι H) (dRep k x l) (kvs.map fun kv => if kv.1 = kk then (kv.1, u) else kv)
  | _, _, .nil => .nil
  | (a, d) :: r, (q, v) :: r', .cons ⟨h1, h2⟩ t => by
    have e1 : a.nk? = some (Key.nk q) := key_nk h1
    have e2 := key_nk hk
    have ih := dRep_K hk rx t
    unfold dRep
    rw [List.map_cons]
    by_cases hq : q = kk
    · have he : a.nk? = k.nk? := by rw [e1, e2, hq]
      rw [if_pos he]
      have : (if (q, v).1 = kk then ((q, v).1, u) else (q, v)) = (q, u) := if_pos hq
      rw [this]
      exact .cons ⟨h1, rx⟩ ih
    · have hne : ¬ (a.nk? = k.nk?) := by rw [e1, e2]; simp [Key.nk_inj, hq]
      rw [if_neg hne]
      have : (if (q, v).1 = kk then ((q, v).1, u) else (q, v)) = (q, v) := if_neg hq
      rw [this]
      exact .cons ⟨h1, h2⟩ ih
theorem Paired.snoc {α β : Type} {F : α → β → Prop} : ∀ {l : List α} {l' : List β} {a : α} {b : β}, Paired F l l' → F a b → Paired F (l ++ [a]) (l' ++ [b])
  | _, _, _, _, .nil, h => .cons h .nil
  | _, _, _, _, .cons r t, h => .cons r (Paired.snoc t h)
theorem dPut_K {k x : D} {kk : Key} {u : V} (hk : k.key? = some kk) (rx : Rep G ι H x u) {l : List (D × D)} {kvs : List (Key × V)} (p : Paired (RepP G ι H) l kvs) : Paired (RepP G ι H) (dPut l k x) (putK kvs kk u) := by
  unfold dPut putK
  rw [valV_any kk kvs]
  unfold dHas
  rcases dGet_K hk p with ⟨e1, e2⟩ | ⟨d, v, e1, e2, _⟩
  · rw [e1, e2]; exact Paired.snoc p ⟨hk, rx⟩
  · rw [e1, e2]; exact dRep_K hk rx p
/-! nested keys -/
theorem dGet_T {k : D} {kk : NestedKey} (hk : k.nk? = some kk) : ∀ {l : List (D × D)} {xs : List (NestedKey × Addr × Value)}, Paired (RepT G ι H) l xs →
    (dGet l k = none ∧ atKey xs kk = none) ∨ ∃ d p v, dGet l k = some d ∧ atKey xs kk = some p ∧ Rep G ι H d v ∧ RelV v p.2
  | _, _, .nil => .inl ⟨rfl, rfl⟩
  | (a, d) :: r, (q, b, w) :: r', .cons ⟨h1, h2, h3, v, h4, h5⟩ t => by
    by_cases hq : q = kk
    · exact .inr ⟨d, (b, w), v, by simp [dGet, show a.nk? = some q from h1, hk, hq], by simp [atKey, hq], h4, h5⟩
    · have hne : ¬ (a.nk? = k.nk?) := by rw [show a.nk? = some q from h1, hk]; simp [hq]
      rcases dGet_T hk t with ⟨x, y⟩ | ⟨d', p, v', x, y, z⟩
      · refine .inl ⟨by simp [dGet, hne, x], ?_⟩
        unfold atKey at y ⊢
        rw [List.find?_cons_of_neg (by simpa using hq)]; exact y
      · refine .inr ⟨d', p, v', by simp [dGet, hne, x], ?_, z⟩
        unfold atKey at y ⊢
        rw [List.find?_cons_of_neg (by simpa using hq)]; exact y
theorem dRep_T {k x : D} {kk : NestedKey} {u : V} {w : Value} (hk : k.nk? = some kk) (rx : Rep G ι H x u) (rw' : RelV u w) : ∀ {l : List (D × D)} {xs : List (NestedKey × Addr × Value)}, Paired (RepT G ι H) l xs →
    Paired (RepT G ι H) (dRep k x l) (xs.map (putAt kk w))
  | _, _, .nil => .nil
  | (a, d) :: r, (q, b, z) :: r', .cons ⟨h1, h2, h3, v, h4, h5⟩ t => by
    have ih := dRep_T hk rx rw' t
    unfold dRep
    rw [List.map_cons]
    unfold putAt
    by_cases hq : q = kk
    · rw [if_pos (show a.nk? = k.nk? by rw [show a.nk? = some q from h1, hk, hq]), if_pos (show (q, b, z).1 = kk from hq)]
      exact .cons ⟨h1, h2, h3, u, rx, rw'⟩ ih
    · rw [if_neg (show ¬ a.nk? = k.nk? by rw [show a.nk? = some q from h1, hk]; simp [hq]), if_neg (show ¬ (q, b, z).1 = kk from hq)]
      exact .cons ⟨h1, h2, h3, v, h4, h5⟩ ih
theorem dPut_T {k x : D} {kk : NestedKey} {t : Addr} {u : V} {w : Value} (hk : k.nk? = some kk) (hd : kk.depth ≤ 8) (rk : Rep G ι H k (.ref t)) (rx : Rep G ι H x u) (rw' : RelV u w) {l : List (D × D)} {xs : List (NestedKey × Addr × Value)} (p : Paired (RepT G ι H) l xs) :
    Paired (RepT G ι H) (dPut l k x) (storedH xs kk t w) := by
  unfold dPut storedH dHas
  rcases dGet_T hk p with ⟨e1, e2⟩ | ⟨d, v, _, e1, e2, _⟩
  · rw [e1, e2]; exact Paired.snoc p ⟨hk, hd, rk, u, rx, rw'⟩
  · rw [e1, e2]; exact dRep_T hk rx rw' p
end

/-! ### in the heap itself -/
section
variable {X : Cx} {pins : List (Addr × Obj)} {σ : St} {H : Hp} {s : Shared} {ι : List Addr}
mutual
theorem nest_of (I : Inv X pins σ H s) : ∀ (d : D) (k : NestedKey) (v : V) (u : Value), D.nk? d = some k → Rep (gOf X) ι H d v → RelV v u → NestedIs s.heap k u
  | .non, k, v, u, e, r, ru => by unfold D.nk? at e; cases e; cases r.non; cases ru; exact .none
  | .bl b, k, v, u, e, r, ru => by unfold D.nk? at e; cases e; cases r.bl; cases ru; exact .bool rfl
  | .int i, k, v, u, e, r, ru => by unfold D.nk? at e; cases e; cases r.int; obtain ⟨t, rfl⟩ := ru; exact .int i t
  | .str i, k, v, u, e, r, ru => by unfold D.nk? at e; cases e; cases r.str; obtain ⟨t, rfl⟩ := ru; exact .text i t
  | .tup l, k, v, u, e, r, ru => by
    unfold D.nk? at e
    obtain ⟨ks, e1, rfl⟩ := Option.map_eq_some_iff.mp e
    obtain ⟨a, vs, rfl, h1, h2⟩ := r.tup
    cases ru
    obtain ⟨its, rv, ⟨o, ho, hc, n, hd⟩, _⟩ := I.tuple h1
    exact .tup ho hc hd (nests_of I l ks vs its e1 h2 rv)
  | .frl _, _, _, _, e, _, _ => by unfold D.nk? at e; cases e
  | .ref _, _, _, _, e, _, _ => by unfold D.nk? at e; cases e
  | .fn _, _, _, _, e, _, _ => by unfold D.nk? at e; cases e
theorem nests_of (I : Inv X pins σ H s) : ∀ (l : List D) (ks : List NestedKey) (vs : List V) (us : List Value), D.nks? l = some ks → Reps (gOf X) ι H l vs → Vals vs us → NestedAll s.heap ks us
  | [], ks, vs, us, e, r, ru => by unfold D.nks? at e; cases e; rw [r.nil_inv] at ru; cases ru; exact .nil
  | d :: l, ks, vs, us, e, r, ru => by
    unfold D.nks? at e
    obtain ⟨v, w, rfl, h1, h2⟩ := r.cons_inv
    split at e
    · rename_i k q e1 e2
      cases e
      cases ru with
      | cons ra rb => exact .cons (nest_of I d k v _ e1 h1 ra) (nests_of I l q w _ e2 h2 rb)
    · cases e
end
/-- the dict of tuples at a, as it lies -/
def TdIs (G : Gd) (ι : List Addr) (H : Hp) (a : Addr) (l : List (D × D)) (xs : List (NestedKey × Addr × Value)) : Prop :=
  Rd H a (.ext (tdPhi G a xs)) ∧ Paired (RepT G ι H) l xs ∧ (xs.map (·.1)).Nodup ∧ xs.length ≤ sizeLine ∧ (a == sysModules) = false
theorem TdIs.dictOf {a : Addr} {l : List (D × D)} {xs : List (NestedKey × Addr × Value)} (t : TdIs (gOf X) ι H a l xs) (I : Inv X pins σ H s) : s.heap.DictOfH (nestedKind X.prog X.w) a xs := by
  obtain ⟨h1, h2, h3, _⟩ := t
  obtain ⟨⟨o, es, ep, e1, e2, e3, e4⟩, _⟩ := h1.ok I.hok
  refine ⟨o, es, ep, e1, e2, e3, e4, ?_, h3⟩
  have key : ∀ {l : List (D × D)} {xs : List (NestedKey × Addr × Value)}, Paired (RepT (gOf X) ι H) l xs → ∀ x ∈ xs, (nestedKind X.prog X.w).is s.heap x.1 x.2.1 := by
    intro l xs p
    induction p with
    | nil => exact fun x hx => nomatch hx
    | cons h t ih =>
      intro x hx
      rcases List.mem_cons.mp hx with e | hx
      · subst e; exact ⟨nest_of I _ _ _ _ h.1 h.2.2.1 rfl, h.2.1⟩
      · exact ih x hx
  exact key h2
theorem td_obj {P : Program} {w : World} {H' : Hp} {h' : Heap} {G : Gd} {a : Addr} {xs : List (NestedKey × Addr × Value)} (d : h'.DictOfH (nestedKind G.P G.w) a xs) : ObjOk P w H' h' a (.ext (tdPhi G a xs)) := by
  obtain ⟨o, es, ep, e1, e2, e3, e4, _⟩ := d
  exact ⟨⟨o, es, ep, e1, e2, e3, e4⟩, ⟨o, e1⟩, fun h1 h2 ⟨o, es, ep, e1, e2⟩ k => ⟨o, es, ep, k _ e1, e2⟩⟩
end

/-! ### by values: both kinds of dict -/
/-- the dict at a holds r at the key y -/
@[reducible] def AtIs (xs : List (NestedKey × Addr × Value)) (kk : NestedKey) (r : Option V) : Prop := match r with
  | none => atKey xs kk = none
  | some v => ∃ p, atKey xs kk = some p ∧ RelV v p.2
def DIs (G : Gd) (H : Hp) (a : Addr) (y : V) (r : Option V) : Prop := DGet H a y r ∨
  ∃ ι l xs k kk t, TdIs G ι H a l xs ∧ Rep G ι H k (.ref t) ∧ y = .ref t ∧ D.nk? k = some kk ∧ kk.depth ≤ 8 ∧ AtIs xs kk r
section
variable {X : Cx} {pins : List (Addr × Obj)} {σ : St} {H : Hp} {s : Shared} {a : Addr} {y v : V} {u : Value} {o : Option V}
theorem di_typeIs (I : Inv X pins σ H s) (g : DIs (gOf X) H a y o) : s.TypeIs (.ref a) "dict" := by
  rcases g with g | ⟨ι, l, xs, k, kk, t, h, _⟩
  · exact dict_typeIs I g
  · exact (h.dictOf I).typeIs
theorem di_getItem {Q : Value → Shared → Prop} (hu : X.A.units + 64 < cLine) (I : Inv X pins σ H s) (g : DIs (gOf X) H a y (some v)) (ry : RelV y u) (h : ∀ w' s', Inv X pins σ H s' → RelV v w' → Q w' s') :
    wpAny (model X.prog X.w) X.A (getItem (.ref a) u) Q X.xe s := by
  rcases g with g | ⟨ι, l, xs, k, kk, t, hd, rk, ey, hk, hk8, p, hp, rp⟩
  · exact d_getItem (by omega) I g ry h
  · subst ey
    cases (show u = Value.ref t from ry)
    refine wpAny_getItem_heap (knd := nestedKind X.prog X.w) (by show X.A.units + 1 + 8 < cLine; omega) ⟨nest_of I k kk _ _ hk rk rfl, hk8⟩ (hd.dictOf I) hp ?_
    exact h p.2 _ (I.tok _) rp
theorem di_in {Q : Value → Shared → Prop} (hu : X.A.units + 64 < cLine) (I : Inv X pins σ H s) (g : DIs (gOf X) H a y o) (ry : RelV y u) (h : ∀ s', Inv X pins σ H s' → Q (.bool o.isSome) s') :
    wpAny (model X.prog X.w) X.A (compareOp .In u (.ref a)) Q X.xe s := by
  rcases g with g | ⟨ι, l, xs, k, kk, t, hd, rk, ey, hk, hk8, hp⟩
  · exact d_in (by omega) I g ry h
  · subst ey
    cases (show u = Value.ref t from ry)
    refine wpAny_in_heap (knd := nestedKind X.prog X.w) (by show X.A.units + 1 + 8 < cLine; omega) ⟨nest_of I k kk _ _ hk rk rfl, hk8⟩ hd.2.2.2.2 (hd.dictOf I) ?_
    have e : (atKey xs kk).isSome = o.isSome := by
      cases o with
      | none => rw [show atKey xs kk = none from hp]; rfl
      | some v => obtain ⟨p, e, _⟩ := hp; rw [e]; rfl
    rw [e]
    exact h _ (I.tok _)
theorem di_notIn {Q : Value → Shared → Prop} (hu : X.A.units + 64 < cLine) (I : Inv X pins σ H s) (g : DIs (gOf X) H a y o) (ry : RelV y u) (h : ∀ s', Inv X pins σ H s' → Q (.bool (!o.isSome)) s') :
    wpAny (model X.prog X.w) X.A (compareOp .NotIn u (.ref a)) Q X.xe s := by
  rcases g with g | ⟨ι, l, xs, k, kk, t, hd, rk, ey, hk, hk8, hp⟩
  · exact d_notIn (by omega) I g ry h
  · subst ey
    cases (show u = Value.ref t from ry)
    refine PyProof.Rows.wpAny_notIn_heap (knd := nestedKind X.prog X.w) (by show X.A.units + 1 + 8 < cLine; omega) ⟨nest_of I k kk _ _ hk rk rfl, hk8⟩ hd.2.2.2.2 (hd.dictOf I) ?_
    have e : (atKey xs kk).isSome = o.isSome := by
      cases o with
      | none => rw [show atKey xs kk = none from hp]; rfl
      | some v => obtain ⟨p, e, _⟩ := hp; rw [e]; rfl
    rw [e]
    exact h _ (I.tok _)
end
def rInD (G : Gd) : R2 := fun x y H Q => ∃ a o, y = .ref a ∧ DIs G H a x o ∧ Q (.bl o.isSome) H
def rNotInD (G : Gd) : R2 := fun x y H Q => ∃ a o, y = .ref a ∧ DIs G H a x o ∧ Q (.bl (!o.isSome)) H
def rIxD (G : Gd) : R2 := fun x y H Q => ∃ a v, x = .ref a ∧ DIs G H a y (some v) ∧ Q v H
section
variable {X : Cx}
theorem op_inD (hu : X.A.units + 64 < cLine) : OpR X (compareOp .In) (rInD (gOf X)) := by
  intro pins s σ H x y v u Q I rx ry ⟨a, o, ey, g, q⟩
  subst ey; cases ry
  exact di_in hu I g rx fun s' I' => ⟨.bl o.isSome, H, I', rfl, q⟩
theorem op_notInD (hu : X.A.units + 64 < cLine) : OpR X (compareOp .NotIn) (rNotInD (gOf X)) := by
  intro pins s σ H x y v u Q I rx ry ⟨a, o, ey, g, q⟩
  subst ey; cases ry
  exact di_notIn hu I g rx fun s' I' => ⟨.bl (!o.isSome), H, I', rfl, q⟩
open PyProof.Rows (subscriptTail) in
theorem ix_dict (hu : X.A.units + 64 < cLine) : IxR X (rIxD (gOf X)) := by
  intro value slice pins s σ H x y v u Q I rx ry ⟨a, z, ex, g, q⟩ hs
  subst ex; cases rx
  have hT := di_typeIs I g
  unfold subscriptTail
  refine wpAny_bind ?_
  rw [getitemInPython_of_ne hT.not_modules]
  refine wpAny_bind (wpAny_specialOf hT PySem.F.slot_dict_getitem.lookup ?_)
  have fin : wpAny (model X.prog X.w) X.A (subscripted slice false (.ref a) u) (fun r s₃ => wpAny (model X.prog X.w) X.A (letTemporaryGo value (.ref a) r >>= fun _ => pure r) (EP X pins σ Q) X.xe s₃) X.xe s := by
    rw [hs]
    exact wpAny_operating (di_getItem hu I g ry fun w' s' I' r' => wpAny_bind (wpAny_letTemporaryGo (wpAny_pure ⟨z, H, I', r', q⟩)))
  first
    | exact wpAny_pure (wpAny_bind fin)
    | exact wpAny_bind (wpAny_pure (wpAny_bind fin))
    | exact wpAny_bind fin
end
/-! ### mirrors -/
def dictD (l : List (D × D)) (t : Bool) (k : D) : Option (Option D) := if (if t = true then isT k else isK k) = true then some (dGet l k) else none
def dictAt (x : D) (k : D) (μ : Mem) : Option (Option D) := match x with
  | .ref n => (match μ[n]? with
    | some (.dic l) => if isK k = true then some (dGet l k) else none
    | some (.tdic l) => if isT k = true then some (dGet l k) else none
    | some (.lck false l) => if isK k = true then some (dGet l k) else none
    | some (.lck true l) => if isT k = true then some (dGet l k) else none
    | _ => none)
  | _ => none
def inDD (k x : D) (μ : Mem) : Res D := match dictAt x k μ with
  | some o => .ok (.bl o.isSome) μ
  | none => .stuck
def notInDD (k x : D) (μ : Mem) : Res D := match dictAt x k μ with
  | some o => .ok (.bl (!o.isSome)) μ
  | none => .stuck
def idxDD (x k : D) (μ : Mem) : Res D := match dictAt x k μ with
  | some (some d) => .ok d μ
  | _ => .stuck
section
variable {G : Gd} {ι : List Addr} {H : Hp} {μ : Mem}
theorem isT_key {k : D} (h : isT k = true) : ∃ l kk, k = .tup l ∧ D.nk? k = some kk ∧ kk.depth ≤ 8 := by
  cases k <;> first | (simp [isT] at h; done) | skip
  rename_i l
  simp only [isT] at h
  split at h
  · rename_i n e
    exact ⟨l, n, rfl, e, of_decide_eq_true h⟩
  · cases h
theorem dictAt_is {x k : D} {v u : V} {o : Option D} (r : Rel G ι H μ) (rx : Rep G ι H x v) (rk : Rep G ι H k u) (h : dictAt x k μ = some o) :
    ∃ a w, v = .ref a ∧ DIs G H a u w ∧ w.isSome = o.isSome ∧ ∀ d, o = some d → ∃ z, w = some z ∧ Rep G ι H d z := by
  have K1 : ∀ {n : Nat} {l : List (D × D)} {a : Addr} {kvs : List (Key × V)}, x = .ref n → ι[n]? = some a → Rd H a (.dK kvs) → Paired (RepP G ι H) l kvs → isK k = true → some (dGet l k) = some o →
      ∃ a w, v = .ref a ∧ DIs G H a u w ∧ w.isSome = o.isSome ∧ ∀ d, o = some d → ∃ z, w = some z ∧ Rep G ι H d z := by
    intro n l a kvs ex h0 h1 h2 hk ho
    subst ex; cases ho
    obtain ⟨a', h0', rfl⟩ := rx.ref
    obtain rfl : a = a' := by rw [h0] at h0'; cases h0'; rfl
    unfold isK at hk
    obtain ⟨kk, ek⟩ := Option.isSome_iff_exists.mp hk
    have eu := key_rep ek rk
    subst eu
    have g : DGet H a (kV kk) (valV kvs kk) := .inl ⟨kvs, kk, h1, rfl, rfl⟩
    rcases dGet_K ek h2 with ⟨e1, e2⟩ | ⟨d, z, e1, e2, e3⟩
    · refine ⟨a, none, rfl, .inl (by rw [← e2]; exact g), by rw [e1]; rfl, fun d ed => by rw [e1] at ed; cases ed⟩
    · exact ⟨a, some z, rfl, .inl (by rw [← e2]; exact g), by rw [e1]; rfl, fun d' ed => by rw [e1] at ed; cases ed; exact ⟨z, rfl, e3⟩⟩
  have K2 : ∀ {n : Nat} {l : List (D × D)} {a : Addr} {xs : List (NestedKey × Addr × Value)}, x = .ref n → ι[n]? = some a → TdIs G ι H a l xs → isT k = true → some (dGet l k) = some o →
      ∃ a w, v = .ref a ∧ DIs G H a u w ∧ w.isSome = o.isSome ∧ ∀ d, o = some d → ∃ z, w = some z ∧ Rep G ι H d z := by
    intro n l a xs ex h0 h1 hk ho
    subst ex; cases ho
    obtain ⟨a', h0', rfl⟩ := rx.ref
    obtain rfl : a = a' := by rw [h0] at h0'; cases h0'; rfl
    obtain ⟨kl, kk, ekl, ek, ek8⟩ := isT_key hk
    subst ekl
    obtain ⟨t, ts, eu, _, _⟩ := id rk.tup
    subst eu
    rcases dGet_T ek h1.2.1 with ⟨e1, e2⟩ | ⟨d, p, z, e1, e2, e3, e4⟩
    · exact ⟨a, none, rfl, .inr ⟨ι, l, xs, .tup kl, kk, t, h1, rk, rfl, ek, ek8, e2⟩, by rw [e1]; rfl, fun d ed => by rw [e1] at ed; cases ed⟩
    · exact ⟨a, some z, rfl, .inr ⟨ι, l, xs, .tup kl, kk, t, h1, rk, rfl, ek, ek8, p, e2, e4⟩, by rw [e1]; rfl, fun d' ed => by rw [e1] at ed; cases ed; exact ⟨z, rfl, e3⟩⟩
  unfold dictAt at h
  split at h
  · rename_i n
    obtain ⟨a, h0, _⟩ := rx.ref
    split at h
    · rename_i l em
      obtain ⟨kvs, h1, h2⟩ := r.cell n _ a em h0
      split at h
      · rename_i hk; exact K1 rfl h0 (.inl h1) h2 hk h
      · cases h
    · rename_i l em
      obtain ⟨xs, h1⟩ := r.cell n _ a em h0
      split at h
      · rename_i hk; exact K2 rfl h0 ⟨.inl h1.1, h1.2⟩ hk h
      · cases h
    · rename_i l em
      obtain ⟨od, kvs, h1, h2⟩ := r.cell n _ a em h0
      split at h
      · rename_i hk; exact K1 rfl h0 (.inr ⟨od, h1⟩) h2 hk h
      · cases h
    · rename_i l em
      obtain ⟨od, xs, h1⟩ := r.cell n _ a em h0
      split at h
      · rename_i hk; exact K2 rfl h0 ⟨.inr ⟨od, h1.1⟩, h1.2⟩ hk h
      · cases h
    · cases h
  · cases h
theorem snd_inD : Snd2 G (rInD G) inDD := fun ι H μ x y v u W σ Q r rx ry h => by
  unfold inDD at h
  split at h
  · rename_i o e
    obtain ⟨a, w, rfl, h1, h2, _⟩ := dictAt_is r ry rx e
    exact ⟨a, w, rfl, h1, by rw [h2]; exact h ι H .refl r _ (rep_bl _)⟩
  · exact h.elim
theorem snd_notInD : Snd2 G (rNotInD G) notInDD := fun ι H μ x y v u W σ Q r rx ry h => by
  unfold notInDD at h
  split at h
  · rename_i o e
    obtain ⟨a, w, rfl, h1, h2, _⟩ := dictAt_is r ry rx e
    exact ⟨a, w, rfl, h1, by rw [h2]; exact h ι H .refl r _ (rep_bl _)⟩
  · exact h.elim
theorem snd_ixD : Snd2 G (rIxD G) idxDD := fun ι H μ x y v u W σ Q r rx ry h => by
  unfold idxDD at h
  split at h
  · rename_i d e
    obtain ⟨a, w, rfl, h1, _, h3⟩ := dictAt_is r rx ry e
    obtain ⟨z, rfl, rz⟩ := h3 d rfl
    exact ⟨a, z, rfl, h1, h ι H .refl r _ rz⟩
  · exact h.elim
end
section
variable {X : Cx} {W : WX} {a b : Expr} {ma mb : MD} {pos : Pos}
theorem se_idxD (hu : X.A.units + 64 < cLine) (ha : SE X W a ma) (hb : SE X W b mb) (hs : PlainIx b := by exact fun _ _ => rfl) : SE X W (.Subscript a b pos) (mBin idxDD ma mb) :=
  PE.mono (pe_ix (ix_dict hu) ha hb hs) fun σ H Q h => bin_red snd_ixD h
end
end RW

/-! SEj: dicts stored, made, walked. -/
namespace RW
open PySem L2
/-! ### a[k] = v of lists and dicts -/
def rSetT (G : Gd) : TSet := fun o i v H Q => ∃ a ι l xs k kk t, o = .ref a ∧ H a = some (.ext (tdPhi G a xs)) ∧ TdIs G ι H a l xs ∧ Rep G ι H k (.ref t) ∧ i = .ref t ∧ D.nk? k = some kk ∧ kk.depth ≤ 8 ∧ xs.length < sizeLine ∧
  ∀ w, RelV v w → Q (upd H a (.ext (tdPhi G a (storedH xs kk t w))))
def rSetK : TSet := fun o i v H Q => ∃ a H', o = .ref a ∧ DPut H a i v H' ∧ Q H'
def rSetA (G : Gd) : TSet := fun o i v H Q => rSetL o i v H Q ∨ rSetK o i v H Q ∨ rSetT G o i v H Q
section
variable {X : Cx}
theorem PSet.or {t t' : TSet} (h : PSet X t) (h' : PSet X t') : PSet X (fun o i v H Q => t o i v H Q ∨ t' o i v H Q) := fun pins s σ H o i v ov iv u Q I r1 r2 r3 q => q.elim (h pins s σ H o i v ov iv u Q I r1 r2 r3) (h' pins s σ H o i v ov iv u Q I r1 r2 r3)
theorem set_K (hu : X.A.units + 64 < cLine) : PSet X rSetK := by
  intro pins s σ H o i v ov iv u Q I ro ri rv ⟨a, H', eo, g, q⟩
  subst eo; cases ro
  exact d_setItem (by omega) I g ri rv fun s' I' => ⟨H', I', q⟩
theorem set_T (hu : X.A.units + 64 < cLine) : PSet X (rSetT (gOf X)) := by
  intro pins s σ H o i v ov iv u Q I ro ri rv ⟨a, ι, l, xs, k, kk, t, eo, ha, hd, rk, ei, hk, hk8, hz, q⟩
  subst eo; cases ro
  subst ei; cases ri
  refine wpAny_setItem_heap (knd := nestedKind X.prog X.w) (by show X.A.units + 1 + 8 < cLine; omega) ⟨nest_of I k kk _ _ hk rk rfl, hk8⟩ (hd.dictOf I) (fun h' hm' hs => ?_) (Nat.le_of_lt hz)
  refine ⟨_, ?_, q u rv⟩
  refine I.write (x := a) (e := a) (by rw [ha]; trivial) (.inl rfl) (fun b ob hb e => (hs.2 b hb).trans e) ?_ (td_obj (G := gOf X) hm')
  obtain ⟨ob, _, _, e, _⟩ := hm'
  exact ⟨ob, e⟩
end
def setDD (o k d : D) (μ : Mem) : Res Unit := match o with
  | .ref n => (match μ[n]? with
    | some (.lst l) => setLD o k d μ
    | some (.dic l) => if isK k = true ∧ l.length < sizeLine then .ok () (μ.set n (.dic (dPut l k d))) else .stuck
    | some (.tdic l) => if isT k = true ∧ l.length < sizeLine then .ok () (μ.set n (.tdic (dPut l k d))) else .stuck
    | _ => .stuck)
  | _ => .stuck
theorem snd_setA {G : Gd} : SndSet G (rSetA G) setDD := fun ι H μ o i x ov iv v W σ Q r ro ri rx h => by
  cases o <;> first | exact h.elim | skip
  rename_i n
  simp only [setDD] at h
  split at h
  · exact .inl (snd_setL ι H μ (.ref n) i x ov iv v W σ Q r ro ri rx h)
  · rename_i l em
    split at h
    · rename_i hk
      obtain ⟨a, h0, rfl⟩ := ro.ref
      obtain ⟨kvs, h1, h2⟩ := r.cell n _ a em h0
      obtain ⟨kk, ek⟩ := Option.isSome_iff_exists.mp (show (D.key? i).isSome = true from hk.1)
      obtain rfl := key_rep ek ri
      have hlen : l.length = kvs.length := Paired.length h2
      obtain ⟨g2, r2⟩ := grow_set (o := .dK (putK kvs kk v)) (c := .dic (dPut l i x)) r h0 (fun _ _ e => by rw [h1] at e; cases e) fun e => ⟨_, upd_same, Paired.imp' (dPut_K ek rx h2) fun _ _ z => ⟨z.1, z.2.ext e⟩⟩
      exact .inr (.inl ⟨a, _, rfl, .k h1 (by omega), h ι _ g2 r2⟩)
    · exact h.elim
  · rename_i l em
    split at h
    · rename_i hk
      obtain ⟨a, h0, rfl⟩ := ro.ref
      obtain ⟨xs, h1⟩ := r.cell n _ a em h0
      obtain ⟨kl, kk, ekl, ek, ek8⟩ := isT_key hk.1
      subst ekl
      obtain ⟨t, ts, eu, _, _⟩ := id ri.tup
      subst eu
      have hlen : l.length = xs.length := Paired.length h1.2.1
      refine .inr (.inr ⟨a, ι, l, xs, .tup kl, kk, t, rfl, h1.1, ⟨.inl h1.1, h1.2⟩, ri, rfl, ek, ek8, by omega, fun w hw => ?_⟩)
      have hn : ((storedH xs kk t w).map (·.1)).Nodup ∧ (storedH xs kk t w).length ≤ sizeLine := by
        have nd := h1.2.2.1
        have hl : (storedH xs kk t w).length ≤ xs.length + 1 := by unfold storedH; split <;> simp
        refine ⟨?_, by omega⟩
        unfold storedH
        split
        · rw [keys_map_putAt]; exact nd
        · rename_i hf
          rw [List.map_append, List.nodup_append]
          refine ⟨nd, by simp, fun b hb c hc => ?_⟩
          simp at hc; subst hc
          rintro rfl
          apply hf
          cases e : atKey xs b with
          | some p => rfl
          | none =>
            exfalso
            obtain ⟨y, hy, rfl⟩ := List.mem_map.mp hb
            unfold atKey at e
            rw [Option.map_eq_none_iff, List.find?_eq_none] at e
            exact e y hy (by simp)
      obtain ⟨g2, r2⟩ := grow_set (o := .ext (tdPhi G a (storedH xs kk t w))) (c := .tdic (dPut l (.tup kl) x)) r h0 (fun _ _ e => by rw [h1.1] at e; cases e) fun e => ⟨_, upd_same, Paired.imp' (dPut_T ek ek8 ri rx hw h1.2.1) fun _ _ z => ⟨z.1, z.2.1, z.2.2.1.ext e, let ⟨v, z1, z2⟩ := z.2.2.2; ⟨v, z1.ext e, z2⟩⟩, hn.1, hn.2, h1.2.2.2.2⟩
      exact h ι _ g2 r2
    · exact h.elim
  · exact h.elim
section
variable {X : Cx} {W : WX} {pos : Pos} {o i : Expr} {mo mi : MD}
theorem sg_set (hu : X.A.units + 64 < cLine) (ho : SE X W o mo) (hi : SE X W i mi)
    (ha : ∀ v, assign (.Subscript o i pos) X.env v = (do
      let ov ← holding [v] (eval o X.env)
      let iv ← holding [v, ov] (eval i X.env)
      standAt pos
      holding [v, ov, iv] (setItem ov iv v)
      release [v, ov, iv] []) := by intro _; rfl) : SG X W (.Subscript o i pos) (gSubM setDD mo mi) :=
  sg_sub ho hi (PSet.or set_list (PSet.or (set_K hu) (set_T hu))) snd_setA ha
end
/-! ### a[b] of anything -/
def idxA (x i : D) (μ : Mem) : Res D := match x with
  | .ref n => (match μ[n]? with
    | some (.lst l) => idxD x i μ
    | _ => idxDD x i μ)
  | _ => idxD x i μ
def rIxA (G : Gd) : R2 := fun x y H Q => rIx G.K x y H Q ∨ rIxD G x y H Q
theorem snd_ixA {G : Gd} : Snd2 G (rIxA G) idxA := fun ι H μ x y v u W σ Q r rx ry h => by
  unfold idxA at h
  split at h
  · split at h
    · exact .inl (snd_idx ι H μ _ y v u W σ Q r rx ry h)
    · exact .inr (snd_ixD ι H μ _ y v u W σ Q r rx ry h)
  · exact .inl (snd_idx ι H μ _ y v u W σ Q r rx ry h)
section
variable {X : Cx} {W : WX} {a b : Expr} {ma mb : MD} {pos : Pos}
theorem se_ix (hu : X.A.units + 64 < cLine) (ha : SE X W a ma) (hb : SE X W b mb) (hs : PlainIx b := by exact fun _ _ => rfl) : SE X W (.Subscript a b pos) (mBin idxA ma mb) :=
  PE.mono (pe_ix (IxR.or ix_seq (ix_dict hu)) ha hb hs) fun σ H Q h => bin_red snd_ixA h
end
/-! ### x in y -/
def inA (x y : D) (μ : Mem) : Res D := match y with
  | .ref n => (match μ[n]? with
    | some (.lst l) => .stuck
    | _ => inDD x y μ)
  | _ => .stuck

/-! ### {} and {k: v, ..} -/
def mDicNew : MD := fun _ μ => .ok (.ref μ.length) (μ ++ [.dic []])
def mTdicNew : MD := fun _ μ => .ok (.ref μ.length) (μ ++ [.tdic []])
section
variable {X : Cx} {W : WX} {pos : Pos}
theorem se_dicNew : SE X W (.Dict [] [] pos) mDicNew := PE.mono pe_dnewK fun σ H Q ⟨ρ, μ, ι, env, rel, h⟩ p hp => by
  obtain ⟨g2, r2⟩ := grow_cell (o := .dK []) (c := .dic []) rel hp fun x => ⟨[], upd_same, .nil⟩
  exact h _ _ g2 r2 _ (rep_new (r := rel))
theorem td_empty {P : Program} {w : World} {H : Hp} {G : Gd} (h : Heap) : ObjOk P w H (h.push { cls := .type "dict", data := .dict #[] }) h.objs.size (.ext (tdPhi G h.objs.size [])) :=
  td_obj (Heap.DictOfH.new h)
theorem pe_dnewN : PE X (.Dict [] [] pos) (fun _ H Q => ∀ p, H p = none → (p == sysModules) = false → Q (.ref p) (upd H p (.ext (tdPhi (gOf X) p [])))) := ⟨fun pins s σ H Q I h =>
  wpAny_Dict_empty ⟨.ref s.heap.objs.size, _, I.laid (a := s.heap.objs.size) (o := .ext (tdPhi (gOf X) s.heap.objs.size [])) (t' := s.toks) (fun _ _ q => Heap.get?_push_of_some _ q) (Nat.le_refl _) (td_empty s.heap), rfl, h _ (I.hok.fresh (Nat.le_refl _)) (beq_eq_false_iff_ne.mpr (Ne.symm (Nat.ne_of_lt I.big)))⟩⟩
theorem se_tdicNew : SE X W (.Dict [] [] pos) mTdicNew := PE.mono pe_dnewN fun σ H Q ⟨ρ, μ, ι, env, rel, h⟩ p hp hs => by
  obtain ⟨g2, r2⟩ := grow_cell (o := .ext (tdPhi (gOf X) p [])) (c := .tdic []) rel hp fun x => ⟨[], upd_same, .nil, by simp, Nat.zero_le _, hs⟩
  exact h _ _ g2 r2 _ (rep_new (r := rel))
end
/-- the pairs of a display -/
@[simp] def mPairs : List (MD × MD) → Rho → Mem → Res (List (D × D))
  | [], _, μ => .ok [] μ
  | (k, v) :: r, ρ, μ => (k ρ μ).bind fun x μ1 => (v ρ μ1).bind fun y μ2 => (mPairs r ρ μ2).bind fun l μ3 => .ok ((x, y) :: l) μ3
def dicOf : List (D × D) → List (D × D) := fun l => l.foldl (fun acc p => dPut acc p.1 p.2) []
@[simp] def mDic (ps : List (MD × MD)) : MD := fun ρ μ => (mPairs ps ρ μ).bind fun l μ1 => if l.length ≤ 15 ∧ l.all (fun p => isK p.1) = true then .ok (.ref μ1.length) (μ1 ++ [.dic (dicOf l)]) else .stuck
@[simp] def mTdic (ps : List (MD × MD)) : MD := fun ρ μ => (mPairs ps ρ μ).bind fun l μ1 => if l.length ≤ 15 ∧ l.all (fun p => isT p.1) = true then .ok (.ref μ1.length) (μ1 ++ [.tdic (dicOf l)]) else .stuck
section
variable {X : Cx} {W : WX}
theorem pairs_red {σ : St} {ρ : Rho} : ∀ {ps : List (MD × MD)} {ι : List Addr} {H : Hp} {μ : Mem} {k : List Addr → Hp → Mem → List (D × D) → Prop} {Q : List (V × V) → Hp → Prop}, EnvOk (gOf X) ι H ρ σ → Rel (gOf X) ι H μ → Post (gOf X) ι H W σ (mPairs ps ρ μ) k →
    (∀ ι' H' μ' l vs, Grow ι H ι' H' → Rel (gOf X) ι' H' μ' → Paired (fun (p : D × D) (q : V × V) => Rep (gOf X) ι' H' p.1 q.1 ∧ Rep (gOf X) ι' H' p.2 q.2) l vs → k ι' H' μ' l → Q vs H') →
    tPairs (ps.map fun p => (tE (gOf X) W p.1, tE (gOf X) W p.2)) σ H Q
  | [], ι, H, μ, k, Q, env, rel, h, f => f ι H μ [] [] .refl rel .nil (h ι H .refl rel)
  | (mk, mv) :: ps, ι, H, μ, k, Q, env, rel, h, f => by
    simp only [mPairs] at h
    refine ⟨ρ, μ, ι, env, rel, (Post.bind h).imp fun ι1 H1 μ1 x _ _ ⟨g1, r1, h1⟩ v rv => ?_⟩
    have env1 := env.ext (g1.ext rel)
    refine ⟨ρ, μ1, ι1, env1, r1, (Post.bind h1).imp fun ι2 H2 μ2 y _ _ ⟨g2, r2, h2⟩ u ru => ?_⟩
    have env2 := env1.ext (g2.ext r1)
    refine pairs_red (ps := ps) env2 r2 (Post.bind h2) fun ι3 H3 μ3 l vs g3 r3 pr ⟨_, _, h3⟩ => ?_
    exact f ι3 H3 μ3 ((x, y) :: l) ((v, u) :: vs) ((g1.trans g2).trans g3) r3 (.cons ⟨(rv.ext (g2.ext r1)).ext (g3.ext r2), ru.ext (g3.ext r2)⟩ pr) (h3 ι3 H3 .refl r3)
theorem dic_fold {G : Gd} {ι : List Addr} {H : Hp} : ∀ {l : List (D × D)} {vs : List (V × V)} {acc : List (D × D)} {kvs : List (Key × V)}, Paired (fun (p : D × D) (q : V × V) => Rep G ι H p.1 q.1 ∧ Rep G ι H p.2 q.2) l vs → l.all (fun p => isK p.1) = true → Paired (RepP G ι H) acc kvs →
    ∃ more : List (Key × V), vs = more.map (fun kv => (kV kv.1, kv.2)) ∧ Paired (RepP G ι H) (l.foldl (fun acc p => dPut acc p.1 p.2) acc) (mergeK kvs more)
  | _, _, acc, kvs, .nil, _, p => ⟨[], rfl, p⟩
  | (k, x) :: l, (u, y) :: vs, acc, kvs, .cons ⟨h1, h2⟩ t, hk, p => by
    rw [List.all_cons, Bool.and_eq_true] at hk
    obtain ⟨kk, ek⟩ := Option.isSome_iff_exists.mp (show (D.key? k).isSome = true from hk.1)
    obtain rfl : u = kV kk := key_rep ek h1
    obtain ⟨more, e1, e2⟩ := dic_fold t hk.2 (dPut_K ek h2 p)
    exact ⟨(kk, y) :: more, by rw [e1]; rfl, e2⟩
theorem Post.bindB {ι ι' : List Addr} {H H' : Hp} {σ : St} {α β : Type} {r : Res α} {f : α → Mem → Res β} {kk : List Addr → Hp → Mem → β → Prop} {G : Gd} (h : Post G ι H W σ (r.bind f) kk) (g : Grow ι H ι' H') :
    Post G ι' H' W σ r fun _ _ μ2 a => Post G ι H W σ (f a μ2) kk := by
  cases r with
  | ok a m => exact fun ι2 H2 g2 r2 => h
  | exc c fs m => exact fun ι2 H2 cls dx g2 r e => h ι2 H2 cls dx (g.trans g2) r e
  | stuck => exact h
theorem se_dic {keys : List (Option Expr)} {values : List Expr} {pos : Pos} {ps : List (MD × MD)} (h : PPs X pos keys values (ps.map fun p => (tE (gOf X) W p.1, tE (gOf X) W p.2))) (hall : keys.all (·.isSome) = true) (hl : keys.length = values.length) (h0 : keys ≠ []) (h15 : keys.length ≤ 15) :
    SE X W (.Dict keys values pos) (mDic ps) :=
  PE.mono (pe_disp h hall hl h0 h15) fun σ H Q ⟨ρ, μ, ι, env, rel, h⟩ p hp => by
    obtain ⟨gD, rD⟩ := grow_laid (o := .dK []) rel hp
    have hpn := rel.notNone hp
    refine pairs_red (env.ext (gD.ext rel)) rD (Post.bindB h gD) fun ι1 H1 μ1 l vs g1 r1 pr h1 => ?_
    have e1 : H1 p = some (.dK []) := g1.keep _ _ upd_same hpn
    have hn1 : p ∉ ι1 := fun z => (g1.new p z).elim hpn fun z => by rw [upd_same] at z; cases z
    split at h1
    · rename_i hc
      obtain ⟨more, e2, e3⟩ := dic_fold (acc := []) (kvs := []) pr hc.2 .nil
      have hlen : l.length = vs.length := Paired.length pr
      refine ⟨e1, more, e2, by rw [e2] at hlen; simp at hlen; omega, ?_⟩
      -- the dict is adopted
      have ex : Ext ι1 H1 (ι1 ++ [p]) (upd H1 p (.dK (mergeK [] more))) := ⟨List.prefix_append _ _, fun a xs z => by rw [upd_ne (fun q => by rw [q, e1] at z; cases z)]; exact z, fun a o u z _ => by rw [upd_ne (fun q => by rw [q, e1] at z; cases z)]; exact z⟩
      have ex1 : Ext ι1 H1 ι1 (upd H1 p (.dK (mergeK [] more))) := ⟨List.prefix_refl _, ex.tup, ex.frz⟩
      have r2 : Rel (gOf X) ι1 (upd H1 p (.dK (mergeK [] more))) μ1 := ⟨r1.len, r1.nd, fun j c a q1 q2 => (r1.cell j c a q1 q2).ext ex1 (upd_ne fun q => hn1 (q ▸ List.mem_of_getElem? q2))⟩
      have r3 := grow_adopt (c := .dic (dicOf l)) r2 hn1 ⟨_, upd_same, Paired.imp' e3 fun _ _ z => ⟨z.1, z.2.ext ex⟩⟩
      have gA := gD.trans g1
      refine h1 (ι1 ++ [p]) _ ⟨gA.pre.trans (List.prefix_append _ _), fun a o z na => ?_, fun a ha => ?_, fun a o u z => by rw [upd_ne (fun q => by rw [q, hp] at z; cases z)]; exact gA.lock a o u z⟩ r3 _ (rep_new (r := r1))
      · rw [upd_ne (fun q => by rw [q, hp] at z; cases z)]; exact gA.keep a o z na
      · rcases List.mem_append.mp ha with z | z
        · exact gA.new a z
        · simp at z; subst z; exact .inr hp
    · exact h1.elim
/-! keys that are tuples -/
def NkL (G : Gd) (H : Hp) : List (V × V) → List (NestedKey × Addr × V) → Prop := Paired fun p x => p.1 = .ref x.2.1 ∧ p.2 = x.2.2 ∧ x.1.depth ≤ 8 ∧ ∃ ι k, Rep G ι H k (.ref x.2.1) ∧ D.nk? k = some x.1
def tDispT (G : Gd) (trs : List (TE × TE)) : TE := fun σ H Q => ∀ p, H p = none → (p == sysModules) = false → tPairs trs σ (upd H p (.ext (tdPhi G p []))) fun ps H2 => H2 p = some (.ext (tdPhi G p [])) ∧ ∃ ks : List (NestedKey × Addr × V), NkL G H2 ps ks ∧ ps.length ≤ 15 ∧
  ∀ ws : List Value, Vals (ks.map fun x => x.2.2) ws → Q (.ref p) (upd H2 p (.ext (tdPhi G p (storedAllH [] (List.zipWith (fun x w => (x.1, x.2.1, w)) ks ws)))))
theorem carriesH_of {pins : List (Addr × Obj)} {σ : St} {H : Hp} {s : Shared} (I : Inv X pins σ H s) : ∀ {ps : List (V × V)} {ks : List (NestedKey × Addr × V)} {vs : List (Value × Value)}, NkL (gOf X) H ps ks → VV ps vs →
    ∃ ws, Vals (ks.map fun x => x.2.2) ws ∧ CarriesH (nestedKind X.prog X.w) s.heap vs (List.zipWith (fun x w => (x.1, x.2.1, w)) ks ws)
  | _, _, _, .nil, .nil => ⟨[], .nil, trivial⟩
  | (k, v) :: ps, (n, a, y) :: ks, (kv, vv) :: vs, .cons ⟨h1, h2, h3, ι, d, h4, h5⟩ t, .cons ⟨r1, r2⟩ rt => by
    obtain ⟨ws, w1, w2⟩ := carriesH_of I t rt
    have h1 : k = .ref a := h1
    have h2 : v = y := h2
    subst h1; subst h2
    cases r1
    exact ⟨vv :: ws, .cons r2 w1, rfl, rfl, ⟨nest_of I d n _ _ h5 h4 rfl, h3⟩, w2⟩
theorem pe_dispT {keys : List (Option Expr)} {values : List Expr} {pos : Pos} {trs : List (TE × TE)} (hu : X.A.units + 64 < cLine) (h : PPs X pos keys values trs) (hall : keys.all (·.isSome) = true) (hl : keys.length = values.length) (h0 : keys ≠ []) (h15 : keys.length ≤ 15) :
    PE X (.Dict keys values pos) (tDispT (gOf X) trs) := by
  refine ⟨fun pins s σ H Q I q => ?_⟩
  have hn := I.hok.fresh (Nat.le_refl s.heap.objs.size)
  have I1 := I.laid (a := s.heap.objs.size) (o := .ext (tdPhi (gOf X) s.heap.objs.size [])) (h' := s.heap.push { cls := .type "dict", data := .dict #[] }) (t' := s.toks) (fun _ _ q => Heap.get?_push_of_some _ q) (Nat.le_refl _) (td_empty s.heap)
  have hnn := pairTrees_length keys values X.env pos hall hl
  rw [arm_eval_Dict, zip_pairTrees keys values X.env pos hall hl, dictDisplay_pairs (pairTrees keys values X.env pos) (fun he => h0 (List.length_eq_zero_iff.mp (by rw [← hnn, he]; rfl))) (by rw [hnn]; omega)]
  refine wpAny_bind (wpAny_standAt (wpAny_bind (wpAny_subDictH (knd := nestedKind X.prog X.w) (Q := fun d s' => wpAny (model X.prog X.w) X.A (pure (Value.ref d)) (EP X pins σ Q) X.xe s') (by show X.A.units + 8 < cLine; omega) (by rw [hnn]; exact h15) ?_)))
  refine thn (h.run pins _ σ _ _ I1 (q _ hn (beq_eq_false_iff_ne.mpr (Ne.symm (Nat.ne_of_lt I.big))))) fun ws s2 ⟨ps, H2, I2, rel, e, ks, hk, hz, q2⟩ => ?_
  obtain ⟨us, u1, u2⟩ := carriesH_of I2 hk rel
  have t0 : TdIs (gOf X) [] H2 s.heap.objs.size [] [] := ⟨.inl e, .nil, by simp, Nat.zero_le _, beq_eq_false_iff_ne.mpr (Ne.symm (Nat.ne_of_lt I.big))⟩
  refine ⟨_, u2, t0.dictOf I2, fun h' tk hm' hs => wpAny_pure ⟨.ref s.heap.objs.size, _, ?_, rfl, q2 us u1⟩⟩
  refine I2.write (x := s.heap.objs.size) (e := s.heap.objs.size) (by rw [e]; trivial) (.inl rfl) (fun b ob hb e => (hs.2 b hb).trans e) ?_ (td_obj (G := gOf X) hm')
  obtain ⟨ob, _, _, e', _⟩ := hm'
  exact ⟨ob, e'⟩
theorem td_fold {G : Gd} {ι : List Addr} {H : Hp} : ∀ {l : List (D × D)} {vs : List (V × V)}, Paired (fun (p : D × D) (q : V × V) => Rep G ι H p.1 q.1 ∧ Rep G ι H p.2 q.2) l vs → l.all (fun p => isT p.1) = true →
    ∃ ks : List (NestedKey × Addr × V), NkL G H vs ks ∧ ∀ ws : List Value, Vals (ks.map fun x => x.2.2) ws → ∀ (acc : List (D × D)) (xs : List (NestedKey × Addr × Value)), Paired (RepT G ι H) acc xs → Paired (RepT G ι H) (l.foldl (fun acc p => dPut acc p.1 p.2) acc) (storedAllH xs (List.zipWith (fun x w => (x.1, x.2.1, w)) ks ws))
  | _, _, .nil, _ => ⟨[], .nil, fun ws h acc xs p => by cases h; exact p⟩
  | (k, x) :: l, (u, y) :: vs, .cons ⟨h1, h2⟩ t, hk => by
    rw [List.all_cons, Bool.and_eq_true] at hk
    obtain ⟨kl, kk, ekl, ek, ek8⟩ := isT_key hk.1
    have ekl : k = .tup kl := ekl
    subst ekl
    obtain ⟨tt, ts, eu, _, _⟩ := id (Rep.tup h1)
    have eu : u = .ref tt := eu
    subst eu
    obtain ⟨ks, k1, k2⟩ := td_fold t hk.2
    refine ⟨(kk, tt, y) :: ks, .cons ⟨rfl, rfl, ek8, ι, _, h1, ek⟩ k1, fun ws hw acc xs p => ?_⟩
    cases hw with
    | cons r rt => exact k2 _ rt _ _ (dPut_T ek ek8 h1 h2 r p)
theorem nodup_storedH {xs : List (NestedKey × Addr × Value)} {kk : NestedKey} {t : Addr} {w : Value} (nd : (xs.map (·.1)).Nodup) : ((storedH xs kk t w).map (·.1)).Nodup := by
  unfold storedH
  split
  · rw [keys_map_putAt]; exact nd
  · rename_i hf
    rw [List.map_append, List.nodup_append]
    refine ⟨nd, by simp, fun b hb c hc => ?_⟩
    simp at hc; subst hc
    rintro rfl
    apply hf
    cases e : atKey xs b with
    | some p => rfl
    | none =>
      exfalso
      obtain ⟨y, hy, rfl⟩ := List.mem_map.mp hb
      unfold atKey at e
      rw [Option.map_eq_none_iff, List.find?_eq_none] at e
      exact e y hy (by simp)
theorem nodup_storedAllH : ∀ (ps xs : List (NestedKey × Addr × Value)), (xs.map (·.1)).Nodup → ((storedAllH xs ps).map (·.1)).Nodup
  | [], _, h => h
  | (k, t, w) :: ps, xs, h => nodup_storedAllH ps _ (nodup_storedH h)
theorem len_storedAllH : ∀ (ps xs : List (NestedKey × Addr × Value)), (storedAllH xs ps).length ≤ xs.length + ps.length
  | [], xs => Nat.le_refl _
  | (k, t, w) :: ps, xs => by
    have h1 := len_storedAllH ps (storedH xs k t w)
    have h2 : (storedH xs k t w).length ≤ xs.length + 1 := by unfold storedH; split <;> simp
    show (storedAllH (storedH xs k t w) ps).length ≤ _
    simp only [List.length_cons]; omega
theorem se_tdic {keys : List (Option Expr)} {values : List Expr} {pos : Pos} {ps : List (MD × MD)} (hu : X.A.units + 64 < cLine) (h : PPs X pos keys values (ps.map fun p => (tE (gOf X) W p.1, tE (gOf X) W p.2))) (hall : keys.all (·.isSome) = true) (hl : keys.length = values.length) (h0 : keys ≠ []) (h15 : keys.length ≤ 15) :
    SE X W (.Dict keys values pos) (mTdic ps) :=
  PE.mono (pe_dispT hu h hall hl h0 h15) fun σ H Q ⟨ρ, μ, ι, env, rel, h⟩ p hp hsys => by
    obtain ⟨gD, rD⟩ := grow_laid (o := .ext (tdPhi (gOf X) p [])) rel hp
    have hpn := rel.notNone hp
    refine pairs_red (env.ext (gD.ext rel)) rD (Post.bindB h gD) fun ι1 H1 μ1 l vs g1 r1 pr h1 => ?_
    have e1 : H1 p = some (.ext (tdPhi (gOf X) p [])) := g1.keep _ _ upd_same hpn
    have hn1 : p ∉ ι1 := fun z => (g1.new p z).elim hpn fun z => by rw [upd_same] at z; cases z
    split at h1
    · rename_i hc
      obtain ⟨ks, k1, k2⟩ := td_fold pr hc.2
      have hlen : l.length = vs.length := Paired.length pr
      refine ⟨e1, ks, k1, by omega, fun ws hw => ?_⟩
      have e3 := k2 ws hw [] [] .nil
      generalize hxs : storedAllH [] (List.zipWith (fun x w => (x.1, x.2.1, w)) ks ws) = xs at e3
      have hnd : (xs.map (·.1)).Nodup := by rw [← hxs]; exact nodup_storedAllH _ _ (by simp)
      have hle : xs.length ≤ sizeLine := by
        have a := len_storedAllH (List.zipWith (fun x w => (x.1, x.2.1, w)) ks ws) []
        have b : ks.length = vs.length := (Paired.length k1).symm
        rw [hxs, List.length_zipWith, List.length_nil] at a
        have : ks.length ≤ 15 := by omega
        rw [sizeLine_eq]; omega
      have ex : Ext ι1 H1 (ι1 ++ [p]) (upd H1 p (.ext (tdPhi (gOf X) p xs))) := ⟨List.prefix_append _ _, fun a xs z => by rw [upd_ne (fun q => by rw [q, e1] at z; cases z)]; exact z, fun a o u z _ => by rw [upd_ne (fun q => by rw [q, e1] at z; cases z)]; exact z⟩
      have ex1 : Ext ι1 H1 ι1 (upd H1 p (.ext (tdPhi (gOf X) p xs))) := ⟨List.prefix_refl _, ex.tup, ex.frz⟩
      have r2 : Rel (gOf X) ι1 (upd H1 p (.ext (tdPhi (gOf X) p xs))) μ1 := ⟨r1.len, r1.nd, fun j c a q1 q2 => (r1.cell j c a q1 q2).ext ex1 (upd_ne fun q => hn1 (q ▸ List.mem_of_getElem? q2))⟩
      have r3 := grow_adopt (c := .tdic (dicOf l)) r2 hn1 ⟨xs, upd_same, Paired.imp' e3 fun _ _ z => ⟨z.1, z.2.1, z.2.2.1.ext ex, let ⟨v, z1, z2⟩ := z.2.2.2; ⟨v, z1.ext ex, z2⟩⟩, hnd, hle, hsys⟩
      have gA := gD.trans g1
      refine h1 (ι1 ++ [p]) _ ⟨gA.pre.trans (List.prefix_append _ _), fun a o z na => ?_, fun a ha => ?_, fun a o u z => by rw [upd_ne (fun q => by rw [q, hp] at z; cases z)]; exact gA.lock a o u z⟩ r3 _ (rep_new (r := r1))
      · rw [upd_ne (fun q => by rw [q, hp] at z; cases z)]; exact gA.keep a o z na
      · rcases List.mem_append.mp ha with z | z
        · exact gA.new a z
        · simp at z; subst z; exact .inr hp
    · exact h1.elim
end

/-! ### d.get(k, x) -/
def isDic : D → Mem → Bool
  | .ref n, μ => (match μ[n]? with
    | some (.dic _) => true
    | some (.tdic _) => true
    | some (.lck _ _) => true
    | _ => false)
  | _, _ => false
def getM : D → List D → Mem → Res D
  | x, [k], μ => (match dictAt x k μ with
    | some o => .ok (o.getD .non) μ
    | none => .stuck)
  | x, [k, y], μ => (match dictAt x k μ with
    | some o => .ok (o.getD y) μ
    | none => .stuck)
  | _, _, _ => .stuck
def DicV (G : Gd) (H : Hp) (x : V) : Prop := ∃ a, x = .ref a ∧ ((∃ kvs, Rd H a (.dK kvs)) ∨ ∃ xs, Rd H a (.ext (tdPhi G a xs)))
section
variable {X : Cx} {W : WX} {pins : List (Addr × Obj)} {σ : St} {H : Hp} {s : Shared}
theorem dicV_at {x : V} {v : Value} (I : Inv X pins σ H s) (d : DicV (gOf X) H x) (r : RelV x v) : s.TypeIs v "dict" ∧ ∀ b, v = .ref b → ∃ ob, s.heap.get? b = some ob ∧ ob.dict = none := by
  obtain ⟨a, rfl, d⟩ := d
  cases r
  rcases d with ⟨kvs, e⟩ | ⟨xs, e⟩
  · obtain ⟨_, hd, vs, _, ob, _, _, h1, h2, _⟩ := dk_rd I.hok e
    exact ⟨⟨ob, h1, h2.1⟩, fun b q => by cases q; exact ⟨ob, h1, h2.2.1⟩⟩
  · obtain ⟨⟨ob, es, ep, h1, h2, _⟩, _⟩ := e.ok I.hok
    exact ⟨⟨ob, h1, h2.1⟩, fun b q => by cases q; exact ⟨ob, h1, h2.2.1⟩⟩
theorem isDic_V {G : Gd} {ι : List Addr} {H : Hp} {μ : Mem} {x : D} {v : V} (r : Rel G ι H μ) (rx : Rep G ι H x v) (h : isDic x μ = true) : DicV G H v := by
  cases x <;> first | (simp [isDic] at h; done) | skip
  rename_i n
  simp only [isDic] at h
  obtain ⟨a, h0, rfl⟩ := rx.ref
  split at h
  · rename_i l em
    obtain ⟨kvs, h1, _⟩ := r.cell n _ a em h0
    exact ⟨a, rfl, .inl ⟨kvs, .inl h1⟩⟩
  · rename_i l em
    obtain ⟨xs, h1, _⟩ := r.cell n _ a em h0
    exact ⟨a, rfl, .inr ⟨xs, .inl h1⟩⟩
  · rename_i t l em
    cases t with
    | false =>
      obtain ⟨od, kvs, h1, _⟩ := r.cell n _ a em h0
      exact ⟨a, rfl, .inl ⟨kvs, .inr ⟨od, h1⟩⟩⟩
    | true =>
      obtain ⟨od, xs, h1, _⟩ := r.cell n _ a em h0
      exact ⟨a, rfl, .inr ⟨xs, .inr ⟨od, h1⟩⟩⟩
  · cases h
/-- get by values -/
def rGet (G : Gd) : V → List V → Hp → VK → Prop := fun x vs H Q => ∃ a y o, x = .ref a ∧ DIs G H a y o ∧ ((vs = [y] ∧ Q (o.getD .non) H) ∨ ∃ z, vs = [y, z] ∧ Q (o.getD z) H)
theorem di_get {a : Addr} {y : V} {u : Value} {o : Option V} {more : List V} {ms : List Value} {Q : Value → Shared → Prop} (hu : X.A.units + 64 < cLine) (I : Inv X pins σ H s) (g : DIs (gOf X) H a y o) (ry : RelV y u) (rm : Vals more ms) (hm : more.length ≤ 1)
    (h : ∀ w' s', Inv X pins σ H s' → RelV (o.getD (more.headD .non)) w' → Q w' s') : wpAny (model X.prog X.w) X.A (call (.builtin "dict.get") (.ref a :: u :: ms)) Q X.xe s := by
  have key : ∀ (d : V) (dv : Value), RelV d dv → (∀ w' s', Inv X pins σ H s' → RelV (o.getD d) w' → Q w' s') → (∃ l xs ι k kk t, TdIs (gOf X) ι H a l xs ∧ Rep (gOf X) ι H k (.ref t) ∧ y = .ref t ∧ D.nk? k = some kk ∧ kk.depth ≤ 8 ∧ AtIs xs kk o) → ∃ (b : Addr) (kk : NestedKey) (xs : List (NestedKey × Addr × Value)), u = .ref b ∧ (nestedKind X.prog X.w).is s.heap kk b ∧ s.heap.DictOfH (nestedKind X.prog X.w) a xs ∧ (a == sysModules) = false ∧ RelV (o.getD d) (((atKey xs kk).map (·.2)).getD dv) := by
    intro d dv rd _ ⟨l, xs, ι, k, kk, t, hd, rk, ey, hk, hk8, hp⟩
    subst ey; cases ry
    refine ⟨t, kk, xs, rfl, ⟨nest_of I k kk _ _ hk rk rfl, hk8⟩, hd.dictOf I, hd.2.2.2.2, ?_⟩
    cases o with
    | none => rw [show atKey xs kk = none from hp]; exact rd
    | some v => obtain ⟨p, e, rp⟩ := hp; rw [e]; exact rp
  cases rm with
  | nil =>
    rcases g with g | ⟨ι, l, xs, k, kk, t, q⟩
    · exact d_get1 (by omega) I g ry h
    · obtain ⟨b, kk', xs', eu, k1, k2, k3, k4⟩ := key .non .none rfl h ⟨l, xs, ι, k, kk, t, q⟩
      subst eu
      exact call_meetsIn PySem.F.slot_dict_get k2.typeIs PySem.F.entry_dict_get (PySem.F.args_dict_get_2 _ _) (meetsH_dict_get (nestedKind X.prog X.w) a b k3) ⟨by show X.A.units + 1 + 8 < cLine; omega, kk', xs', k1, k2, h _ _ (I.tok _) k4⟩
  | @cons d dv _ _ rd rt =>
    cases rt with
    | cons _ _ => simp at hm
    | nil =>
      rcases g with g | ⟨ι, l, xs, k, kk, t, q⟩
      · exact d_get2 (by omega) I g ry rd h
      · obtain ⟨b, kk', xs', eu, k1, k2, k3, k4⟩ := key d dv rd h ⟨l, xs, ι, k, kk, t, q⟩
        subst eu
        exact call_meetsIn PySem.F.slot_dict_get k2.typeIs PySem.F.entry_dict_get (PySem.F.args_dict_get_3 _ _ _) (meetsH_dict_get_default (nestedKind X.prog X.w) a b k3 dv) ⟨by show X.A.units + 1 + 8 < cLine; omega, kk', xs', k1, k2, h _ _ (I.tok _) k4⟩
variable {o e : Expr} {es : List Expr} {mo : MD} {ms : ML} {apos cpos : Pos} {to : TE} {t : TA}
theorem pe_getM (hu : X.A.units + 64 < cLine) (ho : PE X o to) (ha : PA X (e :: es) t)
    (hbase : attributeBase o "get" X.env (eval o X.env) = eval o X.env := by rfl)
    (hfew : ((backTo cpos (starEach (e :: es) X.env)).all (fun x => !x.1) && (backToKw cpos (keywordEach [] X.env)).all (fun x => x.1.isSome)
      && decide ((e :: es).length + ([] : List Keyword).length + (if ([] : List Keyword).isEmpty then 0 else 1) < 30)) = true := by rfl)
    (hline : (apos.endLine == cpos.line) = true := by rfl) (hs : starEach (e :: es) X.env = (false, eval e X.env) :: starEach es X.env := by rfl) (hplain : (backTo cpos (starEach es X.env)).any (·.1) = false := by rfl) :
    PE X (.Call (.Attribute o "get" apos) (e :: es) [] cpos) (fun σ H Q => to σ H fun x H1 => DicV (gOf X) H1 x ∧ t σ H1 fun xs H2 => rGet (gOf X) x xs H2 Q) := by
  refine ⟨fun pins s σ H Q I h => ?_⟩
  refine wpAny_Call_method_late hbase hfew hline rfl (thn (ho.run pins s σ H _ I h) fun v s1 ⟨x, H1, I1, r1, ty, q1⟩ => ?_)
  obtain ⟨h1, h2⟩ := dicV_at I1 ty r1
  refine ⟨"dict", "dict.get", PySem.F.plainAttrs_dict, PySem.F.slot_dict_get, PySem.F.type_dict_get, h1, h2, ?_⟩
  have hA := ha.run cpos pins s1 σ H1 _ I1 q1
  rw [hs] at hA ⊢
  refine Calls.callWith_builtin (by show (false || (backTo cpos (starEach es X.env)).any (·.1)) = false; rw [hplain] <;> rfl) (Calls.evalArgs_plain ?_)
  refine thn hA fun us s2 ⟨vs, H2, I2, r2, a, y, oo, ex, g, q⟩ => ?_
  subst ex; cases r1
  rcases q with ⟨rfl, q⟩ | ⟨z, rfl, q⟩
  · cases r2 with
    | cons ry rt =>
      cases rt
      exact di_get hu I2 g ry .nil (by simp) fun w' s' I' r' => ⟨_, H2, I', r', q⟩
  · cases r2 with
    | cons ry rt =>
      exact di_get hu I2 g ry rt (by simp) fun w' s' I' r' => ⟨_, H2, I', r', q⟩
theorem se_get (hu : X.A.units + 64 < cLine) (ho : SE X W o mo) (ha : SA X W (e :: es) ms)
    (hbase : attributeBase o "get" X.env (eval o X.env) = eval o X.env := by rfl)
    (hfew : ((backTo cpos (starEach (e :: es) X.env)).all (fun x => !x.1) && (backToKw cpos (keywordEach [] X.env)).all (fun x => x.1.isSome)
      && decide ((e :: es).length + ([] : List Keyword).length + (if ([] : List Keyword).isEmpty then 0 else 1) < 30)) = true := by rfl)
    (hline : (apos.endLine == cpos.line) = true := by rfl) (hs : starEach (e :: es) X.env = (false, eval e X.env) :: starEach es X.env := by rfl) (hplain : (backTo cpos (starEach es X.env)).any (·.1) = false := by rfl) :
    SE X W (.Call (.Attribute o "get" apos) (e :: es) [] cpos) (mMt isDic getM mo ms) :=
  PE.mono (pe_getM hu ho ha hbase hfew hline hs hplain) fun σ H Q ⟨ρ, μ, ι, env, rel, h⟩ =>
    ⟨ρ, μ, ι, env, rel, (Post.bind h).imp fun ι1 H1 μ1 x _ _ ⟨g1, r1, h1⟩ v rv => by
      split at h1
      · rename_i ht
        refine ⟨isDic_V r1 rv ht, ρ, μ1, ι1, env.ext (g1.ext rel), r1, (Post.bind h1).imp fun ι2 H2 μ2 xs _ _ ⟨g2, r2, h2⟩ vs rvs => ?_⟩
        have rv2 := rv.ext (g2.ext r1)
        unfold getM at h2
        split at h2
        · split at h2
          · rename_i k o' ed
            obtain ⟨u, rfl, ru⟩ := rvs.one
            obtain ⟨a, w, rfl, q1, q2, q3⟩ := dictAt_is r2 rv2 ru ed
            refine ⟨a, u, w, rfl, q1, .inl ⟨rfl, h2 ι2 H2 .refl r2 _ ?_⟩⟩
            cases o' with
            | none => cases w with
              | none => exact rep_non
              | some _ => simp at q2
            | some d => obtain ⟨z, rfl, rz⟩ := q3 d rfl; exact rz
          · exact h2.elim
        · split at h2
          · rename_i k y o' ed
            obtain ⟨u, u2, rfl, ru, ru2⟩ := rvs.two
            obtain ⟨a, w, rfl, q1, q2, q3⟩ := dictAt_is r2 rv2 ru ed
            refine ⟨a, u, w, rfl, q1, .inr ⟨u2, rfl, h2 ι2 H2 .refl r2 _ ?_⟩⟩
            cases o' with
            | none => cases w with
              | none => exact ru2
              | some _ => simp at q2
            | some d => obtain ⟨z, rfl, rz⟩ := q3 d rfl; exact rz
          · exact h2.elim
        · exact h2.elim
      · exact h1.elim⟩
end
end RW

/-! SEk: enumerate of a tuple or list; a dict walked by its keys, locked meanwhile. -/
namespace RW
open PySem L2 PySem.Spec PyProof.Rows
open Sem (wp)
open AutoSeq1 (wpAny_loadPart')
/-! ### enumerate(tuple) -/
def objEnum (n : Nat) : Obj := { cls := .type "enumerate", data := .fields #[.none, .bool false, .ref n, rawInt 0, .none, .none] }
def objTupIt (t : Addr) : Obj := { cls := .type "tuple_iterator", data := .fields #[.ref t, .int 0 0] }
theorem meets_enumT (t : Addr) (items : Array Value) (n : Nat) (dct : Option Addr) (sl : Array (Option Value)) :
    Meets (Builtin.«enumerate.__new__» ⟨[.type "enumerate", .ref t], []⟩) (fun _ R s => s.heap.get? t = some { cls := .type "tuple", dict := dct, data := .seq items n, slots := sl } ∧
      R (.ok (.ret (.ref (s.heap.push (objTupIt t)).objs.size))) { s with heap := (s.heap.push (objTupIt t)).push (objEnum s.heap.objs.size) }) :=
  .of_wp fun prog w A R s h => by
    obtain ⟨hp, g, d, tk, os⟩ := s; obtain ⟨hl, h⟩ := h
    have hsub := sub_enumerate
    have hT : Heap.IsTuple (Shared.heap ⟨hp, g, d, tk, os⟩) t items := ⟨_, hl, rfl, n, rfl⟩
    wp_walk using wpAny_loadPart' hl
    refine wpAny_stack_any fun st => wpAny_pure ?_
    split
    · rename_i c _ _ _ _ _
      cases (c == Value.type "enumerate") <;> (wp_walk using wpAny_loadPart' hl, wpAny_pyIter_tuple hT; exact ⟨_, rfl, h⟩)
    · wp_walk using wpAny_loadPart' hl, wpAny_pyIter_tuple hT
      exact ⟨_, rfl, h⟩
section
variable {prog : Program} {w : World} {A : Around} {E : Value → Shared → Prop} {s : Shared}
theorem call_enumT {t : Addr} {items : Array Value} {Q : Value → Shared → Prop} (hT : s.heap.IsTuple t items)
    (h : ∀ h', IsEnum h' (s.heap.objs.size + 1) s.heap.objs.size 0 .none → h'.IsTupleIter s.heap.objs.size t 0 → h'.objs.size = s.heap.objs.size + 2 →
      (∀ b o, s.heap.get? b = some o → h'.get? b = some o) → Q (.ref (s.heap.objs.size + 1)) { s with heap := h' }) : wpAny (model prog w) A (call (.type "enumerate") [.ref t]) Q E s := by
  obtain ⟨⟨c, dct, dt, sl⟩, hl, hc, n, hd⟩ := hT
  replace hc : c = .type "tuple" := hc
  replace hd : dt = .seq items n := hd
  subst hc hd
  refine callType_new F.called_enumerate (by decide) (F.typeCall_enumerate_1 _) (F.newCall_enumerate_1 _) (fun ob => F.args_object_init_2 ob _) F.entry_enumerate_new (meets_enumT t items n dct sl) ⟨hl, ?_⟩
  have hz : (s.heap.push (objTupIt t)).objs.size = s.heap.objs.size + 1 := Heap.size_push ..
  show _ ∧ _
  rw [hz]
  have he : IsEnum ((s.heap.push (objTupIt t)).push (objEnum s.heap.objs.size)) (s.heap.objs.size + 1) s.heap.objs.size 0 .none := by
    have q := Heap.get?_push_size (s.heap.push (objTupIt t)) (o := objEnum s.heap.objs.size) rfl
    rw [hz] at q; exact q
  exact ⟨⟨_, he, rfl⟩, h _ he ⟨_, Heap.get?_push_of_some _ (Heap.get?_push_size _ rfl), rfl, rfl⟩ (by rw [Heap.size_push, hz]) fun b o x => Heap.get?_push_of_some _ (Heap.get?_push_of_some _ x)⟩
end
/-- the tuple at a, each item in a new pair with its number -/
def Ent (K : PySem.W.Frag) (a : Addr) : It :=
  ⟨fun i H => ∃ (xs : List V) (x : V), SqT K H a xs ∧ xs[i]? = some x, fun i H v H' => ∃ T x, v = .ref T ∧ H T = none ∧ H' = upd H T (.tup [.int (i : Nat), x]) ∧ ∀ xs, SqT K H a xs → xs[i]? = some x, fun i H => ∃ xs : List V, SqT K H a xs ∧ xs.length = i⟩
theorem turn_entT {P : Program} {w : World} {K : PySem.W.Frag} {elts : List Expr} {kk : Nat} {tpos : Pos} (a e it : Addr) (hai : a ≠ it) (hae : a ≠ e) :
    Turn P w K (.Tuple elts kk tpos) (Ent K a) [e, it] e (fun i h => (∃ old, IsEnum h e it ((i : Nat) : Int) old) ∧ h.IsTupleIter it a i ∧ e ≠ it) where
  mem := by simp
  obj := fun i h st b hb => by
    obtain ⟨⟨old, he⟩, ⟨o, ho, hc, hd⟩, _⟩ := st
    rcases (by simpa using hb : b = e ∨ b = it) with z | z
    · subst z; exact ⟨_, he, fun v q => nomatch q⟩
    · subst z; exact ⟨o, ho, fun v q => by rw [hd] at q; cases q⟩
  keep := fun i h h' st k => by
    obtain ⟨⟨old, he⟩, hi, hne⟩ := st
    exact ⟨⟨old, k e (by simp) _ he⟩, hi.at fun o q => k it (by simp) o q, hne⟩
  item := by
    intro X hP hw hK hc i pins s σ H E I hf st hg
    subst hP hw hK
    obtain ⟨⟨old, he⟩, hit, hne⟩ := st
    obtain ⟨xs, x, hq, hx⟩ := hg
    obtain ⟨its, rv, p, hz⟩ := I.tuple hq
    obtain ⟨u, hu, ru⟩ := rv.get hx
    have hel : e < s.heap.objs.size := Heap.lt_size he
    have hil : it < s.heap.objs.size := by obtain ⟨_, q, _⟩ := hit; exact Heap.lt_size q
    have hT : s.heap.IsTuple a its.toArray := p
    refine wpAny_pyNext_enum_itemD (Draws.tuple (prog := X.prog) (w := X.w) (A := X.A.in1) (I.ok.hd hc) it a hai its.toArray) he ⟨hit, hT⟩ (by simpa using (List.getElem?_eq_some_iff.mp hu).1) hne (by simp [hne, Ne.symm hae]) fun x' h' tk hP ho st' hT' hsz hk => ?_
    obtain rfl : u = x' := by simpa [hu] using hP
    refine ⟨_, rfl, wpAny_letOwnedTupleGo_enum (s := { s with heap := h', toks := tk + 1 }) ho fun h'' he' sb => ?_⟩
    have hT2 : h''.get? s.heap.objs.size = some { cls := .type "tuple", data := .seq #[.int i tk, u] } := (sb.2 _ (Nat.ne_of_gt hel)).trans hT'
    have new : ObjOk X.prog X.w (upd H s.heap.objs.size (.tup [.int (i : Nat), x])) h'' s.heap.objs.size (.tup [.int (i : Nat), x]) :=
      ⟨by show 2 ≤ sizeLine; decide, [.int i tk, u], .cons ⟨_, rfl⟩ (.cons ru .nil), ⟨_, hT2, rfl, _, rfl⟩⟩
    have I1 : Inv X pins σ (upd H s.heap.objs.size (.tup [.int (i : Nat), x])) { s with heap := h'', toks := tk + 1 } :=
      I.turnedNew (ch := [e, it]) (fun b ob hb q => (sb.2 b (fun z => hb (by simp [z]))).trans (hk b ob (fun z => hb (by simp [z])) (fun z => hb (by simp [z])) q)) hf (Nat.le_refl _) new
    refine ⟨.ref s.heap.objs.size, _, I1, rfl, ⟨_, x, rfl, I.hok.fresh (Nat.le_refl _), rfl, fun ys hy => by rw [I.tuple_inj hy hq]; exact hx⟩, ⟨⟨u, ?_⟩, st'.1.at fun o q => (sb.2 it (Ne.symm hne)).trans q, hne⟩, fun b hb => ?_⟩
    · have e1 : ((i + 1 : Nat) : Int) = (i : Int) + 1 := by omega
      rw [e1]; exact he'
    · have hb' : b < s.heap.objs.size := by
        rcases (by simpa using hb : b = e ∨ b = it) with z | z
        · subst z; exact hel
        · subst z; exact hil
      rw [upd_ne (Nat.ne_of_lt hb')]
      exact (hf b hb).1
  done := by
    intro X hP hw hK hc i pins s σ H E I hf st hg
    subst hP hw hK
    obtain ⟨⟨old, he⟩, hit, hne⟩ := st
    obtain ⟨xs, hq, hx⟩ := hg
    obtain ⟨its, rv, p, hz⟩ := I.tuple hq
    obtain ⟨f0, f1, f2, f3, f4, f5⟩ := hf it (by simp)
    have hl := rv.length
    have hT : s.heap.IsTuple a its.toArray := p
    have hn : i = its.toArray.size := by simp; omega
    subst hn
    exact wpAny_pyNext_enum_endD (Draws.tuple (prog := X.prog) (w := X.w) (A := X.A.in1) (I.ok.hd hc) it a hai its.toArray) he ⟨hit, hT⟩ fun h' eb => ⟨rfl, I.turned (t' := s.toks) (fun b o hb q => eb b o hb q) f0 f1 f3 f4 f5⟩
  self := fun A i s Q E st h => wpAny_pyIter_enum st.1.choose_spec h
def enItems (k : Nat) : List D → List D
  | [] => []
  | d :: l => .tup [.int (k : Int), d] :: enItems (k + 1) l
theorem enItems_len : ∀ (l : List D) (k : Nat), (enItems k l).length = l.length
  | [], _ => rfl
  | d :: l, k => by simp [enItems, enItems_len l]
theorem enItems_get : ∀ (l : List D) (k i : Nat) (x : D), (enItems k l)[i]? = some x → ∃ d, l[i]? = some d ∧ x = .tup [.int ((k + i : Nat) : Int), d]
  | [], k, i, x, e => by simp [enItems] at e
  | d :: l, k, 0, x, e => ⟨d, rfl, by simpa [enItems] using e.symm⟩
  | d :: l, k, i + 1, x, e => by
    obtain ⟨d', e1, e2⟩ := enItems_get l (k + 1) i x (by simpa [enItems] using e)
    exact ⟨d', by simpa using e1, by rw [e2]; congr 3; omega⟩
section
variable {G : Gd} {ι : List Addr} {H : Hp} {μ : Mem}
theorem it_pair {i : Nat} {d : D} {x : V} {T : Addr} (r : Rel G ι H μ) (hT : H T = none) (rx : Rep G ι H d x) : Grow ι H ι (upd H T (.tup [.int (i : Nat), x])) ∧ Rel G ι (upd H T (.tup [.int (i : Nat), x])) μ ∧ Rep G ι (upd H T (.tup [.int (i : Nat), x])) (.tup [.int ((0 + i : Nat) : Int), d]) (.ref T) := by
  obtain ⟨g, r2⟩ := grow_laid (o := .tup [.int (i : Nat), x]) r hT
  refine ⟨g, r2, rep_tup (.of upd_same) (.cons ?_ (.cons (rx.ext (g.ext r)) .nil))⟩
  rw [Nat.zero_add]
  unfold Rep; rfl
theorem it_entT {a : Addr} {l : List D} {vs : List V} (rel : Rel G ι H μ) (h1 : SqT G.K H a vs) (h2 : Reps G ι H l vs) : ItOk G ι H (Ent G.K a) (enItems 0 l) (fun _ => True) := by
  have base := it_tup rel h1 h2
  have sq : ∀ {ι' : List Addr} {H' : Hp}, Grow ι H ι' H' → SqT G.K H' a vs := fun {ι' H'} g => by
    have x := g.ext rel
    rcases h1 with (h1 | ⟨o, h1⟩) | h1
    · exact .inl (.inl (x.tup _ _ h1))
    · exact .inl (.inr ⟨o, x.frz _ _ _ h1 ⟨_, .inr rfl⟩⟩)
    · exact .inr h1
  refine ⟨fun i d ι' H' μ' e g r c => ?_, fun i d ι' H' μ' v H2 e g r c ⟨T, x, e1, e2, e3, e4⟩ => ?_, fun ι' H' μ' g r c => ⟨vs, sq g, by rw [enItems_len, h2.length]⟩⟩
  · obtain ⟨d', e1, _⟩ := enItems_get l 0 i d e
    exact base.go i d' ι' H' μ' e1 g r c
  · obtain ⟨d', q1, q2⟩ := enItems_get l 0 i d e
    obtain ⟨_, _, rx⟩ := base.yld i d' ι' H' μ' x H' q1 g r c ⟨rfl, e4⟩
    subst q2 e1 e3
    exact it_pair r e2 rx
theorem it_entL {a : Addr} {l : List D} {chk : Mem → Prop} (base : ItOk G ι H (Itl G.K a) l chk) : ItOk G ι H (Ite G.K a) (enItems 0 l) chk := by
  refine ⟨fun i d ι' H' μ' e g r c => ?_, fun i d ι' H' μ' v H2 e g r c ⟨T, x, e1, e2, e3, e4⟩ => ?_, fun ι' H' μ' g r c => by rw [enItems_len]; exact base.stop ι' H' μ' g r c⟩
  · obtain ⟨d', e1, _⟩ := enItems_get l 0 i d e
    exact base.go i d' ι' H' μ' e1 g r c
  · obtain ⟨d', q1, q2⟩ := enItems_get l 0 i d e
    obtain ⟨_, _, rx⟩ := base.yld i d' ι' H' μ' x H' q1 g r c ⟨rfl, e4⟩
    subst q2 e1 e3
    exact it_pair r e2 rx
end
def enumD : List D → Mem → Res (List D × (Mem → Prop))
  | [x], μ => (itSeq x μ).bind fun p μ1 => .ok (enItems 0 p.1, p.2) μ1
  | _, _ => .stuck
@[simp] def iEnumD (a : ML) : MIt := fun ρ μ => (a ρ μ).bind fun xs μ1 => enumD xs μ1
def iEntT (K : PySem.W.Frag) (ta : TA) : TI := fun σ H R => ta σ H fun vs H1 => ∃ a xs, vs = [.ref a] ∧ SqT K H1 a xs ∧ R (Ent K a) H1
section
variable {X : Cx} {W : WX} {e : Expr} {ms : ML} {p pos tpos : Pos} {elts : List Expr} {kk : Nat}
theorem pi_entT {ta : TA} (hg : Gl X "enumerate") (hm : X.mg "enumerate" = none) (ha : PA X [e] ta) (hs : starEach [e] X.env = [(false, eval e X.env)] := by rfl) :
    PI X (.Tuple elts kk tpos) (.Call (.Name "enumerate" p) [e] [] pos) (iEntT X.K ta) := by
  refine ⟨fun pins s σ H R I h => ?_⟩
  refine Call_ (ld_blt I hg hm boot_enumerate (PyProof.Rows.callWith_type1 (thn (ha.run pos pins s σ H _ I h) fun us s1 ⟨vs, H1, I1, r1, a, xs, ex, hq, q⟩ => ?_) hs rfl))
  subst ex
  cases r1 with
  | cons r rr =>
    cases rr
    cases r
    obtain ⟨its, rv, p', hz⟩ := I1.tuple hq
    have hlt : a < s1.heap.objs.size := by obtain ⟨_, q, _⟩ := p'; exact Heap.lt_size q
    refine call_enumT (t := a) (items := its.toArray) p' fun h' he hit hsz hk => wpAny_pyIter_enum he ?_
    have I2 : Inv X pins σ H1 { s1 with heap := h' } := I1.kept (t' := s1.toks) hk
    refine ⟨s1.heap.objs.size + 1, [s1.heap.objs.size + 1, s1.heap.objs.size], _, _, H1, rfl, I2, turn_entT a (s1.heap.objs.size + 1) s1.heap.objs.size (Nat.ne_of_lt hlt) (Nat.ne_of_lt (Nat.lt_succ_of_lt hlt)), ⟨⟨.none, he⟩, hit, Nat.succ_ne_self _⟩, fun b hb => ?_, q⟩
    have hle : s1.heap.objs.size ≤ b := by
      rcases (by simpa using hb : b = s1.heap.objs.size + 1 ∨ b = s1.heap.objs.size) with z | z
      · rw [z]; exact Nat.le_add_right _ _
      · rw [z]; exact Nat.le_refl _
    exact I1.fpOk hle (I1.hok.fresh hle)
theorem si_enum (hg : Gl X "enumerate") (hm : X.mg "enumerate" = none) (ha : SA X W [e] ms) (hs : starEach [e] X.env = [(false, eval e X.env)] := by rfl) :
    SI X W (.Tuple elts kk tpos) (.Call (.Name "enumerate" p) [e] [] pos) (iEnumD ms) :=
  PI.mono (PI.or (pi_entT hg hm ha hs) (pi_enum hg hm ha hs)) fun σ H R ⟨ρ, μ, ι, env, rel, h⟩ => by
    have h := Post.bind h
    cases hm : ms ρ μ with
    | stuck => rw [hm] at h; exact h.elim
    | exc c fs m => exact .inl ⟨ρ, μ, ι, env, rel, by rw [hm] at h ⊢; exact h⟩
    | ok ds μ1 =>
      rw [hm] at h
      by_cases ht : ∃ l, ds = [.tup l]
      · obtain ⟨l, rfl⟩ := ht
        refine .inl ⟨ρ, μ, ι, env, rel, ?_⟩
        rw [hm]
        intro ι1 H1 g1 r1 vs rvs
        obtain ⟨v, rfl, rv⟩ := rvs.one
        obtain ⟨a, vs, rfl, h1, h2⟩ := rv.tup
        obtain ⟨_, _, h3⟩ := h ι1 H1 g1 r1
        exact ⟨a, vs, rfl, h1, h3 ι1 H1 .refl r1 _ (it_entT r1 h1 h2)⟩
      · refine .inr ⟨ρ, μ, ι, env, rel, ?_⟩
        rw [hm]
        intro ι1 H1 g1 r1 vs rvs
        obtain ⟨_, _, h3⟩ := h ι1 H1 g1 r1
        unfold enumD at h3
        split at h3
        · rename_i d
          obtain ⟨v, rfl, rv⟩ := rvs.one
          cases d with
          | tup l => exact (ht ⟨l, rfl⟩).elim
          | frl l =>
            obtain ⟨a, vs, rfl, h1, h2⟩ := rv.frl
            exact ⟨a, vs, rfl, FrL.sq _ _ h1, h3 ι1 H1 .refl r1 _ (it_entL (it_frl r1 h1 h2))⟩
          | ref n =>
            simp only [itSeq] at h3
            split at h3
            · rename_i l em
              obtain ⟨a, vs, rfl, h0, h1, h2⟩ := r1.lst em rv
              exact ⟨a, vs, rfl, .of h1, h3 ι1 H1 .refl r1 _ (it_entL (it_lst h0))⟩
            · exact h3.elim
          | _ => exact h3.elim
        · exact h3.elim
end
end RW

/-! SEl: a dict walked by its keys, locked meanwhile. -/
namespace RW
open PySem L2 PySem.Spec
open PyProof.Rows hiding St
/-- the keys of the locked dict of tuples at d -/
def Itx (d : Addr) (od : Obj) (φ : Heap → Prop) (ks : List Addr) : It :=
  ⟨fun i H => H d = some (.frz od (.ext φ)) ∧ i < ks.length, fun i H x H' => H' = H ∧ ∃ q, ks[i]? = some q ∧ x = .ref q, fun i H => H d = some (.frz od (.ext φ)) ∧ ks.length ≤ i⟩
section
variable {X : Cx} {pins : List (Addr × Obj)} {σ : St} {H : Hp} {s : Shared} {d : Addr} {o : Obj} {xs : List (NestedKey × Addr × Value)} {G : Gd}
theorem frzX (I : Inv X pins σ H s) (h : H d = some (.frz o (.ext (tdPhi G d xs)))) : s.heap.get? d = some o ∧ o.ExactDict ∧ ∃ (es : Array DictEntry) (ep : Nat), o.data = .dict es ep ∧ es.size = xs.length ∧ ∀ (i : Nat) (hi : i < es.size), ∃ x, xs[i]? = some x ∧ es[i].key = .ref x.2.1 := by
  obtain ⟨hd, ⟨o', es, ep, h1, h2, h3, h4⟩, _⟩ := I.hok d _ h
  rw [hd] at h1; cases h1
  have hz : es.size = xs.length := by
    have q := congrArg List.length h4
    simpa using q
  refine ⟨hd, h2, es, ep, h3, hz, fun i hi => ?_⟩
  have q := congrArg (fun l => l[i]?) h4
  simp only [List.getElem?_map] at q
  rw [show es.toList[i]? = some es[i] by simp [hi], List.getElem?_eq_getElem (by omega : i < xs.length)] at q
  refine ⟨xs[i], List.getElem?_eq_getElem (by omega), ?_⟩
  simp only [Option.map_some, Option.some.injEq] at q
  rw [q]; rfl
end
theorem turn_keysX {P : Program} {w : World} {K : PySem.W.Frag} {tg : Expr} {d : Addr} {o : Obj} {es : Array DictEntry} {ep : Nat} {G : Gd} {xs : List (NestedKey × Addr × Value)} (it : Addr) (hod : o.data = .dict es ep) :
    Turn P w K tg (Itx d o (tdPhi G d xs) (xs.map fun x => x.2.1)) [it] it (fun i h => h.IsKeyIter it d i es.size ep) where
  mem := by simp
  obj := fun i h st b hb => by
    obtain rfl : b = it := by simpa using hb
    obtain ⟨oi, e, c, dd⟩ := st
    exact ⟨oi, e, fun v z => by rw [dd] at z; cases z⟩
  keep := fun i h h' st k => st.at fun oi e => k it (by simp) oi e
  item := by
    intro X hP hw hK hc i pins s σ H E I hf st hg
    subst hP hw hK
    obtain ⟨hd, hi⟩ := hg
    obtain ⟨f0, f1, f2, f3, f4, f5⟩ := hf it (by simp)
    obtain ⟨hgd, hx, es', ep', hdt, hsz, hk⟩ := frzX I hd
    obtain ⟨rfl, rfl⟩ := dict_ep hod hdt
    rw [List.length_map] at hi
    obtain ⟨x, hx1, hx2⟩ := hk i (by omega)
    refine wpAny_pyNext_keys_item_raw st ⟨o, hgd, hx, hdt⟩ (by omega) fun h' st' sb => ?_
    have I1 : Inv X pins σ H { s with heap := h' } := I.turned (t' := s.toks) (fun b ob hb e => (sb.2 b hb).trans e) f0 f1 f3 f4 f5
    obtain ⟨oi, e, c, dd⟩ := id st'
    exact ⟨_, rfl, go_of (s := { s with heap := h' }) e c dd (by decide) ⟨.ref x.2.1, H, I1, hx2, ⟨rfl, x.2.1, by rw [List.getElem?_map, hx1]; rfl, rfl⟩, st', fun b hb => (hf b hb).1⟩⟩
  done := by
    intro X hP hw hK hc i pins s σ H E I hf st hg
    subst hP hw hK
    obtain ⟨hd, hi⟩ := hg
    obtain ⟨f0, f1, f2, f3, f4, f5⟩ := hf it (by simp)
    obtain ⟨hgd, hx, es', ep', hdt, hsz, hk⟩ := frzX I hd
    obtain ⟨rfl, rfl⟩ := dict_ep hod hdt
    rw [List.length_map] at hi
    exact wpAny_pyNext_keys_end_raw (I.ok.hd hc) st ⟨o, hgd, hx, hdt⟩ (by omega) fun h' eb => ⟨rfl, I.turned (t' := s.toks) (fun b o hb e => eb b o hb e) f0 f1 f3 f4 f5⟩
  self := fun A i s Q E st h => wpAny_pyIter_keyiter st h
def iKeysX (G : Gd) (td : TE) : TI := fun σ H R => td σ H fun x H1 => ∃ d o xs, x = .ref d ∧ (d == sysModules) = false ∧ H1 d = some (.frz o (.ext (tdPhi G d xs))) ∧ R (Itx d o (tdPhi G d xs) (xs.map fun x => x.2.1)) H1
section
variable {X : Cx} {W : WX} {tg e : Expr} {me : MD}
theorem pi_keysX {td : TE} {G : Gd} (he : PE X e td) : PI X tg e (iKeysX G td) := by
  refine ⟨fun pins s σ H R I h => thn (he.run pins s σ H _ I h) fun u s1 ⟨x, H1, I1, rx, d, o, xs, ex, hs, hd, q⟩ => ?_⟩
  subst ex
  obtain rfl : u = Value.ref d := rx
  obtain ⟨hgd, hx, es, ep, hdt, hsz, hk⟩ := frzX I1 hd
  exact wpAny_pyIter_dict_raw hs ⟨o, hgd, hx, hdt⟩ (pi_one (tk := s1.toks) I1 _ (turn_keysX (G := G) (xs := xs) _ hdt) ⟨_, Heap.get?_push_size _ rfl, rfl, rfl⟩ q)
/-! mirrors -/
def itKeys : D → Mem → Res (List D × (Mem → Prop))
  | .ref n, μ => (match μ[n]? with
    | some (.lck t l) => .ok (l.map (·.1), fun μ' => μ'[n]? = some (.lck t l)) μ
    | _ => .stuck)
  | _, _ => .stuck
@[simp] def iKeysD (a : MD) : MIt := fun ρ μ => (a ρ μ).bind fun x μ1 => itKeys x μ1
theorem it_keysK {G : Gd} {ι : List Addr} {H : Hp} {n : Nat} {a : Addr} {o : Obj} {kvs : List (Key × V)} {l : List (D × D)} (hn : ι[n]? = some a) (h : H a = some (.frz o (.dK kvs))) (hl : l.length = kvs.length) :
    ItOk G ι H (Itk a o kvs) (l.map (·.1)) (fun μ' => μ'[n]? = some (.lck false l)) := by
  have key : ∀ {ι' : List Addr} {H' : Hp} {μ' : Mem}, Grow ι H ι' H' → Rel G ι' H' μ' → μ'[n]? = some (.lck false l) → Paired (RepP G ι' H') l kvs := fun {ι' H' μ'} g r e => by
    obtain ⟨od, kvs', h1, h2⟩ := r.cell n _ a e (prefix_get g.pre hn)
    rw [g.lock a _ _ h] at h1; cases h1
    exact h2
  refine ⟨fun i d ι' H' μ' e g r c => ⟨g.lock _ _ _ h, ?_⟩, fun i d ι' H' μ' v H2 e g r c ⟨e1, k, w, e2, e3⟩ => ?_, fun ι' H' μ' g r c => ⟨g.lock _ _ _ h, by simp [hl]⟩⟩
  · have := (List.getElem?_eq_some_iff.mp e).1
    simpa [hl] using this
  · subst e1 e3
    have p := key g r c
    rw [List.getElem?_map] at e
    obtain ⟨q, e4, rfl⟩ := Option.map_eq_some_iff.mp e
    obtain ⟨b, e5, q1, q2⟩ := paired_get p e4
    rw [e2] at e5; cases e5
    exact ⟨.refl, r, by have := q1; revert this; cases q.1 <;> simp [D.key?] <;> (intro e; subst e; unfold Rep; rfl)⟩
theorem it_keysX {G : Gd} {ι : List Addr} {H : Hp} {n : Nat} {a : Addr} {o : Obj} {xs : List (NestedKey × Addr × Value)} {l : List (D × D)} {μ : Mem} (rel : Rel G ι H μ) (hn : ι[n]? = some a) (h : H a = some (.frz o (.ext (tdPhi G a xs)))) (hl : Paired (RepT G ι H) l xs) :
    ItOk G ι H (Itx a o (tdPhi G a xs) (xs.map fun x => x.2.1)) (l.map (·.1)) (fun μ' => μ'[n]? = some (.lck true l)) := by
  have hlen : l.length = xs.length := Paired.length hl
  refine ⟨fun i d ι' H' μ' e g r c => ⟨g.lock _ _ _ h, ?_⟩, fun i d ι' H' μ' v H2 e g r c ⟨e1, q, e2, e3⟩ => ?_, fun ι' H' μ' g r c => ⟨g.lock _ _ _ h, by simp [hlen]⟩⟩
  · have := (List.getElem?_eq_some_iff.mp e).1
    simpa [hlen] using this
  · subst e1 e3
    rw [List.getElem?_map] at e e2
    obtain ⟨p, e4, rfl⟩ := Option.map_eq_some_iff.mp e
    obtain ⟨b, e5, q1, q2, q3, q4⟩ := paired_get hl e4
    rw [e5] at e2; cases e2
    exact ⟨.refl, r, q3.ext (g.ext rel)⟩
theorem si_keys (he : SE X W e me) : SI X W tg e (iKeysD me) :=
  PI.mono (PI.or (pi_keysX (G := gOf X) he) (pi_keys he)) fun σ H R ⟨ρ, μ, ι, env, rel, h⟩ => by
    have h := Post.bind h
    cases hm : me ρ μ with
    | stuck => rw [hm] at h; exact h.elim
    | exc c fs m => exact .inl ⟨ρ, μ, ι, env, rel, by rw [hm] at h ⊢; exact h⟩
    | ok d μ1 =>
      rw [hm] at h
      by_cases ht : ∃ n l, d = .ref n ∧ μ1[n]? = some (.lck true l)
      · obtain ⟨n, l, rfl, em⟩ := ht
        refine .inl ⟨ρ, μ, ι, env, rel, ?_⟩
        rw [hm]
        intro ι1 H1 g1 r1 v rv
        obtain ⟨_, _, h3⟩ := h ι1 H1 g1 r1
        simp only [itKeys, em] at h3
        obtain ⟨a, h0, rfl⟩ := rv.ref
        obtain ⟨od, xs, q1, q2, q3, q4, q5⟩ := r1.cell n _ a em h0
        exact ⟨a, od, xs, rfl, q5, q1, h3 ι1 H1 .refl r1 _ (it_keysX r1 h0 q1 q2)⟩
      · refine .inr ⟨ρ, μ, ι, env, rel, ?_⟩
        rw [hm]
        intro ι1 H1 g1 r1 v rv
        obtain ⟨_, _, h3⟩ := h ι1 H1 g1 r1
        unfold itKeys at h3
        split at h3
        · rename_i n
          split at h3
          · rename_i t l em
            cases t with
            | true => exact (ht ⟨n, l, rfl, em⟩).elim
            | false =>
              obtain ⟨a, h0, rfl⟩ := rv.ref
              obtain ⟨od, kvs, q1, q2⟩ := r1.cell n _ a em h0
              exact ⟨a, od, rfl, .inl ⟨kvs, q1, h3 ι1 H1 .refl r1 _ (it_keysK h0 q1 (Paired.length q2))⟩⟩
          · exact h3.elim
        · exact h3.elim
end
/-! ### the lock -/
def lockC : Cell → Option Cell
  | .dic l => some (.lck false l)
  | .tdic l => some (.lck true l)
  | _ => none
/-- which cell slot i names, if it is to be locked -/
def toLock (i : Nat) (ρ : Rho) (μ : Mem) : Option (Nat × Cell × Cell) := match ρ[i]? with
  | some (some (.ref n)) => (match μ[n]? with
    | some c => (lockC c).map fun c' => (n, c, c')
    | none => none)
  | _ => none
def openF (n : Nat) (c : Cell) : Fl → Mem → Res Fl
  | .exc e fs ρ, μ => .ok (.exc e fs ρ) μ
  | f, μ => .ok f (μ.set n c)
@[simp] def sLock (i : Nat) (m : MS) : MS := fun ρ μ => match toLock i ρ μ with
  | some (n, c, c') => (m ρ (μ.set n c')).bind (openF n c)
  | none => m ρ μ
theorem lock_h {G : Gd} {ι : List Addr} {H : Hp} {c c' : Cell} {a : Addr} (h : CellOk G ι H a c) (e : lockC c = some c') : ∃ u, H a = some u ∧ Mut (some u) ∧ (∀ o v, u ≠ .frz o v) ∧ (∀ xs, u ≠ .tup xs) ∧ (∀ xs, u ≠ .lst xs) ∧
    (∀ od ι' H', Ext ι H ι' H' → H' a = some (.frz od u) → CellOk G ι' H' a c') ∧ ∀ ι' H', Ext ι H ι' H' → H' a = some u → CellOk G ι' H' a c := by
  cases c with
  | dic l =>
    cases e
    obtain ⟨kvs, h1, h2⟩ := h
    exact ⟨_, h1, trivial, fun _ _ z => (nomatch z), fun _ z => (nomatch z), fun _ z => (nomatch z), fun od ι' H' x q => ⟨od, kvs, q, Paired.imp' h2 fun _ _ z => ⟨z.1, z.2.ext x⟩⟩, fun ι' H' x q => ⟨kvs, q, Paired.imp' h2 fun _ _ z => ⟨z.1, z.2.ext x⟩⟩⟩
  | tdic l =>
    cases e
    obtain ⟨xs, h1, h2, h3⟩ := h
    exact ⟨_, h1, trivial, fun _ _ z => (nomatch z), fun _ z => (nomatch z), fun _ z => (nomatch z), fun od ι' H' x q => ⟨od, xs, q, Paired.imp' h2 fun _ _ z => ⟨z.1, z.2.1, z.2.2.1.ext x, let ⟨v, z1, z2⟩ := z.2.2.2; ⟨v, z1.ext x, z2⟩⟩, h3⟩,
      fun ι' H' x q => ⟨xs, q, Paired.imp' h2 fun _ _ z => ⟨z.1, z.2.1, z.2.2.1.ext x, let ⟨v, z1, z2⟩ := z.2.2.2; ⟨v, z1.ext x, z2⟩⟩, h3⟩⟩
  | _ => cases e
section
variable {G : Gd} {ι ι' : List Addr} {H H' : Hp} {μ μ' : Mem} {a : Addr} {n : Nat} {c c' : Cell} {u : HO} {od : Obj}
/-- a cell locked -/
theorem grow_lock (r : Rel G ι H μ) (em : μ[n]? = some c) (h0 : ι[n]? = some a) (hc : lockC c = some c') (hu : H a = some u) : Grow ι H ι (upd H a (.frz od u)) ∧ Rel G ι (upd H a (.frz od u)) (μ.set n c') := by
  obtain ⟨u', e, mu, n1, n2, n3, k1, k2⟩ := lock_h (r.cell n c a em h0) hc
  rw [hu] at e; cases e
  exact grow_set r h0 (fun o v z => by rw [hu] at z; cases z; exact n1 _ _ rfl) fun x => k1 od ι _ x upd_same
/-- .. and opened again -/
theorem grow_open (r : Rel G ι H μ) (em : μ[n]? = some c) (h0 : ι[n]? = some a) (hc : lockC c = some c') (hu : H a = some u) (g : Grow ι (upd H a (.frz od u)) ι' H') (r' : Rel G ι' H' μ') :
    H' a = some (.frz od u) ∧ Grow ι H ι' (upd H' a u) ∧ Rel G ι' (upd H' a u) (μ'.set n c) ∧ Ext ι' H' ι' (upd H' a u) := by
  obtain ⟨u', e, mu, n1, n2, n3, k1, k2⟩ := lock_h (r.cell n c a em h0) hc
  rw [hu] at e; cases e
  obtain ⟨gl, rl⟩ := grow_lock (od := od) r em h0 hc hu
  have e1 : H' a = some (.frz od u) := g.lock a _ _ upd_same
  have hm : a ∈ ι := List.mem_of_getElem? h0
  have h0' : ι'[n]? = some a := prefix_get g.pre h0
  have x1 : Ext ι' H' ι' (upd H' a u) := ⟨List.prefix_refl _, fun b xs z => by rw [upd_ne (fun q => by rw [q, e1] at z; cases z)]; exact z,
    fun b o v z q => by
      rw [upd_ne (fun w => ?_)]
      · exact z
      · rw [w, e1] at z
        cases z
        obtain ⟨xs, rfl | rfl⟩ := q
        · exact n3 xs rfl
        · exact n2 xs rfl⟩
  have g2 : Grow ι H ι' (upd H' a u) := by
    have gg := gl.trans g
    refine ⟨gg.pre, fun b o z na => ?_, gg.new, fun b o v z => ?_⟩
    · rw [upd_ne (fun q => na (by rw [q]; exact hm))]; exact gg.keep b o z na
    · rw [upd_ne (fun q => by rw [q, hu] at z; cases z; exact n1 _ _ rfl)]; exact gg.lock b o v z
  refine ⟨e1, g2, ⟨by simp [r'.len], r'.nd, fun i d b h1 h2 => ?_⟩, x1⟩
  have hn : n < μ'.length := by rw [← r'.len]; exact (List.getElem?_eq_some_iff.mp h0').1
  by_cases hi : n = i
  · subst hi
    rw [List.getElem?_set_self hn] at h1
    rw [h0'] at h2
    cases h1; cases h2
    exact k2 ι' _ (g2.ext r) upd_same
  · rw [List.getElem?_set_ne hi] at h1
    refine (r'.cell i d b h1 h2).ext x1 (upd_ne ?_)
    rintro rfl
    have hn' : n < ι'.length := (List.getElem?_eq_some_iff.mp h0').1
    have hi' : i < ι'.length := (List.getElem?_eq_some_iff.mp h2).1
    have e1 : ι'[n] = b := (List.getElem?_eq_some_iff.mp h0').2
    have e2 : ι'[i] = b := (List.getElem?_eq_some_iff.mp h2).2
    exact hi ((List.getElem_inj r'.nd).mp (e1.trans e2.symm))
end
theorem PS.or {X : Cx} {st : Stmt} {t t' : TS} (h : PS X st t) (h' : PS X st t') : PS X st fun D σ H => t D σ H ∨ t' D σ H := ⟨fun pins s σ H D I w => w.elim (h.run pins s σ H D I) (h'.run pins s σ H D I)⟩
theorem ss_lock {X : Cx} {W : WX} {st : Stmt} {i : Nat} {m : MS} (h : SS X W st m) : SS X W st (sLock i m) :=
  PS.mono (PS.or h (ps_lock h)) fun D σ H ⟨ρ, μ, ι, env, rel, h⟩ => by
    simp only [sLock] at h
    split at h
    · rename_i n c c' et
      refine .inr ?_
      unfold toLock at et
      split at et
      · rename_i n' er
        split at et
        · rename_i c0 em
          obtain ⟨c1, hc, e⟩ := Option.map_eq_some_iff.mp et
          cases e
          obtain ⟨v, _, rv⟩ := env.at_ i _ er
          obtain ⟨a, h0, rfl⟩ := rv.ref
          obtain ⟨u, hu, mu, _⟩ := lock_h (rel.cell _ _ a em h0) hc
          refine ⟨a, u, hu, mu, fun od => ?_⟩
          obtain ⟨gl, rl⟩ := grow_lock (od := od) rel em h0 hc hu
          refine ⟨ρ, _, ι, env.ext (gl.ext rel), rl, ?_⟩
          cases hr : m ρ (μ.set n c') with
          | stuck => rw [hr] at h; exact h.elim
          | exc e fs m => rw [hr] at h; exact h.elim
          | ok f μ2 =>
            rw [hr] at h
            intro ι2 H2 g2 r2
            obtain ⟨e1, g3, r3, x3⟩ := grow_open rel em h0 hc hu g2 r2
            cases f with
            | nx ρ' => exact fun σ' env' => ⟨e1, h ι2 _ g3 r3 σ' (env'.ext x3)⟩
            | brk ρ' => exact fun σ' env' => ⟨e1, h ι2 _ g3 r3 σ' (env'.ext x3)⟩
            | cnt ρ' => exact fun σ' env' => ⟨e1, h ι2 _ g3 r3 σ' (env'.ext x3)⟩
            | ret d => exact fun v rv => ⟨e1, h ι2 _ g3 r3 v (rv.ext x3)⟩
            | exc e fs ρ' => exact h ι2 H2 (gl.trans g2) r2
        · cases et
      · cases et
    · exact .inl ⟨ρ, μ, ι, env, rel, h⟩
end RW

/-! SEm: set(list of ints), sorted, min, max, sum, all, any, isinstance. -/
namespace RW
open PySem L2 PySem.Spec
open PyProof.Rows hiding St
/-- the object of a new set -/
abbrev oSet (w : World) : Obj := { cls := .type "set", dict := none, data := .set #[] 0 (.fresh 0 0 (!w.params.followText "set-order")) }
section
variable {P : Program} {w : World} {A : Around} {E : Value → Shared → Prop} {s : Shared}
set_option maxHeartbeats 3200000 in
theorem set_of_list {l : Addr} {us : Array Value} (ns : List Int) {Q : Value → Shared → Prop} (hh : A.handled = none) (hl : s.heap.IsList l us) (hit : IntsAre us.toList ns) (hb : ns.length + 1 < scanBound)
    (h : ∀ (h' : Heap) (tk c : Nat), SetR w h' s.heap.objs.size (fun j => decide (j ∈ ns)) c → c ≤ ns.length → (∀ b o, s.heap.get? b = some o → h'.get? b = some o) → Q (.ref s.heap.objs.size) { s with heap := h', toks := tk }) :
    wpAny (model P w) A (call (.type "set") [.ref l]) Q E s := by
  have hz : us.size = ns.length := by have q := IntsAre.length hit; rwa [Array.length_toList] at q
  obtain ⟨c, tl, hmro⟩ := F.called_set.mro
  have hA := F.called_set.made; have hB := F.called_set.sub
  refine wpAny_call (codeAny_of_tree (wpAny_pure ⟨Code.quiet_builtin _ (by decide +kernel), codeAny_builtin F.entry_type_call ?_⟩))
  rw [Around.under_plain (weight_type_call_type "set" [.ref l] []) rfl]
  have hC := F.called_set.notType; have hD := F.called_set.canCreate; have hE := F.typeCall_set_1 (.ref l)
  repeat (any_goals (first | assumption | wp_step))
  refine codeAny_mono (code_set_led1 (.ref l) (E := E) (Q₁ := fun ob t => ob = .ref s.heap.objs.size ∧ t = { s with heap := s.heap.push (oSet w) }) ⟨rfl, rfl⟩) fun r t hr => ?_
  match r, hr with
  | .error _, hr => exact hr
  | .ok (.ret ob), ⟨e1, e2⟩ =>
    subst e1 e2
    have hS : (s.heap.push (oSet w)).get? s.heap.objs.size = some (oSet w) := Heap.get?_push_size _ rfl
    have hT : Shared.TypeIs { s with heap := s.heap.push (oSet w) } (.ref s.heap.objs.size) "set" := ⟨_, hS, rfl⟩
    have hF := F.called_set.init.lookup; have hG := F.called_set.init.bind (.ref s.heap.objs.size)
    repeat (any_goals (first | assumption | wp_step))
    refine codeAny_mono (codeAny_call_builtin (R := wants (fun r t => r = .none ∧ ∃ h' tk c, t = { s with heap := h', toks := tk } ∧ SetR w h' s.heap.objs.size (fun j => decide (j ∈ ns)) c ∧ c ≤ ns.length ∧
        (∀ b o, s.heap.get? b = some o → h'.get? b = some o)) E) F.called_set.init.plain F.entry_set_init (check_set_init_1 hT ?_)) fun r₂ t₂ hr₂ => ?_
    · obtain ⟨⟨oc, od, dt, sl⟩, hol, hcl, nl, hdl⟩ := hl
      replace hcl : oc = .type "list" := hcl
      replace hdl : dt = .seq us nl := hdl
      subst hcl hdl
      have hol' : (s.heap.push (oSet w)).get? l = some { cls := .type "list", dict := od, data := .seq us nl, slots := sl } := Heap.get?_push_of_some _ hol
      have k1 := F.sub_list_set; have k2 := F.sub_list_frozenset
      have k3 : (Value.type "list" == Value.type "dict") = false := by decide
      have hl1 : (s.heap.push (oSet w)).IsList l us := ⟨_, hol', rfl, nl, rfl⟩
      unfold Builtin.«set.__init__» noKeywords Builtin.Frozenset.updateFrom
      generalize hPI : pyIter = PI
      wp_walk
      subst hPI
      refine wpAny_pyIter_list hl1 (wpAny_bind (wpAny_runValue ?_))
      have hlS : l < s.heap.objs.size := Heap.lt_size hol
      have zz : (s.heap.push (oSet w)).objs.size = s.heap.objs.size + 1 := Heap.size_push ..
      have n1 : l ≠ (s.heap.push (oSet w)).objs.size := by rw [zz]; exact Nat.ne_of_lt (Nat.lt_succ_of_lt hlS)
      have n2 : s.heap.objs.size ∉ [(s.heap.push (oSet w)).objs.size, l] := by
        rw [zz]; simp only [List.mem_cons, List.not_mem_nil, or_false, not_or]
        exact ⟨Nat.ne_of_lt (Nat.lt_succ_self _), Nat.ne_of_gt hlS⟩
      have hval : ∀ (i : Nat) (v : Value), us[i]? = some v → ∃ k t, ns[i]? = some k ∧ v = .int k t := fun i v hv => by
        have hi : i < ns.length := by rw [← hz]; exact (Array.getElem?_eq_some_iff.mp hv).1
        obtain ⟨t, e⟩ := IntsAre.int_at hit i v (by rw [Array.getElem?_toList]; exact hv)
        exact ⟨ns[i], t, List.getElem?_eq_getElem hi, by rw [e, List.getD_eq_getElem?_getD, List.getElem?_eq_getElem hi] <;> rfl⟩
      refine set_update_ints ((Walks.list (by simp [hh]) _ l n1 us).toS) s.heap.objs.size n2 ns hz hb hval (us.size - 0) 0 _ (by omega) (Nat.zero_le _) ⟨⟨_, Heap.get?_push_size _ rfl, rfl, rfl⟩, (hl1.push _)⟩ ⟨0, Nat.le_refl 0, setR_new_at (Heap.get?_push_of_some _ hS)⟩ ?_
      intro t' c' hm hc' hS'
      obtain ⟨h', g2, d', tk', os'⟩ := t'
      obtain rfl : g2 = s.gens := hm.gens
      obtain rfl : d' = s.drawn := hm.drawn
      obtain rfl : os' = s.os := hm.os
      rw [hz] at hc'
      refine wpAny_pure (wpAny_pure ⟨rfl, h', tk', c', rfl, hS', hc', fun b o e => ?_⟩)
      have lb : b < s.heap.objs.size := Heap.lt_size e
      refine hm.heap b o ?_ (Heap.get?_push_of_some _ (Heap.get?_push_of_some _ e))
      simp only [List.mem_cons, List.not_mem_nil, or_false, not_or]
      exact ⟨Nat.ne_of_lt lb, by rw [zz]; exact Nat.ne_of_lt (Nat.lt_succ_of_lt lb)⟩
    · match r₂, hr₂ with
      | .error _, hr₂ => exact hr₂
      | .ok (.ret _), ⟨e1, h', tk, c', e2, hS', hc', hk'⟩ =>
        subst e1 e2
        repeat (any_goals (first | assumption | wp_step))
        exact h _ _ _ hS' hc' hk'
end
/-! ### lists of ints -/
def toInts : List D → Option (List Int)
  | [] => some []
  | .int i :: l => (toInts l).map (i :: ·)
  | _ :: _ => none
theorem toInts_eq : ∀ {l : List D} {ns : List Int}, toInts l = some ns → l = ns.map D.int
  | [], ns, h => by cases h; rfl
  | .int i :: l, ns, h => by
    obtain ⟨r, e, rfl⟩ := Option.map_eq_some_iff.mp h
    rw [toInts_eq e]; rfl
  | .non :: _, _, h => nomatch h
  | .bl _ :: _, _, h => nomatch h
  | .str _ :: _, _, h => nomatch h
  | .tup _ :: _, _, h => nomatch h
  | .frl _ :: _, _, h => nomatch h
  | .ref _ :: _, _, h => nomatch h
  | .fn _ :: _, _, h => nomatch h
@[simp] theorem toInts_map : ∀ ns : List Int, toInts (ns.map D.int) = some ns
  | [] => rfl
  | n :: ns => by simp [toInts, toInts_map ns]
def insI (x : Int) : List Int → List Int
  | [] => [x]
  | y :: l => if x ≤ y then x :: y :: l else y :: insI x l
/-- sorted -/
def isort : List Int → List Int
  | [] => []
  | x :: l => insI x (isort l)
theorem insI_perm (x : Int) : ∀ l, (insI x l).Perm (x :: l)
  | [] => .refl _
  | y :: l => by
    unfold insI
    split
    · exact .refl _
    · exact ((insI_perm x l).cons y).trans (.swap _ _ _)
theorem isort_perm : ∀ l, (isort l).Perm l
  | [] => .refl _
  | x :: l => (insI_perm x _).trans ((isort_perm l).cons x)
theorem insI_sorted (x : Int) : ∀ l, l.Pairwise (· ≤ ·) → (insI x l).Pairwise (· ≤ ·)
  | [], _ => by simp [insI]
  | y :: l, h => by
    unfold insI
    split
    · rename_i hxy
      refine List.pairwise_cons.mpr ⟨fun z hz => ?_, h⟩
      rcases List.mem_cons.mp hz with e | hz
      · omega
      · have := (List.pairwise_cons.mp h).1 z hz; omega
    · rename_i hxy
      have hp := List.pairwise_cons.mp h
      refine List.pairwise_cons.mpr ⟨fun z hz => ?_, insI_sorted x l hp.2⟩
      rcases List.mem_cons.mp ((insI_perm x l).subset hz) with e | hz
      · omega
      · exact hp.1 z hz
theorem isort_sorted : ∀ l, (isort l).Pairwise (· ≤ ·)
  | [] => .nil
  | x :: l => insI_sorted x _ (isort_sorted l)
theorem isort_mem {x : Int} {l : List Int} : x ∈ isort l ↔ x ∈ l := (isort_perm l).mem_iff
theorem sorted_unique {l l' : List Int} (p : l.Perm l') (h : l.Pairwise (· ≤ ·)) (h' : l'.Pairwise (· ≤ ·)) : l = l' :=
  List.Perm.eq_of_pairwise (le := (· ≤ ·)) (fun a b _ _ h1 h2 => by omega) h h' p
/-- without what stands twice, sorted -/
def usort : List Int → List Int
  | [] => []
  | x :: l => if x ∈ l then usort l else insI x (usort l)
theorem usort_mem {x : Int} : ∀ {l : List Int}, x ∈ usort l ↔ x ∈ l
  | [] => Iff.rfl
  | y :: l => by
    unfold usort
    split
    · rename_i h
      rw [usort_mem (l := l), List.mem_cons]
      exact ⟨.inr, fun q => q.elim (fun e => e ▸ h) id⟩
    · rw [(insI_perm y _).mem_iff, List.mem_cons, List.mem_cons, usort_mem (l := l)]
theorem usort_sorted : ∀ l, (usort l).Pairwise (· < ·)
  | [] => .nil
  | y :: l => by
    unfold usort
    split
    · exact usort_sorted l
    · rename_i h
      have hn : (insI y (usort l)).Nodup := by
        rw [(insI_perm y _).nodup_iff, List.nodup_cons]
        exact ⟨fun q => h (usort_mem.mp q), (usort_sorted l).imp fun {a b} q e => by omega⟩
      have hs := insI_sorted y (usort l) ((usort_sorted l).imp fun {a b} q => by omega)
      exact (hs.and hn).imp fun {a b} q => by omega
theorem nodup_len {l l' : List Int} (h : l.Nodup) (h' : l'.Nodup) (e : ∀ x, x ∈ l ↔ x ∈ l') : l.length = l'.length :=
  ((List.perm_ext_iff_of_nodup h h').mpr e).length_eq
def minI : List Int → Int
  | [] => 0
  | [x] => x
  | x :: l => if minI l < x then minI l else x
def maxI : List Int → Int
  | [] => 0
  | [x] => x
  | x :: l => if x < maxI l then maxI l else x
theorem minI_spec : ∀ {l : List Int}, l ≠ [] → minI l ∈ l ∧ ∀ y ∈ l, minI l ≤ y
  | [x], _ => by simp [minI]
  | x :: y :: l, _ => by
    obtain ⟨h1, h2⟩ := minI_spec (l := y :: l) (by simp)
    rw [minI]
    · split
      · exact ⟨List.mem_cons_of_mem _ h1, fun z hz => (List.mem_cons.mp hz).elim (fun e => by omega) (h2 z)⟩
      · exact ⟨List.mem_cons_self, fun z hz => (List.mem_cons.mp hz).elim (fun e => by omega) (fun hz => by have := h2 z hz; omega)⟩
    · simp
theorem maxI_spec : ∀ {l : List Int}, l ≠ [] → maxI l ∈ l ∧ ∀ y ∈ l, y ≤ maxI l
  | [x], _ => by simp [maxI]
  | x :: y :: l, _ => by
    obtain ⟨h1, h2⟩ := maxI_spec (l := y :: l) (by simp)
    rw [maxI]
    · split
      · exact ⟨List.mem_cons_of_mem _ h1, fun z hz => (List.mem_cons.mp hz).elim (fun e => by omega) (h2 z)⟩
      · exact ⟨List.mem_cons_self, fun z hz => (List.mem_cons.mp hz).elim (fun e => by omega) (fun hz => by have := h2 z hz; omega)⟩
    · simp
/-- the ints of a list that lies in a cell, or of the script -/
def intsAt : D → Mem → Option (List Int)
  | .ref n, μ => (match μ[n]? with
    | some (.lst l) => toInts l
    | _ => none)
  | .frl l, _ => toInts l
  | _, _ => none
theorem intsAt_is {G : Gd} {ι : List Addr} {H : Hp} {μ : Mem} {d : D} {v : V} {ns : List Int} (r : Rel G ι H μ) (rv : Rep G ι H d v) (e : intsAt d μ = some ns) : ∃ a, v = .ref a ∧ SqL G.K H a (ns.map V.int) := by
  unfold intsAt at e
  split at e
  · split at e
    · rename_i l em
      obtain ⟨a, vs, rfl, h0, h1, h2⟩ := r.lst em rv
      have q := toInts_eq e
      subst q
      obtain rfl := h2.ints
      exact ⟨a, rfl, .of h1⟩
    · cases e
  · obtain ⟨a, vs, rfl, h1, h2⟩ := rv.frl
    have q := toInts_eq e
    subst q
    obtain rfl := h2.ints
    exact ⟨a, rfl, FrL.sq _ _ h1⟩
  · cases e
def minLL : List D → Mem → Res D
  | [d], μ => (match intsAt d μ with
    | some (x :: ns) => .ok (.int (minI (x :: ns))) μ
    | _ => .stuck)
  | _, _ => .stuck
def maxLL : List D → Mem → Res D
  | [d], μ => (match intsAt d μ with
    | some (x :: ns) => .ok (.int (maxI (x :: ns))) μ
    | _ => .stuck)
  | _, _ => .stuck
def sumL : List D → Mem → Res D
  | [d], μ => (match intsAt d μ with
    | some ns => .ok (.int ns.sum) μ
    | _ => .stuck)
  | _, _ => .stuck
theorem snd_minLL {G : Gd} : SndL G (rMin G.K) minLL := fun ι H μ xs vs W σ Q r rxs h => by
  unfold minLL at h
  split at h
  · split at h
    · rename_i d _ x ns e
      obtain ⟨v, rfl, rv⟩ := rxs.one
      obtain ⟨a, rfl, h1⟩ := intsAt_is r rv e
      obtain ⟨m1, m2⟩ := minI_spec (l := x :: ns) (by simp)
      refine ⟨a, x :: ns, rfl, h1, by simp, fun m q1 q2 => ?_⟩
      have e2 : m = minI (x :: ns) := by have := m2 m q1; have := q2 _ m1; omega
      subst e2
      exact h ι H .refl r _ (rep_int _)
    · exact h.elim
  · exact h.elim
theorem snd_maxLL {G : Gd} : SndL G (rMax G.K) maxLL := fun ι H μ xs vs W σ Q r rxs h => by
  unfold maxLL at h
  split at h
  · split at h
    · rename_i d _ x ns e
      obtain ⟨v, rfl, rv⟩ := rxs.one
      obtain ⟨a, rfl, h1⟩ := intsAt_is r rv e
      obtain ⟨m1, m2⟩ := maxI_spec (l := x :: ns) (by simp)
      refine ⟨a, x :: ns, rfl, h1, by simp, fun m q1 q2 => ?_⟩
      have e2 : m = maxI (x :: ns) := by have := m2 m q1; have := q2 _ m1; omega
      subst e2
      exact h ι H .refl r _ (rep_int _)
    · exact h.elim
  · exact h.elim
theorem snd_sum {G : Gd} : SndL G (rSum G.K) sumL := fun ι H μ xs vs W σ Q r rxs h => by
  unfold sumL at h
  split at h
  · split at h
    · rename_i d _ ns e
      obtain ⟨v, rfl, rv⟩ := rxs.one
      obtain ⟨a, rfl, h1⟩ := intsAt_is r rv e
      exact ⟨a, ns, rfl, h1, h ι H .refl r _ (rep_int _)⟩
    · exact h.elim
  · exact h.elim
/-! ### sets of ints, sorted -/
def setL : List D → Mem → Res D
  | [d], μ => (match intsAt d μ with
    | some ns => if ns.length ≤ 4000 then .ok (.ref μ.length) (μ ++ [.iset (usort ns)]) else .stuck
    | _ => .stuck)
  | _, _ => .stuck
def rSetOfL (G : Gd) : List V → Hp → VK → Prop := fun xs H Q => ∃ (a : Addr) (ns : List Int), xs = [.ref a] ∧ SqL G.K H a (ns.map V.int) ∧ ns.length ≤ 4000 ∧ ∀ p, H p = none → Q (.ref p) (upd H p (SetO G.w p (fun i => decide (i ∈ usort ns)) (usort ns).length))
theorem cr_setOfL {X : Cx} (hc : X.calm = true) : CallR X (.type "set") (rSetOfL (gOf X)) := by
  intro pins s σ H xs us Q I r h
  obtain ⟨a, ns, rfl, hs, h4, q⟩ := h
  obtain ⟨its, rv, hl, _⟩ := I.list hs
  rw [Vals.ref1 r]
  refine set_of_list ns (I.ok.hd hc) hl.isList (by simpa using rv.ints) (by unfold scanBound; omega) fun h' tk c R hcn hk => ?_
  have e1 : (fun j => decide (j ∈ ns)) = fun j => decide (j ∈ usort ns) := funext fun j => by rw [decide_eq_decide]; exact usort_mem.symm
  have e2 : c = (usort ns).length := by
    obtain ⟨o, es, ep, t, _, _, _, _, nd, hm, _, _, hn, _⟩ := R
    rw [← hn, ← Array.length_toList, ← List.length_map]
    refine nodup_len nd ((usort_sorted ns).imp fun {a b} q e => by omega) fun x => ?_
    rw [← hm x, usort_mem]; simp
  rw [e1, e2] at R
  exact ⟨.ref _, _, I.laid (t' := tk) hk (Nat.le_refl _) (setO_new (P := X.prog) R), rfl, q _ (I.hok.fresh (Nat.le_refl _))⟩
theorem snd_setOf {G : Gd} : SndL G (rSetOfL G) setL := fun ι H μ xs vs W σ Q r rxs h => by
  unfold setL at h
  split at h
  · split at h
    · rename_i d _ ns e
      split at h
      · rename_i h4
        obtain ⟨v, rfl, rv⟩ := rxs.one
        obtain ⟨a, rfl, h1⟩ := intsAt_is r rv e
        refine ⟨a, ns, rfl, h1, h4, fun p hp => ?_⟩
        obtain ⟨g2, r2⟩ := grow_cell (o := SetO G.w p (fun i => decide (i ∈ usort ns)) (usort ns).length) (c := .iset (usort ns)) r hp fun x => ⟨upd_same, usort_sorted ns⟩
        exact h _ _ g2 r2 (.ref p) (rep_new (r := r))
      · exact h.elim
    · exact h.elim
  · exact h.elim
def sortedL : List D → Mem → Res D
  | [d], μ => (match d with
    | .ref n => (match μ[n]? with
      | some (.iset l) => if l.length < 64 then .ok (.ref μ.length) (μ ++ [.lst (l.map D.int)]) else .stuck
      | _ => (match intsAt d μ with
        | some ns => .ok (.ref μ.length) (μ ++ [.lst ((isort ns).map D.int)])
        | none => .stuck))
    | _ => (match intsAt d μ with
      | some ns => .ok (.ref μ.length) (μ ++ [.lst ((isort ns).map D.int)])
      | none => .stuck))
  | _, _ => .stuck
def rSortedA (G : Gd) : List V → Hp → VK → Prop := fun xs H Q => rSortedI G.K xs H Q ∨ rSortedSet G.w xs H Q
theorem cr_sortedA {X : Cx} (hc : X.calm = true) : CallR X (.builtin "sorted") (rSortedA (gOf X)) := CallR.or cr_sortedI (cr_sortedSet hc)
theorem snd_sorted {G : Gd} : SndL G (rSortedA G) sortedL := fun ι H μ xs vs W σ Q r rxs h => by
  have key : ∀ {d : D} {ns : List Int}, xs = [d] → intsAt d μ = some ns → Post G ι H W σ (.ok (D.ref μ.length) (μ ++ [.lst ((isort ns).map D.int)])) (fun ι' H' _ d => ∀ v, Rep G ι' H' d v → Q v H') → rSortedA G vs H Q := fun {d ns} ex e k => by
    subst ex
    obtain ⟨v, rfl, rv⟩ := rxs.one
    obtain ⟨a, rfl, h1⟩ := intsAt_is r rv e
    refine .inl ⟨a, ns, rfl, h1, fun ns' p hp hs => ?_⟩
    obtain rfl : ns' = isort ns := sorted_unique (hp.trans (isort_perm ns).symm) hs (isort_sorted ns)
    exact new_lst r (.of_ints _) k p
  unfold sortedL at h
  split at h
  · rename_i d
    split at h
    · rename_i n
      split at h
      · rename_i l em
        split at h
        · rename_i h6
          obtain ⟨v, rfl, rv⟩ := rxs.one
          obtain ⟨a, h0, rfl⟩ := rv.ref
          obtain ⟨h1, h2⟩ := r.cell n _ a em h0
          refine .inr ⟨a, _, _, rfl, h1, h6, fun ns p hs hm hl hp => ?_⟩
          have e : ns = l := by
            have nd : ∀ {l : List Int}, l.Pairwise (· < ·) → l.Nodup := fun h => h.imp fun {a b} q e => by omega
            refine sorted_unique ((List.perm_ext_iff_of_nodup (nd hs) (nd h2)).mpr fun x => ?_) (hs.imp fun {a b} q => by omega) (h2.imp fun {a b} q => by omega)
            rw [hm]; simp
          subst e
          exact new_lst r (.of_ints _) h p hp
        · exact h.elim
      · split at h
        · rename_i e; exact key rfl e h
        · exact h.elim
    · split at h
      · rename_i e; exact key rfl e h
      · exact h.elim
  · exact h.elim
end RW

/-! SEn: isinstance, all, any. -/
namespace RW
open PySem L2
def tyD : D → Mem → Option String
  | .non, _ => some "NoneType"
  | .bl _, _ => some "bool"
  | .int _, _ => some "int"
  | .str _, _ => some "str"
  | .tup _, _ => some "tuple"
  | .frl _, _ => some "list"
  | .ref n, μ => (match μ[n]? with
    | some (.lst _) => some "list"
    | some (.dic _) => some "dict"
    | some (.lck false _) => some "dict"
    | _ => none)
  | .fn _, _ => none
/-- a kind of one of the types below -/
def subT (a b : String) : Bool := a == b || (a == "bool" && b == "int")
def isT1 (c : String) : D → Mem → Res D := fun d μ => match tyD d μ with
  | some t => .ok (.bl (subT t c)) μ
  | none => .stuck
def isT2 (c c2 : String) : D → Mem → Res D := fun d μ => match tyD d μ with
  | some t => .ok (.bl (subT t c || subT t c2)) μ
  | none => .stuck
theorem kitB_tab : (["NoneType", "bool", "int", "str", "tuple", "list", "dict"].all fun a => ["bool", "int", "str", "tuple", "list", "dict"].all fun b => kitB a b == some (subT a b)) = true := by decide +kernel
theorem kitB_is {d : D} {μ : Mem} {t c : String} (h : tyD d μ = some t) (hc : c ∈ ["bool", "int", "str", "tuple", "list", "dict"]) : kitB t c = some (subT t c) := by
  have q := kitB_tab
  rw [List.all_eq_true] at q
  have ht : t ∈ ["NoneType", "bool", "int", "str", "tuple", "list", "dict"] := by
    unfold tyD at h
    split at h <;> first | (cases h; simp; done) | (split at h <;> first | (cases h; simp; done) | cases h) | cases h
  have q2 := q t ht
  rw [List.all_eq_true] at q2
  exact eq_of_beq (q2 c hc)
theorem tyX_of {G : Gd} {ι : List Addr} {H : Hp} {μ : Mem} {d : D} {v : V} {t : String} (r : Rel G ι H μ) (rv : Rep G ι H d v) (h : tyD d μ = some t) : TyX G.K H v (.type t) := by
  cases d with
  | non => cases h; rw [rv.non]; exact .base .non
  | bl b => cases h; rw [rv.bl]; exact .base (.bl b)
  | int i => cases h; rw [rv.int]; exact .base (.int i)
  | str x => cases h; rw [rv.str]; exact .base (.str x)
  | tup l =>
    cases h
    obtain ⟨a, vs, rfl, h1, _⟩ := rv.tup
    rcases h1 with (h1 | ⟨o, h1⟩) | ⟨o, its, n, h1, h2, _⟩
    · exact .base (.tup h1)
    · exact .fTuple h1
    · exact .kTuple h1 h2
  | frl l =>
    cases h
    obtain ⟨a, vs, rfl, h1, _⟩ := rv.frl
    rcases h1 with ⟨o, h1⟩ | ⟨o, its, n, h1, h2, _⟩
    · exact .base (.frz h1)
    · exact .kList h1 h2
  | fn x => cases h
  | ref n =>
    obtain ⟨a, h0, rfl⟩ := rv.ref
    simp only [tyD] at h
    split at h
    · rename_i l em
      cases h
      obtain ⟨vs, h1, _⟩ := r.cell n _ a em h0
      exact .base (.lst h1)
    · rename_i l em
      cases h
      obtain ⟨vs, h1, _⟩ := r.cell n _ a em h0
      exact .base (.dK h1)
    · rename_i l em
      cases h
      obtain ⟨o, vs, h1, _⟩ := r.cell n _ a em h0
      exact .fDict h1
    · cases h
section
variable {X : Cx} {W : WX} {e : Expr} {me : MD} {p p1 p2 tp pos : Pos} {c c2 : Str} {k : Nat}
theorem se_isi1 {t : String} (hg : Gl X "isinstance") (hm : X.mg "isinstance" = none) (he : SE X W e me) (hgc : Gl X c) (hmc : X.mg c = none) (hv : bootBuiltins c = some (.type t)) (ht : t ∈ ["bool", "int", "str", "tuple", "list", "dict"]) (hn : c ≠ "__name__" := by decide) (hd : (c == ("__debug__" : Str)) = false := by decide)
    (h1 : starEach [e, .Name c p1] X.env = (false, eval e X.env) :: starEach [.Name c p1] X.env := by rfl) (h2 : starEach [.Name c p1] X.env = (false, eval (.Name c p1) X.env) :: starEach [] X.env := by rfl)
    (hpl : (backTo pos (starEach [.Name c p1] X.env)).any (·.1) = false := by rfl) : SE X W (.Call (.Name "isinstance" p) [e, .Name c p1] [] pos) (mUn (isT1 t) me) :=
  PE.mono (pe_callB call_isi hg hm PyProof.Rows.boot_isinstance (pa_cons he (pa_cons (pe_bltn (v := .ty t) hgc hmc hv rfl hn hd) pa_nil h2) h1) (by decide) (by decide) h1 hpl) fun σ H Q ⟨ρ, μ, ι, env, rel, h⟩ =>
    ⟨ρ, μ, ι, env, rel, (Post.bind h).imp fun ι1 H1 μ1 x _ _ ⟨g1, r1, h1⟩ v rv => by
      simp only [isT1] at h1
      split at h1
      · rename_i t' et
        exact ⟨v, .ty t, _, _, _, rfl, .ty t, tyX_of r1 rv et, kit_ty (kitB_is et ht), h1 ι1 H1 .refl r1 _ (rep_bl _)⟩
      · exact h1.elim⟩
theorem se_isi2 {t t2 : String} (hg : Gl X "isinstance") (hm : X.mg "isinstance" = none) (he : SE X W e me) (hgc : Gl X c) (hmc : X.mg c = none) (hv : bootBuiltins c = some (.type t)) (ht : t ∈ ["bool", "int", "str", "tuple", "list", "dict"])
    (hgd : Gl X c2) (hmd : X.mg c2 = none) (hv2 : bootBuiltins c2 = some (.type t2)) (ht2 : t2 ∈ ["bool", "int", "str", "tuple", "list", "dict"]) (hn : c ≠ "__name__" := by decide) (hd : (c == ("__debug__" : Str)) = false := by decide) (hn2 : c2 ≠ "__name__" := by decide) (hd2 : (c2 == ("__debug__" : Str)) = false := by decide)
    (h1 : starEach [e, .Tuple [.Name c p1, .Name c2 p2] k tp] X.env = (false, eval e X.env) :: starEach [.Tuple [.Name c p1, .Name c2 p2] k tp] X.env := by rfl)
    (h2 : starEach [.Tuple [.Name c p1, .Name c2 p2] k tp] X.env = (false, eval (.Tuple [.Name c p1, .Name c2 p2] k tp) X.env) :: starEach [] X.env := by rfl)
    (h3 : starEach [.Name c p1, .Name c2 p2] X.env = (false, eval (.Name c p1) X.env) :: starEach [.Name c2 p2] X.env := by rfl) (h4 : starEach [.Name c2 p2] X.env = (false, eval (.Name c2 p2) X.env) :: starEach [] X.env := by rfl)
    (hpl : (backTo pos (starEach [.Tuple [.Name c p1, .Name c2 p2] k tp] X.env)).any (·.1) = false := by rfl) : SE X W (.Call (.Name "isinstance" p) [e, .Tuple [.Name c p1, .Name c2 p2] k tp] [] pos) (mUn (isT2 t t2) me) :=
  PE.mono (pe_callB call_isiT hg hm PyProof.Rows.boot_isinstance (pa_cons he (pa_cons (pe_tup (pa_cons (pe_bltn (v := .ty t) hgc hmc hv rfl hn hd) (pa_cons (pe_bltn (v := .ty t2) hgd hmd hv2 rfl hn2 hd2) pa_nil h4) h3)) pa_nil h2) h1) (by decide) (by decide) h1 hpl) fun σ H Q ⟨ρ, μ, ι, env, rel, h⟩ =>
    ⟨ρ, μ, ι, env, rel, (Post.bind h).imp fun ι1 H1 μ1 x _ _ ⟨g1, r1, h1⟩ v rv => by
      simp only [isT2] at h1
      split at h1
      · rename_i t' et
        refine ⟨by show 2 ≤ sizeLine; decide, fun q hq => ?_⟩
        obtain ⟨g2, r2⟩ := grow_laid (o := .tup [.ty t, .ty t2]) r1 hq
        refine ⟨v, q, _, .type t', [.type t, .type t2], subT t' t || subT t' t2, rfl, upd_same, .cons (.ty t) (.cons (.ty t2) .nil), tyX_of r2 (rv.ext (g2.ext r1)) et, ?_, h1 ι1 _ g2 r2 _ (rep_bl _)⟩
        refine kitAny_cons (kit_ty (kitB_is et ht)) (fun e => ?_) (fun e => by rw [e]; rfl)
        refine kitAny_cons (kit_ty (kitB_is et ht2)) (fun e2 => ?_) (fun e2 => by rw [e2, Bool.or_true])
        rw [e, e2]; rfl
      · exact h1.elim⟩
end
end RW

/-! SEo: what a law's own text needs: defs together, the law's promise. -/
namespace RW
open PySem L2
def iaddD : D → D → Mem → Res D
  | .int i, .int j, μ => .ok (.int (i + j)) μ
  | _, _, _ => .stuck
theorem snd_iadd {G : Gd} : Snd2 G (rI0 fun i j => .int (i + j)) iaddD := snd_int fun x y μ => by cases x <;> cases y <;> rfl
def stuckS : Sem := fun _ _ => .stuck
/-- as s, where it doesn't raise -/
def noX (s : Sem) : Sem := fun ds μ => match s ds μ with
  | .ok d m => .ok d m
  | _ => .stuck
section
variable {P : Program} {w : World} {K : PySem.W.Frag} {mg : Str → Option Value} {base : Heap} {f : Addr} {fd : FuncData} {ps : List Str} {k n : Nat} {sem : Sem} {x c : Str}
theorem fn_stuck (h : ps.length = n) : FnG P w K mg base (L2.CX P w) k f fd ps (spM ⟨P, w, K, mg⟩ n stuckS) :=
  ⟨fun vs H Q E q => (spM_len q).trans h.symm, fun A outer s H args us vs Q E hr he hb hv ⟨ds, μ, ι, _, _, _, q⟩ => q.elim⟩
theorem fn_noX (F : FnG P w K mg base (L2.CX P w) k f fd ps (spM ⟨P, w, K, mg⟩ n sem)) : FnG P w K mg base (L2.CX P w) k f fd ps (spM ⟨P, w, K, mg⟩ n (noX sem)) :=
  F.less fun vs H Q E ⟨ds, μ, ι, h1, h2, h3, h4⟩ => ⟨ds, μ, ι, h1, h2, h3, by
    unfold noX at h4
    split at h4
    · rename_i e; rw [e]; exact h4
    · exact h4.elim⟩
theorem noX_noX (ds : List D) (μ : Mem) : (∃ d m, noX sem ds μ = .ok d m) ∨ noX sem ds μ = .stuck := by
  unfold noX
  split
  · exact .inl ⟨_, _, rfl⟩
  · exact .inr rfl
/-- a class with an own __init__ of n arguments -/
def Mks (G : Gd) (base : Heap) (c : Str) (k n : Nat) (sem : Sem) : Prop := ∃ (C f : Addr) (fd : FuncData) (ps : List Str), G.mg c = some (.ref C) ∧ Mk G.K C f ∧ Binds G.K fd ps [] ∧ FnG G.P G.w G.K G.mg base (L2.CX G.P G.w) k f fd ps (spM G (n + 1) (noX sem))
theorem Fn.le {G : Gd} {j : Nat} (F : Fn G base x j n sem) (h : j ≤ k) : Fn G base x k n sem := by
  obtain ⟨f, fd, ps, h1, h2, h3, h4⟩ := F
  exact ⟨f, fd, ps, h1, h2, h3, h4.le h⟩
end
section
variable {X : Cx} {W : WX} {k n j : Nat} {sem : Sem} {c : Str} {p pos : Pos} {e : Expr} {es : List Expr} {ms : ML}
theorem se_mks (M : Mks (gOf X) X.base c j n sem) (hr : RoomG k X.A) (hj : j + 1 ≤ k) (hg : Gl X c) (ha : SA X W (e :: es) ms) (hn : ∀ ρ μ ds μ', ms ρ μ = .ok ds μ' → ds.length = n) (hdb : (c == ("__debug__" : Str)) = false := by decide)
    (he : starEach (e :: es) X.env = (false, eval e X.env) :: starEach es X.env := by rfl) (hpl : (backTo pos (starEach es X.env)).any (·.1) = false := by rfl) : SE X W (.Call (.Name c p) (e :: es) [] pos) (mMake c (noX sem) ms) := by
  obtain ⟨C, f, fd, ps, h1, h2, h3, h4⟩ := M
  exact se_make h2 h4 hr hj hg h1 h3 noX_noX ha hn hdb he hpl
theorem se_stuck {e : Expr} : SE X W e (fun _ _ => .stuck) := ⟨fun pins s σ H Q I ⟨ρ, μ, ι, env, rel, h⟩ => h.elim⟩
theorem ss_stuck {st : Stmt} : SS X W st (fun _ _ => .stuck) := ⟨fun pins s σ H D I ⟨ρ, μ, ι, env, rel, h⟩ => h.elim⟩
end
/-- a list that nobody changes, by the written part alone -/
def FrL0 (K : PySem.W.Frag) (H : Hp) (a : Addr) (vs : List V) : Prop := (∃ o, H a = some (.frz o (.lst vs))) ∨
  ∃ (o : Obj) (its : Array Value) (n : Nat), K.lookup a = some o ∧ o.cls = .type "list" ∧ o.dict = none ∧ o.data = .seq its n ∧ its.size ≤ sizeLine ∧ Vals vs its.toList
/-- the law's own promise -/
def spLaw (K : PySem.W.Frag) : Sp := fun vs H Q _ => ∃ (a : Addr) (ns : List Int), vs = [.ref a] ∧ FrL0 K H a (ns.map V.int) ∧ ns.length ≤ 63 ∧ ∀ H', Q (.bl true) H'
theorem law_sp {G : Gd} {m : Sem} (h : ∀ ns : List Int, ns.length ≤ 63 → ∃ μ, m [.frl (ns.map D.int)] [] = .ok (.bl true) μ) {vs : List V} {H : Hp} {Q : VK} {E : XK} (q : spLaw G.K vs H Q E) : spM G 1 m vs H Q E := by
  obtain ⟨a, ns, rfl, h1, h2, h3⟩ := q
  obtain ⟨μ, e⟩ := h ns h2
  refine ⟨[.frl (ns.map D.int)], [], [], .cons ?_ .nil, rfl, ⟨rfl, List.nodup_nil, fun i c a e _ => by simp at e⟩, ?_⟩
  · unfold Rep
    exact ⟨a, _, rfl, h1, .of_ints ns⟩
  · rw [e]
    intro ι' H' g r v rv
    rw [rv.bl]
    exact h3 H'
theorem only_frl {K : PySem.W.Frag} {H : Hp} {a : Addr} {vs : List V} (o : Only H) (h : SqL K H a vs) : FrL0 K H a vs := by
  rcases h with (h | ⟨od, h⟩) | h
  · rcases o a with z | ⟨od, xs, z⟩
    · rw [h] at z; cases z
    · rw [h] at z; cases z
  · exact .inl ⟨od, h⟩
  · exact .inr h
end RW

/-! SEp: plain laws of mirrors. -/
namespace RW
open PySem L2
/-- r ends well, with P -/
def Ok {α : Type} (r : Res α) (P : α → Mem → Prop) : Prop := ∃ a μ, r = .ok a μ ∧ P a μ
section
variable {α β : Type} {r : Res α} {P P' : α → Mem → Prop} {Q : β → Mem → Prop} {f : α → Mem → Res β}
theorem Ok.mk {a : α} {μ : Mem} (e : r = .ok a μ) (h : P a μ) : Ok r P := ⟨a, μ, e, h⟩
theorem Ok.pure {a : α} {μ : Mem} (h : P a μ) : Ok (.ok a μ) P := ⟨a, μ, rfl, h⟩
theorem Ok.imp (h : Ok r P) (k : ∀ a μ, P a μ → P' a μ) : Ok r P' := let ⟨a, μ, e, p⟩ := h; ⟨a, μ, e, k a μ p⟩
theorem Ok.bind (h : Ok r P) (k : ∀ a μ, P a μ → Ok (f a μ) Q) : Ok (r.bind f) Q := by
  obtain ⟨a, μ, e, p⟩ := h
  subst e
  exact k a μ p
theorem Ok.pureE (h : Ok r P) (k : ∀ a μ, P a μ → Ok (f a μ) Q) : Ok (pureE r f) Q := by
  obtain ⟨a, μ, e, p⟩ := h
  subst e
  exact k a μ p
theorem Ok.onE {ρ : Rho} {f : α → Mem → Res Fl} {Q : Fl → Mem → Prop} (h : Ok r P) (k : ∀ a μ, P a μ → Ok (f a μ) Q) : Ok (onE r ρ f) Q := by
  obtain ⟨a, μ, e, p⟩ := h
  subst e
  exact k a μ p
end
/-! ### memory -/
/-- but for ex, the cells there were stay -/
def Keep (ex : List Nat) (μ μ' : Mem) : Prop := μ.length ≤ μ'.length ∧ ∀ i, i < μ.length → i ∉ ex → μ'[i]? = μ[i]?
section
variable {ex ex' : List Nat} {μ μ' μ2 : Mem} {i n : Nat} {c : Cell}
theorem Keep.refl : Keep ex μ μ := ⟨Nat.le_refl _, fun _ _ _ => rfl⟩
theorem Keep.trans (h : Keep ex μ μ') (h' : Keep ex μ' μ2) : Keep ex μ μ2 :=
  ⟨Nat.le_trans h.1 h'.1, fun i hi hn => (h'.2 i (Nat.lt_of_lt_of_le hi h.1) hn).trans (h.2 i hi hn)⟩
theorem Keep.mono (h : Keep ex μ μ') (s : ∀ i ∈ ex, i ∈ ex' ∨ μ.length ≤ i) : Keep ex' μ μ' :=
  ⟨h.1, fun i hi hn => h.2 i hi fun z => (s i z).elim hn fun q => by omega⟩
theorem at_lt (h : μ[i]? = some c) : i < μ.length := (List.getElem?_eq_some_iff.mp h).1
theorem Keep.get (h : Keep ex μ μ') (e : μ[i]? = some c) (hn : i ∉ ex) : μ'[i]? = some c := (h.2 i (at_lt e) hn).trans e
theorem Keep.app {cs : List Cell} : Keep ex μ (μ ++ cs) := ⟨by simp, fun i hi _ => List.getElem?_append_left hi⟩
theorem Keep.set (h : n ∈ ex) : Keep ex μ (μ.set n c) := ⟨by simp, fun i hi hn => List.getElem?_set_ne (by rintro rfl; exact hn h)⟩
theorem app_at {cs : List Cell} (e : μ[i]? = some c) : (μ ++ cs)[i]? = some c := (List.getElem?_append_left (at_lt e)).trans e
theorem app_new : (μ ++ [c])[μ.length]? = some c := by simp
theorem set_at (e : n < μ.length) : (μ.set n c)[n]? = some c := List.getElem?_set_self e
theorem set_ne' (h : n ≠ i) : (μ.set n c)[i]? = μ[i]? := List.getElem?_set_ne h
end
/-! ### a[i], a[i] = x -/
section
variable {μ : Mem} {n : Nat} {l : List D} {i : Int} {d x : D}
theorem ixN_pos {k : Nat} (h0 : 0 ≤ i) (h1 : i < k) : ixN k i = some i.toNat := by unfold ixN; rw [if_pos h0, if_pos h1]
theorem atI_pos {α : Type} {l : List α} {d : α} (h0 : 0 ≤ i) (e : l[i.toNat]? = some d) : atI l i = some d := by
  have h1 := (List.getElem?_eq_some_iff.mp e).1
  unfold atI
  rw [ixN_pos h0 (by omega)]
  exact e
theorem ix_lst (h : μ[n]? = some (.lst l)) (h0 : 0 ≤ i) (e : l[i.toNat]? = some d) : idxA (.ref n) (.int i) μ = .ok d μ := by
  simp only [idxA, h, idxD, atI_pos h0 e]
theorem ix_tup (h0 : 0 ≤ i) (e : l[i.toNat]? = some d) : idxA (.tup l) (.int i) μ = .ok d μ := by
  simp only [idxA, idxD, atI_pos h0 e]
theorem set_lst' (h : μ[n]? = some (.lst l)) (h0 : 0 ≤ i) (h1 : i < l.length) : setDD (.ref n) (.int i) d μ = .ok () (μ.set n (.lst (l.set i.toNat d))) := by
  simp only [setDD, h, setLD, ixN_pos h0 h1]
end
/-! ### loops -/
theorem forL_ok {chk : Mem → Prop} {g : MG} {body : MS} : ∀ (items : List D) (I : Nat → Rho → Mem → Prop) (k : Nat) {ρ : Rho} {μ : Mem}, I k ρ μ →
    (∀ i ρ μ, I i ρ μ → chk μ) → (∀ i d ρ μ, items[i]? = some d → I (k + i) ρ μ → Ok (g d ρ μ) fun ρ1 μ1 => Ok (body ρ1 μ1) fun f μ2 => ∃ ρ2, (f = .nx ρ2 ∨ f = .cnt ρ2) ∧ I (k + i + 1) ρ2 μ2) →
    Ok (forL chk g body items ρ μ) fun f μ' => ∃ ρ', f = .nx ρ' ∧ I (k + items.length) ρ' μ'
  | [], I, k, ρ, μ, h0, hc, hs => by
    unfold forL
    rw [if_pos (hc _ _ _ h0)]
    exact .pure ⟨ρ, rfl, h0⟩
  | d :: ds, I, k, ρ, μ, h0, hc, hs => by
    unfold forL
    rw [if_pos (hc _ _ _ h0)]
    refine (hs 0 d ρ μ rfl h0).pureE fun ρ1 μ1 h1 => h1.bind fun f μ2 ⟨ρ2, hf, h2⟩ => ?_
    have ih := forL_ok ds I (k + 1) h2 hc fun i d ρ μ e h => by
      have := hs (i + 1) d ρ μ (by simpa using e) (by rw [show k + (i + 1) = k + 1 + i by omega]; exact h)
      rw [show k + (i + 1) + 1 = k + 1 + i + 1 by omega] at this
      exact this
    rw [show k + 1 + ds.length = k + (d :: ds).length by simp; omega] at ih
    rcases hf with rfl | rfl
    · exact ih
    · exact ih
/-- as forL_ok, where the body may return -/
theorem compL_ok {chk : Mem → Prop} {g : MG} {tt : MB} {te : MD} {ρ0 : Rho} : ∀ (items : List D) (I : Nat → List D → Mem → Prop) (k : Nat) {acc : List D} {μ : Mem}, I k acc μ →
    (∀ i acc μ, I i acc μ → chk μ) →
    (∀ i d acc μ, items[i]? = some d → I (k + i) acc μ → Ok (g d ρ0 μ) fun ρ1 μ1 => Ok (tt ρ1 μ1) fun b μ2 => if b = true then (acc.length < sizeLine ∧ Ok (te ρ1 μ2) fun y μ3 => I (k + i + 1) (acc ++ [y]) μ3) else I (k + i + 1) acc μ2) →
    Ok (compL chk g tt te ρ0 items acc μ) fun l μ' => I (k + items.length) l μ'
  | [], I, k, acc, μ, h0, hc, hs => by
    unfold compL
    rw [if_pos (hc _ _ _ h0)]
    exact .pure h0
  | d :: ds, I, k, acc, μ, h0, hc, hs => by
    unfold compL
    rw [if_pos (hc _ _ _ h0)]
    have step : ∀ {acc μ}, I (k + 1) acc μ → Ok (compL chk g tt te ρ0 ds acc μ) fun l μ' => I (k + (d :: ds).length) l μ' := fun {acc μ} h => by
      have ih := compL_ok ds I (k + 1) h hc fun i d acc μ e h => by
        have := hs (i + 1) d acc μ (by simpa using e) (by rw [show k + (i + 1) = k + 1 + i by omega]; exact h)
        rw [show k + (i + 1) + 1 = k + 1 + i + 1 by omega] at this
        exact this
      rw [show k + 1 + ds.length = k + (d :: ds).length by simp; omega] at ih
      exact ih
    refine (hs 0 d acc μ rfl h0).pureE fun ρ1 μ1 h1 => h1.pureE fun b μ2 h2 => ?_
    cases b with
    | false =>
      rw [if_neg (by simp)] at h2
      simp only [Bool.false_eq_true, if_false]
      exact step h2
    | true =>
      rw [if_pos rfl] at h2
      simp only [if_true]
      refine h2.2.pureE fun y μ3 h3 => ?_
      rw [if_pos h2.1]
      exact step h3
theorem whileL_ok {c : MB} {body : MS} (I : Nat → Rho → Mem → Prop) : ∀ (m : Nat) {n : Nat} {ρ : Rho} {μ : Mem}, m < n → I m ρ μ → (R : Rho → Mem → Prop) →
    (∀ m ρ μ, I m ρ μ → Ok (c ρ μ) fun b μ1 => if b = true then Ok (body ρ μ1) fun f μ2 => ∃ ρ2 m2, (f = .nx ρ2 ∨ f = .cnt ρ2) ∧ m2 < m ∧ I m2 ρ2 μ2 else R ρ μ1) →
    Ok (whileL c body n ρ μ) fun f μ' => ∃ ρ', f = .nx ρ' ∧ R ρ' μ'
  | m, 0, ρ, μ, hm, h0, R, hs => by omega
  | m, n + 1, ρ, μ, hm, h0, R, hs => by
    unfold whileL
    refine (hs m ρ μ h0).onE fun b μ1 h1 => ?_
    cases b with
    | false =>
      rw [if_neg (by simp)] at h1
      exact .pure ⟨ρ, rfl, h1⟩
    | true =>
      rw [if_pos rfl] at h1
      simp only [if_true]
      refine h1.bind fun f μ2 ⟨ρ2, m2, hf, hlt, h2⟩ => ?_
      have ih := whileL_ok (c := c) (body := body) I m2 (n := n) (by omega) h2 R hs
      rcases hf with rfl | rfl
      · exact ih
      · exact ih
  termination_by _ n => n
/-! ### a def -/
theorem run_ret {n : Nat} {m : MS} {ds : List D} {μ : Mem} {P : D → Mem → Prop} (h : Ok (m (startR n ds) μ) fun f μ' => ∃ d, f = .ret d ∧ P d μ') : Ok (runB n m ds μ) P := by
  unfold runB
  refine h.pureE fun f μ' ⟨d, e, p⟩ => ?_
  subst e
  exact .pure p
end RW
namespace RW
open PySem L2
section
variable {ρ : Rho} {μ μ1 : Mem} {d : D} {e : MD} {a b : MS} {i : Nat} {g : MG} {c : MB} {t : Bool}
theorem seq_set (h : e ρ μ = .ok d μ1) : sSeq (sSet i e) b ρ μ = b (ρ.set i (some d)) μ1 := by simp [h]
theorem seq_asg {ρ2 : Rho} {μ2 : Mem} (h : e ρ μ = .ok d μ1) (h2 : g d ρ μ1 = .ok ρ2 μ2) : sSeq (sAsg e g) b ρ μ = b ρ2 μ2 := by simp [h, h2]
theorem seq_expr (h : e ρ μ = .ok d μ1) : sSeq (sExpr e) b ρ μ = b ρ μ1 := by simp [h]
theorem seq_skip {a' : MS} (h : c ρ μ = .ok false μ1) : sSeq (sIf c a' sNil) b ρ μ = b ρ μ1 := by simp [h]
theorem if_t (h : c ρ μ = .ok true μ1) : sIf c a b ρ μ = a ρ μ1 := by simp [h]
theorem if_f (h : c ρ μ = .ok false μ1) : sIf c a b ρ μ = b ρ μ1 := by simp [h]
theorem ret_is (h : e ρ μ = .ok d μ1) : sRet e ρ μ = .ok (.ret d) μ1 := by simp [h]
theorem seq_ret {m : MS} {d : D} (h : m ρ μ = .ok (.ret d) μ1) : sSeq m b ρ μ = .ok (.ret d) μ1 := by simp [h]
theorem Ok.seq {P : Fl → Mem → Prop} (h : Ok (a ρ μ) fun f μ1 => ∃ ρ1, f = .nx ρ1 ∧ Ok (b ρ1 μ1) P) : Ok (sSeq a b ρ μ) P := by
  obtain ⟨f, μ1, e, ρ1, rfl, h2⟩ := h
  simp only [sSeq, e, Res.bind, thenS]
  exact h2
end
theorem run_is {n : Nat} {m : MS} {ds : List D} {μ μ1 : Mem} {d : D} (h : m (startR n ds) μ = .ok (.ret d) μ1) : runB n m ds μ = .ok d μ1 := by
  simp [runB, h]
theorem mul_ok {i j : Int} {μ : Mem} (h : i.natAbs < 18446744073709551616 ∨ j.natAbs < 18446744073709551616) : mulD (.int i) (.int j) μ = .ok (.int (i * j)) μ := by simp only [mulD, if_pos h]
theorem mod_ok {i j : Int} {μ : Mem} (h : 0 < j) : modD (.int i) (.int j) μ = .ok (.int (i % j)) μ := by simp only [modD, if_pos h]
theorem fdiv_ok {i j : Int} {μ : Mem} (h : 0 < j) (h2 : j < 18446744073709551616) : fdivD (.int i) (.int j) μ = .ok (.int (i / j)) μ := by simp only [fdivD, if_pos (And.intro h h2)]
theorem add_ok {i j : Int} {μ : Mem} : addD (.int i) (.int j) μ = .ok (.int (i + j)) μ := rfl
theorem mod_rng {i j : Int} (h : 0 < j) : 0 ≤ i % j ∧ i % j < j := ⟨Int.emod_nonneg _ (by omega), Int.emod_lt_of_pos _ h⟩
end RW
namespace RW
open PySem L2
theorem seq_run {ρ ρ' : Rho} {μ μ' : Mem} {m b : MS} (h : m ρ μ = .ok (.nx ρ') μ') : sSeq m b ρ μ = b ρ' μ' := by simp [h]
theorem set_is {ρ : Rho} {μ μ' : Mem} {i : Nat} {e : MD} {d : D} (h : e ρ μ = .ok d μ') : sSet i e ρ μ = .ok (.nx (ρ.set i (some d))) μ' := by simp [h]
theorem catL_ok {μ : Mem} {n m : Nat} {a b : List D} (h1 : μ[n]? = some (.lst a)) (h2 : μ[m]? = some (.lst b)) (hl : a.length + b.length ≤ 100000) : addD (.ref n) (.ref m) μ = .ok (.ref μ.length) (μ ++ [.lst (a ++ b)]) := by
  have : a.length + b.length ≤ sizeLine := by rw [sizeLine_eq]; omega
  simp [addD, h1, h2, this]
theorem ins_ok {μ : Mem} {n : Nat} {l : List D} {i : Int} {y : D} (h : μ[n]? = some (.lst l)) (h0 : 0 ≤ i) (h1 : i < 1000000) (hl : l.length < 100000) : insertM (.ref n) [.int i, y] μ = .ok .non (μ.set n (.lst (l.take i.toNat ++ [y] ++ l.drop i.toNat))) := by
  have : l.length < sizeLine ∧ 0 ≤ i ∧ i < 2 ^ 63 := by rw [sizeLine_eq]; omega
  simp only [insertM, h, if_pos this]
end RW
namespace RW
open PySem L2
theorem range1_ok {n : Nat} {μ : Mem} (h : n ≤ 1000000) : range1 [.int (n : Int)] μ = .ok (rangeItems 0 n, fun _ => True) μ := by
  have : -4611686018427387904 ≤ (n : Int) ∧ (n : Int) < 4611686018427387904 := by omega
  simp only [range1, if_pos this, Int.toNat_natCast]
theorem range2_ok {m n : Nat} {μ : Mem} (h : n ≤ 1000000) (h2 : m ≤ 1000000) : range2 [.int (m : Int), .int (n : Int)] μ = .ok (rangeItems m (n - m), fun _ => True) μ := by
  have : -4611686018427387904 ≤ (m : Int) ∧ (m : Int) < 4611686018427387904 ∧ -4611686018427387904 ≤ (n : Int) ∧ (n : Int) < 4611686018427387904 := by omega
  have e : ((n : Int) - (m : Int)).toNat = n - m := by omega
  simp only [range2, if_pos this, e]
end RW
namespace RW
open PySem L2
theorem for_run {it : MIt} {g : MG} {body : MS} {ρ ρ' : Rho} {μ μ1 μ' : Mem} {items : List D} {chk : Mem → Prop} (h1 : it ρ μ = .ok (items, chk) μ1) (h2 : forL chk g body items ρ μ1 = .ok (.nx ρ') μ') : sFor it g body ρ μ = .ok (.nx ρ') μ' := by
  simp only [sFor, h1, onE]; exact h2
theorem ir1 {ρ : Rho} {μ : Mem} {e : MD} {n : Nat} (h : e ρ μ = .ok (.int (n : Int)) μ) (hn : n ≤ 1000000) : iRange1 (mCons e mNil) ρ μ = .ok (rangeItems 0 n, fun _ => True) μ := by
  simp only [iRange1, mCons, mNil, h, Res.bind, range1_ok hn]
theorem ir2 {ρ : Rho} {μ : Mem} {e f : MD} {m n : Nat} (h : e ρ μ = .ok (.int (m : Int)) μ) (h' : f ρ μ = .ok (.int (n : Int)) μ) (hn : n ≤ 1000000) (hm : m ≤ 1000000) : iRange2 (mCons e (mCons f mNil)) ρ μ = .ok (rangeItems m (n - m), fun _ => True) μ := by
  simp only [iRange2, mCons, mNil, h, h', Res.bind, range2_ok hn hm]
end RW

/-! SEq: more plain laws of mirrors. -/
namespace RW
open PySem L2
theorem eqI {a b : Int} {μ : Mem} : eqD (.int a) (.int b) μ = .ok (.bl (decide (a = b))) μ := by
  have h1 : SeqAt.shaped (PyData.int a) = true := by rfl
  have h2 : SeqAt.shaped (PyData.int b) = true := by rfl
  simp only [eqD, D.py?, h1, h2, Bool.and_self, if_true, PyData.eqv]
  congr 2
theorem neI {a b : Int} {μ : Mem} : neD (.int a) (.int b) μ = .ok (.bl (!decide (a = b))) μ := by
  have h1 : SeqAt.shaped (PyData.int a) = true := by rfl
  have h2 : SeqAt.shaped (PyData.int b) = true := by rfl
  simp only [neD, D.py?, h1, h2, Bool.and_self, if_true, PyData.eqv]
  congr 2
theorem comp_map {chk : Mem → Prop} {te : MD} {ρ0 : Rho} {i : Nat} (xs : List Int) (f : Int → Int) (μ : Mem) (hc : chk μ) (ht : ∀ x ∈ xs, te (ρ0.set i (some (.int x))) μ = .ok (.int (f x)) μ) (hl : xs.length < 100000) :
    compL chk (gN i) mYes te ρ0 (xs.map D.int) [] μ = .ok ((xs.map f).map D.int) μ := by
  have key := compL_ok (chk := chk) (g := gN i) (tt := mYes) (te := te) (ρ0 := ρ0) (xs.map D.int) (fun j acc μ' => j ≤ xs.length ∧ acc = ((xs.take j).map f).map D.int ∧ μ' = μ) 0 (acc := []) (μ := μ) ⟨Nat.zero_le _, by simp, rfl⟩
    (fun _ _ _ ⟨_, _, e⟩ => e ▸ hc) (fun j d acc μ' e ⟨hj, ea, em⟩ => by
      simp only [Nat.zero_add] at hj ea em ⊢
      subst em
      rw [List.getElem?_map] at e
      obtain ⟨x, ex, rfl⟩ := Option.map_eq_some_iff.mp e
      have hj2 := (List.getElem?_eq_some_iff.mp ex).1
      refine .mk (μ := μ') rfl (.mk (μ := μ') rfl ?_)
      rw [if_pos rfl]
      refine ⟨by rw [ea, List.length_map, List.length_map, List.length_take, sizeLine_eq]; omega, .mk (ht x (List.mem_of_getElem? ex)) ⟨by omega, ?_, rfl⟩⟩
      rw [ea, List.take_add_one, ex]; simp)
  rw [List.length_map, Nat.zero_add] at key
  obtain ⟨l, μ', e, _, rfl, rfl⟩ := key
  rw [e, List.take_length]
theorem comp_is {it : MIt} {g : MG} {tt : MB} {te : MD} {own : List Nat} {ρ : Rho} {μ μ1 μ2 : Mem} {items l : List D} {chk : Mem → Prop} (h1 : it ρ μ = .ok (items, chk) μ1) (h2 : compL chk g tt te (wipeR ρ own) items [] μ1 = .ok l μ2) :
    mComp it g tt te own ρ μ = .ok (.ref μ2.length) (μ2 ++ [.lst l]) := by simp only [mComp, h1, h2, Res.bind]
theorem seq_lst {a : MD} {ρ : Rho} {μ μ1 : Mem} {n : Nat} {l : List D} (h : a ρ μ = .ok (.ref n) μ1) (e : μ1[n]? = some (.lst l)) : iSeq a ρ μ = .ok (l, fun μ' => μ'[n]? = some (.lst l)) μ1 := by simp only [iSeq, h, Res.bind, itSeq, e]
end RW

/-! SEr: pairs stored at once, chains, lists turned about, keys as a list, sorting of data. -/
namespace RW
open PySem L2
section
variable {X : Cx} {W : WX} {a b c e : Expr} {ma mb mc me : MD} {pos : Pos}
/-! a, b = .., .. -/
@[simp] def sPar (i j : Nat) (a : ML) : MS := fun ρ μ => onE (a ρ μ) ρ fun ds μ1 => match ds with
  | [x, y] => .ok (.nx ((ρ.set i (some x)).set j (some y))) μ1
  | _ => .stuck
theorem ss_par {i j : Nat} {x y : Str} {ms : ML} {px py pt pt2 : Pos} {kt k2} (hc : X.calm = true) (hN : X.N.Nodup) (hi : X.N[i]? = some x) (hj : X.N[j]? = some y) (hij : i ≠ j)
    (hx : X.env.scope.names.lookup x = some .local) (hy : X.env.scope.names.lookup y = some .local) (ha : SA X W [a, b] ms)
    (hw : swappedStores [.Tuple [.Name x px, .Name y py] kt pt] (.Tuple [a, b] k2 pt2) X.env = pure (some [x, y]))
    (hs : swapsWithSole [.Tuple [.Name x px, .Name y py] kt pt] (.Tuple [a, b] k2 pt2) pos.line X.env = pure false := by rfl) :
    SS X W (.Assign [.Tuple [.Name x px, .Name y py] kt pt] (.Tuple [a, b] k2 pt2) pos) (sPar i j ms) :=
  PS.mono (ps_par hc hN hi hj hij hx hy ha hw hs) fun D σ H ⟨ρ, μ, ι, env, rel, h⟩ =>
    ⟨ρ, μ, ι, env, rel, (PostS.onE h env ⟨μ, rel⟩).imp fun ι1 H1 μ1 ds _ _ ⟨g1, r1, env1, h1⟩ vs rvs => by
      match ds, rvs, h1 with
      | [x, y], rvs, h1 =>
        obtain ⟨v, w, rfl, rv, rw'⟩ := rvs.two
        exact ⟨v, w, rfl, h1 ι1 H1 .refl r1 _ ((env1.set i rv).set j rw')⟩
      | [], _, h1 => exact h1.elim
      | [_], _, h1 => exact h1.elim
      | _ :: _ :: _ :: _, _, h1 => exact h1.elim⟩
@[simp] def sPar3 (i j l : Nat) (a : ML) : MS := fun ρ μ => onE (a ρ μ) ρ fun ds μ1 => match ds with
  | [x, y, z] => .ok (.nx (((ρ.set i (some x)).set j (some y)).set l (some z))) μ1
  | _ => .stuck
theorem ss_par3 {i j l : Nat} {x y z : Str} {ms : ML} {px py pz pt pt2 : Pos} {kt k2} (hc : X.calm = true) (hN : X.N.Nodup) (hi : X.N[i]? = some x) (hj : X.N[j]? = some y) (hl : X.N[l]? = some z) (hij : i ≠ j) (hil : i ≠ l) (hjl : j ≠ l)
    (hx : X.env.scope.names.lookup x = some .local) (hy : X.env.scope.names.lookup y = some .local) (hz : X.env.scope.names.lookup z = some .local) (ha : SA X W [a, b, c] ms)
    (hw : swappedStores [.Tuple [.Name x px, .Name y py, .Name z pz] kt pt] (.Tuple [a, b, c] k2 pt2) X.env = pure (some [x, y, z]))
    (hs : swapsWithSole [.Tuple [.Name x px, .Name y py, .Name z pz] kt pt] (.Tuple [a, b, c] k2 pt2) pos.line X.env = pure false := by rfl) :
    SS X W (.Assign [.Tuple [.Name x px, .Name y py, .Name z pz] kt pt] (.Tuple [a, b, c] k2 pt2) pos) (sPar3 i j l ms) :=
  PS.mono (ps_par3 hc hN hi hj hl hij hil hjl hx hy hz ha hw hs) fun D σ H ⟨ρ, μ, ι, env, rel, h⟩ =>
    ⟨ρ, μ, ι, env, rel, (PostS.onE h env ⟨μ, rel⟩).imp fun ι1 H1 μ1 ds _ _ ⟨g1, r1, env1, h1⟩ vs rvs => by
      match ds, rvs, h1 with
      | [x, y, z], rvs, h1 =>
        obtain ⟨u, t, rfl, ru, rt⟩ := rvs.cons_inv
        obtain ⟨v, w, rfl, rv, rw'⟩ := rt.two
        exact ⟨u, v, w, rfl, h1 ι1 H1 .refl r1 _ (((env1.set i ru).set j rv).set l rw')⟩
      | [], _, h1 => exact h1.elim
      | [_], _, h1 => exact h1.elim
      | [_, _], _, h1 => exact h1.elim
      | _ :: _ :: _ :: _ :: _, _, h1 => exact h1.elim⟩
/-! a < b < c -/
@[simp] def mChain (f f' : D → D → Mem → Res D) (a b c : MD) : MD := fun ρ μ => (a ρ μ).bind fun x μ1 => (b ρ μ1).bind fun y μ2 => (f x y μ2).bind fun z μ3 => match z with
  | .bl k => if k = true then (c ρ μ3).bind fun w μ4 => f' y w μ4 else .ok (.bl false) μ3
  | _ => .stuck
theorem chain_red {r r' : R2} {f f' : D → D → Mem → Res D} (hf : Snd2 (gOf X) r f) (hf' : Snd2 (gOf X) r' f') {σ : St} {H : Hp} {Q : VK} (h : tE (gOf X) W (mChain f f' ma mb mc) σ H Q) :
    tChain r r' (tE (gOf X) W ma) (tE (gOf X) W mb) (tE (gOf X) W mc) σ H Q := by
  obtain ⟨ρ, μ, ι, env, rel, h⟩ := h
  refine ⟨ρ, μ, ι, env, rel, (Post.bind h).imp fun ι1 H1 μ1 x _ _ ⟨g1, r1, h1⟩ v rv => ?_⟩
  refine ⟨ρ, μ1, ι1, env.ext (g1.ext rel), r1, (Post.bind h1).imp fun ι2 H2 μ2 y _ _ ⟨g2, r2, h2⟩ u ru => ?_⟩
  have env2 := (env.ext (g1.ext rel)).ext (g2.ext r1)
  refine hf ι2 H2 μ2 x y v u W σ _ r2 (rv.ext (g2.ext r1)) ru ((Post.bind h2).imp fun ι3 H3 μ3 z _ _ ⟨g3, r3, h3⟩ w rw' => ?_)
  cases z with
  | bl k =>
    refine ⟨k, rw'.bl, ?_⟩
    cases k with
    | true =>
      refine iteT ⟨ρ, μ3, ι3, env2.ext (g3.ext r2), r3, (Post.bind h3).imp fun ι4 H4 μ4 t _ _ ⟨g4, r4, h4⟩ q rq => ?_⟩
      exact hf' ι4 H4 μ4 y t u q W σ Q r4 ((ru.ext (g3.ext r2)).ext (g4.ext r3)) rq h4
    | false => exact iteF (h3 ι3 H3 .refl r3 _ (rep_bl _))
  | _ => exact h3.elim
theorem se_chain {op op' : CmpOp} {r r' : R2} {f f' : D → D → Mem → Res D} (ho : OpR X (compareOp op) r) (ho' : OpR X (compareOp op') r') (hf : Snd2 (gOf X) r f) (hf' : Snd2 (gOf X) r' f') (ha : SE X W a ma) (hb : SE X W b mb) (hc : SE X W c mc)
    (hm : lastMarks [op, op'] [b, c] = false := by rfl) : SE X W (.Compare a [op, op'] [b, c] pos) (mChain f f' ma mb mc) :=
  PE.mono (pe_chain ho ho' ha hb hc hm) fun σ H Q h => chain_red hf hf' h
theorem st_chain {op op' : CmpOp} {r r' : R2} {f f' : D → D → Mem → Res D} (ho : OpR X (compareOp op) r) (ho' : OpR X (compareOp op') r') (hf : Snd2 (gOf X) r f) (hf' : Snd2 (gOf X) r' f') (ha : SE X W a ma) (hb : SE X W b mb) (hc : SE X W c mc)
    (hm : lastMarks [op, op'] [b, c] = false := by rfl) : ST X W (.Compare a [op, op'] [b, c] pos) (mTest (mChain f f' ma mb mc)) :=
  PT.mono (pt_chain ho ho' ha hb hc hm) fun σ H Q h => test_red (mChain f f' ma mb mc) (fun σ H Q h => chain_red hf hf' h) h
/-! l[::-1], reversed(l) -/
/-- a list's items -/
def lstAt : D → Mem → Option (List D)
  | .frl l, _ => some l
  | .ref n, μ => (match μ[n]? with
    | some (.lst l) => some l
    | _ => none)
  | _, _ => none
theorem lstAt_is {G : Gd} {ι : List Addr} {H : Hp} {μ : Mem} {d : D} {v : V} {l : List D} (r : Rel G ι H μ) (rv : Rep G ι H d v) (e : lstAt d μ = some l) : ∃ p vs, v = .ref p ∧ SqL G.K H p vs ∧ Reps G ι H l vs := by
  cases d with
  | frl l' => cases e; obtain ⟨p, vs, rfl, h1, h2⟩ := rv.frl; exact ⟨p, vs, rfl, FrL.sq _ _ h1, h2⟩
  | ref n =>
    simp only [lstAt] at e
    split at e
    · rename_i l' em
      cases e
      obtain ⟨p, vs, rfl, h0, h1, h2⟩ := r.lst em rv
      exact ⟨p, vs, rfl, .of h1, h2⟩
    · cases e
  | _ => cases e
def revD (x : D) (μ : Mem) : Res D := match lstAt x μ with
  | some l => .ok (.ref μ.length) (μ ++ [.lst l.reverse])
  | none => .stuck
theorem se_rev {k : Nat} {p1 p2 p3 : Pos} (he : SE X W e me) : SE X W (.Subscript e (.Slice none none (some (.UnaryOp .USub (.Constant (.int 1) k p1) p2)) p3) pos) (mUn revD me) :=
  PE.mono (pe_revL he) fun σ H Q ⟨ρ, μ, ι, env, rel, h⟩ =>
    ⟨ρ, μ, ι, env, rel, (Post.bind h).imp fun ι1 H1 μ1 x _ _ ⟨g1, r1, h1⟩ v rv => by
      simp only [revD] at h1
      split at h1
      · rename_i l el
        obtain ⟨p, vs, rfl, h2, h3⟩ := lstAt_is r1 rv el
        exact ⟨p, vs, rfl, h2, new_lst r1 h3.reverse h1⟩
      · exact h1.elim⟩
@[simp] def iRevD (a : ML) : MIt := fun ρ μ => (a ρ μ).bind fun xs μ1 => match xs with
  | [x] => (itSeq x μ1).bind fun p μ2 => .ok (p.1.reverse, p.2) μ2
  | _ => .stuck
theorem it_revL {G : Gd} {ι : List Addr} {H : Hp} {a : Addr} {l : List D} {chk : Mem → Prop} (base : ItOk G ι H (Itl G.K a) l chk) : ItOk G ι H (Itv G.K a l.length) l.reverse chk := by
  have ix : ∀ {i : Nat} {d : D}, l.reverse[i]? = some d → i < l.length ∧ l[l.length - 1 - i]? = some d := fun {i d} e => by
    have hi := (List.getElem?_eq_some_iff.mp e).1
    rw [List.length_reverse] at hi
    rw [List.getElem?_reverse hi] at e
    exact ⟨hi, e⟩
  refine ⟨fun i d ι' H' μ' e g r c => ?_, fun i d ι' H' μ' v H2 e g r c ⟨e1, e2⟩ => ?_, fun ι' H' μ' g r c => by show l.length ≤ l.reverse.length; rw [List.length_reverse]; exact Nat.le_refl _⟩
  · obtain ⟨hi, e⟩ := ix e
    obtain ⟨xs, x, h1, h2⟩ := base.go _ d ι' H' μ' e g r c
    exact ⟨hi, xs, x, h1, h2⟩
  · subst e1
    obtain ⟨hi, e⟩ := ix e
    exact base.yld _ d ι' H2 μ' v H2 e g r c ⟨rfl, e2⟩
theorem it_revT {G : Gd} {ι : List Addr} {H : Hp} {a : Addr} {l : List D} {chk : Mem → Prop} (base : ItOk G ι H (Itt G.K a) l chk) : ItOk G ι H (RT.ItvT G.K a l.length) l.reverse chk := by
  have ix : ∀ {i : Nat} {d : D}, l.reverse[i]? = some d → i < l.length ∧ l[l.length - 1 - i]? = some d := fun {i d} e => by
    have hi := (List.getElem?_eq_some_iff.mp e).1
    rw [List.length_reverse] at hi
    rw [List.getElem?_reverse hi] at e
    exact ⟨hi, e⟩
  refine ⟨fun i d ι' H' μ' e g r c => ?_, fun i d ι' H' μ' v H2 e g r c ⟨e1, e2⟩ => ?_, fun ι' H' μ' g r c => by show l.length ≤ l.reverse.length; rw [List.length_reverse]; exact Nat.le_refl _⟩
  · obtain ⟨hi, e⟩ := ix e
    obtain ⟨xs, x, h1, h2⟩ := base.go _ d ι' H' μ' e g r c
    exact ⟨hi, xs, x, h1, h2⟩
  · subst e1
    obtain ⟨hi, e⟩ := ix e
    exact base.yld _ d ι' H2 μ' v H2 e g r c ⟨rfl, e2⟩
theorem si_rev {tg : Expr} {p : Pos} (hg : Gl X "reversed") (hm : X.mg "reversed" = none) (ha : SE X W a ma) (hs : starEach [a] X.env = (false, eval a X.env) :: starEach [] X.env := by rfl) : SI X W tg (.Call (.Name "reversed" p) [a] [] pos) (iRevD (mCons ma mNil)) :=
  PI.mono (RT.pi_revA hg hm ha hs) fun σ H R ⟨ρ, μ, ι, env, rel, h⟩ => by
    refine ⟨ρ, μ, ι, env, rel, ?_⟩
    simp only [iRevD, mCons, mNil] at h
    cases hm : ma ρ μ with
    | stuck => rw [hm] at h; exact h.elim
    | exc c fs m => rw [hm] at h; exact h
    | ok d μ1 =>
      rw [hm] at h
      intro ι1 H1 g1 r1 v rv
      simp only [Res.bind] at h
      cases d with
      | tup l =>
        obtain ⟨p, vs, rfl, h1, h2⟩ := rv.tup
        have q := h ι1 H1 g1 r1 (RT.ItvT X.K p l.length) (it_revT (it_tup r1 h1 h2))
        rw [← h2.length] at q
        exact ⟨p, vs, rfl, .inr ⟨h1, q⟩⟩
      | frl l =>
        obtain ⟨p, vs, rfl, h1, h2⟩ := rv.frl
        have q := h ι1 H1 g1 r1 (Itv X.K p l.length) (it_revL (it_frl r1 h1 h2))
        rw [← h2.length] at q
        exact ⟨p, vs, rfl, .inl ⟨FrL.sq _ _ h1, q⟩⟩
      | ref n =>
        cases em : μ1[n]? with
        | none => simp only [itSeq, em] at h; exact h.elim
        | some cc =>
          simp only [itSeq, em] at h
          cases cc with
          | lst l =>
            obtain ⟨p, vs, rfl, h0, h1, h2⟩ := r1.lst em rv
            have q := h ι1 H1 g1 r1 (Itv X.K p l.length) (it_revL (it_lst h0))
            rw [← h2.length] at q
            exact ⟨p, vs, rfl, .inl ⟨.of h1, q⟩⟩
          | _ => exact h.elim
      | _ => exact h.elim
end
/-! ### list(d) of a dict -/
def rListX (G : Gd) : List V → Hp → VK → Prop := fun xs H Q => ∃ d ι l ks, xs = [V.ref d] ∧ TdIs G ι H d l ks ∧ ∀ p, H p = none → Q (.ref p) (upd H p (.lst (ks.map fun x => V.ref x.2.1)))
section
variable {X : Cx}
theorem call_listX (hc : X.calm = true) : CallR X (.type "list") (rListX (gOf X)) := by
  intro pins s σ H xs us Q I r h
  obtain ⟨d, ι, l, ks, rfl, td, q⟩ := h
  obtain ⟨u, rfl, rx⟩ := r.one
  cases rx
  obtain ⟨o, es, ep, ho, hx, hdt, he, _, hn⟩ := td.dictOf I
  obtain ⟨_, _, _, z, hs⟩ := td
  have l1 : es.size = ks.length := by
    have := congrArg List.length he
    simpa using this
  refine PySem.W.kdl_call (kdl_raw hs hx hdt) (I.ok.hd hc) ho (by omega) fun h' tk acc' c' kp e it => ?_
  have eb : acc'.toList = (ks.map fun x => x.2.1).map Value.ref := by
    have hl : acc'.toList.length = ks.length := by rw [Array.length_toList, it.1]; exact l1
    apply List.ext_getElem?
    intro j
    rw [List.map_map, List.getElem?_map]
    cases hj : acc'.toList[j]? with
    | none =>
      have h1 := List.getElem?_eq_none_iff.mp hj
      rw [List.getElem?_eq_none (by omega)]
      all_goals rfl
    | some v =>
      obtain ⟨en, hen, hv⟩ := it.2 j v (by rw [← Array.getElem?_toList]; exact hj)
      have qe := congrArg (fun l => l[j]?) he
      simp only [List.getElem?_map, Array.getElem?_toList] at qe
      rw [hen] at qe
      cases hb : ks[j]? with
      | none => rw [hb] at qe; cases qe
      | some b =>
        rw [hb] at qe
        have e2 : en = entryOfKey (nestedKind X.prog X.w) b := Option.some.inj qe
        rw [hv, e2]
        all_goals rfl
  have rv : Vals ((ks.map fun x => x.2.1).map V.ref) acc'.toList := by rw [eb]; exact vals_refs _
  have em : (ks.map fun x => V.ref x.2.1) = (ks.map fun x => x.2.1).map V.ref := by rw [List.map_map]; rfl
  have hz : (ks.map fun x => V.ref x.2.1).length ≤ sizeLine := by rw [List.length_map]; omega
  refine ⟨.ref s.heap.objs.size, _, I.laid (t' := tk) (o := .lst (ks.map fun x => V.ref x.2.1)) kp (Nat.le_refl _) ?_, rfl, q _ (I.hok.fresh (Nat.le_refl _))⟩
  exact ⟨hz, acc'.toList, c', em ▸ rv, by rw [Array.toArray_toList]; exact e⟩
end
/-- a dict's keys -/
def keysAt : D → Mem → Option (List D)
  | .ref n, μ => (match μ[n]? with
    | some (.tdic l) => some (l.map (·.1))
    | some (.lck true l) => some (l.map (·.1))
    | some (.dic l) => some (l.map (·.1))
    | _ => none)
  | _, _ => none
def listA : List D → Mem → Res D := fun xs μ => match listL xs μ with
  | .stuck => (match xs with
    | [x] => (match keysAt x μ with
      | some l => .ok (.ref μ.length) (μ ++ [.lst l])
      | none => .stuck)
    | _ => .stuck)
  | r => r
def rListA (G : Gd) : List V → Hp → VK → Prop := fun xs H Q => (∃ p ys, xs = [.ref p] ∧ (SqL G.K H p ys ∨ SqT G.K H p ys) ∧ ∀ l, H l = none → Q (.ref l) (upd H l (.lst ys))) ∨ rListX G xs H Q ∨ rListD xs H Q
theorem call_listA {X : Cx} (hc : X.calm = true) : CallR X (.type "list") (rListA (gOf X)) := CallR.or call_list_of (CallR.or (call_listX hc) (call_list_dK hc))
theorem reps_refs {G : Gd} {ι : List Addr} {H : Hp} : ∀ {l : List (D × D)} {ks : List (NestedKey × Addr × Value)}, Paired (RepT G ι H) l ks → Reps G ι H (l.map (·.1)) (ks.map fun x => V.ref x.2.1)
  | _, _, .nil => .nil
  | _, _, .cons h t => .cons h.2.2.1 (reps_refs t)
theorem reps_keysK {G : Gd} {ι : List Addr} {H : Hp} : ∀ {l : List (D × D)} {ks : List (Key × V)}, Paired (RepP G ι H) l ks → Reps G ι H (l.map (·.1)) (ks.map fun x => kV x.1)
  | _, _, .nil => .nil
  | (d, _) :: _, (k, _) :: _, .cons h t => by
    refine .cons ?_ (reps_keysK t)
    have h1 : d.key? = some k := h.1
    cases d with
    | int i => cases h1; exact rep_int _
    | str i => cases h1; exact rep_str _
    | _ => cases h1
theorem snd_listA {G : Gd} : SndL G (rListA G) listA := fun ι H μ xs vs W σ Q r rxs h => by
  unfold listA at h
  cases hq : listL xs μ with
  | ok d m => rw [hq] at h; exact .inl (snd_listL ι H μ xs vs W σ Q r rxs (by rw [hq]; exact h))
  | exc c fs m => rw [hq] at h; exact .inl (snd_listL ι H μ xs vs W σ Q r rxs (by rw [hq]; exact h))
  | stuck =>
    rw [hq] at h
    match xs, rxs, h with
    | [x], rxs, h =>
      cases el : keysAt x μ with
      | none => simp only [el] at h; exact h.elim
      | some l =>
        simp only [el] at h
        obtain ⟨v, rfl, rv⟩ := rxs.one
        cases x with
        | ref n =>
          obtain ⟨a, h0, rfl⟩ := rv.ref
          simp only [keysAt] at el
          split at el
          · rename_i l' em
            cases el
            obtain ⟨ks, h1, h2, h3, h4, h5⟩ := r.cell n _ a em h0
            exact .inr (.inl ⟨a, ι, l', ks, rfl, ⟨.inl h1, h2, h3, h4, h5⟩, new_lst r (reps_refs h2) h⟩)
          · rename_i l' em
            cases el
            obtain ⟨od, ks, h1, h2, h3, h4, h5⟩ := r.cell n _ a em h0
            exact .inr (.inl ⟨a, ι, l', ks, rfl, ⟨.inr ⟨od, h1⟩, h2, h3, h4, h5⟩, new_lst r (reps_refs h2) h⟩)
          · rename_i l' em
            cases el
            obtain ⟨ks, h1, h2⟩ := r.cell n _ a em h0
            exact .inr (.inr ⟨a, ks, rfl, h1, new_lst r (reps_keysK h2) h⟩)
          · cases el
        | _ => cases el
    | [], _, h => exact h.elim
    | _ :: _ :: _, _, h => exact h.elim
/-! ### sorted(l) of data -/
def encD (μ : Mem) (d : D) : PyData := (D.py? 8 μ d).getD .none
def isTupD : PyData → Bool
  | .tuple (_ :: _) => true
  | _ => false
def isPlD : PyData → Bool
  | .none => false
  | .tuple _ => false
  | _ => true
def sortOk (μ : Mem) (l : List D) : Bool := l.all (fun d => (D.py? 8 μ d).isSome && decide ((encD μ d).depth ≤ 32)) && (l.all fun d => l.all fun e => PySem.W.alike (encD μ d) (encD μ e)) && (l.all (fun d => isTupD (encD μ d)) || l.all fun d => isPlD (encD μ d)) && decide (l.length ≤ 1000000)
def sortD (μ : Mem) (l : List D) : List D := l.mergeSort (PySem.W.dataLe false (encD μ))
def sortedD : List D → Mem → Res D
  | [x], μ => (match lstAt x μ with
    | some l => if sortOk μ l = true then .ok (.ref μ.length) (μ ++ [.lst (sortD μ l)]) else .stuck
    | none => .stuck)
  | _, _ => .stuck
def sortedA : List D → Mem → Res D := fun xs μ => match sortedL xs μ with
  | .stuck => sortedD xs μ
  | r => r
def rSortedD (G : Gd) : List V → Hp → VK → Prop := fun xs H Q => ∃ (a : Addr) (vs : List V) (l : List D) (ι : List Addr) (μ : Mem), xs = [.ref a] ∧ SqL G.K H a vs ∧ Rel G ι H μ ∧ Reps G ι H l vs ∧ sortOk μ l = true ∧
  ∀ vs' p, Reps G ι H (sortD μ l) vs' → H p = none → Q (.ref p) (upd H p (.lst vs'))
theorem each_of_reps {G : Gd} {ι : List Addr} {H : Hp} : ∀ {l : List D} {vs : List V} {us : List Value}, Reps G ι H l vs → Vals vs us → PySem.W.EachIs (fun u d => ∃ v, Rep G ι H d v ∧ RelV v u) us l
  | [], _, _, h, r => by rw [h.nil_inv] at r; cases r; exact .nil
  | d :: l, _, _, h, r => by
    obtain ⟨v, w, rfl, h1, h2⟩ := h.cons_inv
    cases r with
    | cons r1 r2 => exact .cons ⟨v, h1, r1⟩ (each_of_reps h2 r2)
theorem reps_of_each {G : Gd} {ι : List Addr} {H : Hp} : ∀ {l : List D} {us : List Value}, PySem.W.EachIs (fun u d => ∃ v, Rep G ι H d v ∧ RelV v u) us l → ∃ vs, Reps G ι H l vs ∧ Vals vs us
  | _, _, .nil => ⟨[], .nil, .nil⟩
  | _, _, .cons ⟨v, h1, r1⟩ t => by
    obtain ⟨vs, h2, r2⟩ := reps_of_each t
    exact ⟨v :: vs, .cons h1 h2, .cons r1 r2⟩
theorem cr_sortedD {X : Cx} (hu : X.A.units + 64 < cLine) : CallR X (.builtin "sorted") (rSortedD (gOf X)) := by
  intro pins s σ H xs us Q I r h
  obtain ⟨a, vs, l, ι, μ, rfl, hs, rel, reps, ok, q⟩ := h
  obtain ⟨its, rv, hl, hz⟩ := I.list hs
  rw [Vals.ref1 r]
  simp only [sortOk, Bool.and_eq_true, List.all_eq_true, decide_eq_true_eq, Bool.or_eq_true] at ok
  obtain ⟨⟨⟨o1, o2⟩, o3⟩, o4⟩ := ok
  have hll : l.length = its.length := by rw [← reps.length, rv.length]
  have er : PySem.W.EachIs (fun u d => ∃ as, Reads s.heap u (encD μ d) as) its l := by
    have key : ∀ {l : List D} {us : List Value}, (∀ d ∈ l, (D.py? 8 μ d).isSome = true) → PySem.W.EachIs (fun u d => ∃ v, Rep (gOf X) ι H d v ∧ RelV v u) us l → PySem.W.EachIs (fun u d => ∃ as, Reads s.heap u (encD μ d) as) us l := by
      intro l us hh e
      induction e with
      | nil => exact .nil
      | cons h1 t ih =>
        obtain ⟨v, h1, r1⟩ := h1
        refine .cons ?_ (ih fun d hd => hh d (List.mem_cons_of_mem _ hd))
        obtain ⟨p, hp⟩ := Option.isSome_iff_exists.mp (hh _ List.mem_cons_self)
        unfold encD
        rw [hp]
        exact Dp.reads I p v _ (dp_of rel 8 _ v p h1 hp) r1
    exact key (fun d hd => (o1 d hd).1) (each_of_reps reps rv)
  refine PySem.W.sorted_data (enc := encD μ) hl.isList (each_of_reps reps rv) er ?_ ?_ (by rw [sizeLine_eq]; omega) (fun b hb => ?_) fun out h1 h2 => ?_
  · intro d hd d' hd'
    obtain ⟨b, hb, rfl⟩ := List.mem_map.mp hd
    obtain ⟨b', hb', rfl⟩ := List.mem_map.mp hd'
    exact o2 b hb b' hb'
  · rcases o3 with o3 | o3
    · refine .inl fun d hd => ?_
      obtain ⟨b, hb, rfl⟩ := List.mem_map.mp hd
      have := o3 b hb
      unfold isTupD at this
      split at this
      · rename_i x r e; exact ⟨x, r, e⟩
      · cases this
    · refine .inr fun d hd => ?_
      obtain ⟨b, hb, rfl⟩ := List.mem_map.mp hd
      have := o3 b hb
      refine ⟨fun e => ?_, fun xs e => ?_⟩ <;> (rw [e] at this; cases this)
  · have := (o1 b hb).2
    omega
  · obtain ⟨vs', h3, h4⟩ := reps_of_each h2
    obtain ⟨ep, he'⟩ := PyProof.Rows.sortedAll_at s.heap its out.toArray
    have hlen : vs'.length ≤ sizeLine := by
      rw [h4.length, h1, sizeLine_eq]; omega
    exact ⟨.ref _, upd H (s.heap.objs.size + 1) (.lst vs'), I.laid (t' := s.toks) (fun _ _ => PyProof.Rows.sortedAll_old) (Nat.le_succ _) ⟨hlen, out, ep, h4, he'⟩, rfl, q _ _ h3 (I.hok.fresh (Nat.le_succ _))⟩
def rSortedB (G : Gd) : List V → Hp → VK → Prop := fun xs H Q => rSortedA G xs H Q ∨ rSortedD G xs H Q
theorem cr_sortedB {X : Cx} (hc : X.calm = true) (hu : X.A.units + 64 < cLine) : CallR X (.builtin "sorted") (rSortedB (gOf X)) := CallR.or (cr_sortedA hc) (cr_sortedD hu)
theorem snd_sortedB {G : Gd} : SndL G (rSortedB G) sortedA := fun ι H μ xs vs W σ Q r rxs h => by
  unfold sortedA at h
  cases hq : sortedL xs μ with
  | ok d m => rw [hq] at h; exact .inl (snd_sorted ι H μ xs vs W σ Q r rxs (by rw [hq]; exact h))
  | exc c fs m => rw [hq] at h; exact .inl (snd_sorted ι H μ xs vs W σ Q r rxs (by rw [hq]; exact h))
  | stuck =>
    rw [hq] at h
    match xs, rxs, h with
    | [x], rxs, h =>
      simp only [sortedD] at h
      split at h
      · rename_i l el
        split at h
        · rename_i ok
          obtain ⟨v, rfl, rv⟩ := rxs.one
          obtain ⟨p, vs, rfl, h1, h2⟩ := lstAt_is r rv el
          exact .inr ⟨p, vs, l, ι, μ, rfl, h1, r, h2, ok, fun vs' q h3 hq => new_lst r h3 h q hq⟩
        · exact h.elim
      · exact h.elim
    | [], _, h => exact h.elim
    | _ :: _ :: _, _, h => exact h.elim
end RW

/-! SEs: plain laws of sorting and of other mirrors. -/
namespace RW
open PySem L2
/-! loops whose body may return -/
theorem forL_ret {chk : Mem → Prop} {g : MG} {body : MS} {P : D → Mem → Prop} : ∀ (items : List D) (I : Nat → Rho → Mem → Prop) (k : Nat) {ρ : Rho} {μ : Mem}, I k ρ μ →
    (∀ i ρ μ, I i ρ μ → chk μ) → (∀ i d ρ μ, items[i]? = some d → I (k + i) ρ μ → Ok (g d ρ μ) fun ρ1 μ1 => Ok (body ρ1 μ1) fun f μ2 => (∃ ρ2, (f = .nx ρ2 ∨ f = .cnt ρ2) ∧ I (k + i + 1) ρ2 μ2) ∨ ∃ d, f = .ret d ∧ P d μ2) →
    Ok (forL chk g body items ρ μ) fun f μ' => (∃ ρ', f = .nx ρ' ∧ I (k + items.length) ρ' μ') ∨ ∃ d, f = .ret d ∧ P d μ'
  | [], I, k, ρ, μ, h0, hc, hs => by
    unfold forL
    rw [if_pos (hc _ _ _ h0)]
    exact .pure (.inl ⟨ρ, rfl, h0⟩)
  | d :: ds, I, k, ρ, μ, h0, hc, hs => by
    unfold forL
    rw [if_pos (hc _ _ _ h0)]
    refine (hs 0 d ρ μ rfl h0).pureE fun ρ1 μ1 h1 => h1.bind fun f μ2 h2 => ?_
    rcases h2 with ⟨ρ2, hf, h2⟩ | ⟨d, rfl, h2⟩
    · have ih := forL_ret (P := P) ds I (k + 1) h2 hc fun i d ρ μ e h => by
        have := hs (i + 1) d ρ μ (by simpa using e) (by rw [show k + (i + 1) = k + 1 + i by omega]; exact h)
        rw [show k + (i + 1) + 1 = k + 1 + i + 1 by omega] at this
        exact this
      rw [show k + 1 + ds.length = k + (d :: ds).length by simp; omega] at ih
      rcases hf with rfl | rfl
      · exact ih
      · exact ih
    · exact .pure (.inr ⟨d, rfl, h2⟩)
theorem whileL_ret {c : MB} {body : MS} (I : Nat → Rho → Mem → Prop) : ∀ (m : Nat) {n : Nat} {ρ : Rho} {μ : Mem}, m < n → I m ρ μ → (R : Rho → Mem → Prop) → (P : D → Mem → Prop) →
    (∀ m ρ μ, I m ρ μ → Ok (c ρ μ) fun b μ1 => if b = true then Ok (body ρ μ1) fun f μ2 => (∃ ρ2 m2, (f = .nx ρ2 ∨ f = .cnt ρ2) ∧ m2 < m ∧ I m2 ρ2 μ2) ∨ ∃ d, f = .ret d ∧ P d μ2 else R ρ μ1) →
    Ok (whileL c body n ρ μ) fun f μ' => (∃ ρ', f = .nx ρ' ∧ R ρ' μ') ∨ ∃ d, f = .ret d ∧ P d μ'
  | m, 0, ρ, μ, hm, h0, R, P, hs => by omega
  | m, n + 1, ρ, μ, hm, h0, R, P, hs => by
    unfold whileL
    refine (hs m ρ μ h0).onE fun b μ1 h1 => ?_
    cases b with
    | false =>
      rw [if_neg (by simp)] at h1
      exact .pure (.inl ⟨ρ, rfl, h1⟩)
    | true =>
      rw [if_pos rfl] at h1
      simp only [if_true]
      refine h1.bind fun f μ2 h2 => ?_
      rcases h2 with ⟨ρ2, m2, hf, hlt, h2⟩ | ⟨d, rfl, h2⟩
      · have ih := whileL_ret (c := c) (body := body) I m2 (n := n) (by omega) h2 R P hs
        rcases hf with rfl | rfl
        · exact ih
        · exact ih
      · exact .pure (.inr ⟨d, rfl, h2⟩)
  termination_by _ n => n
section
variable {α : Type} {enc : α → PyData} {l l' : List α}
def sortE (enc : α → PyData) (l : List α) : List α := l.mergeSort (PySem.W.dataLe false enc)
theorem sortE_perm : (sortE enc l).Perm l := List.mergeSort_perm _ _
theorem sortE_eq (hp : l.Perm l') (inj : ∀ a ∈ l, ∀ b ∈ l, PySem.W.keyToks (enc a) = PySem.W.keyToks (enc b) → a = b) : sortE enc l = sortE enc l' := by
  have T := PySem.W.sortLe_total (PyProof.Rows.listOrd PyProof.Rows.itemOrd) false fun b => PySem.W.keyToks (enc b)
  have s1 : (sortE enc l).Pairwise fun a b => PySem.W.dataLe false enc a b = true := PySem.W.sort_pairwise T l
  have s2 : (sortE enc l').Pairwise fun a b => PySem.W.dataLe false enc a b = true := PySem.W.sort_pairwise T l'
  refine List.Perm.eq_of_pairwise (le := fun a b => PySem.W.dataLe false enc a b = true) (fun a b ha hb h1 h2 => ?_) s1 s2 (sortE_perm.trans (hp.trans sortE_perm.symm))
  have ma : a ∈ l := sortE_perm.mem_iff.mp ha
  have mb : b ∈ l := hp.mem_iff.mpr (sortE_perm.mem_iff.mp hb)
  refine inj a ma b mb ((PyProof.Rows.listOrd PyProof.Rows.itemOrd).total _ _ ?_ ?_)
  · have : (!(PyProof.Rows.listOrd PyProof.Rows.itemOrd).blt (PySem.W.keyToks (enc a)) (PySem.W.keyToks (enc b))) = true := h2
    simpa using this
  · have : (!(PyProof.Rows.listOrd PyProof.Rows.itemOrd).blt (PySem.W.keyToks (enc b)) (PySem.W.keyToks (enc a))) = true := h1
    simpa using this
theorem sortD_map {μ : Mem} {f : α → D} (h : ∀ x ∈ l, encD μ (f x) = enc x) : sortD μ (l.map f) = (sortE enc l).map f := by
  unfold sortD sortE
  refine (PySem.W.sort_maps f fun a ha b hb => ?_).symm
  have e : ∀ x y : PyData, encD μ (f a) = x → encD μ (f b) = y → PySem.W.dataLe false (encD μ) (f a) (f b) = PySem.W.dataLe false id x y := fun x y h1 h2 => by subst h1 h2; rfl
  exact (e _ _ (h a ha) (h b hb)).symm
theorem sortOk_tup {μ : Mem} {f : α → D} (hl : l.length ≤ 1000000) (h : ∀ x ∈ l, D.py? 8 μ (f x) = some (enc x) ∧ (enc x).depth ≤ 32 ∧ isTupD (enc x) = true) (ha : ∀ x ∈ l, ∀ y ∈ l, PySem.W.alike (enc x) (enc y) = true) : sortOk μ (l.map f) = true := by
  have he : ∀ x ∈ l, encD μ (f x) = enc x := fun x hx => by unfold encD; rw [(h x hx).1]; rfl
  simp only [sortOk, Bool.and_eq_true, List.all_eq_true, decide_eq_true_eq, Bool.or_eq_true, List.mem_map, List.length_map]
  refine ⟨⟨⟨?_, ?_⟩, .inl ?_⟩, hl⟩
  · rintro _ ⟨x, hx, rfl⟩
    rw [he x hx, (h x hx).1]
    exact ⟨rfl, (h x hx).2.1⟩
  · rintro _ ⟨x, hx, rfl⟩ _ ⟨y, hy, rfl⟩
    rw [he x hx, he y hy]
    exact ha x hx y hy
  · rintro _ ⟨x, hx, rfl⟩
    rw [he x hx]
    exact (h x hx).2.2
theorem sorted_tup {μ : Mem} {n : Nat} {f : α → D} (e : μ[n]? = some (.lst (l.map f))) (hl : l.length ≤ 1000000) (h : ∀ x ∈ l, D.py? 8 μ (f x) = some (enc x) ∧ (enc x).depth ≤ 32 ∧ isTupD (enc x) = true) (ha : ∀ x ∈ l, ∀ y ∈ l, PySem.W.alike (enc x) (enc y) = true) :
    sortedA [.ref n] μ = .ok (.ref μ.length) (μ ++ [.lst ((sortE enc l).map f)]) := by
  have he : ∀ x ∈ l, encD μ (f x) = enc x := fun x hx => by unfold encD; rw [(h x hx).1]; rfl
  cases l with
  | nil => simp [sortedA, sortedL, e, intsAt, toInts, isort, sortE]
  | cons x l =>
  have hi : intsAt (.ref n) μ = none := by
    obtain ⟨h1, _, h3⟩ := h x (by simp)
    simp only [intsAt, e, List.map_cons]
    cases q : f x with
    | int i =>
      rw [q] at h1
      simp only [D.py?, Option.some.injEq] at h1
      rw [← h1] at h3; cases h3
    | _ => simp [toInts]
  have s : sortedL [.ref n] μ = .stuck := by simp only [sortedL, e, hi]
  simp only [sortedA, s, sortedD, lstAt, e, sortOk_tup hl h ha, if_true, sortD_map he]
end
end RW

/-! SEu: repr of data, comparison of texts. -/
namespace RW
open PySem PySem.Spec L2
/-! ### data, empty dicts among them -/
mutual
def D.sh? : Nat → Mem → D → Option PyData
  | _, _, .non => some .none
  | _, _, .bl b => some (.bool b)
  | _, _, .int i => some (.int i)
  | _, _, .str s => some (.str s)
  | n + 1, μ, .tup l => (D.shs? n μ l).map PyData.tuple
  | n + 1, μ, .ref m => match μ[m]? with
    | some (.lst l) => (D.shs? n μ l).map PyData.list
    | some (.dic []) => some (.dict [])
    | _ => none
  | _, _, _ => none
def D.shs? : Nat → Mem → List D → Option (List PyData)
  | _, _, [] => some []
  | n, μ, d :: l => match D.sh? n μ d, D.shs? n μ l with
    | some k, some r => some (k :: r)
    | _, _ => none
end
def showOk (p : PyData) : Bool := p.showable && decide (p.shown.length ≤ sizeLine) && decide (p.depth ≤ 16)
def reprL : List D → Mem → Res D
  | [x], μ => match D.sh? 8 μ x with
    | some p => if showOk p = true then .ok (.str p.shown) μ else .stuck
    | none => .stuck
  | _, _ => .stuck
/-- what is known of a value that shows p -/
structure Shw (P : Program) (w : World) (h : Heap) (u : Value) (p : PyData) : Prop where
  rd : ∃ as, Reads h u p as
  sh : ∃ bs, ReadAtMost h p.depth bs ∧ ReprK P w bs h p.depth u p.shown
  top : ∀ (A : Around) (E : Value → Shared → Prop) (c : Shared) (Q : Value → Shared → Prop), A.guards = some [] → A.units + (p.depth + 1) < cLine → (∀ b o, h.get? b = some o → c.heap.get? b = some o) →
    (∀ k t n, (∀ b o, c.heap.get? b = some o → k.get? b = some o) → Q (.str p.shown t) { c with heap := k, toks := n }) → wpAny (model P w) A (call (.builtin "repr") [u]) Q E c
structure ShwAll (P : Program) (w : World) (h : Heap) (us : List Value) (ps : List PyData) : Prop where
  rd : ∃ as, ReadsAll h us ps as
  sh : ∃ bs, ReadAtMost h (PyData.depthAll ps) bs ∧ ReprAllK P w bs h (PyData.depthAll ps) us (PyData.shownAll ps)
section
variable {P : Program} {w : World} {h : Heap}
theorem shw_none : Shw P w h .none .none := ⟨⟨_, .none⟩, ReprK.of_reads .none rfl (fun z => by cases z) (by decide), fun A E c Q _ _ _ q => PySem.P.repr_of_none (by
  have z := q c.heap c.toks (c.toks + 1) fun _ _ e => e
  simpa only [PyData.shown] using z)⟩
theorem shw_bool (b : Bool) : Shw P w h (.bool b) (.bool b) := ⟨⟨_, .bool b⟩, ReprK.of_reads (.bool b) rfl (fun z => by cases z) (by cases b <;> decide), fun A E c Q _ _ _ q => PySem.P.repr_of_bool (by
  have z := q c.heap c.toks (c.toks + 1) fun _ _ e => e
  simpa only [PyData.shown] using z)⟩
theorem shw_int {i : Int} {t : Tok} (hs : (PyData.int i).showable = true) (hz : (PyData.int i).shown.length ≤ sizeLine) : Shw P w h (.int i t) (.int i) := ⟨⟨_, .int i t⟩, ReprK.of_reads (.int i t) hs (fun z => by cases z) hz, fun A E c Q _ _ _ q => PySem.P.repr_of_int (by simpa [PyData.showable] using hs) (by
  have z := q c.heap c.toks (c.toks + 1) fun _ _ e => e
  simpa only [PyData.shown] using z)⟩
theorem shw_str {x : Str} {t : Tok} (hz : (PyData.str x).shown.length ≤ sizeLine) : Shw P w h (.str x t) (.str x) := ⟨⟨_, .str x t⟩, ReprK.of_reads (.str x t) rfl (fun z => by cases z) hz, fun A E c Q _ _ _ q => PySem.P.repr_of_str (by
  have z := q c.heap c.toks (c.toks + 1) fun _ _ e => e
  simpa only [PyData.shown] using z) (by simpa only [PyData.shown] using hz)⟩
theorem shw_nil : ShwAll P w h [] [] := ⟨⟨_, .nil⟩, [], (fun _ z => nomatch z), by simp only [PyData.shownAll]; exact .nil⟩
theorem shw_cons {u : Value} {us : List Value} {p : PyData} {ps : List PyData} (a : Shw P w h u p) (b : ShwAll P w h us ps) : ShwAll P w h (u :: us) (p :: ps) := by
  obtain ⟨⟨as, r⟩, ⟨bs, b1, k1⟩, -⟩ := a
  obtain ⟨⟨as', r'⟩, ⟨bs', b2, k2⟩⟩ := b
  refine ⟨⟨_, .cons r r'⟩, bs ++ bs', ?_, ?_⟩
  · simp only [PyData.depthAll]
    exact (b1.mono (Nat.le_max_left _ _)).append (b2.mono (Nat.le_max_right _ _))
  · simp only [PyData.depthAll, PyData.shownAll]
    exact .cons ((k1.more fun _ z => List.mem_append_left _ z).level_le (Nat.le_max_left _ _)) (k2.more_le (fun _ z => List.mem_append_right _ z) (Nat.le_max_right _ _))
theorem shw_tuple {a : Addr} {o : Obj} {its : Array Value} {n : Nat} {ps : List PyData} (h1 : h.get? a = some o) (h2 : o.cls = .type "tuple") (h3 : o.data = .seq its n) (b : ShwAll P w h its.toList ps)
    (hz : (PyData.tuple ps).shown.length ≤ sizeLine) : Shw P w h (.ref a) (.tuple ps) := by
  obtain ⟨⟨as, r⟩, ⟨bs, b1, k1⟩⟩ := b
  have rt : Reads h (.ref a) (.tuple ps) _ := .tuple h1 h2 h3 r
  have far : a ∉ bs := not_mem_of_deeper rt (by simp only [PyData.depth]; omega) b1
  simp only [PyData.shown] at hz
  refine ⟨⟨_, rt⟩, ⟨a :: bs, ReadAtMost.cons rt (by simp only [PyData.depth]; omega) b1, ?_⟩, fun A E c Q hg hu hk q => ?_⟩
  · simp only [PyData.depth, PyData.shown]
    exact ReprK.tuple h1 h2 h3 far k1
  · simp only [PyData.depth] at hu
    simp only [PyData.shown] at q
    refine call_repr_slot (by omega) ⟨o, hk _ _ h1, h2⟩ F.slot_tuple_repr ?_
    exact call_tuple_reprK h1 h2 h3 far k1 (A := A.in1) hg (fun b _ => Clear.nil b) (by show A.units + 1 + _ < _; omega) hk (fun k t n z => ⟨_, _, rfl, q k t n z⟩) hz
theorem shw_list {a : Addr} {o : Obj} {its : Array Value} {n : Nat} {ps : List PyData} (h1 : h.get? a = some o) (h2 : o.cls = .type "list") (h3 : o.data = .seq its n) (b : ShwAll P w h its.toList ps)
    (hz : (PyData.list ps).shown.length ≤ sizeLine) : Shw P w h (.ref a) (.list ps) := by
  obtain ⟨⟨as, r⟩, ⟨bs, b1, k1⟩⟩ := b
  have rt : Reads h (.ref a) (.list ps) _ := .list h1 h2 h3 r
  have far : a ∉ bs := not_mem_of_deeper rt (by simp only [PyData.depth]; omega) b1
  simp only [PyData.shown] at hz
  obtain ⟨l⟩ := its
  cases l with
  | nil =>
    cases (show ReadsAll h [] ps _ from r)
    refine ⟨⟨_, rt⟩, ⟨a :: bs, ReadAtMost.cons rt (by simp only [PyData.depth]; omega) b1, ?_⟩, fun A E c Q hg hu hk q => ?_⟩
    · simp only [PyData.shown, PyData.shownAll, listText_nil]
      exact ReprK.listEmpty h1 h2 h3
    · simp only [PyData.shown, PyData.shownAll, listText_nil] at q
      refine call_repr_slot (by omega) ⟨o, hk _ _ h1, h2⟩ F.slot_list_repr.toG ?_
      exact call_list_repr_empty ⟨o, hk _ _ h1, h2⟩ (hk _ _ h1) h3 ⟨_, _, rfl, q c.heap _ _ fun _ _ z => z⟩
  | cons x l =>
    have each : ∀ (i : Nat) (y : Value), (x :: l).toArray[i]? = some y → ∃ t, (PyData.shownAll ps)[i]? = some t ∧ ReprK P w bs h (PyData.depthAll ps) y t := fun i y e => k1.item i y (by simpa using e)
    have long : (PyData.shownAll ps).length = (x :: l).toArray.size := by simpa using k1.length_eq
    refine ⟨⟨_, rt⟩, ⟨a :: bs, ReadAtMost.cons rt (by simp only [PyData.depth]; omega) b1, ?_⟩, fun A E c Q hg hu hk q => ?_⟩
    · simp only [PyData.depth, PyData.shown]
      exact ReprK.list h1 h2 h3 far long each
    · simp only [PyData.depth] at hu
      simp only [PyData.shown] at q
      refine call_repr_slot (by omega) ⟨o, hk _ _ h1, h2⟩ F.slot_list_repr.toG ?_
      exact call_list_reprK h1 h2 h3 far long each (A := A.in1) hg (fun b _ => Clear.nil b) (by show A.units + 1 + _ < _; omega) hk (fun k t n z => ⟨_, _, rfl, q k t n z⟩) hz
theorem shw_dict0 {a : Addr} {o : Obj} {es : Array DictEntry} {n : Nat} (h1 : h.get? a = some o) (h2 : o.cls = .type "dict") (h3 : o.data = .dict es n) (he : es.toList = []) (hs : (a == sysModules) = false) : Shw P w h (.ref a) (.dict []) := by
  have rt : Reads h (.ref a) (.dict []) _ := .dict h1 h2 h3 (by rw [he]; exact .nil) (by rw [he]; exact .nil)
  have k0 : ReprEntriesK P w [] h 0 es.toList [] := by rw [he]; exact .nil
  have nothing : a ∉ ([] : List Addr) := List.not_mem_nil
  refine ⟨⟨_, rt⟩, ⟨[a], ReadAtMost.cons rt (Nat.zero_le _) (fun _ z => nomatch z), ?_⟩, fun A E c Q hg hu hk q => ?_⟩
  · simp only [PyData.depth, PyData.shown, PyData.shownKv, PyData.depthKv]
    exact ReprK.dict h1 h2 h3 hs nothing k0
  · simp only [PyData.depth, PyData.depthKv] at hu
    simp only [PyData.shown, PyData.shownKv] at q
    refine call_repr_slot (by omega) ⟨o, hk _ _ h1, h2⟩ F.slot_dict_repr ?_
    exact call_dict_reprK h1 h2 h3 hs nothing k0 (A := A.in1) hg (fun b _ => Clear.nil b) (by show A.units + 1 + _ < _; omega) hk (fun k t n z => ⟨_, _, rfl, q k t n z⟩) (by decide)
end
/-! ### sizes of the parts -/
theorem shownAll_mem : ∀ {ps : List PyData} {p : PyData}, p ∈ ps → p.shown ∈ PyData.shownAll ps
  | q :: ps, p, hm => by
    simp only [PyData.shownAll]
    rcases List.mem_cons.mp hm with rfl | hm
    · exact List.mem_cons_self
    · exact List.mem_cons_of_mem _ (shownAll_mem hm)
theorem showableAll_mem : ∀ {ps : List PyData}, PyData.showableAll ps = true → ∀ p ∈ ps, p.showable = true
  | q :: ps, e, p, hm => by
    simp only [PyData.showableAll, Bool.and_eq_true] at e
    rcases List.mem_cons.mp hm with rfl | hm
    · exact e.1
    · exact showableAll_mem e.2 p hm
def okP (p : PyData) : Prop := p.showable = true ∧ p.shown.length ≤ sizeLine
theorem okP_tuple {ps : List PyData} (h : okP (.tuple ps)) : ∀ p ∈ ps, okP p := fun p hm => ⟨showableAll_mem (by simpa only [PyData.showable] using h.1) p hm, by
  have z := h.2
  simp only [PyData.shown] at z
  exact Nat.le_trans (tupleText_mem_le (shownAll_mem hm)) z⟩
theorem okP_list {ps : List PyData} (h : okP (.list ps)) : ∀ p ∈ ps, okP p := fun p hm => ⟨showableAll_mem (by simpa only [PyData.showable] using h.1) p hm, by
  have z := h.2
  simp only [PyData.shown] at z
  exact Nat.le_trans (listText_mem_le (shownAll_mem hm)) z⟩
/-! ### what data show -/
section
variable {X : Cx} {pins : List (Addr × Obj)} {σ : St} {H : Hp} {s : Shared} {ι : List Addr} {μ : Mem}
mutual
theorem shw_of (I : Inv X pins σ H s) (r : Rel (gOf X) ι H μ) : ∀ (n : Nat) (d : D) (v : V) (u : Value) (p : PyData), Rep (gOf X) ι H d v → RelV v u → D.sh? n μ d = some p → okP p → Shw X.prog X.w s.heap u p
  | n, .non, v, u, p, h, e, q, k => by
    unfold D.sh? at q
    cases q
    rw [h.non] at e
    cases e
    exact shw_none
  | n, .bl b, v, u, p, h, e, q, k => by
    unfold D.sh? at q
    cases q
    rw [h.bl] at e
    cases e
    exact shw_bool b
  | n, .int i, v, u, p, h, e, q, k => by
    unfold D.sh? at q
    cases q
    rw [h.int] at e
    obtain ⟨t, rfl⟩ := e
    exact shw_int k.1 k.2
  | n, .str x, v, u, p, h, e, q, k => by
    unfold D.sh? at q
    cases q
    rw [h.str] at e
    obtain ⟨t, rfl⟩ := e
    exact shw_str k.2
  | n + 1, .tup l, v, u, p, h, e, q, k => by
    unfold D.sh? at q
    obtain ⟨ps, e1, rfl⟩ := Option.map_eq_some_iff.mp q
    obtain ⟨a, vs, rfl, h1, h2⟩ := h.tup
    cases e
    obtain ⟨its, rv, ⟨o, g1, g2, m, g3⟩, _⟩ := I.tuple h1
    exact shw_tuple g1 g2 g3 (by simpa using shws_of I r n l vs its ps h2 rv e1 (okP_tuple k)) k.2
  | n + 1, .ref m, v, u, p, h, e, q, k => by
    unfold D.sh? at q
    split at q
    · rename_i l em
      obtain ⟨ps, e1, rfl⟩ := Option.map_eq_some_iff.mp q
      obtain ⟨a, vs, rfl, h1, h2, h3⟩ := r.lst em h
      cases e
      obtain ⟨its, rv, ⟨o, m, g1, g2, _, g3⟩, _⟩ := I.list (.of h2)
      exact shw_list g1 g2 g3 (by simpa using shws_of I r n l vs its ps h3 rv e1 (okP_list k)) k.2
    · rename_i em
      cases q
      obtain ⟨a, h0, rfl⟩ := h.ref
      cases e
      obtain ⟨kvs, h1, h2⟩ := r.cell m _ a em h0
      cases h2
      obtain ⟨_, h3, vs, h4, o, es, ep, g1, g2, g3, g4, g5, _⟩ := dk_of I.hok h1
      cases h4
      exact shw_dict0 g1 g2.1 g3 (by revert g5; generalize es.toList = l; intro g5; cases g5; rfl) h3
    · cases q
  | _, .fn _, _, _, _, _, _, q, _ => by unfold D.sh? at q; cases q
  | _, .frl _, _, _, _, _, _, q, _ => by unfold D.sh? at q; cases q
  | 0, .tup _, _, _, _, _, _, q, _ => by unfold D.sh? at q; cases q
  | 0, .ref _, _, _, _, _, _, q, _ => by unfold D.sh? at q; cases q
theorem shws_of (I : Inv X pins σ H s) (r : Rel (gOf X) ι H μ) : ∀ (n : Nat) (l : List D) (vs : List V) (us : List Value) (ps : List PyData), Reps (gOf X) ι H l vs → Vals vs us → D.shs? n μ l = some ps → (∀ p ∈ ps, okP p) → ShwAll X.prog X.w s.heap us ps
  | n, [], vs, us, ps, h, e, q, k => by
    unfold D.shs? at q
    cases q
    rw [h.nil_inv] at e
    cases e
    exact shw_nil
  | n, d :: l, vs, us, ps, h, e, q, k => by
    unfold D.shs? at q
    obtain ⟨v, x, rfl, h1, h2⟩ := h.cons_inv
    cases e with
    | cons r1 r2 =>
      split at q
      · rename_i p q' e1 e2
        cases q
        exact shw_cons (shw_of I r n d v _ p h1 r1 e1 (k _ List.mem_cons_self)) (shws_of I r n l x _ q' h2 r2 e2 fun z hz => k z (List.mem_cons_of_mem _ hz))
      · cases q
end
end
def rRepr (G : Gd) : List V → Hp → VK → Prop := fun xs H Q => ∃ (v : V) (d : D) (ι : List Addr) (μ : Mem) (p : PyData), xs = [v] ∧ Rel G ι H μ ∧ Rep G ι H d v ∧ D.sh? 8 μ d = some p ∧ showOk p = true ∧ Q (.str p.shown) H
theorem cr_repr {X : Cx} (hg : X.A.guards = some []) (hu : X.A.units + 64 < cLine) : CallR X (.builtin "repr") (rRepr (gOf X)) := by
  intro pins s σ H xs us Q I r h
  obtain ⟨v, d, ι, μ, p, rfl, rel, rep, hp, ok, q⟩ := h
  obtain ⟨u, rfl, ru⟩ := vals1 r
  simp only [showOk, Bool.and_eq_true, decide_eq_true_eq] at ok
  have S := shw_of I rel 8 d v u p rep ru hp ⟨ok.1.1, ok.1.2⟩
  exact S.top X.A X.xe s _ hg (by omega) (fun _ _ z => z) fun k t n z => ⟨.str p.shown, H, I.kept z, ⟨t, rfl⟩, q⟩
theorem snd_repr {G : Gd} : SndL G (rRepr G) reprL := fun ι H μ xs vs W σ Q r rxs h => by
  unfold reprL at h
  split at h
  · rename_i x
    obtain ⟨v, w, rfl, h1, h2⟩ := rxs.cons_inv
    rw [h2.nil_inv]
    split at h
    · rename_i p hp
      split at h
      · rename_i hs
        exact ⟨v, x, ι, μ, p, rfl, r, h1, hp, hs, h ι H .refl r _ (rep_str _)⟩
      · exact h.elim
    · exact h.elim
  · exact h.elim
end RW

/-! SEv: t[::-1], t[i::-1] of tuples and lists. -/
namespace RW
open PySem PySem.Spec L2
open PyProof.Rows hiding St
/-- how many items stand up to where the slice begins -/
def upTo (lo : Option Int) (n : Nat) : Nat := ((Builtin.Slice.sliceAdjust lo none (-1) (n : Int)).1 + 1).toNat
theorem adjust_back (lo : Option Int) (n : Nat) : Builtin.Slice.sliceAdjust lo none (-1) (n : Int) = ((upTo lo n : Int) - 1, -1) ∧ upTo lo n ≤ n := by
  have s1 : ((-1 : Int) < 0) := by decide
  unfold upTo Builtin.Slice.sliceAdjust
  simp only [s1, if_true]
  cases lo with
  | none => refine ⟨Prod.ext ?_ rfl, ?_⟩ <;> dsimp only <;> omega
  | some v =>
    by_cases hv : v < 0
    · simp only [if_pos hv]
      refine ⟨Prod.ext ?_ rfl, ?_⟩ <;> (try dsimp only) <;> omega
    · simp only [if_neg hv]
      refine ⟨Prod.ext ?_ rfl, ?_⟩ <;> (try dsimp only) <;> omega
theorem places_back (m : Nat) : Builtin.Slice.slicePlaces ((m : Int) - 1) (-1) (-1) = m := by
  unfold Builtin.Slice.slicePlaces
  have s1 : ¬ ((-1 : Int) > 0) := by decide
  simp only [s1, if_false]
  split
  · rw [show (-(-1 : Int)) = 1 by decide, Int.ediv_one]; omega
  · omega
theorem take_back {α : Type} (xs : List α) : ∀ m, m ≤ xs.length → (List.range m).filterMap (fun (k : Nat) => xs[((m : Int) - 1 + (k : Int) * (-1)).toNat]?) = (xs.take m).reverse
  | 0, _ => rfl
  | m + 1, h => by
    have e : xs.take (m + 1) = xs.take m ++ [xs[m]] := by rw [List.take_succ, List.getElem?_eq_getElem (by omega)]; rfl
    rw [e, List.reverse_append, List.reverse_singleton, List.singleton_append, List.range_succ_eq_map, List.filterMap_cons]
    have h0 : (((m + 1 : Nat) : Int) - 1 + ((0 : Nat) : Int) * (-1)).toNat = m := by omega
    rw [h0, List.getElem?_eq_getElem (by omega)]
    simp only
    rw [List.filterMap_map, ← take_back xs m (by omega)]
    have same : ((fun (k : Nat) => xs[(((m + 1 : Nat) : Int) - 1 + (k : Int) * (-1)).toNat]?) ∘ Nat.succ) = fun (k : Nat) => xs[((m : Int) - 1 + (k : Int) * (-1)).toNat]? := by
      funext k
      have : (((m + 1 : Nat) : Int) - 1 + ((Nat.succ k : Nat) : Int) * (-1)).toNat = ((m : Int) - 1 + (k : Int) * (-1)).toNat := by omega
      simp only [Function.comp_def, this]
    rw [same]
section
variable {prog : Program} {w : World} {A : Around} {E : Value → Shared → Prop} {s : Shared}
theorem item_back {t sl : Addr} {items : List Value} {vl vu vs : Value} {lo : Option Int} {Q : Value → Shared → Prop} (ht : IsTup s.heap t items.toArray) (hs : s.heap.IsSliceOf sl vl vu vs) (pl : IsPart vl lo) (pu : IsPart vu none) (ps : IsPart vs (some (-1)))
    (hz : items.length ≤ sizeLine) (q : Q (.ref s.heap.objs.size) { s with heap := s.heap.push { cls := .type "tuple", data := .seq ((items.take (upTo lo items.length)).reverse).toArray } }) :
    wpAny (model prog w) A (getItem (.ref t) (.ref sl)) Q E s := by
  have room : sizeOk (.seq ((items.take (upTo lo items.length)).reverse).toArray) := by
    show ((items.take (upTo lo items.length)).reverse).toArray.size ≤ sizeLine
    rw [List.size_toArray, List.length_reverse, List.length_take]
    omega
  obtain ⟨os, s1, s2, s3⟩ := id hs
  have ty : s.TypeIs (.ref sl) "slice" := ⟨os, s1, s2⟩
  obtain ⟨ad, le⟩ := adjust_back lo items.length
  unfold getItem
  try with_reducible apply wpAny_holding
  first | refine wpAny_bind (wpAny_pure ?_) | skip
  apply wpAny_bind
  apply wpAny_sequenceKey ht.typeIs (by decide)
  apply wpAny_bind
  apply wpAny_callSpecial?_slot (name := Str.ofString "__getitem__") ht.typeIs PyProof.Rows.slot_tuple_getitem
  refine wpAny_call_entry PyProof.Rows.slot_tuple_getitem ht.typeIs PyProof.Rows.entry_tuple_getitem ?_ (PyProof.Rows.args_tuple_getitem _ _)
  show wpAny _ _ (Builtin.Tuple.tupleItemsOf (.ref t) >>= _) _ _ s
  apply wpAny_bind
  apply PyProof.Rows.tupleItemsOf_ ht
  apply wpAny_bind
  apply wpAny_typeOf ty
  rw [if_pos (by decide)]
  apply wpAny_bind
  show wpAny _ _ (Builtin.Slice.sliceApplied (.ref sl) (pure (items.toArray.size : Int))) _ _ s
  unfold Builtin.Slice.sliceApplied Builtin.Slice.sliceFields
  refine wpAny_bind (wpAny_bind (wpAny_field s1 s3 (x := vl) rfl (wpAny_bind (wpAny_field s1 s3 (x := vu) rfl (wpAny_bind (wpAny_field s1 s3 (x := vs) rfl (wpAny_pure ?_)))))))
  apply wpAny_bind
  apply HT.slicePart_ ps
  show wpAny _ _ (if ((-1 : Int) == 0) = true then _ else _) _ _ s
  rw [if_neg (by decide)]
  apply wpAny_bind
  apply HT.slicePart_ pl
  apply wpAny_bind
  apply HT.slicePart_ pu
  apply wpAny_bind
  apply wpAny_pure
  show wpAny _ _ (match Builtin.Slice.sliceAdjust lo none (-1) (items.toArray.size : Int) with | (lo, hi) => pure (lo, (-1 : Int), Builtin.Slice.slicePlaces lo hi (-1))) _ _ s
  rw [List.size_toArray, ad]
  show wpAny _ _ (pure ((upTo lo items.length : Int) - 1, (-1 : Int), Builtin.Slice.slicePlaces ((upTo lo items.length : Int) - 1) (-1) (-1))) _ _ s
  rw [places_back]
  apply wpAny_pure
  show wpAny _ _ (if ((upTo lo items.length : Int) - 1 == 0 && (-1 : Int) == 1 && upTo lo items.length == items.toArray.size) = true then _ else _) _ _ s
  rw [if_neg (by simp)]
  have pick : ((List.range (upTo lo items.length)).filterMap fun (k : Nat) => items.toArray[((upTo lo items.length : Int) - 1 + (k : Int) * (-1)).toNat]?).toArray = ((items.take (upTo lo items.length)).reverse).toArray := by
    rw [← take_back items _ le]
    simp only [List.getElem?_toArray]
  rw [pick]
  first
    | exact wpAny_bind (m := Builtin.Tuple.tupleExact _) (wpAny_newObj_type (wpAny_pure ⟨_, rfl, wpAny_pure q⟩) room)
    | exact wpAny_bind (wpAny_bind (m := Builtin.Tuple.tupleExact _) (wpAny_newObj_type (wpAny_pure (wpAny_pure ⟨_, rfl, wpAny_pure q⟩)) room))
    | exact wpAny_bind (wpAny_bind (m := Builtin.Tuple.tupleExact _) (wpAny_newObj_type (wpAny_pure ⟨_, rfl, wpAny_pure q⟩) room))
end
def tBack (K : PySem.W.Frag) (te : TE) (tl : TO) : TE := fun σ H Q => te σ H fun x H1 => tl σ H1 fun lo H2 => ∃ a xs, x = .ref a ∧
  ((SqT K H2 a xs ∧ ∀ p, H2 p = none → Q (.ref p) (upd H2 p (.tup (xs.take (upTo lo xs.length)).reverse))) ∨ (SqL K H2 a xs ∧ lo = none ∧ ∀ p, H2 p = none → Q (.ref p) (upd H2 p (.lst xs.reverse))))
section
variable {X : Cx} {W : WX} {e i : Expr} {te : TE} {lo : Option Expr} {tl : TO} {k : Nat} {p1 p2 p3 pos : Pos} {me mi : MD}
theorem pe_back (he : PE X e te) (hl : PO X lo tl) : PE X (.Subscript e (.Slice lo none (some (.UnaryOp .USub (.Constant (.int 1) k p1) p2)) p3) pos) (tBack X.K te tl) := by
  have step : PO X (some (.UnaryOp .USub (.Constant (.int 1) k p1) p2)) (tPart (tUn (rU fun i => .int (-i)) (tC (.int 1)))) := po_some (pe_un un_neg pe_int)
  constructor
  intro pins c τ M R I h
  apply Subscript_
  apply thn (he.run pins c τ M _ I h)
  rintro v c1 ⟨x, M1, I1, rx, q⟩
  apply wpAny_Slice
  apply thn (hl.run pins c1 τ M1 _ I1 q)
  rintro vl c2 ⟨l, M2, I2, pl, q2⟩
  apply thn (po_none.run pins c2 τ M2 (fun o N => o = none ∧ N = M2) I2 ⟨rfl, rfl⟩)
  rintro vu c3 ⟨o3, M3, I3, pu, e1, e2⟩
  rw [e1] at pu
  rw [e2] at I3
  apply thn (step.run pins c3 τ M2 (fun o N => o = some (-1) ∧ N = M2) I3 ⟨1, rfl, -1, rfl, rfl, rfl⟩)
  rintro vs c4 ⟨o4, M4, I4, ps, e3, e4⟩
  rw [e3] at ps
  rw [e4] at I4
  have I5 := I4.kept (h' := c4.heap.push { cls := .type "slice", data := .fields #[vl, vu, vs] }) (t' := c4.toks) fun b o z => Heap.get?_push_of_some _ z
  obtain ⟨a, xs, rfl, q2⟩ := q2
  cases rx
  show wpAny (model X.prog X.w) X.A (subscriptTail e (.Slice lo none (some (.UnaryOp .USub (.Constant (.int 1) k p1) p2)) p3) (.ref a) (.ref c4.heap.objs.size)) _ X.xe { c4 with heap := c4.heap.push { cls := .type "slice", data := .fields #[vl, vu, vs] } }
  rcases q2 with ⟨ht, q2⟩ | ⟨ht, rfl, q2⟩
  · obtain ⟨its, r, tt, hz⟩ := I5.tuple ht
    refine tail_any (ops := [.ref a, .ref c4.heap.objs.size]) tt.typeIs PyProof.Rows.slot_tuple_getitem.lookup ?_ (by with_unfolding_all rfl)
    apply item_back tt (Heap.IsSliceOf.new _ vl vu vs) pl pu ps (by rw [← r.length]; exact hz)
    have e : its.length = xs.length := r.length.symm
    have r2 : Vals (xs.take (upTo l xs.length)).reverse (its.take (upTo l its.length)).reverse := by
      rw [e]
      exact (r.take _).reverse
    have le : (xs.take (upTo l xs.length)).reverse.length ≤ sizeLine := by
      rw [List.length_reverse, List.length_take]
      omega
    exact ⟨.ref _, _, I5.laid (t' := c4.toks) (o := .tup (xs.take (upTo l xs.length)).reverse) (fun b o z => Heap.get?_push_of_some _ z) (Nat.le_refl _) ⟨le, _, r2, IsTup.new _ _⟩, rfl, q2 _ (I5.hok.fresh (Nat.le_refl _))⟩
  · obtain ⟨its, r, tt, hz⟩ := I5.list ht
    refine tail_any (ops := [.ref a, .ref c4.heap.objs.size]) tt.isList.typeIs PySem.slot_list_getitem.lookup ?_ (by with_unfolding_all rfl)
    refine wpAny_getItem_list_slice tt.isList (Heap.IsSliceOf.new _ vl vu vs) pl pu ps (by decide) ?_ (by rw [List.size_toArray, ← r.length]; exact hz)
    rw [PySem.W.krv_pick]
    exact ⟨.ref _, _, I5.laid (t' := c4.toks) (o := .lst xs.reverse) (fun b o z => Heap.get?_push_of_some _ z) (Nat.le_refl _) ⟨by rw [List.length_reverse]; exact hz, _, 0, r.reverse, Heap.get?_push_size _ rfl⟩, rfl, q2 _ (I5.hok.fresh (Nat.le_refl _))⟩
/-- x[::-1] of a list or a tuple -/
def backD (x : D) (μ : Mem) : Res D := match x with
  | .tup l => .ok (.tup l.reverse) μ
  | _ => revD x μ
theorem upTo_none (n : Nat) : upTo none n = n := by
  have := adjust_back none n
  unfold upTo Builtin.Slice.sliceAdjust
  simp
theorem se_back (he : SE X W e me) : SE X W (.Subscript e (.Slice none none (some (.UnaryOp .USub (.Constant (.int 1) k p1) p2)) p3) pos) (mUn backD me) :=
  PE.mono (pe_back he po_none) fun σ H Q ⟨ρ, μ, ι, env, rel, h⟩ =>
    ⟨ρ, μ, ι, env, rel, (Post.bind h).imp fun ι1 H1 μ1 x _ _ ⟨g1, r1, h1⟩ v rv => by
      unfold backD at h1
      split at h1
      · rename_i l
        obtain ⟨a, vs, rfl, h2, h3⟩ := rv.tup
        refine ⟨a, vs, rfl, .inl ⟨h2, ?_⟩⟩
        rw [upTo_none, List.take_length]
        exact new_tup r1 h3.reverse h1
      · simp only [revD] at h1
        split at h1
        · rename_i l el
          obtain ⟨p, vs, rfl, h2, h3⟩ := lstAt_is r1 rv el
          exact ⟨p, vs, rfl, .inr ⟨h2, rfl, new_lst r1 h3.reverse h1⟩⟩
        · exact h1.elim⟩
/-- x[i::-1] of a tuple -/
def backAtD (i : Int) (x : D) (μ : Mem) : Res D := match x with
  | .tup l => .ok (.tup (l.take (upTo (some i) l.length)).reverse) μ
  | _ => .stuck
theorem se_backAt {j : Nat} {i : Int} {p4 : Pos} (he : SE X W e me) : SE X W (.Subscript e (.Slice (some (.Constant (.int i) j p4)) none (some (.UnaryOp .USub (.Constant (.int 1) k p1) p2)) p3) pos) (mUn (backAtD i) me) :=
  PE.mono (pe_back he (po_some pe_int)) fun σ H Q ⟨ρ, μ, ι, env, rel, h⟩ =>
    ⟨ρ, μ, ι, env, rel, (Post.bind h).imp fun ι1 H1 μ1 x _ _ ⟨g1, r1, h1⟩ v rv => by
      unfold backAtD at h1
      split at h1
      · rename_i l
        obtain ⟨a, vs, rfl, h2, h3⟩ := rv.tup
        refine ⟨i, rfl, a, vs, rfl, .inl ⟨h2, ?_⟩⟩
        rw [h3.length]
        exact new_tup r1 (h3.take _).reverse h1
      · exact h1.elim⟩
end
/-! ### texts -/
def eqT (x y : D) (μ : Mem) : Res D := match x, y with
  | .str a, .str b => .ok (.bl (decide (a = b))) μ
  | _, _ => .stuck
def neT (x y : D) (μ : Mem) : Res D := match x, y with
  | .str a, .str b => .ok (.bl (!decide (a = b))) μ
  | _, _ => .stuck
theorem snd_eqT {G : Gd} : Snd2 G rEq eqT := fun ι H μ x y v u W σ Q r rx ry h => by
  unfold eqT at h
  split at h
  · rename_i a b
    rw [rx.str, ry.str]
    refine ⟨rfl, ?_⟩
    have e : decide (V.str a = V.str b) = decide (a = b) := by simp
    rw [e]
    exact h ι H .refl r _ (rep_bl _)
  · exact h.elim
theorem snd_neT {G : Gd} : Snd2 G rNe neT := fun ι H μ x y v u W σ Q r rx ry h => by
  unfold neT at h
  split at h
  · rename_i a b
    rw [rx.str, ry.str]
    refine ⟨rfl, ?_⟩
    have e : decide (V.str a = V.str b) = decide (a = b) := by simp
    rw [e]
    exact h ι H .refl r _ (rep_bl _)
  · exact h.elim
def strL : List D → Mem → Res D
  | [.int i], μ => if i.natAbs.log2 < 1920 then .ok (.str (toString i)) μ else .stuck
  | [.str s], μ => .ok (.str s) μ
  | _, _ => .stuck
theorem call_strA {X : Cx} : CallR X (.type "str") (fun xs H Q => (∃ i, xs = [.int i] ∧ i.natAbs.log2 < 1920 ∧ Q (.str (toString i)) H) ∨ ∃ a, xs = [.str a] ∧ Q (.str a) H) := CallR.or call_str_int SkE.call_str_str
theorem snd_strL {G : Gd} : SndL G (fun xs H Q => (∃ i, xs = [.int i] ∧ i.natAbs.log2 < 1920 ∧ Q (.str (toString i)) H) ∨ ∃ a, xs = [.str a] ∧ Q (.str a) H) strL := fun ι H μ xs vs W σ Q r rxs h => by
  unfold strL at h
  split at h
  · obtain ⟨v, rfl, rv⟩ := rxs.one
    split at h
    · rename_i hi
      exact .inl ⟨_, by rw [rv.int], hi, h ι H .refl r _ (rep_str _)⟩
    · exact h.elim
  · obtain ⟨v, rfl, rv⟩ := rxs.one
    exact .inr ⟨_, by rw [rv.str], h ι H .refl r _ (rep_str _)⟩
  · exact h.elim
end RW

/-! SEw: zip of two lists; dict(list of pairs) with keys that are tuples. -/
namespace RW
open PySem L2 PySem.Spec
open PyProof.Rows hiding St
/-! ### zip -/
def zipItems : List D → List D → List D
  | a :: l, b :: r => .tup [a, b] :: zipItems l r
  | _, _ => []
theorem zipItems_get : ∀ {l r : List D} {i : Nat} {d : D}, (zipItems l r)[i]? = some d → ∃ x y, l[i]? = some x ∧ r[i]? = some y ∧ d = .tup [x, y]
  | [], _, i, d, e => by simp [zipItems] at e
  | a :: l, [], i, d, e => by simp [zipItems] at e
  | a :: l, b :: r, 0, d, e => ⟨a, b, rfl, rfl, by simpa [zipItems] using e.symm⟩
  | a :: l, b :: r, i + 1, d, e => by
    obtain ⟨x, y, h1, h2, h3⟩ := zipItems_get (l := l) (r := r) (i := i) (by simpa [zipItems] using e)
    exact ⟨x, y, by simpa using h1, by simpa using h2, h3⟩
theorem zipItems_len : ∀ {l r : List D}, l.length ≤ (zipItems l r).length ∨ r.length ≤ (zipItems l r).length
  | [], r => .inl (Nat.zero_le _)
  | a :: l, [] => .inr (Nat.zero_le _)
  | a :: l, b :: r => by
    rcases zipItems_len (l := l) (r := r) with h | h
    · exact .inl (by simp [zipItems]; exact h)
    · exact .inr (by simp [zipItems]; exact h)
def zipD : List D → Mem → Res (List D × (Mem → Prop))
  | [.ref n, .ref m], μ => (match μ[n]?, μ[m]? with
    | some (.lst l), some (.lst r) => .ok (zipItems l r, fun μ' => μ'[n]? = some (.lst l) ∧ μ'[m]? = some (.lst r)) μ
    | _, _ => .stuck)
  | _, _ => .stuck
@[simp] def iZipD (a : ML) : MIt := fun ρ μ => (a ρ μ).bind fun xs μ1 => zipD xs μ1
section
variable {G : Gd} {ι : List Addr} {H : Hp} {μ : Mem}
theorem it_zip {a b : Addr} {n m : Nat} {l r : List D} (hn : ι[n]? = some a) (hm : ι[m]? = some b) : ItOk G ι H (Itz G.K a b) (zipItems l r) (fun μ' => μ'[n]? = some (.lst l) ∧ μ'[m]? = some (.lst r)) := by
  have key : ∀ {n : Nat} {a : Addr} {l : List D} {ι' : List Addr} {H' : Hp} {μ' : Mem}, ι[n]? = some a → Grow ι H ι' H' → Rel G ι' H' μ' → μ'[n]? = some (.lst l) → ∃ vs, SqL G.K H' a vs ∧ Reps G ι' H' l vs := fun {n a l ι' H' μ'} hn g r e => by
    obtain ⟨vs, h1, h2⟩ := r.cell n _ a e (prefix_get g.pre hn)
    exact ⟨vs, .of h1, h2⟩
  refine ⟨fun i d ι' H' μ' e g rl c => ?_, fun i d ι' H' μ' v H2 e g rl c hy => ?_, fun ι' H' μ' g rl c => ?_⟩
  · obtain ⟨x, y, ex, ey, rfl⟩ := zipItems_get e
    obtain ⟨vs, h1, h2⟩ := key hn g rl c.1
    obtain ⟨ws, k1, k2⟩ := key hm g rl c.2
    obtain ⟨v, e1, _⟩ := h2.get ex
    obtain ⟨w, e2, _⟩ := k2.get ey
    exact ⟨vs, ws, v, w, h1, k1, e1, e2⟩
  · obtain ⟨T, v1, v2, rfl, hT, rfl, q1, q2⟩ := hy
    obtain ⟨x, y, ex, ey, rfl⟩ := zipItems_get e
    obtain ⟨vs, h1, h2⟩ := key hn g rl c.1
    obtain ⟨ws, k1, k2⟩ := key hm g rl c.2
    obtain ⟨v, e1, r1⟩ := h2.get ex
    obtain ⟨w, e2, r2⟩ := k2.get ey
    rw [q1 vs h1] at e1; cases e1
    rw [q2 ws k1] at e2; cases e2
    obtain ⟨g2, rl2⟩ := grow_laid (o := .tup [v1, v2]) rl hT
    exact ⟨g2, rl2, rep_tup (.of upd_same) (.cons (r1.ext (g2.ext rl)) (.cons (r2.ext (g2.ext rl)) .nil))⟩
  · obtain ⟨vs, h1, h2⟩ := key hn g rl c.1
    obtain ⟨ws, k1, k2⟩ := key hm g rl c.2
    refine ⟨vs, ws, h1, k1, ?_⟩
    rw [h2.length, k2.length]
    exact zipItems_len
end
section
variable {X : Cx} {W : WX} {e e2 : Expr} {ms : ML} {p pos tpos : Pos} {elts : List Expr} {kk : Nat}
theorem si_zip (hg : Gl X "zip") (hm : X.mg "zip" = none) (ha : SA X W [e, e2] ms)
    (hs : starEach [e, e2] X.env = (false, eval e X.env) :: starEach [e2] X.env := by rfl) (hpl : (backTo pos (starEach [e2] X.env)).any (·.1) = false := by rfl) :
    SI X W (.Tuple elts kk tpos) (.Call (.Name "zip" p) [e, e2] [] pos) (iZipD ms) :=
  PI.mono (pi_zip hg hm ha hs hpl) fun σ H R ⟨ρ, μ, ι, env, rel, h⟩ => by
    have h := Post.bind h
    refine ⟨ρ, μ, ι, env, rel, ?_⟩
    cases hm : ms ρ μ with
    | stuck => rw [hm] at h; exact h.elim
    | exc c fs m => rw [hm] at h; exact h
    | ok ds μ1 =>
      rw [hm] at h
      intro ι1 H1 g1 r1 vs rvs
      obtain ⟨_, _, h3⟩ := h ι1 H1 g1 r1
      unfold zipD at h3
      split at h3
      · rename_i n m
        obtain ⟨v, vs', rfl, rv, rvs'⟩ := rvs.cons_inv
        obtain ⟨w, vs'', rfl, rw', rvs''⟩ := rvs'.cons_inv
        obtain rfl := rvs''.nil_inv
        split at h3
        · rename_i l r em em2
          obtain ⟨a, vs, rfl, h0, h1, h2⟩ := r1.lst em rv
          obtain ⟨b, ws, rfl, k0, k1, k2⟩ := r1.lst em2 rw'
          exact ⟨a, b, vs, ws, rfl, .of h1, .of k1, h3 ι1 H1 .refl r1 _ (it_zip h0 k0)⟩
        · exact h3.elim
      · exact h3.elim
end
/-! ### dict(list of pairs) -/
def pairsT : List D → Option (List (D × D))
  | [] => some []
  | d :: l => match d with
    | .tup [k, v] => if isT k = true then (pairsT l).map fun r => (k, v) :: r else none
    | _ => none
def dictL : List D → Mem → Res D
  | [.ref n], μ => (match μ[n]? with
    | some (.lst l) => (match pairsT l with
      | some ps => if ps.length ≤ 100000 then .ok (.ref μ.length) (μ ++ [.tdic (dicOf ps)]) else .stuck
      | none => .stuck)
    | _ => .stuck)
  | _, _ => .stuck
/-- the pairs' keys and values as they lie -/
def KeysAre (G : Gd) (ι : List Addr) (H : Hp) (ps : List (D × D)) (ks : List (NestedKey × Addr × Value)) : Prop := Paired (RepT G ι H) ps ks
def rDictT (G : Gd) : List V → Hp → VK → Prop := fun xs H Q => ∃ (a : Addr) (vs : List V) (ι : List Addr) (μ : Mem) (l : List D) (ps : List (D × D)), xs = [.ref a] ∧ SqL G.K H a vs ∧ Rel G ι H μ ∧ Reps G ι H l vs ∧ pairsT l = some ps ∧ ps.length ≤ 100000 ∧
  ∀ (p : Addr) (ks : List (NestedKey × Addr × Value)), H p = none → (p == sysModules) = false → Paired (RepT G ι H) ps ks → Q (.ref p) (upd H p (.ext (tdPhi G p (storedAllH [] ks))))
theorem pairsT_at {X : Cx} {pins : List (Addr × Obj)} {σ : St} {s : Shared} {ι : List Addr} {H : Hp} (I : Inv X pins σ H s) : ∀ {l : List D} {ps : List (D × D)} {vs : List V} {us : List Value}, pairsT l = some ps → Reps (gOf X) ι H l vs → Vals vs us →
    ∃ (ks : List (NestedKey × Addr × Value)) (ts : List Addr), Paired (RepT (gOf X) ι H) ps ks ∧ us = ts.map Value.ref ∧ ts.length = ks.length ∧ (∀ x ∈ ks, (nestedKind X.prog X.w).is s.heap x.1 x.2.1) ∧ ∀ (j : Nat) (k : NestedKey × Addr × Value), ks[j]? = some k → ∃ t, ts[j]? = some t ∧ PairAt s.heap t (.ref k.2.1) k.2.2
  | [], ps, vs, us, e, r, ru => by
    cases e
    rw [r.nil_inv] at ru; cases ru
    exact ⟨[], [], .nil, rfl, rfl, (fun _ h => nomatch h), fun j k h => by rw [List.getElem?_nil] at h; cases h⟩
  | d :: l, ps, vs, us, e, r, ru => by
    unfold pairsT at e
    obtain ⟨v, w, rfl, h1, h2⟩ := r.cons_inv
    split at e
    · rename_i k x
      split at e
      · rename_i hk
        obtain ⟨ps', e1, rfl⟩ := Option.map_eq_some_iff.mp e
        cases ru with
        | cons ra rb =>
          obtain ⟨ks, ts, p1, rfl, p3, p4, p5⟩ := pairsT_at I e1 h2 rb
          obtain ⟨t, vs2, rfl, s1, s2⟩ := h1.tup
          obtain ⟨kv, w2, rfl, rk, s3⟩ := s2.cons_inv
          obtain ⟨xv, w3, rfl, rx, s4⟩ := s3.cons_inv
          obtain rfl := s4.nil_inv
          obtain ⟨kl, kk, rfl, ek, ek8⟩ := isT_key hk
          obtain ⟨b, bs, rfl, _, _⟩ := id rk.tup
          cases ra
          obtain ⟨its, rv, ⟨o, ho, hc, n, hd⟩, _⟩ := I.tuple s1
          cases rv with
          | cons rv1 rv2 =>
            cases rv2 with
            | cons rv2 rv3 =>
              cases rv3
              cases rv1
              rename_i uv
              refine ⟨(kk, b, uv) :: ks, t :: ts, .cons ⟨ek, ek8, rk, xv, rx, rv2⟩ p1, rfl, by simp [p3], fun y hy => ?_, fun j y hy => ?_⟩
              · rcases List.mem_cons.mp hy with rfl | hy
                · exact ⟨nest_of I _ _ _ _ ek rk rfl, ek8⟩
                · exact p4 y hy
              · cases j with
                | zero =>
                  have : (kk, b, uv) = y := Option.some.inj hy
                  subst this
                  exact ⟨t, rfl, .inl ⟨o, ho, hc, n, hd⟩⟩
                | succ j =>
                  obtain ⟨t', e1, e2⟩ := p5 j y (by simpa using hy)
                  exact ⟨t', by simpa using e1, e2⟩
      · cases e
    · cases e
theorem storedH_nodup {xs : List (NestedKey × Addr × Value)} {k : NestedKey} {a : Addr} {v : Value} (nd : (xs.map (·.1)).Nodup) : ((storedH xs k a v).map (·.1)).Nodup := by
  unfold storedH
  split
  · rw [keys_map_putAt]; exact nd
  · rename_i hf
    rw [List.map_append, List.nodup_append]
    refine ⟨nd, by simp, fun b hb c hc => ?_⟩
    simp at hc; subst hc
    rintro rfl
    apply hf
    cases e : atKey xs b with
    | some p => rfl
    | none =>
      exfalso
      obtain ⟨y, hy, rfl⟩ := List.mem_map.mp hb
      unfold atKey at e
      rw [Option.map_eq_none_iff, List.find?_eq_none] at e
      exact e y hy (by simp)
theorem dictT_paired {G : Gd} {ι : List Addr} {H : Hp} : ∀ {ps acc : List (D × D)} {ks xs : List (NestedKey × Addr × Value)}, Paired (RepT G ι H) ps ks → Paired (RepT G ι H) acc xs → Paired (RepT G ι H) (ps.foldl (fun acc p => dPut acc p.1 p.2) acc) (storedAllH xs ks)
  | _, _, _, _, .nil, q => q
  | _, _, _, _, .cons (a := p) (b := k) h t, q => by
    obtain ⟨h1, h2, h3, v, h4, h5⟩ := h
    have := dictT_paired t (dPut_T h1 h2 h3 h4 h5 q)
    exact this
section
variable {X : Cx}
theorem call_dictT (hc : X.calm = true) (hu : X.A.units + 64 < cLine) : CallR X (.type "dict") (rDictT (gOf X)) := by
  intro pins s σ H xs us Q I r h
  obtain ⟨a, vs, ι, μ, l, ps, rfl, hq, rel, rl, hp, hl, q⟩ := h
  obtain ⟨u, rfl, rx⟩ := r.one
  cases rx
  obtain ⟨its, rv, ⟨o, n, ho, hcl, hd, hdat⟩, hz⟩ := I.list hq
  obtain ⟨ks, ts, p1, p2, p3, p4, p5⟩ := pairsT_at I hp rl rv
  subst p2
  have hkl : ps.length = ks.length := Paired.length p1
  let prs : List (Value × Value) := ks.map fun k => (Value.ref k.2.1, k.2.2)
  have P := PairArg.list (prog := X.prog) (w := X.w) a (ts.map Value.ref).toArray (fun j => ts.getD j 0) prs
  refine call_dict_pairsH (knd := nestedKind X.prog X.w) (ps := ks) P (I.ok.hd hc) (by show X.A.units + 1 + 1 + 8 < cLine; omega) ⟨⟨o, n, ho, hcl, hd, hdat⟩, ?_, fun j k v e => ?_⟩ ⟨by simp [prs], fun i key v hr => ?_⟩ (fun h' hk x hx => ?_) (by simp only [prs, List.length_map]; rw [sizeLine_eq]; omega) fun h' tk hd' hk => ?_
  · simp [prs, p3]
  · obtain ⟨x, ex, e2⟩ := Option.map_eq_some_iff.mp ((List.getElem?_map ..).symm.trans e)
    cases e2
    obtain ⟨t, e1, e3⟩ := p5 j x ex
    have : ts.getD j 0 = t := by simp [List.getD, e1]
    show _ = some (Value.ref (ts.getD j 0)) ∧ PairAt s.heap (ts.getD j 0) _ _
    rw [this]
    exact ⟨by simp [e1], e3⟩
  · obtain ⟨x, ex, e2⟩ := Option.map_eq_some_iff.mp ((List.getElem?_map ..).symm.trans hr)
    cases e2
    exact ⟨x.1, x.2.1, ex, rfl⟩
  · exact nestedKind_stays.stays (fun b o vs m e _ => hk b o (fun z => by subst z; exact absurd (Heap.lt_size e) (Nat.lt_irrefl _)) (fun z => nomatch z) e) (p4 x hx)
  · have hm : (s.heap.objs.size == sysModules) = false := beq_eq_false_iff_ne.mpr (Nat.ne_of_gt I.big)
    exact ⟨.ref s.heap.objs.size, _, I.laid (t' := tk) (fun b o e => hk b o (fun z => nomatch z) e) (Nat.le_refl _) (td_obj (G := gOf X) hd'), rfl, q _ ks (I.hok.fresh (Nat.le_refl _)) hm p1⟩
theorem snd_dictT {G : Gd} : SndL G (rDictT G) dictL := fun ι H μ xs vs W σ Q r rxs h => by
  unfold dictL at h
  split at h
  · rename_i n
    obtain ⟨v, rfl, rv⟩ := rxs.one
    split at h
    · rename_i l em
      obtain ⟨a, vs, rfl, h0, h1, h2⟩ := r.lst em rv
      split at h
      · rename_i ps ep
        split at h
        · rename_i hl
          refine ⟨a, vs, ι, μ, l, ps, rfl, .of h1, r, h2, ep, hl, fun p ks hp hs pk => ?_⟩
          have pp := dictT_paired pk (.nil (F := RepT G ι H))
          have hn : ∀ {ks xs : List (NestedKey × Addr × Value)}, (xs.map (·.1)).Nodup → ((storedAllH xs ks).map (·.1)).Nodup := fun {ks} => by
            induction ks with
            | nil => exact fun h => h
            | cons k ks ih => exact fun {xs} h => ih (xs := storedH xs k.1 k.2.1 k.2.2) (storedH_nodup h)
          have hlen := storedAllH_length ks []
          have hkl : ps.length = ks.length := Paired.length pk
          obtain ⟨g2, r2⟩ := grow_cell (o := .ext (tdPhi G p (storedAllH [] ks))) (c := .tdic (dicOf ps)) r hp fun x => ⟨_, upd_same, Paired.imp' pp fun _ _ z => ⟨z.1, z.2.1, z.2.2.1.ext x, let ⟨v, z1, z2⟩ := z.2.2.2; ⟨v, z1.ext x, z2⟩⟩, hn (by simp), by rw [sizeLine_eq]; simp at hlen; omega, hs⟩
          exact h _ _ g2 r2 _ (rep_new (r := r))
        · exact h.elim
      · exact h.elim
    · exact h.elim
  · exact h.elim
end
end RW

/-! SEx: sorted and len of a dict with keys that are tuples; x in a row of flat things. -/
namespace RW
open PySem L2 PySem.Spec
open PyProof.Rows hiding St
/-! ### a dict of any keys, collected -/
section
variable {prog : Program} {w : World} {A : Around}
theorem walks_raw (hh : A.handled = none) (I d : Addr) (hne : d ≠ I) (es : Array DictEntry) (ep : Nat) :
    Walks prog w A I [I, d] [I] es.size (fun i v => ∃ hi : i < es.size, v = es[i].key) (fun i h => h.IsKeyIter I d i es.size ep ∧ h.DictRaw d es ep) where
  sub := fun b hb => by simp at hb; simp [hb]
  frame := fun _ _ _ st hk => ⟨st.1.at fun o e => hk I (by simp) o e, let ⟨o, h1, h2, h3⟩ := st.2; ⟨o, hk d (by simp) o h1, h2, h3⟩⟩
  item := fun i s Q E hi st hQ => wpAny_pyNext_keys_item_raw st.1 st.2 hi fun h' st' sb => by
    obtain ⟨o, h1, h2, h3⟩ := st.2
    exact hQ _ h' s.toks ⟨hi, rfl⟩ ⟨st', o, (sb.2 d hne).trans h1, h2, h3⟩ fun b o hb e => (sb.2 b (fun h => hb (by simp [h]))).trans e
  done := fun s Q E st hQ => wpAny_pyNext_keys_end_raw hh st.1 st.2 (Nat.le_refl _) fun h' eb => hQ h' s.toks fun b o hb e => eb b o (fun h => hb (by simp [h])) e
  self := fun _ _ _ _ st hQ => wpAny_pyIter_keyiter st.1 hQ
theorem raw_lt {h : Heap} {d : Addr} {es : Array DictEntry} {ep : Nat} (m : h.DictRaw d es ep) : d < h.objs.size := let ⟨_, h1, _⟩ := m; Heap.lt_size h1
theorem kdl_raw {d : Addr} {es : Array DictEntry} {ep : Nat} (lo : (d == sysModules) = false) : PySem.W.KdlSrc prog w "dict" d d es.size (fun i v => ∃ hi : i < es.size, v = es[i].key) (fun h => h.DictRaw d es ep) where
  type := fun _ hm => hm.typeIs
  there := fun _ hm => ⟨raw_lt hm, raw_lt hm⟩
  keep := fun _ _ hm hk => let ⟨o, h1, h2, h3⟩ := hm; ⟨o, hk d (.inl rfl) o h1, h2, h3⟩
  notList := by decide
  notTuple := by decide
  hint := fun _ _ _ _ hm hq => PySem.W.kdl_hint_dict hm.typeIs hq
  iter := fun A s hh hm => ⟨_, _, fun _ _ hq => wpAny_pyIter_dict_raw lo hm hq, walks_raw hh _ d (Nat.ne_of_lt (raw_lt hm)) es ep, ⟨⟨_, Heap.get?_push_size _ rfl, rfl, rfl⟩, let ⟨o, h1, h2, h3⟩ := hm; ⟨o, Heap.get?_push_of_some _ h1, h2, h3⟩⟩⟩
end
/-! ### sorted of a dict of tuples -/
def rSortedT (G : Gd) : List V → Hp → VK → Prop := fun xs H Q => ∃ (a : Addr) (ι : List Addr) (μ : Mem) (l : List (D × D)) (ks : List (NestedKey × Addr × Value)), xs = [.ref a] ∧ TdIs G ι H a l ks ∧ Rel G ι H μ ∧ sortOk μ (l.map (·.1)) = true ∧
  ∀ vs' p, Reps G ι H (sortD μ (l.map (·.1))) vs' → H p = none → Q (.ref p) (upd H p (.lst vs'))
theorem cr_sortedT {X : Cx} (hc : X.calm = true) (hu : X.A.units + 64 < cLine) : CallR X (.builtin "sorted") (rSortedT (gOf X)) := by
  intro pins s σ H xs us Q I r h
  obtain ⟨a, ι, μ, l, ks, rfl, T, rel, ok, q⟩ := h
  rw [Vals.ref1 r]
  simp only [sortOk, Bool.and_eq_true, List.all_eq_true, decide_eq_true_eq, Bool.or_eq_true] at ok
  obtain ⟨⟨⟨o1, o2⟩, o3⟩, o4⟩ := ok
  obtain ⟨h1, h2, h3, h4, h5⟩ := T
  obtain ⟨⟨o, es, ep, e1, e2, e3, e4⟩, _⟩ := h1.ok I.hok
  have hz : es.size = ks.length := by
    have q := congrArg List.length e4
    simpa using q
  have hll : l.length = ks.length := Paired.length h2
  have raw : s.heap.DictRaw a es ep := ⟨o, e1, e2, e3⟩
  refine Calls.call_function_entry PyProof.Rows.kind_sorted PyProof.Rows.plain_sorted PyProof.Rows.entry_sorted (PyProof.Rows.args_sorted1 _) ?_
  unfold Builtin.«sorted»
  refine wpAny_bind (m := checkCount "sorted" 1 1 _) (wpAny_pure ?_)
  refine wpAny_bind (PySem.W.kdu_collect (A := X.A.in1) (kdl_raw h5) (I.ok.hd hc) raw (by rw [hz]; exact h4) fun h' tk acc hk hacc => ?_)
  have hal : acc.toList.length = l.length := by rw [Array.length_toList, hacc.1, hz, hll]
  have ech : PySem.W.EachIs (fun u d => ∃ v, Rep (gOf X) ι H d v ∧ RelV v u) acc.toList (l.map (·.1)) := by
    have key : ∀ {l : List (D × D)} {ks : List (NestedKey × Addr × Value)} {us : List Value}, Paired (RepT (gOf X) ι H) l ks → us.length = l.length → (∀ (j : Nat) (u : Value), us[j]? = some u → ∃ x, ks[j]? = some x ∧ u = .ref x.2.1) → PySem.W.EachIs (fun u d => ∃ v, Rep (gOf X) ι H d v ∧ RelV v u) us (l.map (·.1)) := by
      intro l ks us P
      induction P generalizing us with
      | nil => intro hl _; cases us with
        | nil => exact .nil
        | cons _ _ => simp at hl
      | cons hr t ih =>
        intro hl hj
        cases us with
        | nil => simp at hl
        | cons u us =>
          obtain ⟨x, ex, eu⟩ := hj 0 u rfl
          simp at ex; subst ex
          refine .cons ⟨.ref _, hr.2.2.1, eu⟩ (ih (by simpa using hl) fun j u e => ?_)
          obtain ⟨x, ex, eu⟩ := hj (j + 1) u (by simpa using e)
          exact ⟨x, by simpa using ex, eu⟩
    refine key h2 hal fun j u e => ?_
    obtain ⟨hi, ev⟩ := hacc.2 j u (by rw [← Array.getElem?_toList]; exact e)
    have q := congrArg (fun l => l[j]?) e4
    simp only [List.getElem?_map] at q
    rw [show es.toList[j]? = some es[j] by simp [hi], List.getElem?_eq_getElem (by omega : j < ks.length)] at q
    refine ⟨ks[j], List.getElem?_eq_getElem (by omega), ?_⟩
    simp only [Option.map_some, Option.some.injEq] at q
    rw [ev, q]; rfl
  have er : PySem.W.EachIs (fun u d => ∃ as, Reads s.heap u (encD μ d) as) acc.toList (l.map (·.1)) := by
    have key : ∀ {l : List D} {us : List Value}, (∀ d ∈ l, (D.py? 8 μ d).isSome = true) → PySem.W.EachIs (fun u d => ∃ v, Rep (gOf X) ι H d v ∧ RelV v u) us l → PySem.W.EachIs (fun u d => ∃ as, Reads s.heap u (encD μ d) as) us l := by
      intro l us hh e
      induction e with
      | nil => exact .nil
      | cons h1 t ih =>
        obtain ⟨v, h1, r1⟩ := h1
        refine .cons ?_ (ih fun d hd => hh d (List.mem_cons_of_mem _ hd))
        obtain ⟨p, hp⟩ := Option.isSome_iff_exists.mp (hh _ List.mem_cons_self)
        unfold encD
        rw [hp]
        exact Dp.reads I p v _ (dp_of rel 8 _ v p h1 hp) r1
    exact key (fun d hd => (o1 d hd).1) ech
  have I1 : Inv X pins σ H { s with heap := h', toks := tk } := I.kept hk
  have hsz : acc.toList.length ≤ sizeLine := by rw [hal, hll]; exact h4
  refine wpAny_bind (wpAny_newList ?_ hsz)
  have hoL : (h'.push (seqObj "list" acc.toList.toArray 0)).get? h'.objs.size = some (seqObj "list" acc.toList.toArray 0) := Heap.get?_push_size _ rfl
  show wpAny _ _ _ _ _ { s with heap := h'.push (seqObj "list" acc.toList.toArray 0), toks := tk }
  have er' : PySem.W.EachIs (fun u d => ∃ as, Reads (PySem.W.sortingHeap (h'.push (seqObj "list" acc.toList.toArray 0)) h'.objs.size acc.toList) u (encD μ d) as) acc.toList (l.map (·.1)) := er.mono fun _ _ ⟨as, r⟩ => ⟨as, PyProof.Rows.Reads.keeps (fun b o e => by
    have := hk b o e
    exact PySem.W.sortingHeap_old (Nat.ne_of_lt (Heap.lt_size this)) (Heap.get?_push_of_some _ this)) r⟩
  have hal2 : PySem.W.AllAlike ((l.map (·.1)).map (encD μ)) := by
    intro d hd d' hd'
    obtain ⟨b, hb, rfl⟩ := List.mem_map.mp hd
    obtain ⟨b', hb', rfl⟩ := List.mem_map.mp hd'
    exact o2 b hb b' hb'
  have hsr : PySem.W.Sortable ((l.map (·.1)).map (encD μ)) := by
    rcases o3 with o3 | o3
    · refine .inl fun d hd => ?_
      obtain ⟨b, hb, rfl⟩ := List.mem_map.mp hd
      have := o3 b hb
      unfold isTupD at this
      split at this
      · rename_i x r e; exact ⟨x, r, e⟩
      · cases this
    · refine .inr fun d hd => ?_
      obtain ⟨b, hb, rfl⟩ := List.mem_map.mp hd
      have := o3 b hb
      refine ⟨fun e => ?_, fun xs e => ?_⟩ <;> (rw [e] at this; cases this)
  let sL : Shared := { s with heap := PySem.W.sortingHeap (h'.push (seqObj "list" acc.toList.toArray 0)) h'.objs.size acc.toList, toks := tk }
  refine wpAny_bind (wpAny_holding (wpAny_call_entry PyProof.Rows.slot_list_sort ⟨_, hoL, rfl⟩ PyProof.Rows.entry_list_sort
    (PySem.W.list_sort_vals (κ := PySem.W.dataKind sL.heap ((l.map (·.1)).map (encD μ))) (s := { s with heap := h'.push (seqObj "list" acc.toList.toArray 0), toks := tk }) hoL
      (PySem.W.SortsAt.data (s := sL) (PySem.W.each_map (R := fun v d => ∃ as, Reads sL.heap v d as) (encD μ) er') hal2 hsr (PySem.W.bound_map fun b hb => ?_)) hsz ⟨_, rfl, ?_⟩)
    (PyProof.Rows.args_list_sort _)))
  · have := (o1 b hb).2
    show X.A.units + 1 + 1 + _ < cLine
    omega
  have eo := PySem.W.sortVals_data (R := fun u d => ∃ v, Rep (gOf X) ι H d v ∧ RelV v u) (h' := sL.heap) (enc := encD μ) false ech er' hal2
  obtain ⟨vs', g3, g4⟩ := reps_of_each eo
  obtain ⟨e', he'⟩ := PyProof.Rows.sortedHeap_at (vs := acc.toList) (out := (PySem.W.sortVals (PySem.W.dataKind sL.heap ((l.map (·.1)).map (encD μ))) false acc.toList acc.toList).toArray) hoL
  have hlen : vs'.length ≤ sizeLine := by
    rw [g4.length, PySem.W.sortVals_length false rfl]; exact hsz
  refine wpAny_pure ⟨_, rfl, .ref h'.objs.size, upd H h'.objs.size (.lst vs'), I1.laid (t' := tk) (fun b u e => ?_) (Nat.le_refl _)
    (show ObjOk X.prog X.w _ _ _ (.lst vs') from ⟨hlen, _, e', g4, he'⟩), rfl, q _ _ g3 (I1.hok.fresh (Nat.le_refl _))⟩
  have hb : b < h'.objs.size := Heap.lt_size e
  rw [PyProof.Rows.sortedHeap_old (Nat.ne_of_lt hb) (by rw [size_push']; exact Nat.lt_succ_of_lt hb)]
  exact Heap.get?_push_of_some _ e
def sortedX : List D → Mem → Res D := fun xs μ => match xs with
  | [.ref n] => (match μ[n]? with
    | some (.tdic l) => if sortOk μ (l.map (·.1)) = true then .ok (.ref μ.length) (μ ++ [.lst (sortD μ (l.map (·.1)))]) else .stuck
    | _ => sortedA xs μ)
  | _ => sortedA xs μ
def rSortedX (G : Gd) : List V → Hp → VK → Prop := fun xs H Q => rSortedB G xs H Q ∨ rSortedT G xs H Q
theorem cr_sortedX {X : Cx} (hc : X.calm = true) (hu : X.A.units + 64 < cLine) : CallR X (.builtin "sorted") (rSortedX (gOf X)) := CallR.or (cr_sortedB hc hu) (cr_sortedT hc hu)
/-- what is known of a dict of tuples -/
theorem td_is {G : Gd} {ι : List Addr} {H : Hp} {μ : Mem} {n : Nat} {l : List (D × D)} {v : V} (r : Rel G ι H μ) (rv : Rep G ι H (.ref n) v) (e : μ[n]? = some (.tdic l)) : ∃ a ks, v = .ref a ∧ TdIs G ι H a l ks := by
  obtain ⟨a, h0, rfl⟩ := rv.ref
  obtain ⟨xs, q1, q2, q3, q4, q5⟩ := r.cell n _ a e h0
  exact ⟨a, xs, rfl, .inl q1, q2, q3, q4, q5⟩
theorem snd_sortedX {G : Gd} : SndL G (rSortedX G) sortedX := fun ι H μ xs vs W σ Q r rxs h => by
  unfold sortedX at h
  split at h
  · rename_i n
    split at h
    · rename_i l e
      split at h
      · rename_i ok
        obtain ⟨v, rfl, rv⟩ := rxs.one
        obtain ⟨a, ks, rfl, T⟩ := td_is r rv e
        exact .inr ⟨a, ι, μ, l, ks, rfl, T, r, ok, fun vs' q h3 hq => new_lst r h3 h q hq⟩
      · exact h.elim
    · exact .inl (snd_sortedB ι H μ _ vs W σ Q r rxs h)
  · exact .inl (snd_sortedB ι H μ _ vs W σ Q r rxs h)
/-! ### len of a dict of tuples -/
def rLenT (G : Gd) : List V → Hp → VK → Prop := fun xs H Q => ∃ (a : Addr) (ι : List Addr) (l : List (D × D)) (ks : List (NestedKey × Addr × Value)), xs = [.ref a] ∧ TdIs G ι H a l ks ∧ Q (.int l.length) H
theorem cr_lenT {X : Cx} : CallR X (.builtin "len") (rLenT (gOf X)) := by
  intro pins s σ H xs us Q I r h
  obtain ⟨a, ι, l, ks, rfl, T, q⟩ := h
  rw [Vals.ref1 r]
  obtain ⟨h1, h2, h3, h4, h5⟩ := T
  obtain ⟨⟨o, es, ep, e1, e2, e3, e4⟩, _⟩ := h1.ok I.hok
  have hz : es.size = ks.length := by
    have q := congrArg List.length e4
    simpa using q
  have hll : l.length = ks.length := Paired.length h2
  have raw : s.heap.DictRaw a es ep := ⟨o, e1, e2, e3⟩
  have hn := line63
  refine Calls.call_function_entry kind_len plain_len entry_len (args_len1 _) ?_
  unfold Builtin.«len»
  refine wpAny_bind (m := oneArg "len" _) (wpAny_pure ?_)
  refine wpAny_bind (m := callSpecial? (.ref a) (Str.ofString "__len__")) (wpAny_callSpecial?_slot (name := Str.ofString "__len__") raw.typeIs F.slot_dict_len (call_len_raw h5 raw ?_))
  show wpAny _ _ _ _ _ { s with toks := s.toks + 1 }
  refine wpAny_bind (wpAny_holding (wpAny_pure ?_))
  refine wpAny_bind (wpAny_letGo ?_)
  show wpAny _ _ (if ((es.size : Nat) : Int) < 0 then _ else _) _ _ _
  rw [if_neg (by omega)]
  show wpAny _ _ (if ((es.size : Nat) : Int) ≥ 2 ^ 63 then _ else _) _ _ _
  rw [if_neg (by omega)]
  exact wpAny_bind (wpAny_mkInt (wpAny_pure ⟨_, rfl, .int l.length, H, I.tok _, ⟨s.toks + 1, by rw [hz, ← hll]⟩, q⟩))
def lenX : List D → Mem → Res D := fun xs μ => match xs with
  | [.ref n] => (match μ[n]? with
    | some (.tdic l) => .ok (.int l.length) μ
    | _ => lenL xs μ)
  | _ => lenL xs μ
def rLenX (G : Gd) : List V → Hp → VK → Prop := fun xs H Q => rLenA G.K xs H Q ∨ rLenT G xs H Q
theorem cr_lenX {X : Cx} : CallR X (.builtin "len") (rLenX (gOf X)) := CallR.or call_lenA cr_lenT
theorem snd_lenX {G : Gd} : SndL G (rLenX G) lenX := fun ι H μ xs vs W σ Q r rxs h => by
  unfold lenX at h
  split at h
  · rename_i n
    split at h
    · rename_i l e
      obtain ⟨v, rfl, rv⟩ := rxs.one
      obtain ⟨a, ks, rfl, T⟩ := td_is r rv e
      exact .inr ⟨a, ι, l, ks, rfl, T, h ι H .refl r _ (rep_int _)⟩
    · exact .inl (snd_len ι H μ _ vs W σ Q r rxs h)
  · exact .inl (snd_len ι H μ _ vs W σ Q r rxs h)
/-! ### x in a row of flat things -/
def flatI : D → Option V
  | .non => some .non
  | .bl b => some (.bl b)
  | .int i => some (.int i)
  | .str z => some (.str z)
  | _ => none
def flatsI : List D → Option (List V)
  | [] => some []
  | d :: l => (flatI d).bind fun v => (flatsI l).map fun vs => v :: vs
def rowI (x : D) (μ : Mem) : Option (List D) := match x with
  | .tup l => some l
  | .ref n => (match μ[n]? with
    | some (.lst l) => some l
    | _ => none)
  | _ => none
def inX (x y : D) (μ : Mem) : Res D := match rowI y μ with
  | some l => (match flatI x, flatsI l with
    | some v, some vs => .ok (.bl (inV v vs)) μ
    | _, _ => .stuck)
  | none => inDD x y μ
def notInX (x y : D) (μ : Mem) : Res D := match rowI y μ with
  | some l => (match flatI x, flatsI l with
    | some v, some vs => .ok (.bl (!inV v vs)) μ
    | _, _ => .stuck)
  | none => notInDD x y μ
section
variable {G : Gd} {ι : List Addr} {H : Hp} {μ : Mem}
theorem flatI_is {d : D} {v w : V} (r : Rep G ι H d v) (e : flatI d = some w) : v = w ∧ flatV w = true := by
  cases d <;> simp [flatI] at e <;> subst e
  · exact ⟨r.non, rfl⟩
  · exact ⟨r.bl, rfl⟩
  · exact ⟨r.int, rfl⟩
  · exact ⟨r.str, rfl⟩
theorem flatsI_is : ∀ {l : List D} {vs ws : List V}, Reps G ι H l vs → flatsI l = some ws → vs = ws ∧ ws.all flatV = true
  | [], vs, ws, r, e => by
    simp [flatsI] at e; subst e
    rw [r.nil_inv]; exact ⟨rfl, rfl⟩
  | d :: l, vs, ws, r, e => by
    obtain ⟨v, w, rfl, h1, h2⟩ := r.cons_inv
    simp only [flatsI] at e
    obtain ⟨v', e1, e2⟩ := Option.bind_eq_some_iff.mp e
    obtain ⟨vs', e3, rfl⟩ := Option.map_eq_some_iff.mp e2
    obtain ⟨rfl, f1⟩ := flatI_is h1 e1
    obtain ⟨rfl, f2⟩ := flatsI_is h2 e3
    exact ⟨rfl, by rw [List.all_cons, f1, f2]; rfl⟩
theorem rowI_is {y : D} {u : V} {l : List D} (r : Rel G ι H μ) (ry : Rep G ι H y u) (e : rowI y μ = some l) : ∃ p vs, u = .ref p ∧ (SqL G.K H p vs ∨ SqT G.K H p vs) ∧ Reps G ι H l vs := by
  unfold rowI at e
  split at e
  · cases e
    obtain ⟨a, vs, rfl, h1, h2⟩ := ry.tup
    exact ⟨a, vs, rfl, .inr h1, h2⟩
  · split at e
    · rename_i n l' em
      cases e
      obtain ⟨a, vs, rfl, h0, h1, h2⟩ := r.lst em ry
      exact ⟨a, vs, rfl, .inl (.of h1), h2⟩
    · cases e
  · cases e
end
def rInX (G : Gd) : R2 := fun x y H Q => rIn G.K false x y H Q ∨ rInD G x y H Q
def rNotInX (G : Gd) : R2 := fun x y H Q => rIn G.K true x y H Q ∨ rNotInD G x y H Q
theorem op_inX {X : Cx} (hu : X.A.units + 64 < cLine) : OpR X (compareOp .In) (rInX (gOf X)) := OpR.or op_in_seq (op_inD hu)
theorem op_notInX {X : Cx} (hu : X.A.units + 64 < cLine) : OpR X (compareOp .NotIn) (rNotInX (gOf X)) := OpR.or op_notIn_seq (op_notInD hu)
theorem snd_inX {G : Gd} : Snd2 G (rInX G) inX := fun ι H μ x y v u W σ Q r rx ry h => by
  unfold inX at h
  split at h
  · rename_i l el
    split at h
    · rename_i w ws e1 e2
      obtain ⟨p, vs, rfl, h1, h2⟩ := rowI_is r ry el
      obtain ⟨rfl, f1⟩ := flatI_is rx e1
      obtain ⟨rfl, f2⟩ := flatsI_is h2 e2
      exact .inl ⟨p, vs, rfl, h1, f1, f2, h ι H .refl r _ (rep_bl _)⟩
    · exact h.elim
  · exact .inr (snd_inD ι H μ x y v u W σ Q r rx ry h)
theorem snd_notInX {G : Gd} : Snd2 G (rNotInX G) notInX := fun ι H μ x y v u W σ Q r rx ry h => by
  unfold notInX at h
  split at h
  · rename_i l el
    split at h
    · rename_i w ws e1 e2
      obtain ⟨p, vs, rfl, h1, h2⟩ := rowI_is r ry el
      obtain ⟨rfl, f1⟩ := flatI_is rx e1
      obtain ⟨rfl, f2⟩ := flatsI_is h2 e2
      exact .inl ⟨p, vs, rfl, h1, f1, f2, h ι H .refl r _ (rep_bl _)⟩
    · exact h.elim
  · exact .inr (snd_notInD ι H μ x y v u W σ Q r rx ry h)
end RW

set_option maxHeartbeats 4000000
namespace K43
open PySem L2 RW
def top (i : Nat) : Stmt := PySem.Challenge.pw_ropewarren_k43_depths_by_going.main.body.getD i (.Pass ⟨0, 0, 0, 0⟩)
abbrev s_law_begin : Stmt := top 9
abbrev N_law_begin : List Str := ["_law_script", "_law_greats", "_law_whole", "_law_cell"]
theorem sc_law_begin : FnScope N_law_begin ["_law_script"] (defScope s_law_begin) := ⟨rfl, rfl, rfl, by decide +kernel, rfl, by decide +kernel, by decide +kernel⟩
abbrev s_law_next : Stmt := top 10
abbrev N_law_next : List Str := ["_law_deck", "_law_many", "_law_rest", "_law_mixed"]
theorem sc_law_next : FnScope N_law_next ["_law_deck", "_law_many"] (defScope s_law_next) := ⟨rfl, rfl, rfl, by decide +kernel, rfl, by decide +kernel, by decide +kernel⟩
abbrev s_law_house : Stmt := top 12
abbrev N_law_house : List Str := ["_law_deck", "_law_most", "_law_top", "_law_rooms", "_law_base", "_law_pipes", "_law_room", "_law_size", "_law_narrow", "_law_on"]
theorem sc_law_house : FnScope N_law_house ["_law_deck", "_law_most", "_law_top"] (defScope s_law_house) := ⟨rfl, rfl, rfl, by decide +kernel, rfl, by decide +kernel, by decide +kernel⟩
abbrev s_law_spot : Stmt := top 13
abbrev N_law_spot : List Str := ["_law_house_here", "_law_pipe", "_law_at", "_law_one", "_law_other", "_law_size"]
theorem sc_law_spot : FnScope N_law_spot ["_law_house_here", "_law_pipe", "_law_at"] (defScope s_law_spot) := ⟨rfl, rfl, rfl, by decide +kernel, rfl, by decide +kernel, by decide +kernel⟩
abbrev s_law_nexts : Stmt := top 14
abbrev N_law_nexts : List Str := ["_law_house_here", "_law_found", "_law_room", "_law_pipe", "_law_row", "_law_here", "_law_there", "_law_at", "_law_place"]
theorem sc_law_nexts : FnScope N_law_nexts ["_law_house_here"] (defScope s_law_nexts) := ⟨rfl, rfl, rfl, by decide +kernel, rfl, by decide +kernel, by decide +kernel⟩
abbrev s_law_greater : Stmt := top 17
abbrev N_law_greater : List Str := ["_law_house_here", "_law_times", "_law_pipe"]
theorem sc_law_greater : FnScope N_law_greater ["_law_house_here", "_law_times"] (defScope s_law_greater) := ⟨rfl, rfl, rfl, by decide +kernel, rfl, by decide +kernel, by decide +kernel⟩
abbrev s_law_hung : Stmt := top 16
abbrev N_law_hung : List Str := ["_law_deck", "_law_house_here", "_law_pipe", "_law_one", "_law_other", "_law_size", "_law_narrow", "_law_none", "_law_hung_here"]
theorem sc_law_hung : FnScope N_law_hung ["_law_deck", "_law_house_here"] (defScope s_law_hung) := ⟨rfl, rfl, rfl, by decide +kernel, rfl, by decide +kernel, by decide +kernel⟩
abbrev s_pipes_at : Stmt := top 3
abbrev N_pipes_at : List Str := ["house", "room", "found", "pipe", "one", "other", "length", "narrows", "flaps"]
theorem sc_pipes_at : FnScope N_pipes_at ["house", "room"] (defScope s_pipes_at) := ⟨rfl, rfl, rfl, by decide +kernel, rfl, by decide +kernel, by decide +kernel⟩
abbrev s_place_at : Stmt := top 1
abbrev N_place_at : List Str := ["house", "pipe", "at", "one", "other", "length", "narrows", "flaps"]
theorem sc_place_at : FnScope N_place_at ["house", "pipe", "at"] (defScope s_place_at) := ⟨rfl, rfl, rfl, by decide +kernel, rfl, by decide +kernel, by decide +kernel⟩
abbrev s_rest_beyond : Stmt := top 5
abbrev N_rest_beyond : List Str := ["house", "known", "room", "pipe", "some", "other", "begin", "end", "there"]
theorem sc_rest_beyond : FnScope N_rest_beyond ["house", "known", "room", "pipe"] (defScope s_rest_beyond) := ⟨rfl, rfl, rfl, by decide +kernel, rfl, by decide +kernel, by decide +kernel⟩
abbrev s_arms_of : Stmt := top 6
abbrev N_arms_of : List Str := ["house", "known", "place", "found", "pipe", "begin", "end", "there", "beside", "at", "one", "other", "size", "narrows", "flaps"]
theorem sc_arms_of : FnScope N_arms_of ["house", "known", "place"] (defScope s_arms_of) := ⟨rfl, rfl, rfl, by decide +kernel, rfl, by decide +kernel, by decide +kernel⟩
abbrev s_depth : Stmt := top 7
abbrev N_depth : List Str := ["house", "place", "beside"]
theorem sc_depth : FnScope N_depth ["house", "place", "beside"] (defScope s_depth) := ⟨rfl, rfl, rfl, by decide +kernel, rfl, by decide +kernel, by decide +kernel⟩
abbrev s_law_deep : Stmt := top 15
abbrev N_law_deep : List Str := ["_law_nexts_here", "_law_place", "_law_beside", "_law_last", "_law_far", "_law_fresh", "_law_back", "_law_here", "_law_on"]
theorem sc_law_deep : FnScope N_law_deep ["_law_nexts_here", "_law_place", "_law_beside"] (defScope s_law_deep) := ⟨rfl, rfl, rfl, by decide +kernel, rfl, by decide +kernel, by decide +kernel⟩
abbrev s_law_led : Stmt := top 18
abbrev N_law_led : List Str := ["_law_place", "_law_times"]
theorem sc_law_led : FnScope N_law_led ["_law_place", "_law_times"] (defScope s_law_led) := ⟨rfl, rfl, rfl, by decide +kernel, rfl, by decide +kernel, by decide +kernel⟩
abbrev s_law_toward : Stmt := top 19
abbrev N_law_toward : List Str := ["_law_great", "_law_place", "_law_beside", "_law_one", "_law_other", "_law_size", "_law_at", "_law_pipes", "_law_k"]
theorem sc_law_toward : FnScope N_law_toward ["_law_great", "_law_place", "_law_beside"] (defScope s_law_toward) := ⟨rfl, rfl, rfl, by decide +kernel, rfl, by decide +kernel, by decide +kernel⟩
abbrev s_law_same : Stmt := top 11
abbrev N_law_same : List Str := ["_law_found", "_law_due", "_law_k"]
theorem sc_law_same : FnScope N_law_same ["_law_found", "_law_due"] (defScope s_law_same) := ⟨rfl, rfl, rfl, by decide +kernel, rfl, by decide +kernel, by decide +kernel⟩
abbrev s_law : Stmt := top 20
abbrev N_law : List Str := ["_law_script", "_law_deck", "_law_turn", "_law_house_here", "_law_nexts_here", "_law_times", "_law_great", "_law_place", "_law_beside", "_law_due", "_law_there", "_law_near"]
theorem sc_law : FnScope N_law ["_law_script"] (defScope s_law) := ⟨rfl, rfl, rfl, by decide +kernel, rfl, by decide +kernel, by decide +kernel⟩
/-! mirrors -/
noncomputable def b_law_begin : MS := sSeq (sSet 1 (mComp (iSeq (mVar 0)) (gN 3) (mTest (mBin (cmpI fun i j => decide (j ≤ i)) (mB absL (mCons (mVar 3) (mNil))) (mBin powD (mC (.int 10)) (mC (.int 18))))) (mB absL (mCons (mVar 3) (mNil))) [3]))
    (sSeq (sSet 2 (mBin addD (mC (.int 66)) (mB lenL (mCons (mVar 0) (mNil)))))
    (sSeq (sFor (iSeq (mVar 0)) (gN 3) (sSet 2 (mBin modD (mBin addD (mBin addD (mBin mulD (mVar 2) (mC (.int 1000033))) (mBin mulD (mC (.int 2)) (mB absL (mCons (mVar 3) (mNil))))) (mB intL (mCons (mBin (cmpI fun i j => decide (i < j)) (mVar 3) (mC (.int 0))) (mNil)))) (mC (.int 2305843009213693951)))))
    (sRet (mLst (mCons (mUn backD (mVar 1)) (mCons (mVar 2) (mCons (mC (.int 0)) (mNil))))))))
noncomputable def m_law_begin : Sem := runB 4 b_law_begin
noncomputable def b_law_next : MS := sSeq (whileL (mTest (mBin neD (mBin idxA (mVar 0) (mC (.int 0))) (mLst (mNil)))) (sSeq (sSet 2 (mMt0 isLst popM (mBin idxA (mVar 0) (mC (.int 0)))))
    (sIf (mTest (mBin (cmpI fun i j => decide (j < i)) (mVar 2) (mC (.int 0)))) (sSeq (sExpr (mMt isLst appendM (mBin idxA (mVar 0) (mC (.int 0))) (mCons (mBin fdivD (mVar 2) (mVar 1)) (mNil))))
    (sRet (mBin modD (mVar 2) (mVar 1)))) (sNil))) 1000)
    (sSeq (sAsg (mBin addD (mBin idxA (mVar 0) (mC (.int 2))) (mC (.int 1))) (gSubM setDD (mVar 0) (mC (.int 2))))
    (sSeq (sSet 3 (mBin addD (mBin mulD (mBin idxA (mVar 0) (mC (.int 1))) (mBin addD (mC (.int 48271)) (mBin mulD (mC (.int 69621)) (mBin idxA (mVar 0) (mC (.int 2)))))) (mBin mulD (mC (.int 40692)) (mBin idxA (mVar 0) (mC (.int 2))))))
    (sSeq (sSet 3 (mBin modD (mVar 3) (mC (.int 2305843009213693951))))
    (sSeq (sSet 3 (mBin modD (mBin mulD (mVar 3) (mVar 3)) (mC (.int 2305843009213693951))))
    (sRet (mBin modD (mBin fdivD (mBin modD (mBin mulD (mVar 3) (mVar 3)) (mC (.int 4611686018427387847))) (mC (.int 16))) (mVar 1)))))))
noncomputable def m_law_next : Sem := runB 4 b_law_next
noncomputable def b_law_house : MS := sSeq (sSet 3 (mBin addD (mC (.int 2)) (mB m_law_next (mCons (mVar 0) (mCons (mBin subD (mVar 1) (mC (.int 1))) (mNil))))))
    (sSeq (sSet 4 (mBin addD (mC (.int 1)) (mB m_law_next (mCons (mVar 0) (mCons (mVar 2) (mNil))))))
    (sSeq (sSet 5 (mLst (mNil)))
    (sSeq (sFor (iRange2 (mCons (mC (.int 1)) (mCons (mVar 3) (mNil)))) (gN 6) (sSeq (sSet 7 (mLst (mCons (mVar 4) (mCons (mVar 4) (mCons (mBin addD (mC (.int 1)) (mB m_law_next (mCons (mVar 0) (mCons (mVar 2) (mNil))))) (mCons (mBin addD (mC (.int 1)) (mB m_law_next (mCons (mVar 0) (mCons (mB min2L (mCons (mVar 2) (mCons (mC (.int 3)) (mNil)))) (mNil))))) (mCons (mB max2L (mCons (mC (.int 1)) (mCons (mBin subD (mVar 4) (mC (.int 1))) (mNil)))) (mNil))))))))
    (sSeq (sSet 7 (mBin idxA (mVar 7) (mB m_law_next (mCons (mVar 0) (mCons (mC (.int 5)) (mNil))))))
    (sSeq (sSet 8 (mTup (mNil)))
    (sSeq (sIf (mAnd (mTest (mBin (cmpI fun i j => decide (j < i)) (mVar 7) (mC (.int 1)))) (mAnd (mTest (mBin (cmpI fun i j => decide (i < j)) (mVar 6) (mC (.int 13)))) (mTest (mBin eqD (mB m_law_next (mCons (mVar 0) (mCons (mC (.int 4)) (mNil)))) (mC (.int 0)))))) (sSet 8 (mTup (mCons (mTup (mCons (mBin addD (mC (.int 1)) (mB m_law_next (mCons (mVar 0) (mCons (mBin subD (mVar 7) (mC (.int 1))) (mNil))))) (mCons (mBin addD (mC (.int 1)) (mB m_law_next (mCons (mVar 0) (mCons (mC (.int 9)) (mNil))))) (mNil)))) (mNil)))) (sNil))
    (sSeq (sSet 9 (mBin idxA (mLst (mCons (mC (.int 0)) (mCons (mBin subD (mVar 6) (mC (.int 1))) (mCons (mB m_law_next (mCons (mVar 0) (mCons (mVar 6) (mNil)))) (mNil))))) (mB m_law_next (mCons (mVar 0) (mCons (mC (.int 3)) (mNil))))))
    (sExpr (mMt isLst insertM (mVar 5) (mCons (mB m_law_next (mCons (mVar 0) (mCons (mBin addD (mB lenL (mCons (mVar 5) (mNil))) (mC (.int 1))) (mNil)))) (mCons (mTup (mCons (mVar 9) (mCons (mVar 6) (mCons (mVar 7) (mCons (mVar 8) (mCons (mTup (mNil)) (mNil))))))) (mNil)))))))))))
    (sRet (mTup (mCons (mVar 3) (mCons (mB tupleL (mCons (mVar 5) (mNil))) (mNil))))))))
noncomputable def m_law_house : Sem := runB 10 b_law_house
noncomputable def b_law_spot : MS := sSeq (sAsg (mSlc (mBin idxA (mBin idxA (mVar 0) (mC (.int 1))) (mVar 1)) oNone (oSome (mC (.int 3)))) (gTupM 3 (gConsM (gN 3) (gConsM (gN 4) (gConsM (gN 5) (gNilM))))))
    (sSeq (sIf (mTest (mBin eqD (mVar 2) (mC (.int 0)))) (sRet (mTup (mCons (mVar 3) (mNil)))) (sNil))
    (sRet (mBin idxA (mLst (mCons (mTup (mCons (mVar 1) (mCons (mVar 2) (mNil)))) (mCons (mTup (mCons (mVar 4) (mNil))) (mNil)))) (mB intL (mCons (mBin eqD (mVar 2) (mVar 5)) (mNil))))))
noncomputable def m_law_spot : Sem := runB 6 b_law_spot
noncomputable def b_law_nexts : MS := sSeq (sSet 1 (mTdicNew))
    (sSeq (sFor (iRange1 (mCons (mBin idxA (mVar 0) (mC (.int 0))) (mNil))) (gN 2) (sAsg (mLst (mNil)) (gSubM setDD (mVar 1) (mTup (mCons (mVar 2) (mNil))))))
    (sSeq (sFor (iRange1 (mCons (mB lenL (mCons (mBin idxA (mVar 0) (mC (.int 1))) (mNil))) (mNil))) (gN 3) (sSeq (sSet 4 (mComp (iRange1 (mCons (mBin addD (mBin idxA (mBin idxA (mBin idxA (mVar 0) (mC (.int 1))) (mVar 3)) (mC (.int 2))) (mC (.int 1))) (mNil))) (gN 7) (mYes) (mB m_law_spot (mCons (mVar 0) (mCons (mVar 3) (mCons (mVar 7) (mNil))))) [7]))
    (sFor (iZipD (mCons (mVar 4) (mCons (mSlc (mVar 4) (oSome (mC (.int 1))) oNone) (mNil)))) (gTupM 2 (gConsM (gN 5) (gConsM (gN 6) (gNilM)))) (sSeq (sAsg (mBin addD (mMt isDic getM (mVar 1) (mCons (mVar 5) (mCons (mLst (mNil)) (mNil)))) (mLst (mCons (mVar 6) (mNil)))) (gSubM setDD (mVar 1) (mVar 5)))
    (sAsg (mBin addD (mMt isDic getM (mVar 1) (mCons (mVar 6) (mCons (mLst (mNil)) (mNil)))) (mLst (mCons (mVar 5) (mNil)))) (gSubM setDD (mVar 1) (mVar 6)))))))
    (sLock 1 (sRet (mB dictL (mCons (mComp (iKeysD (mVar 1)) (gN 8) (mYes) (mTup (mCons (mVar 8) (mCons (mB sortedA (mCons (mBin idxA (mVar 1) (mVar 8)) (mNil))) (mNil)))) [8]) (mNil)))))))
noncomputable def m_law_nexts : Sem := runB 9 b_law_nexts
noncomputable def b_law_greater : MS := sRet (mTup (mCons (mBin idxA (mVar 0) (mC (.int 0))) (mCons (mB tupleL (mCons (mComp (iSeq (mBin idxA (mVar 0) (mC (.int 1)))) (gN 2) (mYes) (mTup (mCons (mBin idxA (mVar 2) (mC (.int 0))) (mCons (mBin idxA (mVar 2) (mC (.int 1))) (mCons (mBin mulD (mBin idxA (mVar 2) (mC (.int 2))) (mVar 1)) (mCons (mTup (mNil)) (mCons (mTup (mNil)) (mNil))))))) [2]) (mNil))) (mNil))))
noncomputable def m_law_greater : Sem := runB 3 b_law_greater
noncomputable def b_law_hung : MS := sSeq (sSet 2 (mB m_law_next (mCons (mVar 0) (mCons (mB lenL (mCons (mBin idxA (mVar 1) (mC (.int 1))) (mNil))) (mNil)))))
    (sSeq (sAsg (mBin idxA (mBin idxA (mVar 1) (mC (.int 1))) (mVar 2)) (gTupM 5 (gConsM (gN 3) (gConsM (gN 4) (gConsM (gN 5) (gConsM (gN 6) (gConsM (gN 7) (gNilM))))))))
    (sSeq (sSet 8 (mTup (mCons (mVar 3) (mCons (mVar 4) (mCons (mVar 5) (mCons (mVar 6) (mCons (mTup (mCons (mTup (mCons (mB m_law_next (mCons (mVar 0) (mCons (mVar 5) (mNil)))) (mCons (mBin idxA (mLst (mCons (mC (.int 1)) (mCons (mUn negD (mC (.int 1))) (mNil)))) (mB m_law_next (mCons (mVar 0) (mCons (mC (.int 2)) (mNil))))) (mNil)))) (mNil))) (mNil))))))))
    (sRet (mTup (mCons (mBin idxA (mVar 1) (mC (.int 0))) (mCons (mBin addD (mBin addD (mSlc (mBin idxA (mVar 1) (mC (.int 1))) oNone (oSome (mVar 2))) (mTup (mCons (mVar 8) (mNil)))) (mSlc (mBin idxA (mVar 1) (mC (.int 1))) (oSome (mBin addD (mVar 2) (mC (.int 1)))) oNone)) (mNil)))))))
noncomputable def m_law_hung : Sem := runB 9 b_law_hung
noncomputable def b_pipes_at : MS := sSeq (sSet 2 (mLst (mNil)))
    (sSeq (sFor (iEnumD (mCons (mBin idxA (mVar 0) (mC (.int 1))) (mNil))) (gTupM 2 (gConsM (gN 3) (gConsM (gTupM 5 (gConsM (gN 4) (gConsM (gN 5) (gConsM (gN 6) (gConsM (gN 7) (gConsM (gN 8) (gNilM))))))) (gNilM)))) (sIf (mTest (mBin eqD (mVar 4) (mVar 1))) (sExpr (mMt isLst appendM (mVar 2) (mCons (mTup (mCons (mVar 3) (mCons (mC (.int 0)) (mCons (mVar 6) (mCons (mVar 5) (mNil)))))) (mNil)))) (sIf (mTest (mBin eqD (mVar 5) (mVar 1))) (sExpr (mMt isLst appendM (mVar 2) (mCons (mTup (mCons (mVar 3) (mCons (mVar 6) (mCons (mC (.int 0)) (mCons (mVar 4) (mNil)))))) (mNil)))) (sNil))))
    (sRet (mVar 2)))
noncomputable def m_pipes_at : Sem := runB 9 b_pipes_at
noncomputable def b_place_at : MS := sSeq (sAsg (mBin idxA (mBin idxA (mVar 0) (mC (.int 1))) (mVar 1)) (gTupM 5 (gConsM (gN 3) (gConsM (gN 4) (gConsM (gN 5) (gConsM (gN 6) (gConsM (gN 7) (gNilM))))))))
    (sSeq (sIf (mTest (mBin eqD (mVar 2) (mC (.int 0)))) (sRet (mTup (mCons (mVar 3) (mNil)))) (sNil))
    (sSeq (sIf (mTest (mBin eqD (mVar 2) (mVar 5))) (sRet (mTup (mCons (mVar 4) (mNil)))) (sNil))
    (sRet (mTup (mCons (mVar 1) (mCons (mVar 2) (mNil)))))))
noncomputable def m_place_at : Sem := runB 8 b_place_at
noncomputable def b_rest_beyond (self : Sem) : MS := sSeq (sIf (mTest (mBin notInDD (mTup (mCons (mVar 2) (mCons (mVar 3) (mNil)))) (mVar 1))) (sSeq (sSet 4 (mLst (mCons (mC (.int 0)) (mNil))))
    (sSeq (sFor (iSeq (mB m_pipes_at (mCons (mVar 0) (mCons (mVar 2) (mNil))))) (gTupM 4 (gConsM (gN 5) (gConsM (gN 6) (gConsM (gN 7) (gConsM (gN 8) (gNilM)))))) (sIf (mTest (mBin neD (mVar 5) (mVar 3))) (sExpr (mMt isLst appendM (mVar 4) (mCons (mBin addD (mB absL (mCons (mBin subD (mVar 7) (mVar 6)) (mNil))) (mB self (mCons (mVar 0) (mCons (mVar 1) (mCons (mVar 8) (mCons (mVar 5) (mNil))))))) (mNil)))) (sNil)))
    (sAsg (mB maxLL (mCons (mVar 4) (mNil))) (gSubM setDD (mVar 1) (mTup (mCons (mVar 2) (mCons (mVar 3) (mNil)))))))) (sNil))
    (sRet (mBin idxA (mVar 1) (mTup (mCons (mVar 2) (mCons (mVar 3) (mNil))))))
noncomputable def m_rest_beyond : Nat → Sem
  | 0 => stuckS
  | n + 1 => runB 9 (b_rest_beyond (m_rest_beyond n))
noncomputable def b_arms_of : MS := sSeq (sSet 3 (mLst (mNil)))
    (sSeq (sIf (mTest (mBin eqD (mB lenL (mCons (mVar 2) (mNil))) (mC (.int 1)))) (sFor (iSeq (mB m_pipes_at (mCons (mVar 0) (mCons (mBin idxA (mVar 2) (mC (.int 0))) (mNil))))) (gTupM 4 (gConsM (gN 4) (gConsM (gN 5) (gConsM (gN 6) (gConsM (gN 7) (gNilM)))))) (sSeq (sSet 8 (mB m_place_at (mCons (mVar 0) (mCons (mVar 4) (mCons (mBin addD (mVar 5) (mIfE (mTest (mBin (cmpI fun i j => decide (i < j)) (mVar 5) (mVar 6))) (mC (.int 1)) (mUn negD (mC (.int 1))))) (mNil))))))
    (sExpr (mMt isLst appendM (mVar 3) (mCons (mTup (mCons (mVar 8) (mCons (mBin addD (mB absL (mCons (mBin subD (mVar 6) (mVar 5)) (mNil))) (mB (m_rest_beyond 8) (mCons (mVar 0) (mCons (mVar 1) (mCons (mVar 7) (mCons (mVar 4) (mNil))))))) (mNil)))) (mNil)))))) (sSeq (sAsg (mVar 2) (gTupM 2 (gConsM (gN 4) (gConsM (gN 9) (gNilM)))))
    (sSeq (sAsg (mBin idxA (mBin idxA (mVar 0) (mC (.int 1))) (mVar 4)) (gTupM 5 (gConsM (gN 10) (gConsM (gN 11) (gConsM (gN 12) (gConsM (gN 13) (gConsM (gN 14) (gNilM))))))))
    (sSeq (sExpr (mMt isLst appendM (mVar 3) (mCons (mTup (mCons (mB m_place_at (mCons (mVar 0) (mCons (mVar 4) (mCons (mBin subD (mVar 9) (mC (.int 1))) (mNil))))) (mCons (mBin addD (mVar 9) (mB (m_rest_beyond 8) (mCons (mVar 0) (mCons (mVar 1) (mCons (mVar 10) (mCons (mVar 4) (mNil))))))) (mNil)))) (mNil))))
    (sExpr (mMt isLst appendM (mVar 3) (mCons (mTup (mCons (mB m_place_at (mCons (mVar 0) (mCons (mVar 4) (mCons (mBin addD (mVar 9) (mC (.int 1))) (mNil))))) (mCons (mBin addD (mBin subD (mVar 12) (mVar 9)) (mB (m_rest_beyond 8) (mCons (mVar 0) (mCons (mVar 1) (mCons (mVar 11) (mCons (mVar 4) (mNil))))))) (mNil)))) (mNil))))))))
    (sRet (mB sortedA (mCons (mVar 3) (mNil)))))
noncomputable def m_arms_of : Sem := runB 15 b_arms_of
noncomputable def b_depth : MS := sRet (mBin idxA (mB dictL (mCons (mB m_arms_of (mCons (mVar 0) (mCons (mTdicNew) (mCons (mVar 1) (mNil))))) (mNil))) (mVar 2))
noncomputable def m_depth : Sem := runB 3 b_depth
noncomputable def b_law_deep : MS := sSeq (sSet 3 (mLst (mCons (mTup (mCons (mVar 1) (mCons (mVar 2) (mNil)))) (mNil))))
    (sSeq (sSet 4 (mC (.int 0)))
    (sSeq (whileL (mTest (mBin neD (mVar 3) (mLst (mNil)))) (sSeq (sSet 4 (mBin addD (mVar 4) (mC (.int 1))))
    (sSeq (sSet 5 (mLst (mNil)))
    (sSeq (sFor (iSeq (mVar 3)) (gTupM 2 (gConsM (gN 6) (gConsM (gN 7) (gNilM)))) (sExpr (mMt isLst extendM (mVar 5) (mCons (mComp (iSeq (mBin idxA (mVar 0) (mVar 7))) (gN 8) (mTest (mBin neD (mVar 8) (mVar 6))) (mTup (mCons (mVar 7) (mCons (mVar 8) (mNil)))) [8]) (mNil)))))
    (sSet 3 (mVar 5))))) 1000)
    (sRet (mVar 4))))
noncomputable def m_law_deep : Sem := runB 9 b_law_deep
noncomputable def b_law_led : MS := sSeq (sIf (mTest (mBin eqD (mB lenL (mCons (mVar 0) (mNil))) (mC (.int 1)))) (sRet (mVar 0)) (sNil))
    (sRet (mTup (mCons (mBin idxA (mVar 0) (mC (.int 0))) (mCons (mBin mulD (mBin idxA (mVar 0) (mC (.int 1))) (mVar 1)) (mNil)))))
noncomputable def m_law_led : Sem := runB 2 b_law_led
noncomputable def b_law_toward : MS := sSeq (sIf (mAnd (mTest (mBin eqD (mB lenX (mCons (mVar 1) (mNil))) (mC (.int 2)))) (mTest (mBin eqD (mB lenX (mCons (mVar 2) (mNil))) (mC (.int 2))))) (sRet (mTup (mCons (mBin idxA (mVar 1) (mC (.int 0))) (mCons (mBin addD (mBin idxA (mVar 1) (mC (.int 1))) (mBin idxA (mLst (mCons (mC (.int 1)) (mCons (mUn negD (mC (.int 1))) (mNil)))) (mB intL (mCons (mBin (cmpI fun i j => decide (i < j)) (mBin idxA (mVar 2) (mC (.int 1))) (mBin idxA (mVar 1) (mC (.int 1)))) (mNil))))) (mNil))))) (sNil))
    (sSeq (sIf (mTest (mBin eqD (mB lenX (mCons (mVar 1) (mNil))) (mC (.int 2)))) (sSeq (sAsg (mSlc (mBin idxA (mBin idxA (mVar 0) (mC (.int 1))) (mBin idxA (mVar 1) (mC (.int 0)))) oNone (oSome (mC (.int 3)))) (gTupM 3 (gConsM (gN 3) (gConsM (gN 4) (gConsM (gN 5) (gNilM))))))
    (sSeq (sSet 6 (mBin addD (mBin idxA (mVar 1) (mC (.int 1))) (mBin idxA (mLst (mCons (mC (.int 1)) (mCons (mUn negD (mC (.int 1))) (mNil)))) (mB intL (mCons (mBin eqD (mVar 2) (mTup (mCons (mVar 3) (mNil)))) (mNil))))))
    (sRet (mB m_law_spot (mCons (mVar 0) (mCons (mBin idxA (mVar 1) (mC (.int 0))) (mCons (mVar 6) (mNil)))))))) (sNil))
    (sSeq (sSet 7 (mComp (iRange1 (mCons (mB lenX (mCons (mBin idxA (mVar 0) (mC (.int 1))) (mNil))) (mNil))) (gN 8) (mTest (mBin inX (mBin idxA (mVar 1) (mC (.int 0))) (mSlc (mBin idxA (mBin idxA (mVar 0) (mC (.int 1))) (mVar 8)) oNone (oSome (mC (.int 2)))))) (mVar 8) [8]))
    (sSeq (sIf (mTest (mBin eqD (mB lenX (mCons (mVar 2) (mNil))) (mC (.int 2)))) (sSet 7 (mLst (mCons (mBin idxA (mVar 2) (mC (.int 0))) (mNil)))) (sSet 7 (mComp (iSeq (mVar 7)) (gN 8) (mTest (mBin inX (mBin idxA (mVar 2) (mC (.int 0))) (mSlc (mBin idxA (mBin idxA (mVar 0) (mC (.int 1))) (mVar 8)) oNone (oSome (mC (.int 2)))))) (mVar 8) [8])))
    (sSeq (sSet 5 (mBin idxA (mBin idxA (mBin idxA (mVar 0) (mC (.int 1))) (mBin idxA (mVar 7) (mC (.int 0)))) (mC (.int 2))))
    (sRet (mB m_law_spot (mCons (mVar 0) (mCons (mBin idxA (mVar 7) (mC (.int 0))) (mCons (mBin idxA (mLst (mCons (mBin subD (mVar 5) (mC (.int 1))) (mCons (mC (.int 1)) (mNil)))) (mB intL (mCons (mBin eqD (mBin idxA (mBin idxA (mBin idxA (mVar 0) (mC (.int 1))) (mBin idxA (mVar 7) (mC (.int 0)))) (mC (.int 0))) (mBin idxA (mVar 1) (mC (.int 0)))) (mNil)))) (mNil))))))))))
noncomputable def m_law_toward : Sem := runB 9 b_law_toward
noncomputable def b_law_same (self : Sem) : MS := sSeq (sIf (mTest (mUn (isT1 "tuple") (mVar 1))) (sSeq (sIf (mOr (mNot (mTest (mUn (isT1 "tuple") (mVar 0)))) (mTest (mBin neD (mB lenL (mCons (mVar 0) (mNil))) (mB lenL (mCons (mVar 1) (mNil)))))) (sRet (mC (.bl false))) (sNil))
    (sRet (mBin eqD (mComp (iRange1 (mCons (mB lenL (mCons (mVar 1) (mNil))) (mNil))) (gN 2) (mNot (mTest (mB self (mCons (mBin idxA (mVar 0) (mVar 2)) (mCons (mBin idxA (mVar 1) (mVar 2)) (mNil)))))) (mVar 2) [2]) (mLst (mNil))))) (sNil))
    (sSeq (sIf (mTest (mBin isD (mVar 1) (mC .non))) (sRet (mBin isD (mVar 0) (mC .non))) (sNil))
    (sSeq (sIf (mTest (mUn (isT1 "str") (mVar 1))) (sRet (mAndV (mUn (isT1 "str") (mVar 0)) (mBin eqD (mVar 0) (mVar 1)))) (sNil))
    (sRet (mAndV (mUn (isT1 "int") (mVar 0)) (mAndV (mBin eqD (mUn (isT1 "bool") (mVar 0)) (mUn (isT1 "bool") (mVar 1))) (mBin eqD (mVar 0) (mVar 1)))))))
noncomputable def m_law_same : Nat → Sem
  | 0 => stuckS
  | n + 1 => runB 3 (b_law_same (m_law_same n))
noncomputable def b_law : MS := sSeq (sSet 1 (mB m_law_begin (mCons (mVar 0) (mNil))))
    (sSeq (sFor (iRange1 (mCons (mC (.int 3)) (mNil))) (gN 2) (sSeq (sSet 3 (mB m_law_house (mCons (mVar 1) (mCons (mC (.int 6)) (mCons (mC (.int 5)) (mNil))))))
    (sSeq (sIf (mTest (mBin eqD (mB m_law_next (mCons (mVar 1) (mCons (mC (.int 3)) (mNil)))) (mC (.int 0)))) (sSet 3 (mB m_law_hung (mCons (mVar 1) (mCons (mVar 3) (mNil))))) (sNil))
    (sSeq (sSet 4 (mB m_law_nexts (mCons (mVar 3) (mNil))))
    (sSeq (sSet 5 (mBin idxA (mLst (mCons (mC (.int 2)) (mCons (mC (.int 3)) (mCons (mC (.int 1000003)) (mCons (mBin mulD (mC (.int 2)) (mBin powD (mC (.int 10)) (mC (.int 11)))) (mNil)))))) (mB m_law_next (mCons (mVar 1) (mCons (mC (.int 4)) (mNil))))))
    (sSeq (sSet 6 (mB m_law_greater (mCons (mVar 3) (mCons (mVar 5) (mNil)))))
    (sSeq (sLock 4 (sFor (iKeysD (mVar 4)) (gN 7) (sFor (iSeq (mBin idxA (mVar 4) (mVar 7))) (gN 8) (sSeq (sSet 9 (mB m_law_deep (mCons (mVar 4) (mCons (mVar 7) (mCons (mVar 8) (mNil))))))
    (sSeq (sIf (mNot (mTest (mB (m_law_same 8) (mCons (mB m_depth (mCons (mVar 3) (mCons (mVar 7) (mCons (mVar 8) (mNil))))) (mCons (mVar 9) (mNil)))))) (sRet (mC (.bl false))) (sNil))
    (sSeq (sSet 10 (mB m_law_led (mCons (mVar 7) (mCons (mVar 5) (mNil)))))
    (sSeq (sSet 11 (mB m_law_toward (mCons (mVar 6) (mCons (mVar 10) (mCons (mB m_law_led (mCons (mVar 8) (mCons (mVar 5) (mNil)))) (mNil))))))
    (sIf (mNot (mTest (mB (m_law_same 8) (mCons (mB m_depth (mCons (mVar 6) (mCons (mVar 10) (mCons (mVar 11) (mNil))))) (mCons (mBin mulD (mVar 9) (mVar 5)) (mNil)))))) (sRet (mC (.bl false))) (sNil)))))))))
    (sSeq (sSet 7 (mBin idxA (mB sortedX (mCons (mVar 4) (mNil))) (mB m_law_next (mCons (mVar 1) (mCons (mB lenX (mCons (mVar 4) (mNil))) (mNil))))))
    (sIf (mTest (mBin neD (mB m_depth (mCons (mVar 3) (mCons (mVar 7) (mCons (mBin idxA (mBin idxA (mVar 4) (mVar 7)) (mC (.int 0))) (mNil))))) (mB m_law_deep (mCons (mVar 4) (mCons (mVar 7) (mCons (mBin idxA (mBin idxA (mVar 4) (mVar 7)) (mC (.int 0))) (mNil))))))) (sRet (mC (.bl false))) (sNil))))))))))
    (sRet (mC (.bl true))))
noncomputable def m_law : Sem := runB 12 b_law
/-! what the top has made -/
structure Txt (K : PySem.W.Frag) (mg : Str → Option Value) : Prop where
  z_abs : mg "abs" = none
  z_bool : mg "bool" = none
  z_dict : mg "dict" = none
  z_enumerate : mg "enumerate" = none
  z_int : mg "int" = none
  z_isinstance : mg "isinstance" = none
  z_len : mg "len" = none
  z_max : mg "max" = none
  z_min : mg "min" = none
  z_range : mg "range" = none
  z_sorted : mg "sorted" = none
  z_str : mg "str" = none
  z_tuple : mg "tuple" = none
  z_zip : mg "zip" = none
section
variable {P : Program} {w : World} {K : PySem.W.Frag} {mg : Str → Option Value} {base : Heap}
theorem o_law_begin {f : Addr} {fd : FuncData} (F : L2.Fun K "_law_begin" "_law_begin" s_law_begin f fd) (T : Txt K mg) : FnG P w K mg base (L2.CX P w) 1 f fd ["_law_script"] (spM ⟨P, w, K, mg⟩ 1 m_law_begin) :=
  fn_ok (k := 0) F sc_law_begin fun cdv A outer s H E hr => (sss_cons (ss_setLc (i := 1) (own := [("_law_cell", 3)]) rfl sc_law_begin.nd rfl rfl (sw_true rfl rfl rfl (by decide +kernel)) (si_seq (se_var 0 rfl (.inl rfl))) (blkOk_by (N := N_law_begin) (sc := defScope s_law_begin) (by decide +kernel)) (fun _ _ _ _ _ => (sgv_name sc_law_begin.nd rfl (by first | exact .inl rfl | exact .inr rfl) (by decide))) (fun _ _ _ _ _ => (sts_one (st_cmp op_ge snd_cmpI (se_B call_abs snd_abs rfl T.z_abs (by decide +kernel) (sa_cons (se_var 3 rfl (by first | exact .inl rfl | exact .inr (.inl rfl))) sa_nil)) (se_op op_pow snd_pow se_int se_int) (nomark _)))) (fun _ _ _ _ _ => (se_B call_abs snd_abs rfl T.z_abs (by decide +kernel) (sa_cons (se_var 3 rfl (by first | exact .inl rfl | exact .inr (.inl rfl))) sa_nil))))
    (sss_cons (ss_set (i := 2) sc_law_begin.nd rfl (.inl rfl) (se_op op_addA snd_add se_int (se_B call_lenA snd_len rfl T.z_len (by decide +kernel) (sa_cons (se_var 0 rfl (.inl rfl)) sa_nil))))
    (sss_cons (ss_for (passes_of rfl) rfl (si_seq (se_var 0 rfl (.inl rfl))) (sg_name sc_law_begin.nd rfl (.inl rfl)) (sss_one (ss_set (i := 2) sc_law_begin.nd rfl (.inl rfl) (se_op op_mod snd_mod (se_op op_addA snd_add (se_op op_addA snd_add (se_op op_mulA snd_mul (se_var 2 rfl (.inl rfl)) se_int) (se_op op_mulA snd_mul se_int (se_B call_abs snd_abs rfl T.z_abs (by decide +kernel) (sa_cons (se_var 3 rfl (.inl rfl)) sa_nil)))) (se_T call_int1 snd_intL rfl T.z_int (by decide +kernel) (sa_cons (se_cmp op_lt snd_cmpI (se_var 3 rfl (.inl rfl)) se_int (nomark _)) sa_nil))) se_int))))
    (sss_one (ss_ret (se_lst (sa_cons (se_back (se_var 1 rfl (.inl rfl))) (sa_cons (se_var 2 rfl (.inl rfl)) (sa_cons se_int sa_nil)))))))))
theorem o_law_next {f : Addr} {fd : FuncData} (F : L2.Fun K "_law_next" "_law_next" s_law_next f fd) (T : Txt K mg) : FnG P w K mg base (L2.CX P w) 1 f fd ["_law_deck", "_law_many"] (spM ⟨P, w, K, mg⟩ 2 m_law_next) :=
  fn_ok (k := 0) F sc_law_next fun cdv A outer s H E hr => (sss_cons (ss_while 1000 (passes_of rfl) (st_cmp (op_neD hr.units) snd_ne (se_ix hr.units (se_var 0 rfl (.inl rfl)) se_int) (se_lst sa_nil) (nomark _)) (sss_cons (ss_set (i := 2) sc_law_next.nd rfl (.inl rfl) (se_mt0 PySem.F.plainAttrs_list PySem.F.slot_list_pop PySem.F.type_list_pop mt_pop ty_list snd_pop (se_ix hr.units (se_var 0 rfl (.inl rfl)) se_int)))
    (sss_one (ss_if (st_cmp op_gt snd_cmpI (se_var 2 rfl (.inl rfl)) se_int (nomark _)) (sss_cons (ss_expr (se_mt PySem.F.plainAttrs_list PySem.F.slot_list_append PySem.F.type_list_append mt_append ty_list snd_append (se_ix hr.units (se_var 0 rfl (.inl rfl)) se_int) (sa_cons (se_op op_fdivW snd_fdiv (se_var 2 rfl (.inl rfl)) (se_var 1 rfl (.inl rfl))) sa_nil)))
    (sss_one (ss_ret (se_op op_mod snd_mod (se_var 2 rfl (.inl rfl)) (se_var 1 rfl (.inl rfl)))))) sss_nil))))
    (sss_cons (ss_asg (se_op op_addA snd_add (se_ix hr.units (se_var 0 rfl (.inl rfl)) se_int) se_int) (sg_set hr.units (se_var 0 rfl (.inl rfl)) se_int))
    (sss_cons (ss_set (i := 3) sc_law_next.nd rfl (.inl rfl) (se_op op_addA snd_add (se_op op_mulA snd_mul (se_ix hr.units (se_var 0 rfl (.inl rfl)) se_int) (se_op op_addA snd_add se_int (se_op op_mulA snd_mul se_int (se_ix hr.units (se_var 0 rfl (.inl rfl)) se_int)))) (se_op op_mulA snd_mul se_int (se_ix hr.units (se_var 0 rfl (.inl rfl)) se_int))))
    (sss_cons (ss_set (i := 3) sc_law_next.nd rfl (.inl rfl) (se_op op_mod snd_mod (se_var 3 rfl (.inl rfl)) se_int))
    (sss_cons (ss_set (i := 3) sc_law_next.nd rfl (.inl rfl) (se_op op_mod snd_mod (se_op op_mulA snd_mul (se_var 3 rfl (.inl rfl)) (se_var 3 rfl (.inl rfl))) se_int))
    (sss_one (ss_ret (se_op op_mod snd_mod (se_op op_fdivW snd_fdiv (se_op op_mod snd_mod (se_op op_mulA snd_mul (se_var 3 rfl (.inl rfl)) (se_var 3 rfl (.inl rfl))) se_int) se_int) (se_var 1 rfl (.inl rfl))))))))))
theorem o_law_house {f : Addr} {fd : FuncData} (F : L2.Fun K "_law_house" "_law_house" s_law_house f fd) (T : Txt K mg) (g_law_next : Fn ⟨P, w, K, mg⟩ base "_law_next" 1 2 m_law_next) : FnG P w K mg base (L2.CX P w) 2 f fd ["_law_deck", "_law_most", "_law_top"] (spM ⟨P, w, K, mg⟩ 3 m_law_house) :=
  fn_ok (k := 1) F sc_law_house fun cdv A outer s H E hr => (sss_cons (ss_set (i := 3) sc_law_house.nd rfl (.inl rfl) (se_op op_addA snd_add se_int (se_call g_law_next hr (by omega) rfl (takes_of rfl rfl rfl rfl) (sa_cons (se_var 0 rfl (.inl rfl)) (sa_cons (se_op op_sub snd_sub (se_var 1 rfl (.inl rfl)) se_int) sa_nil)) (mCons_len (mCons_len mNil_len)))))
    (sss_cons (ss_set (i := 4) sc_law_house.nd rfl (.inl rfl) (se_op op_addA snd_add se_int (se_call g_law_next hr (by omega) rfl (takes_of rfl rfl rfl rfl) (sa_cons (se_var 0 rfl (.inl rfl)) (sa_cons (se_var 2 rfl (.inl rfl)) sa_nil)) (mCons_len (mCons_len mNil_len)))))
    (sss_cons (ss_set (i := 5) sc_law_house.nd rfl (.inl rfl) (se_lst sa_nil))
    (sss_cons (ss_for (passes_of rfl) rfl (si_range2 rfl T.z_range (sa_cons se_int (sa_cons (se_var 3 rfl (.inl rfl)) sa_nil))) (sg_name sc_law_house.nd rfl (.inl rfl)) (sss_cons (ss_set (i := 7) sc_law_house.nd rfl (.inl rfl) (se_lst (sa_cons (se_var 4 rfl (.inl rfl)) (sa_cons (se_var 4 rfl (.inl rfl)) (sa_cons (se_op op_addA snd_add se_int (se_call g_law_next hr (by omega) rfl (takes_of rfl rfl rfl rfl) (sa_cons (se_var 0 rfl (.inl rfl)) (sa_cons (se_var 2 rfl (.inl rfl)) sa_nil)) (mCons_len (mCons_len mNil_len)))) (sa_cons (se_op op_addA snd_add se_int (se_call g_law_next hr (by omega) rfl (takes_of rfl rfl rfl rfl) (sa_cons (se_var 0 rfl (.inl rfl)) (sa_cons (se_B (call_min2 rfl) snd_min2 rfl T.z_min (by decide +kernel) (sa_cons (se_var 2 rfl (.inl rfl)) (sa_cons se_int sa_nil))) sa_nil)) (mCons_len (mCons_len mNil_len)))) (sa_cons (se_B (call_max2 rfl) snd_max2 rfl T.z_max (by decide +kernel) (sa_cons se_int (sa_cons (se_op op_sub snd_sub (se_var 4 rfl (.inl rfl)) se_int) sa_nil))) sa_nil)))))))
    (sss_cons (ss_set (i := 7) sc_law_house.nd rfl (.inl rfl) (se_ix hr.units (se_var 7 rfl (.inl rfl)) (se_call g_law_next hr (by omega) rfl (takes_of rfl rfl rfl rfl) (sa_cons (se_var 0 rfl (.inl rfl)) (sa_cons se_int sa_nil)) (mCons_len (mCons_len mNil_len)))))
    (sss_cons (ss_set (i := 8) sc_law_house.nd rfl (.inl rfl) (se_tup sa_nil))
    (sss_cons (ss_if (PW.pt (sw_and (st_cmp op_gt snd_cmpI (se_var 7 rfl (.inl rfl)) se_int (nomark _)) (sw_and (st_cmp op_lt snd_cmpI (se_var 6 rfl (.inl rfl)) se_int (nomark _)) (sw_and1 (st_cmp (op_eqD hr.units) snd_eq (se_call g_law_next hr (by omega) rfl (takes_of rfl rfl rfl rfl) (sa_cons (se_var 0 rfl (.inl rfl)) (sa_cons se_int sa_nil)) (mCons_len (mCons_len mNil_len))) se_int (nomark _)))))) (sss_one (ss_set (i := 8) sc_law_house.nd rfl (.inl rfl) (se_tup (sa_cons (se_tup (sa_cons (se_op op_addA snd_add se_int (se_call g_law_next hr (by omega) rfl (takes_of rfl rfl rfl rfl) (sa_cons (se_var 0 rfl (.inl rfl)) (sa_cons (se_op op_sub snd_sub (se_var 7 rfl (.inl rfl)) se_int) sa_nil)) (mCons_len (mCons_len mNil_len)))) (sa_cons (se_op op_addA snd_add se_int (se_call g_law_next hr (by omega) rfl (takes_of rfl rfl rfl rfl) (sa_cons (se_var 0 rfl (.inl rfl)) (sa_cons se_int sa_nil)) (mCons_len (mCons_len mNil_len)))) sa_nil))) sa_nil)))) sss_nil)
    (sss_cons (ss_set (i := 9) sc_law_house.nd rfl (.inl rfl) (se_ix hr.units (se_lst (sa_cons se_int (sa_cons (se_op op_sub snd_sub (se_var 6 rfl (.inl rfl)) se_int) (sa_cons (se_call g_law_next hr (by omega) rfl (takes_of rfl rfl rfl rfl) (sa_cons (se_var 0 rfl (.inl rfl)) (sa_cons (se_var 6 rfl (.inl rfl)) sa_nil)) (mCons_len (mCons_len mNil_len))) sa_nil)))) (se_call g_law_next hr (by omega) rfl (takes_of rfl rfl rfl rfl) (sa_cons (se_var 0 rfl (.inl rfl)) (sa_cons se_int sa_nil)) (mCons_len (mCons_len mNil_len)))))
    (sss_one (ss_expr (se_mt PySem.F.plainAttrs_list PySem.F.slot_list_insert PySem.F.type_list_insert mt_insert ty_list snd_insert (se_var 5 rfl (.inl rfl)) (sa_cons (se_call g_law_next hr (by omega) rfl (takes_of rfl rfl rfl rfl) (sa_cons (se_var 0 rfl (.inl rfl)) (sa_cons (se_op op_addA snd_add (se_B call_lenA snd_len rfl T.z_len (by decide +kernel) (sa_cons (se_var 5 rfl (.inl rfl)) sa_nil)) se_int) sa_nil)) (mCons_len (mCons_len mNil_len))) (sa_cons (se_tup (sa_cons (se_var 9 rfl (.inl rfl)) (sa_cons (se_var 6 rfl (.inl rfl)) (sa_cons (se_var 7 rfl (.inl rfl)) (sa_cons (se_var 8 rfl (.inl rfl)) (sa_cons (se_tup sa_nil) sa_nil)))))) sa_nil)))))))))))
    (sss_one (ss_ret (se_tup (sa_cons (se_var 3 rfl (.inl rfl)) (sa_cons (se_T call_tuple_of snd_tupleL rfl T.z_tuple (by decide +kernel) (sa_cons (se_var 5 rfl (.inl rfl)) sa_nil)) sa_nil)))))))))
theorem o_law_spot {f : Addr} {fd : FuncData} (F : L2.Fun K "_law_spot" "_law_spot" s_law_spot f fd) (T : Txt K mg) : FnG P w K mg base (L2.CX P w) 1 f fd ["_law_house_here", "_law_pipe", "_law_at"] (spM ⟨P, w, K, mg⟩ 3 m_law_spot) :=
  fn_ok (k := 0) F sc_law_spot fun cdv A outer s H E hr => (sss_cons (ss_asg (se_slc (se_ix hr.units (se_ix hr.units (se_var 0 rfl (.inl rfl)) se_int) (se_var 1 rfl (.inl rfl))) so_none (so_some se_int)) (sg_tup rfl (sgs_cons (sg_name sc_law_spot.nd rfl (.inl rfl)) (sgs_cons (sg_name sc_law_spot.nd rfl (.inl rfl)) (sgs_cons (sg_name sc_law_spot.nd rfl (.inl rfl)) sgs_nil)))))
    (sss_cons (ss_if (st_cmp (op_eqD hr.units) snd_eq (se_var 2 rfl (.inl rfl)) se_int (nomark _)) (sss_one (ss_ret (se_tup (sa_cons (se_var 3 rfl (.inl rfl)) sa_nil)))) sss_nil)
    (sss_one (ss_ret (se_ix hr.units (se_lst (sa_cons (se_tup (sa_cons (se_var 1 rfl (.inl rfl)) (sa_cons (se_var 2 rfl (.inl rfl)) sa_nil))) (sa_cons (se_tup (sa_cons (se_var 4 rfl (.inl rfl)) sa_nil)) sa_nil))) (se_T call_int1 snd_intL rfl T.z_int (by decide +kernel) (sa_cons (se_cmp (op_eqD hr.units) snd_eq (se_var 2 rfl (.inl rfl)) (se_var 5 rfl (.inl rfl)) (nomark _)) sa_nil)))))))
theorem o_law_nexts {f : Addr} {fd : FuncData} (F : L2.Fun K "_law_nexts" "_law_nexts" s_law_nexts f fd) (T : Txt K mg) (g_law_spot : Fn ⟨P, w, K, mg⟩ base "_law_spot" 1 3 m_law_spot) : FnG P w K mg base (L2.CX P w) 2 f fd ["_law_house_here"] (spM ⟨P, w, K, mg⟩ 1 m_law_nexts) :=
  fn_ok (k := 1) F sc_law_nexts fun cdv A outer s H E hr => (sss_cons (ss_set (i := 1) sc_law_nexts.nd rfl (.inr rfl) se_tdicNew)
    (sss_cons (ss_for (passes_of rfl) rfl (si_range1 rfl T.z_range (sa_cons (se_ix hr.units (se_var 0 rfl (.inr (.inl rfl))) se_int) sa_nil)) (sg_name sc_law_nexts.nd rfl (.inl rfl)) (sss_one (ss_asg (se_lst sa_nil) (sg_set hr.units (se_var 1 rfl (.inr (.inl rfl))) (se_tup (sa_cons (se_var 2 rfl (.inl rfl)) sa_nil))))))
    (sss_cons (ss_for (passes_of rfl) rfl (si_range1 rfl T.z_range (sa_cons (se_B call_lenA snd_len rfl T.z_len (by decide +kernel) (sa_cons (se_ix hr.units (se_var 0 rfl (.inr (.inl rfl))) se_int) sa_nil)) sa_nil)) (sg_name sc_law_nexts.nd rfl (.inr rfl)) (sss_cons (ss_setLc (i := 4) (own := [("_law_at", 7)]) rfl sc_law_nexts.nd rfl rfl (sw_true rfl rfl rfl (by decide +kernel)) (si_range1 rfl T.z_range (sa_cons (se_op op_addA snd_add (se_ix hr.units (se_ix hr.units (se_ix hr.units (se_var 0 rfl (.inr (.inl rfl))) se_int) (se_var 3 rfl (.inr (.inl rfl)))) se_int) se_int) sa_nil)) (blkOk_by (N := N_law_nexts) (sc := defScope s_law_nexts) (by decide +kernel)) (fun _ _ _ _ _ => (sgv_name sc_law_nexts.nd rfl (by first | exact .inl rfl | exact .inr rfl) (by decide))) (fun _ _ _ _ _ => sts_nil) (fun _ _ _ _ _ => (se_call g_law_spot hr (by omega) rfl takes0 (sa_cons (se_var 0 rfl (.inr (.inl rfl))) (sa_cons (se_var 3 rfl (.inr (.inl rfl))) (sa_cons (se_var 7 rfl (by first | exact .inl rfl | exact .inr (.inl rfl))) sa_nil))) (mCons_len (mCons_len (mCons_len mNil_len))))))
    (sss_one (ss_for (passes_of rfl) rfl (si_zip rfl T.z_zip (sa_cons (se_var 4 rfl (.inl rfl)) (sa_cons (se_slc (se_var 4 rfl (.inl rfl)) (so_some se_int) so_none) sa_nil))) (sg_tup rfl (sgs_cons (sg_name sc_law_nexts.nd rfl (.inl rfl)) (sgs_cons (sg_name sc_law_nexts.nd rfl (.inl rfl)) sgs_nil))) (sss_cons (ss_asg (se_op op_addA snd_add (se_get hr.units (se_var 1 rfl (.inr (.inl rfl))) (sa_cons (se_var 5 rfl (.inl rfl)) (sa_cons (se_lst sa_nil) sa_nil))) (se_lst (sa_cons (se_var 6 rfl (.inl rfl)) sa_nil))) (sg_set hr.units (se_var 1 rfl (.inr (.inl rfl))) (se_var 5 rfl (.inl rfl))))
    (sss_one (ss_asg (se_op op_addA snd_add (se_get hr.units (se_var 1 rfl (.inr (.inl rfl))) (sa_cons (se_var 6 rfl (.inl rfl)) (sa_cons (se_lst sa_nil) sa_nil))) (se_lst (sa_cons (se_var 5 rfl (.inl rfl)) sa_nil))) (sg_set hr.units (se_var 1 rfl (.inr (.inl rfl))) (se_var 6 rfl (.inl rfl))))))))))
    (sss_one (ss_lock (i := 1) (ss_ret (se_T (call_dictT rfl hr.units) snd_dictT rfl T.z_dict (by decide +kernel) (sa_cons (se_lc (own := [("_law_place", 8)]) rfl sc_law_nexts.nd (si_keys (se_var 1 rfl (.inr (.inl rfl)))) (blkOk_by (N := N_law_nexts) (sc := defScope s_law_nexts) (by decide +kernel)) (fun _ _ _ _ _ => (sgv_name sc_law_nexts.nd rfl (by first | exact .inl rfl | exact .inr rfl) (by decide))) (fun _ _ _ _ _ => sts_nil) (fun _ _ _ _ _ => (se_tup (sa_cons (se_var 8 rfl (by first | exact .inl rfl | exact .inr (.inl rfl))) (sa_cons (se_B (cr_sortedB rfl hr.units) snd_sortedB rfl T.z_sorted (by decide +kernel) (sa_cons (se_ix hr.units (se_var 1 rfl (.inr (.inl rfl))) (se_var 8 rfl (by first | exact .inl rfl | exact .inr (.inl rfl)))) sa_nil)) sa_nil))))) sa_nil))))))))
theorem o_law_greater {f : Addr} {fd : FuncData} (F : L2.Fun K "_law_greater" "_law_greater" s_law_greater f fd) (T : Txt K mg) : FnG P w K mg base (L2.CX P w) 1 f fd ["_law_house_here", "_law_times"] (spM ⟨P, w, K, mg⟩ 2 m_law_greater) :=
  fn_ok (k := 0) F sc_law_greater fun cdv A outer s H E hr => (sss_one (ss_ret (se_tup (sa_cons (se_ix hr.units (se_var 0 rfl (.inl rfl)) se_int) (sa_cons (se_T call_tuple_of snd_tupleL rfl T.z_tuple (by decide +kernel) (sa_cons (se_lc (own := [("_law_pipe", 2)]) rfl sc_law_greater.nd (si_seq (se_ix hr.units (se_var 0 rfl (.inl rfl)) se_int)) (blkOk_by (N := N_law_greater) (sc := defScope s_law_greater) (by decide +kernel)) (fun _ _ _ _ _ => (sgv_name sc_law_greater.nd rfl (by first | exact .inl rfl | exact .inr rfl) (by decide))) (fun _ _ _ _ _ => sts_nil) (fun _ _ _ _ _ => (se_tup (sa_cons (se_ix hr.units (se_var 2 rfl (by first | exact .inl rfl | exact .inr (.inl rfl))) se_int) (sa_cons (se_ix hr.units (se_var 2 rfl (by first | exact .inl rfl | exact .inr (.inl rfl))) se_int) (sa_cons (se_op op_mulA snd_mul (se_ix hr.units (se_var 2 rfl (by first | exact .inl rfl | exact .inr (.inl rfl))) se_int) (se_var 1 rfl (.inr (.inl rfl)))) (sa_cons (se_tup sa_nil) (sa_cons (se_tup sa_nil) sa_nil)))))))) sa_nil)) sa_nil)))))
theorem o_law_hung {f : Addr} {fd : FuncData} (F : L2.Fun K "_law_hung" "_law_hung" s_law_hung f fd) (T : Txt K mg) (g_law_next : Fn ⟨P, w, K, mg⟩ base "_law_next" 1 2 m_law_next) : FnG P w K mg base (L2.CX P w) 2 f fd ["_law_deck", "_law_house_here"] (spM ⟨P, w, K, mg⟩ 2 m_law_hung) :=
  fn_ok (k := 1) F sc_law_hung fun cdv A outer s H E hr => (sss_cons (ss_set (i := 2) sc_law_hung.nd rfl (.inl rfl) (se_call g_law_next hr (by omega) rfl (takes_of rfl rfl rfl rfl) (sa_cons (se_var 0 rfl (.inl rfl)) (sa_cons (se_B call_lenA snd_len rfl T.z_len (by decide +kernel) (sa_cons (se_ix hr.units (se_var 1 rfl (.inl rfl)) se_int) sa_nil)) sa_nil)) (mCons_len (mCons_len mNil_len))))
    (sss_cons (ss_asg (se_ix hr.units (se_ix hr.units (se_var 1 rfl (.inl rfl)) se_int) (se_var 2 rfl (.inl rfl))) (sg_tup rfl (sgs_cons (sg_name sc_law_hung.nd rfl (.inl rfl)) (sgs_cons (sg_name sc_law_hung.nd rfl (.inl rfl)) (sgs_cons (sg_name sc_law_hung.nd rfl (.inl rfl)) (sgs_cons (sg_name sc_law_hung.nd rfl (.inl rfl)) (sgs_cons (sg_name sc_law_hung.nd rfl (.inl rfl)) sgs_nil)))))))
    (sss_cons (ss_set (i := 8) sc_law_hung.nd rfl (.inl rfl) (se_tup (sa_cons (se_var 3 rfl (.inl rfl)) (sa_cons (se_var 4 rfl (.inl rfl)) (sa_cons (se_var 5 rfl (.inl rfl)) (sa_cons (se_var 6 rfl (.inl rfl)) (sa_cons (se_tup (sa_cons (se_tup (sa_cons (se_call g_law_next hr (by omega) rfl (takes_of rfl rfl rfl rfl) (sa_cons (se_var 0 rfl (.inl rfl)) (sa_cons (se_var 5 rfl (.inl rfl)) sa_nil)) (mCons_len (mCons_len mNil_len))) (sa_cons (se_ix hr.units (se_lst (sa_cons se_int (sa_cons (se_un un_neg snd_neg se_int) sa_nil))) (se_call g_law_next hr (by omega) rfl (takes_of rfl rfl rfl rfl) (sa_cons (se_var 0 rfl (.inl rfl)) (sa_cons se_int sa_nil)) (mCons_len (mCons_len mNil_len)))) sa_nil))) sa_nil)) sa_nil)))))))
    (sss_one (ss_ret (se_tup (sa_cons (se_ix hr.units (se_var 1 rfl (.inl rfl)) se_int) (sa_cons (se_op op_addA snd_add (se_op op_addA snd_add (se_slc (se_ix hr.units (se_var 1 rfl (.inl rfl)) se_int) so_none (so_some (se_var 2 rfl (.inl rfl)))) (se_tup (sa_cons (se_var 8 rfl (.inl rfl)) sa_nil))) (se_slc (se_ix hr.units (se_var 1 rfl (.inl rfl)) se_int) (so_some (se_op op_addA snd_add (se_var 2 rfl (.inl rfl)) se_int)) so_none)) sa_nil))))))))
theorem o_pipes_at {f : Addr} {fd : FuncData} (F : L2.Fun K "pipes_at" "pipes_at" s_pipes_at f fd) (T : Txt K mg) : FnG P w K mg base (L2.CX P w) 1 f fd ["house", "room"] (spM ⟨P, w, K, mg⟩ 2 m_pipes_at) :=
  fn_ok (k := 0) F sc_pipes_at fun cdv A outer s H E hr => (sss_cons (ss_set (i := 2) sc_pipes_at.nd rfl (.inl rfl) (se_lst sa_nil))
    (sss_cons (ss_for (passes_of rfl) rfl (si_enum rfl T.z_enumerate (sa_cons (se_ix hr.units (se_var 0 rfl (.inl rfl)) se_int) sa_nil)) (sg_tup rfl (sgs_cons (sg_name sc_pipes_at.nd rfl (.inl rfl)) (sgs_cons (sg_tup rfl (sgs_cons (sg_name sc_pipes_at.nd rfl (.inl rfl)) (sgs_cons (sg_name sc_pipes_at.nd rfl (.inl rfl)) (sgs_cons (sg_name sc_pipes_at.nd rfl (.inl rfl)) (sgs_cons (sg_name sc_pipes_at.nd rfl (.inl rfl)) (sgs_cons (sg_name sc_pipes_at.nd rfl (.inl rfl)) sgs_nil)))))) sgs_nil))) (sss_one (ss_if (st_cmp (op_eqD hr.units) snd_eq (se_var 4 rfl (.inl rfl)) (se_var 1 rfl (.inl rfl)) (nomark _)) (sss_one (ss_expr (se_mt PySem.F.plainAttrs_list PySem.F.slot_list_append PySem.F.type_list_append mt_append ty_list snd_append (se_var 2 rfl (.inl rfl)) (sa_cons (se_tup (sa_cons (se_var 3 rfl (.inl rfl)) (sa_cons se_int (sa_cons (se_var 6 rfl (.inl rfl)) (sa_cons (se_var 5 rfl (.inl rfl)) sa_nil))))) sa_nil)))) (sss_one (ss_if (st_cmp (op_eqD hr.units) snd_eq (se_var 5 rfl (.inl rfl)) (se_var 1 rfl (.inl rfl)) (nomark _)) (sss_one (ss_expr (se_mt PySem.F.plainAttrs_list PySem.F.slot_list_append PySem.F.type_list_append mt_append ty_list snd_append (se_var 2 rfl (.inl rfl)) (sa_cons (se_tup (sa_cons (se_var 3 rfl (.inl rfl)) (sa_cons (se_var 6 rfl (.inl rfl)) (sa_cons se_int (sa_cons (se_var 4 rfl (.inl rfl)) sa_nil))))) sa_nil)))) sss_nil)))))
    (sss_one (ss_ret (se_var 2 rfl (.inl rfl))))))
theorem o_place_at {f : Addr} {fd : FuncData} (F : L2.Fun K "place_at" "place_at" s_place_at f fd) (T : Txt K mg) : FnG P w K mg base (L2.CX P w) 1 f fd ["house", "pipe", "at"] (spM ⟨P, w, K, mg⟩ 3 m_place_at) :=
  fn_ok (k := 0) F sc_place_at fun cdv A outer s H E hr => (sss_cons (ss_asg (se_ix hr.units (se_ix hr.units (se_var 0 rfl (.inl rfl)) se_int) (se_var 1 rfl (.inl rfl))) (sg_tup rfl (sgs_cons (sg_name sc_place_at.nd rfl (.inl rfl)) (sgs_cons (sg_name sc_place_at.nd rfl (.inl rfl)) (sgs_cons (sg_name sc_place_at.nd rfl (.inl rfl)) (sgs_cons (sg_name sc_place_at.nd rfl (.inl rfl)) (sgs_cons (sg_name sc_place_at.nd rfl (.inl rfl)) sgs_nil)))))))
    (sss_cons (ss_if (st_cmp (op_eqD hr.units) snd_eq (se_var 2 rfl (.inl rfl)) se_int (nomark _)) (sss_one (ss_ret (se_tup (sa_cons (se_var 3 rfl (.inl rfl)) sa_nil)))) sss_nil)
    (sss_cons (ss_if (st_cmp (op_eqD hr.units) snd_eq (se_var 2 rfl (.inl rfl)) (se_var 5 rfl (.inl rfl)) (nomark _)) (sss_one (ss_ret (se_tup (sa_cons (se_var 4 rfl (.inl rfl)) sa_nil)))) sss_nil)
    (sss_one (ss_ret (se_tup (sa_cons (se_var 1 rfl (.inl rfl)) (sa_cons (se_var 2 rfl (.inl rfl)) sa_nil))))))))
theorem o_rest_beyond {f : Addr} {fd : FuncData} (F : L2.Fun K "rest_beyond" "rest_beyond" s_rest_beyond f fd) (T : Txt K mg) (hm : mg "rest_beyond" = some (.ref f)) (bi : Binds K fd ["house", "known", "room", "pipe"] []) (g_pipes_at : Fn ⟨P, w, K, mg⟩ base "pipes_at" 1 2 m_pipes_at) : ∀ n, FnG P w K mg base (L2.CX P w) (1 + n) f fd ["house", "known", "room", "pipe"] (spM ⟨P, w, K, mg⟩ 4 (m_rest_beyond n))
  | 0 => fn_stuck rfl
  | n + 1 => by
    have gself : Fn ⟨P, w, K, mg⟩ base "rest_beyond" (1 + n) 4 (m_rest_beyond n) := ⟨f, fd, _, hm, F.kp, bi, o_rest_beyond F T hm bi g_pipes_at n⟩
    exact fn_ok (k := 1 + n) F sc_rest_beyond fun cdv A outer s H E hr => (sss_cons (ss_if (st_cmp (op_notInD hr.units) snd_notInD (se_tup (sa_cons (se_var 2 rfl (.inl rfl)) (sa_cons (se_var 3 rfl (.inl rfl)) sa_nil))) (se_var 1 rfl (.inl rfl)) (by with_unfolding_all rfl)) (sss_cons (ss_set (i := 4) sc_rest_beyond.nd rfl (.inl rfl) (se_lst (sa_cons se_int sa_nil)))
    (sss_cons (ss_for (passes_of rfl) rfl (si_seq (se_call g_pipes_at hr (by omega) rfl (takes_of rfl rfl rfl rfl) (sa_cons (se_var 0 rfl (.inl rfl)) (sa_cons (se_var 2 rfl (.inl rfl)) sa_nil)) (mCons_len (mCons_len mNil_len)))) (sg_tup rfl (sgs_cons (sg_name sc_rest_beyond.nd rfl (.inl rfl)) (sgs_cons (sg_name sc_rest_beyond.nd rfl (.inl rfl)) (sgs_cons (sg_name sc_rest_beyond.nd rfl (.inl rfl)) (sgs_cons (sg_name sc_rest_beyond.nd rfl (.inl rfl)) sgs_nil))))) (sss_one (ss_if (st_cmp (op_neD hr.units) snd_ne (se_var 5 rfl (.inl rfl)) (se_var 3 rfl (.inl rfl)) (nomark _)) (sss_one (ss_expr (se_mt PySem.F.plainAttrs_list PySem.F.slot_list_append PySem.F.type_list_append mt_append ty_list snd_append (se_var 4 rfl (.inl rfl)) (sa_cons (se_op op_addA snd_add (se_B call_abs snd_abs rfl T.z_abs (by decide +kernel) (sa_cons (se_op op_sub snd_sub (se_var 7 rfl (.inl rfl)) (se_var 6 rfl (.inl rfl))) sa_nil)) (se_call gself hr (Nat.le_refl _) rfl (takes_of rfl rfl rfl rfl) (sa_cons (se_var 0 rfl (.inl rfl)) (sa_cons (se_var 1 rfl (.inl rfl)) (sa_cons (se_var 8 rfl (.inl rfl)) (sa_cons (se_var 5 rfl (.inl rfl)) sa_nil)))) (mCons_len (mCons_len (mCons_len (mCons_len mNil_len)))))) sa_nil)))) sss_nil)))
    (sss_one (ss_asg (se_B (cr_max rfl) snd_maxLL rfl T.z_max (by decide +kernel) (sa_cons (se_var 4 rfl (.inl rfl)) sa_nil)) (sg_set hr.units (se_var 1 rfl (.inl rfl)) (se_tup (sa_cons (se_var 2 rfl (.inl rfl)) (sa_cons (se_var 3 rfl (.inl rfl)) sa_nil)))))))) sss_nil)
    (sss_one (ss_ret (se_ix hr.units (se_var 1 rfl (.inl rfl)) (se_tup (sa_cons (se_var 2 rfl (.inl rfl)) (sa_cons (se_var 3 rfl (.inl rfl)) sa_nil)))))))
theorem o_arms_of {f : Addr} {fd : FuncData} (F : L2.Fun K "arms_of" "arms_of" s_arms_of f fd) (T : Txt K mg) (g_pipes_at : Fn ⟨P, w, K, mg⟩ base "pipes_at" 1 2 m_pipes_at) (g_place_at : Fn ⟨P, w, K, mg⟩ base "place_at" 1 3 m_place_at) (g_rest_beyond : Fn ⟨P, w, K, mg⟩ base "rest_beyond" 9 4 (m_rest_beyond 8)) : FnG P w K mg base (L2.CX P w) 10 f fd ["house", "known", "place"] (spM ⟨P, w, K, mg⟩ 3 m_arms_of) :=
  fn_ok (k := 9) F sc_arms_of fun cdv A outer s H E hr => (sss_cons (ss_set (i := 3) sc_arms_of.nd rfl (.inl rfl) (se_lst sa_nil))
    (sss_cons (ss_if (st_cmp (op_eqD hr.units) snd_eq (se_B call_lenA snd_len rfl T.z_len (by decide +kernel) (sa_cons (se_var 2 rfl (.inl rfl)) sa_nil)) se_int (nomark _)) (sss_one (ss_for (passes_of rfl) rfl (si_seq (se_call g_pipes_at hr (by omega) rfl (takes_of rfl rfl rfl rfl) (sa_cons (se_var 0 rfl (.inl rfl)) (sa_cons (se_ix hr.units (se_var 2 rfl (.inl rfl)) se_int) sa_nil)) (mCons_len (mCons_len mNil_len)))) (sg_tup rfl (sgs_cons (sg_name sc_arms_of.nd rfl (.inl rfl)) (sgs_cons (sg_name sc_arms_of.nd rfl (.inl rfl)) (sgs_cons (sg_name sc_arms_of.nd rfl (.inl rfl)) (sgs_cons (sg_name sc_arms_of.nd rfl (.inl rfl)) sgs_nil))))) (sss_cons (ss_set (i := 8) sc_arms_of.nd rfl (.inl rfl) (se_call g_place_at hr (by omega) rfl (takes_of rfl rfl rfl rfl) (sa_cons (se_var 0 rfl (.inl rfl)) (sa_cons (se_var 4 rfl (.inl rfl)) (sa_cons (se_op op_addA snd_add (se_var 5 rfl (.inl rfl)) (se_ifE (st_cmp op_lt snd_cmpI (se_var 5 rfl (.inl rfl)) (se_var 6 rfl (.inl rfl)) (nomark _)) se_int (se_un un_neg snd_neg se_int))) sa_nil))) (mCons_len (mCons_len (mCons_len mNil_len)))))
    (sss_one (ss_expr (se_mt PySem.F.plainAttrs_list PySem.F.slot_list_append PySem.F.type_list_append mt_append ty_list snd_append (se_var 3 rfl (.inl rfl)) (sa_cons (se_tup (sa_cons (se_var 8 rfl (.inl rfl)) (sa_cons (se_op op_addA snd_add (se_B call_abs snd_abs rfl T.z_abs (by decide +kernel) (sa_cons (se_op op_sub snd_sub (se_var 6 rfl (.inl rfl)) (se_var 5 rfl (.inl rfl))) sa_nil)) (se_call g_rest_beyond hr (by omega) rfl (takes_of rfl rfl rfl rfl) (sa_cons (se_var 0 rfl (.inl rfl)) (sa_cons (se_var 1 rfl (.inl rfl)) (sa_cons (se_var 7 rfl (.inl rfl)) (sa_cons (se_var 4 rfl (.inl rfl)) sa_nil)))) (mCons_len (mCons_len (mCons_len (mCons_len mNil_len)))))) sa_nil))) sa_nil))))))) (sss_cons (ss_asg (se_var 2 rfl (.inl rfl)) (sg_tup rfl (sgs_cons (sg_name sc_arms_of.nd rfl (.inl rfl)) (sgs_cons (sg_name sc_arms_of.nd rfl (.inl rfl)) sgs_nil))))
    (sss_cons (ss_asg (se_ix hr.units (se_ix hr.units (se_var 0 rfl (.inl rfl)) se_int) (se_var 4 rfl (.inl rfl))) (sg_tup rfl (sgs_cons (sg_name sc_arms_of.nd rfl (.inl rfl)) (sgs_cons (sg_name sc_arms_of.nd rfl (.inl rfl)) (sgs_cons (sg_name sc_arms_of.nd rfl (.inl rfl)) (sgs_cons (sg_name sc_arms_of.nd rfl (.inl rfl)) (sgs_cons (sg_name sc_arms_of.nd rfl (.inl rfl)) sgs_nil)))))))
    (sss_cons (ss_expr (se_mt PySem.F.plainAttrs_list PySem.F.slot_list_append PySem.F.type_list_append mt_append ty_list snd_append (se_var 3 rfl (.inl rfl)) (sa_cons (se_tup (sa_cons (se_call g_place_at hr (by omega) rfl (takes_of rfl rfl rfl rfl) (sa_cons (se_var 0 rfl (.inl rfl)) (sa_cons (se_var 4 rfl (.inl rfl)) (sa_cons (se_op op_sub snd_sub (se_var 9 rfl (.inl rfl)) se_int) sa_nil))) (mCons_len (mCons_len (mCons_len mNil_len)))) (sa_cons (se_op op_addA snd_add (se_var 9 rfl (.inl rfl)) (se_call g_rest_beyond hr (by omega) rfl (takes_of rfl rfl rfl rfl) (sa_cons (se_var 0 rfl (.inl rfl)) (sa_cons (se_var 1 rfl (.inl rfl)) (sa_cons (se_var 10 rfl (.inl rfl)) (sa_cons (se_var 4 rfl (.inl rfl)) sa_nil)))) (mCons_len (mCons_len (mCons_len (mCons_len mNil_len)))))) sa_nil))) sa_nil)))
    (sss_one (ss_expr (se_mt PySem.F.plainAttrs_list PySem.F.slot_list_append PySem.F.type_list_append mt_append ty_list snd_append (se_var 3 rfl (.inl rfl)) (sa_cons (se_tup (sa_cons (se_call g_place_at hr (by omega) rfl (takes_of rfl rfl rfl rfl) (sa_cons (se_var 0 rfl (.inl rfl)) (sa_cons (se_var 4 rfl (.inl rfl)) (sa_cons (se_op op_addA snd_add (se_var 9 rfl (.inl rfl)) se_int) sa_nil))) (mCons_len (mCons_len (mCons_len mNil_len)))) (sa_cons (se_op op_addA snd_add (se_op op_sub snd_sub (se_var 12 rfl (.inl rfl)) (se_var 9 rfl (.inl rfl))) (se_call g_rest_beyond hr (by omega) rfl (takes_of rfl rfl rfl rfl) (sa_cons (se_var 0 rfl (.inl rfl)) (sa_cons (se_var 1 rfl (.inl rfl)) (sa_cons (se_var 11 rfl (.inl rfl)) (sa_cons (se_var 4 rfl (.inl rfl)) sa_nil)))) (mCons_len (mCons_len (mCons_len (mCons_len mNil_len)))))) sa_nil))) sa_nil))))))))
    (sss_one (ss_ret (se_B (cr_sortedB rfl hr.units) snd_sortedB rfl T.z_sorted (by decide +kernel) (sa_cons (se_var 3 rfl (.inl rfl)) sa_nil))))))
theorem o_depth {f : Addr} {fd : FuncData} (F : L2.Fun K "depth" "depth" s_depth f fd) (T : Txt K mg) (g_arms_of : Fn ⟨P, w, K, mg⟩ base "arms_of" 10 3 m_arms_of) : FnG P w K mg base (L2.CX P w) 11 f fd ["house", "place", "beside"] (spM ⟨P, w, K, mg⟩ 3 m_depth) :=
  fn_ok (k := 10) F sc_depth fun cdv A outer s H E hr => (sss_one (ss_ret (se_ix hr.units (se_T (call_dictT rfl hr.units) snd_dictT rfl T.z_dict (by decide +kernel) (sa_cons (se_call g_arms_of hr (by omega) rfl (takes_of rfl rfl rfl rfl) (sa_cons (se_var 0 rfl (.inl rfl)) (sa_cons se_tdicNew (sa_cons (se_var 1 rfl (.inl rfl)) sa_nil))) (mCons_len (mCons_len (mCons_len mNil_len)))) sa_nil)) (se_var 2 rfl (.inl rfl)))))
theorem o_law_deep {f : Addr} {fd : FuncData} (F : L2.Fun K "_law_deep" "_law_deep" s_law_deep f fd) (T : Txt K mg) : FnG P w K mg base (L2.CX P w) 1 f fd ["_law_nexts_here", "_law_place", "_law_beside"] (spM ⟨P, w, K, mg⟩ 3 m_law_deep) :=
  fn_ok (k := 0) F sc_law_deep fun cdv A outer s H E hr => (sss_cons (ss_set (i := 3) sc_law_deep.nd rfl (.inl rfl) (se_lst (sa_cons (se_tup (sa_cons (se_var 1 rfl (.inl rfl)) (sa_cons (se_var 2 rfl (.inl rfl)) sa_nil))) sa_nil)))
    (sss_cons (ss_set (i := 4) sc_law_deep.nd rfl (.inl rfl) se_int)
    (sss_cons (ss_while 1000 (passes_of rfl) (st_cmp (op_neD hr.units) snd_ne (se_var 3 rfl (.inl rfl)) (se_lst sa_nil) (nomark _)) (sss_cons (ss_set (i := 4) sc_law_deep.nd rfl (.inl rfl) (se_op op_addA snd_add (se_var 4 rfl (.inl rfl)) se_int))
    (sss_cons (ss_set (i := 5) sc_law_deep.nd rfl (.inl rfl) (se_lst sa_nil))
    (sss_cons (ss_for (passes_of rfl) rfl (si_seq (se_var 3 rfl (.inl rfl))) (sg_tup rfl (sgs_cons (sg_name sc_law_deep.nd rfl (.inr rfl)) (sgs_cons (sg_name sc_law_deep.nd rfl (.inr rfl)) sgs_nil))) (sss_one (ss_expr (se_mt PySem.F.plainAttrs_list PySem.F.slot_list_extend PySem.F.type_list_extend mt_extend ty_list snd_extend (se_var 5 rfl (.inl rfl)) (sa_cons (se_lc (own := [("_law_on", 8)]) rfl sc_law_deep.nd (si_seq (se_ix hr.units (se_var 0 rfl (.inl rfl)) (se_var 7 rfl (.inr (.inl rfl))))) (blkOk_by (N := N_law_deep) (sc := defScope s_law_deep) (by decide +kernel)) (fun _ _ _ _ _ => (sgv_name sc_law_deep.nd rfl (by first | exact .inl rfl | exact .inr rfl) (by decide))) (fun _ _ _ _ _ => (sts_one (st_cmp (op_neD hr.units) snd_ne (se_var 8 rfl (by first | exact .inl rfl | exact .inr (.inl rfl))) (se_var 6 rfl (.inr (.inl rfl))) (nomark _)))) (fun _ _ _ _ _ => (se_tup (sa_cons (se_var 7 rfl (.inr (.inl rfl))) (sa_cons (se_var 8 rfl (by first | exact .inl rfl | exact .inr (.inl rfl))) sa_nil))))) sa_nil)))))
    (sss_one (ss_set (i := 3) sc_law_deep.nd rfl (.inl rfl) (se_var 5 rfl (.inl rfl))))))))
    (sss_one (ss_ret (se_var 4 rfl (.inl rfl)))))))
theorem o_law_led {f : Addr} {fd : FuncData} (F : L2.Fun K "_law_led" "_law_led" s_law_led f fd) (T : Txt K mg) : FnG P w K mg base (L2.CX P w) 1 f fd ["_law_place", "_law_times"] (spM ⟨P, w, K, mg⟩ 2 m_law_led) :=
  fn_ok (k := 0) F sc_law_led fun cdv A outer s H E hr => (sss_cons (ss_if (st_cmp (op_eqD hr.units) snd_eq (se_B call_lenA snd_len rfl T.z_len (by decide +kernel) (sa_cons (se_var 0 rfl (.inl rfl)) sa_nil)) se_int (nomark _)) (sss_one (ss_ret (se_var 0 rfl (.inl rfl)))) sss_nil)
    (sss_one (ss_ret (se_tup (sa_cons (se_ix hr.units (se_var 0 rfl (.inl rfl)) se_int) (sa_cons (se_op op_mulA snd_mul (se_ix hr.units (se_var 0 rfl (.inl rfl)) se_int) (se_var 1 rfl (.inl rfl))) sa_nil))))))
theorem o_law_toward {f : Addr} {fd : FuncData} (F : L2.Fun K "_law_toward" "_law_toward" s_law_toward f fd) (T : Txt K mg) (g_law_spot : Fn ⟨P, w, K, mg⟩ base "_law_spot" 1 3 m_law_spot) : FnG P w K mg base (L2.CX P w) 2 f fd ["_law_great", "_law_place", "_law_beside"] (spM ⟨P, w, K, mg⟩ 3 m_law_toward) :=
  fn_ok (k := 1) F sc_law_toward fun cdv A outer s H E hr => (sss_cons (ss_if (PW.pt (sw_and (st_cmp (op_eqD hr.units) snd_eq (se_B cr_lenX snd_lenX rfl T.z_len (by decide +kernel) (sa_cons (se_var 1 rfl (.inr (.inl rfl))) sa_nil)) se_int (nomark _)) (sw_and1 (st_cmp (op_eqD hr.units) snd_eq (se_B cr_lenX snd_lenX rfl T.z_len (by decide +kernel) (sa_cons (se_var 2 rfl (.inr (.inl rfl))) sa_nil)) se_int (nomark _))))) (sss_one (ss_ret (se_tup (sa_cons (se_ix hr.units (se_var 1 rfl (.inr (.inl rfl))) se_int) (sa_cons (se_op op_addA snd_add (se_ix hr.units (se_var 1 rfl (.inr (.inl rfl))) se_int) (se_ix hr.units (se_lst (sa_cons se_int (sa_cons (se_un un_neg snd_neg se_int) sa_nil))) (se_T call_int1 snd_intL rfl T.z_int (by decide +kernel) (sa_cons (se_cmp op_lt snd_cmpI (se_ix hr.units (se_var 2 rfl (.inr (.inl rfl))) se_int) (se_ix hr.units (se_var 1 rfl (.inr (.inl rfl))) se_int) (nomark _)) sa_nil)))) sa_nil))))) sss_nil)
    (sss_cons (ss_if (st_cmp (op_eqD hr.units) snd_eq (se_B cr_lenX snd_lenX rfl T.z_len (by decide +kernel) (sa_cons (se_var 1 rfl (.inr (.inl rfl))) sa_nil)) se_int (nomark _)) (sss_cons (ss_asg (se_slc (se_ix hr.units (se_ix hr.units (se_var 0 rfl (.inr (.inl rfl))) se_int) (se_ix hr.units (se_var 1 rfl (.inr (.inl rfl))) se_int)) so_none (so_some se_int)) (sg_tup rfl (sgs_cons (sg_name sc_law_toward.nd rfl (.inl rfl)) (sgs_cons (sg_name sc_law_toward.nd rfl (.inl rfl)) (sgs_cons (sg_name sc_law_toward.nd rfl (.inl rfl)) sgs_nil)))))
    (sss_cons (ss_set (i := 6) sc_law_toward.nd rfl (.inl rfl) (se_op op_addA snd_add (se_ix hr.units (se_var 1 rfl (.inr (.inl rfl))) se_int) (se_ix hr.units (se_lst (sa_cons se_int (sa_cons (se_un un_neg snd_neg se_int) sa_nil))) (se_T call_int1 snd_intL rfl T.z_int (by decide +kernel) (sa_cons (se_cmp (op_eqD hr.units) snd_eq (se_var 2 rfl (.inr (.inl rfl))) (se_tup (sa_cons (se_var 3 rfl (.inl rfl)) sa_nil)) (nomark _)) sa_nil)))))
    (sss_one (ss_ret (se_call g_law_spot hr (by omega) rfl (takes_of rfl rfl rfl rfl) (sa_cons (se_var 0 rfl (.inr (.inl rfl))) (sa_cons (se_ix hr.units (se_var 1 rfl (.inr (.inl rfl))) se_int) (sa_cons (se_var 6 rfl (.inl rfl)) sa_nil))) (mCons_len (mCons_len (mCons_len mNil_len)))))))) sss_nil)
    (sss_cons (ss_setLc (i := 7) (own := [("_law_k", 8)]) rfl sc_law_toward.nd rfl rfl (sw_true rfl rfl rfl (by decide +kernel)) (si_range1 rfl T.z_range (sa_cons (se_B cr_lenX snd_lenX rfl T.z_len (by decide +kernel) (sa_cons (se_ix hr.units (se_var 0 rfl (.inr (.inl rfl))) se_int) sa_nil)) sa_nil)) (blkOk_by (N := N_law_toward) (sc := defScope s_law_toward) (by decide +kernel)) (fun _ _ _ _ _ => (sgv_name sc_law_toward.nd rfl (by first | exact .inl rfl | exact .inr rfl) (by decide))) (fun _ _ _ _ _ => (sts_one (st_cmp (op_inX hr.units) snd_inX (se_ix hr.units (se_var 1 rfl (.inr (.inl rfl))) se_int) (se_slc (se_ix hr.units (se_ix hr.units (se_var 0 rfl (.inr (.inl rfl))) se_int) (se_var 8 rfl (by first | exact .inl rfl | exact .inr (.inl rfl)))) so_none (so_some se_int)) (by with_unfolding_all rfl)))) (fun _ _ _ _ _ => (se_var 8 rfl (by first | exact .inl rfl | exact .inr (.inl rfl)))))
    (sss_cons (ss_if (st_cmp (op_eqD hr.units) snd_eq (se_B cr_lenX snd_lenX rfl T.z_len (by decide +kernel) (sa_cons (se_var 2 rfl (.inr (.inl rfl))) sa_nil)) se_int (nomark _)) (sss_one (ss_set (i := 7) sc_law_toward.nd rfl (.inl rfl) (se_lst (sa_cons (se_ix hr.units (se_var 2 rfl (.inr (.inl rfl))) se_int) sa_nil)))) (sss_one (ss_setLc (i := 7) (own := [("_law_k", 8)]) rfl sc_law_toward.nd rfl rfl (sw_true rfl rfl rfl (by decide +kernel)) (si_seq (se_var 7 rfl (.inl rfl))) (blkOk_by (N := N_law_toward) (sc := defScope s_law_toward) (by decide +kernel)) (fun _ _ _ _ _ => (sgv_name sc_law_toward.nd rfl (by first | exact .inl rfl | exact .inr rfl) (by decide))) (fun _ _ _ _ _ => (sts_one (st_cmp (op_inX hr.units) snd_inX (se_ix hr.units (se_var 2 rfl (.inr (.inl rfl))) se_int) (se_slc (se_ix hr.units (se_ix hr.units (se_var 0 rfl (.inr (.inl rfl))) se_int) (se_var 8 rfl (by first | exact .inl rfl | exact .inr (.inl rfl)))) so_none (so_some se_int)) (by with_unfolding_all rfl)))) (fun _ _ _ _ _ => (se_var 8 rfl (by first | exact .inl rfl | exact .inr (.inl rfl)))))))
    (sss_cons (ss_set (i := 5) sc_law_toward.nd rfl (.inl rfl) (se_ix hr.units (se_ix hr.units (se_ix hr.units (se_var 0 rfl (.inr (.inl rfl))) se_int) (se_ix hr.units (se_var 7 rfl (.inl rfl)) se_int)) se_int))
    (sss_one (ss_ret (se_call g_law_spot hr (by omega) rfl (takes_of rfl rfl rfl rfl) (sa_cons (se_var 0 rfl (.inr (.inl rfl))) (sa_cons (se_ix hr.units (se_var 7 rfl (.inl rfl)) se_int) (sa_cons (se_ix hr.units (se_lst (sa_cons (se_op op_sub snd_sub (se_var 5 rfl (.inl rfl)) se_int) (sa_cons se_int sa_nil))) (se_T call_int1 snd_intL rfl T.z_int (by decide +kernel) (sa_cons (se_cmp (op_eqD hr.units) snd_eq (se_ix hr.units (se_ix hr.units (se_ix hr.units (se_var 0 rfl (.inr (.inl rfl))) se_int) (se_ix hr.units (se_var 7 rfl (.inl rfl)) se_int)) se_int) (se_ix hr.units (se_var 1 rfl (.inr (.inl rfl))) se_int) (nomark _)) sa_nil))) sa_nil))) (mCons_len (mCons_len (mCons_len mNil_len)))))))))))
theorem o_law_same {f : Addr} {fd : FuncData} (F : L2.Fun K "_law_same" "_law_same" s_law_same f fd) (T : Txt K mg) (hm : mg "_law_same" = some (.ref f)) (bi : Binds K fd ["_law_found", "_law_due"] []) : ∀ n, FnG P w K mg base (L2.CX P w) (0 + n) f fd ["_law_found", "_law_due"] (spM ⟨P, w, K, mg⟩ 2 (m_law_same n))
  | 0 => fn_stuck rfl
  | n + 1 => by
    have gself : Fn ⟨P, w, K, mg⟩ base "_law_same" (0 + n) 2 (m_law_same n) := ⟨f, fd, _, hm, F.kp, bi, o_law_same F T hm bi n⟩
    exact fn_ok (k := 0 + n) F sc_law_same fun cdv A outer s H E hr => (sss_cons (ss_if (st_val (se_isi1 rfl T.z_isinstance (se_var 1 rfl (.inr (.inl rfl))) rfl T.z_tuple (by decide +kernel) (by decide))) (sss_cons (ss_if (PW.pt (sw_or (st_not (st_val (se_isi1 rfl T.z_isinstance (se_var 0 rfl (.inr (.inl rfl))) rfl T.z_tuple (by decide +kernel) (by decide)))) (sw_or1 (st_cmp (op_neD hr.units) snd_ne (se_B call_lenA snd_len rfl T.z_len (by decide +kernel) (sa_cons (se_var 0 rfl (.inr (.inl rfl))) sa_nil)) (se_B call_lenA snd_len rfl T.z_len (by decide +kernel) (sa_cons (se_var 1 rfl (.inr (.inl rfl))) sa_nil)) (nomark _))))) (sss_one (ss_ret se_bl)) sss_nil)
    (sss_one (ss_ret (se_cmp (op_eqD hr.units) snd_eq (se_lc (own := [("_law_k", 2)]) rfl sc_law_same.nd (si_range1 rfl T.z_range (sa_cons (se_B call_lenA snd_len rfl T.z_len (by decide +kernel) (sa_cons (se_var 1 rfl (.inr (.inl rfl))) sa_nil)) sa_nil)) (blkOk_by (N := N_law_same) (sc := defScope s_law_same) (by decide +kernel)) (fun _ _ _ _ _ => (sgv_name sc_law_same.nd rfl (by first | exact .inl rfl | exact .inr rfl) (by decide))) (fun _ _ _ _ _ => (sts_one (st_not (st_val (se_call gself hr (Nat.le_refl _) rfl takes0 (sa_cons (se_ix hr.units (se_var 0 rfl (.inr (.inl rfl))) (se_var 2 rfl (by first | exact .inl rfl | exact .inr (.inl rfl)))) (sa_cons (se_ix hr.units (se_var 1 rfl (.inr (.inl rfl))) (se_var 2 rfl (by first | exact .inl rfl | exact .inr (.inl rfl)))) sa_nil)) (mCons_len (mCons_len mNil_len))))))) (fun _ _ _ _ _ => (se_var 2 rfl (by first | exact .inl rfl | exact .inr (.inl rfl))))) (se_lst sa_nil) (nomark _))))) sss_nil)
    (sss_cons (ss_if (st_cmp op_isN snd_is (se_var 1 rfl (.inr (.inl rfl))) se_non (nomark _)) (sss_one (ss_ret (se_cmp op_isN snd_is (se_var 0 rfl (.inr (.inl rfl))) se_non (nomark _)))) sss_nil)
    (sss_cons (ss_if (st_val (se_isi1 rfl T.z_isinstance (se_var 1 rfl (.inr (.inl rfl))) rfl T.z_str (by decide +kernel) (by decide))) (sss_one (ss_ret (se_and (se_isi1 rfl T.z_isinstance (se_var 0 rfl (.inr (.inl rfl))) rfl T.z_str (by decide +kernel) (by decide)) (se_one (se_cmp (op_eqD hr.units) snd_eq (se_var 0 rfl (.inr (.inl rfl))) (se_var 1 rfl (.inr (.inl rfl))) (nomark _)))))) sss_nil)
    (sss_one (ss_ret (se_and (se_isi1 rfl T.z_isinstance (se_var 0 rfl (.inr (.inl rfl))) rfl T.z_int (by decide +kernel) (by decide)) (se_and (se_cmp (op_eqD hr.units) snd_eq (se_isi1 rfl T.z_isinstance (se_var 0 rfl (.inr (.inl rfl))) rfl T.z_bool (by decide +kernel) (by decide)) (se_isi1 rfl T.z_isinstance (se_var 1 rfl (.inr (.inl rfl))) rfl T.z_bool (by decide +kernel) (by decide)) (nomark _)) (se_one (se_cmp (op_eqD hr.units) snd_eq (se_var 0 rfl (.inr (.inl rfl))) (se_var 1 rfl (.inr (.inl rfl))) (nomark _))))))))))
theorem o_law {f : Addr} {fd : FuncData} (F : L2.Fun K "law" "law" s_law f fd) (T : Txt K mg) (g_law_begin : Fn ⟨P, w, K, mg⟩ base "_law_begin" 1 1 m_law_begin) (g_law_house : Fn ⟨P, w, K, mg⟩ base "_law_house" 2 3 m_law_house) (g_law_nexts : Fn ⟨P, w, K, mg⟩ base "_law_nexts" 2 1 m_law_nexts) (g_law_greater : Fn ⟨P, w, K, mg⟩ base "_law_greater" 1 2 m_law_greater) (g_law_next : Fn ⟨P, w, K, mg⟩ base "_law_next" 1 2 m_law_next) (g_law_hung : Fn ⟨P, w, K, mg⟩ base "_law_hung" 2 2 m_law_hung) (g_depth : Fn ⟨P, w, K, mg⟩ base "depth" 11 3 m_depth) (g_law_deep : Fn ⟨P, w, K, mg⟩ base "_law_deep" 1 3 m_law_deep) (g_law_led : Fn ⟨P, w, K, mg⟩ base "_law_led" 1 2 m_law_led) (g_law_toward : Fn ⟨P, w, K, mg⟩ base "_law_toward" 2 3 m_law_toward) (g_law_same : Fn ⟨P, w, K, mg⟩ base "_law_same" 8 2 (m_law_same 8)) : FnG P w K mg base (L2.CX P w) 12 f fd ["_law_script"] (spM ⟨P, w, K, mg⟩ 1 m_law) :=
  fn_ok (k := 11) F sc_law fun cdv A outer s H E hr => (sss_cons (ss_set (i := 1) sc_law.nd rfl (.inl rfl) (se_call g_law_begin hr (by omega) rfl (takes_of rfl rfl rfl rfl) (sa_cons (se_var 0 rfl (.inl rfl)) sa_nil) (mCons_len mNil_len)))
    (sss_cons (ss_for (passes_of rfl) rfl (si_range1 rfl T.z_range (sa_cons se_int sa_nil)) (sg_name sc_law.nd rfl (.inl rfl)) (sss_cons (ss_set (i := 3) sc_law.nd rfl (.inl rfl) (se_call g_law_house hr (by omega) rfl (takes_of rfl rfl rfl rfl) (sa_cons (se_var 1 rfl (.inl rfl)) (sa_cons se_int (sa_cons se_int sa_nil))) (mCons_len (mCons_len (mCons_len mNil_len)))))
    (sss_cons (ss_if (st_cmp (op_eqD hr.units) snd_eq (se_call g_law_next hr (by omega) rfl (takes_of rfl rfl rfl rfl) (sa_cons (se_var 1 rfl (.inl rfl)) (sa_cons se_int sa_nil)) (mCons_len (mCons_len mNil_len))) se_int (nomark _)) (sss_one (ss_set (i := 3) sc_law.nd rfl (.inl rfl) (se_call g_law_hung hr (by omega) rfl (takes_of rfl rfl rfl rfl) (sa_cons (se_var 1 rfl (.inl rfl)) (sa_cons (se_var 3 rfl (.inl rfl)) sa_nil)) (mCons_len (mCons_len mNil_len))))) sss_nil)
    (sss_cons (ss_set (i := 4) sc_law.nd rfl (.inl rfl) (se_call g_law_nexts hr (by omega) rfl (takes_of rfl rfl rfl rfl) (sa_cons (se_var 3 rfl (.inl rfl)) sa_nil) (mCons_len mNil_len)))
    (sss_cons (ss_set (i := 5) sc_law.nd rfl (.inl rfl) (se_ix hr.units (se_lst (sa_cons se_int (sa_cons se_int (sa_cons se_int (sa_cons (se_op op_mulA snd_mul se_int (se_op op_pow snd_pow se_int se_int)) sa_nil))))) (se_call g_law_next hr (by omega) rfl (takes_of rfl rfl rfl rfl) (sa_cons (se_var 1 rfl (.inl rfl)) (sa_cons se_int sa_nil)) (mCons_len (mCons_len mNil_len)))))
    (sss_cons (ss_set (i := 6) sc_law.nd rfl (.inl rfl) (se_call g_law_greater hr (by omega) rfl (takes_of rfl rfl rfl rfl) (sa_cons (se_var 3 rfl (.inl rfl)) (sa_cons (se_var 5 rfl (.inl rfl)) sa_nil)) (mCons_len (mCons_len mNil_len))))
    (sss_cons (ss_lock (i := 4) (ss_for (passes_of rfl) rfl (si_keys (se_var 4 rfl (.inl rfl))) (sg_name sc_law.nd rfl (.inl rfl)) (sss_one (ss_for (passes_of rfl) rfl (si_seq (se_ix hr.units (se_var 4 rfl (.inl rfl)) (se_var 7 rfl (.inl rfl)))) (sg_name sc_law.nd rfl (.inl rfl)) (sss_cons (ss_set (i := 9) sc_law.nd rfl (.inl rfl) (se_call g_law_deep hr (by omega) rfl (takes_of rfl rfl rfl rfl) (sa_cons (se_var 4 rfl (.inl rfl)) (sa_cons (se_var 7 rfl (.inl rfl)) (sa_cons (se_var 8 rfl (.inl rfl)) sa_nil))) (mCons_len (mCons_len (mCons_len mNil_len)))))
    (sss_cons (ss_if (st_not (st_val (se_call g_law_same hr (by omega) rfl (takes_of rfl rfl rfl rfl) (sa_cons (se_call g_depth hr (by omega) rfl (takes_of rfl rfl rfl rfl) (sa_cons (se_var 3 rfl (.inl rfl)) (sa_cons (se_var 7 rfl (.inl rfl)) (sa_cons (se_var 8 rfl (.inl rfl)) sa_nil))) (mCons_len (mCons_len (mCons_len mNil_len)))) (sa_cons (se_var 9 rfl (.inl rfl)) sa_nil)) (mCons_len (mCons_len mNil_len))))) (sss_one (ss_ret se_bl)) sss_nil)
    (sss_cons (ss_set (i := 10) sc_law.nd rfl (.inl rfl) (se_call g_law_led hr (by omega) rfl (takes_of rfl rfl rfl rfl) (sa_cons (se_var 7 rfl (.inl rfl)) (sa_cons (se_var 5 rfl (.inl rfl)) sa_nil)) (mCons_len (mCons_len mNil_len))))
    (sss_cons (ss_set (i := 11) sc_law.nd rfl (.inl rfl) (se_call g_law_toward hr (by omega) rfl (takes_of rfl rfl rfl rfl) (sa_cons (se_var 6 rfl (.inl rfl)) (sa_cons (se_var 10 rfl (.inl rfl)) (sa_cons (se_call g_law_led hr (by omega) rfl (takes_of rfl rfl rfl rfl) (sa_cons (se_var 8 rfl (.inl rfl)) (sa_cons (se_var 5 rfl (.inl rfl)) sa_nil)) (mCons_len (mCons_len mNil_len))) sa_nil))) (mCons_len (mCons_len (mCons_len mNil_len)))))
    (sss_one (ss_if (st_not (st_val (se_call g_law_same hr (by omega) rfl (takes_of rfl rfl rfl rfl) (sa_cons (se_call g_depth hr (by omega) rfl (takes_of rfl rfl rfl rfl) (sa_cons (se_var 6 rfl (.inl rfl)) (sa_cons (se_var 10 rfl (.inl rfl)) (sa_cons (se_var 11 rfl (.inl rfl)) sa_nil))) (mCons_len (mCons_len (mCons_len mNil_len)))) (sa_cons (se_op op_mulA snd_mul (se_var 9 rfl (.inl rfl)) (se_var 5 rfl (.inl rfl))) sa_nil)) (mCons_len (mCons_len mNil_len))))) (sss_one (ss_ret se_bl)) sss_nil))))))))))
    (sss_cons (ss_set (i := 7) sc_law.nd rfl (.inl rfl) (se_ix hr.units (se_B (cr_sortedX rfl hr.units) snd_sortedX rfl T.z_sorted (by decide +kernel) (sa_cons (se_var 4 rfl (.inl rfl)) sa_nil)) (se_call g_law_next hr (by omega) rfl (takes_of rfl rfl rfl rfl) (sa_cons (se_var 1 rfl (.inl rfl)) (sa_cons (se_B cr_lenX snd_lenX rfl T.z_len (by decide +kernel) (sa_cons (se_var 4 rfl (.inl rfl)) sa_nil)) sa_nil)) (mCons_len (mCons_len mNil_len)))))
    (sss_one (ss_if (st_cmp (op_neD hr.units) snd_ne (se_call g_depth hr (by omega) rfl (takes_of rfl rfl rfl rfl) (sa_cons (se_var 3 rfl (.inl rfl)) (sa_cons (se_var 7 rfl (.inl rfl)) (sa_cons (se_ix hr.units (se_ix hr.units (se_var 4 rfl (.inl rfl)) (se_var 7 rfl (.inl rfl))) se_int) sa_nil))) (mCons_len (mCons_len (mCons_len mNil_len)))) (se_call g_law_deep hr (by omega) rfl (takes_of rfl rfl rfl rfl) (sa_cons (se_var 4 rfl (.inl rfl)) (sa_cons (se_var 7 rfl (.inl rfl)) (sa_cons (se_ix hr.units (se_ix hr.units (se_var 4 rfl (.inl rfl)) (se_var 7 rfl (.inl rfl))) se_int) sa_nil))) (mCons_len (mCons_len (mCons_len mNil_len)))) (nomark _)) (sss_one (ss_ret se_bl)) sss_nil))))))))))
    (sss_one (ss_ret se_bl))))
end
theorem all_mk {l : PySem.W.OpenLaw} {w : World} {K : PySem.W.Frag} {h : Heap} {mg : Str → Option Value} {fa : Addr} (X : K.In h) (G : h.Ns mainGlobals mg) (hfa : mg "law" = some (.ref fa)) {f_law_begin : Addr} {od_law_begin an_law_begin : Option Addr} {sl_law_begin : Array (Option Value)} {oc_law_begin kV_law_begin dc_law_begin pm_law_begin cd_law_begin ct_law_begin : Value} {f_law_next : Addr} {od_law_next an_law_next : Option Addr} {sl_law_next : Array (Option Value)} {oc_law_next kV_law_next dc_law_next pm_law_next cd_law_next ct_law_next : Value} {f_law_house : Addr} {od_law_house an_law_house : Option Addr} {sl_law_house : Array (Option Value)} {oc_law_house kV_law_house dc_law_house pm_law_house cd_law_house ct_law_house : Value} {f_law_spot : Addr} {od_law_spot an_law_spot : Option Addr} {sl_law_spot : Array (Option Value)} {oc_law_spot kV_law_spot dc_law_spot pm_law_spot cd_law_spot ct_law_spot : Value} {f_law_nexts : Addr} {od_law_nexts an_law_nexts : Option Addr} {sl_law_nexts : Array (Option Value)} {oc_law_nexts kV_law_nexts dc_law_nexts pm_law_nexts cd_law_nexts ct_law_nexts : Value} {f_law_greater : Addr} {od_law_greater an_law_greater : Option Addr} {sl_law_greater : Array (Option Value)} {oc_law_greater kV_law_greater dc_law_greater pm_law_greater cd_law_greater ct_law_greater : Value} {f_law_hung : Addr} {od_law_hung an_law_hung : Option Addr} {sl_law_hung : Array (Option Value)} {oc_law_hung kV_law_hung dc_law_hung pm_law_hung cd_law_hung ct_law_hung : Value} {f_pipes_at : Addr} {od_pipes_at an_pipes_at : Option Addr} {sl_pipes_at : Array (Option Value)} {oc_pipes_at kV_pipes_at dc_pipes_at pm_pipes_at cd_pipes_at ct_pipes_at : Value} {f_place_at : Addr} {od_place_at an_place_at : Option Addr} {sl_place_at : Array (Option Value)} {oc_place_at kV_place_at dc_place_at pm_place_at cd_place_at ct_place_at : Value} {f_rest_beyond : Addr} {od_rest_beyond an_rest_beyond : Option Addr} {sl_rest_beyond : Array (Option Value)} {oc_rest_beyond kV_rest_beyond dc_rest_beyond pm_rest_beyond cd_rest_beyond ct_rest_beyond : Value} {f_arms_of : Addr} {od_arms_of an_arms_of : Option Addr} {sl_arms_of : Array (Option Value)} {oc_arms_of kV_arms_of dc_arms_of pm_arms_of cd_arms_of ct_arms_of : Value} {f_depth : Addr} {od_depth an_depth : Option Addr} {sl_depth : Array (Option Value)} {oc_depth kV_depth dc_depth pm_depth cd_depth ct_depth : Value} {f_law_deep : Addr} {od_law_deep an_law_deep : Option Addr} {sl_law_deep : Array (Option Value)} {oc_law_deep kV_law_deep dc_law_deep pm_law_deep cd_law_deep ct_law_deep : Value} {f_law_led : Addr} {od_law_led an_law_led : Option Addr} {sl_law_led : Array (Option Value)} {oc_law_led kV_law_led dc_law_led pm_law_led cd_law_led ct_law_led : Value} {f_law_toward : Addr} {od_law_toward an_law_toward : Option Addr} {sl_law_toward : Array (Option Value)} {oc_law_toward kV_law_toward dc_law_toward pm_law_toward cd_law_toward ct_law_toward : Value} {f_law_same : Addr} {od_law_same an_law_same : Option Addr} {sl_law_same : Array (Option Value)} {oc_law_same kV_law_same dc_law_same pm_law_same cd_law_same ct_law_same : Value} {f_law : Addr} {od_law an_law : Option Addr} {sl_law : Array (Option Value)} {oc_law kV_law dc_law pm_law cd_law ct_law : Value}
    (a_law_begin : PySem.W.nsIn K mainGlobals "_law_begin" = some (some (.ref f_law_begin)))
    (l_law_begin : K.lookup f_law_begin = some ⟨oc_law_begin, od_law_begin, .func (PySem.W.fnOf "_law_begin" "_law_begin" (defArgs s_law_begin) (defBody s_law_begin) (defScope s_law_begin) .none kV_law_begin dc_law_begin pm_law_begin an_law_begin cd_law_begin ct_law_begin), sl_law_begin⟩)
    (c_law_begin : PySem.W.codeIn K cd_law_begin "_law_begin" = true)
    (k_law_begin : PySem.W.keepIn K (.ref f_law_begin) = true)
    (a_law_next : PySem.W.nsIn K mainGlobals "_law_next" = some (some (.ref f_law_next)))
    (l_law_next : K.lookup f_law_next = some ⟨oc_law_next, od_law_next, .func (PySem.W.fnOf "_law_next" "_law_next" (defArgs s_law_next) (defBody s_law_next) (defScope s_law_next) .none kV_law_next dc_law_next pm_law_next an_law_next cd_law_next ct_law_next), sl_law_next⟩)
    (c_law_next : PySem.W.codeIn K cd_law_next "_law_next" = true)
    (k_law_next : PySem.W.keepIn K (.ref f_law_next) = true)
    (a_law_house : PySem.W.nsIn K mainGlobals "_law_house" = some (some (.ref f_law_house)))
    (l_law_house : K.lookup f_law_house = some ⟨oc_law_house, od_law_house, .func (PySem.W.fnOf "_law_house" "_law_house" (defArgs s_law_house) (defBody s_law_house) (defScope s_law_house) .none kV_law_house dc_law_house pm_law_house an_law_house cd_law_house ct_law_house), sl_law_house⟩)
    (c_law_house : PySem.W.codeIn K cd_law_house "_law_house" = true)
    (k_law_house : PySem.W.keepIn K (.ref f_law_house) = true)
    (a_law_spot : PySem.W.nsIn K mainGlobals "_law_spot" = some (some (.ref f_law_spot)))
    (l_law_spot : K.lookup f_law_spot = some ⟨oc_law_spot, od_law_spot, .func (PySem.W.fnOf "_law_spot" "_law_spot" (defArgs s_law_spot) (defBody s_law_spot) (defScope s_law_spot) .none kV_law_spot dc_law_spot pm_law_spot an_law_spot cd_law_spot ct_law_spot), sl_law_spot⟩)
    (c_law_spot : PySem.W.codeIn K cd_law_spot "_law_spot" = true)
    (k_law_spot : PySem.W.keepIn K (.ref f_law_spot) = true)
    (a_law_nexts : PySem.W.nsIn K mainGlobals "_law_nexts" = some (some (.ref f_law_nexts)))
    (l_law_nexts : K.lookup f_law_nexts = some ⟨oc_law_nexts, od_law_nexts, .func (PySem.W.fnOf "_law_nexts" "_law_nexts" (defArgs s_law_nexts) (defBody s_law_nexts) (defScope s_law_nexts) .none kV_law_nexts dc_law_nexts pm_law_nexts an_law_nexts cd_law_nexts ct_law_nexts), sl_law_nexts⟩)
    (c_law_nexts : PySem.W.codeIn K cd_law_nexts "_law_nexts" = true)
    (k_law_nexts : PySem.W.keepIn K (.ref f_law_nexts) = true)
    (a_law_greater : PySem.W.nsIn K mainGlobals "_law_greater" = some (some (.ref f_law_greater)))
    (l_law_greater : K.lookup f_law_greater = some ⟨oc_law_greater, od_law_greater, .func (PySem.W.fnOf "_law_greater" "_law_greater" (defArgs s_law_greater) (defBody s_law_greater) (defScope s_law_greater) .none kV_law_greater dc_law_greater pm_law_greater an_law_greater cd_law_greater ct_law_greater), sl_law_greater⟩)
    (c_law_greater : PySem.W.codeIn K cd_law_greater "_law_greater" = true)
    (k_law_greater : PySem.W.keepIn K (.ref f_law_greater) = true)
    (a_law_hung : PySem.W.nsIn K mainGlobals "_law_hung" = some (some (.ref f_law_hung)))
    (l_law_hung : K.lookup f_law_hung = some ⟨oc_law_hung, od_law_hung, .func (PySem.W.fnOf "_law_hung" "_law_hung" (defArgs s_law_hung) (defBody s_law_hung) (defScope s_law_hung) .none kV_law_hung dc_law_hung pm_law_hung an_law_hung cd_law_hung ct_law_hung), sl_law_hung⟩)
    (c_law_hung : PySem.W.codeIn K cd_law_hung "_law_hung" = true)
    (k_law_hung : PySem.W.keepIn K (.ref f_law_hung) = true)
    (a_pipes_at : PySem.W.nsIn K mainGlobals "pipes_at" = some (some (.ref f_pipes_at)))
    (l_pipes_at : K.lookup f_pipes_at = some ⟨oc_pipes_at, od_pipes_at, .func (PySem.W.fnOf "pipes_at" "pipes_at" (defArgs s_pipes_at) (defBody s_pipes_at) (defScope s_pipes_at) .none kV_pipes_at dc_pipes_at pm_pipes_at an_pipes_at cd_pipes_at ct_pipes_at), sl_pipes_at⟩)
    (c_pipes_at : PySem.W.codeIn K cd_pipes_at "pipes_at" = true)
    (k_pipes_at : PySem.W.keepIn K (.ref f_pipes_at) = true)
    (a_place_at : PySem.W.nsIn K mainGlobals "place_at" = some (some (.ref f_place_at)))
    (l_place_at : K.lookup f_place_at = some ⟨oc_place_at, od_place_at, .func (PySem.W.fnOf "place_at" "place_at" (defArgs s_place_at) (defBody s_place_at) (defScope s_place_at) .none kV_place_at dc_place_at pm_place_at an_place_at cd_place_at ct_place_at), sl_place_at⟩)
    (c_place_at : PySem.W.codeIn K cd_place_at "place_at" = true)
    (k_place_at : PySem.W.keepIn K (.ref f_place_at) = true)
    (a_rest_beyond : PySem.W.nsIn K mainGlobals "rest_beyond" = some (some (.ref f_rest_beyond)))
    (l_rest_beyond : K.lookup f_rest_beyond = some ⟨oc_rest_beyond, od_rest_beyond, .func (PySem.W.fnOf "rest_beyond" "rest_beyond" (defArgs s_rest_beyond) (defBody s_rest_beyond) (defScope s_rest_beyond) .none kV_rest_beyond dc_rest_beyond pm_rest_beyond an_rest_beyond cd_rest_beyond ct_rest_beyond), sl_rest_beyond⟩)
    (c_rest_beyond : PySem.W.codeIn K cd_rest_beyond "rest_beyond" = true)
    (k_rest_beyond : PySem.W.keepIn K (.ref f_rest_beyond) = true)
    (a_arms_of : PySem.W.nsIn K mainGlobals "arms_of" = some (some (.ref f_arms_of)))
    (l_arms_of : K.lookup f_arms_of = some ⟨oc_arms_of, od_arms_of, .func (PySem.W.fnOf "arms_of" "arms_of" (defArgs s_arms_of) (defBody s_arms_of) (defScope s_arms_of) .none kV_arms_of dc_arms_of pm_arms_of an_arms_of cd_arms_of ct_arms_of), sl_arms_of⟩)
    (c_arms_of : PySem.W.codeIn K cd_arms_of "arms_of" = true)
    (k_arms_of : PySem.W.keepIn K (.ref f_arms_of) = true)
    (a_depth : PySem.W.nsIn K mainGlobals "depth" = some (some (.ref f_depth)))
    (l_depth : K.lookup f_depth = some ⟨oc_depth, od_depth, .func (PySem.W.fnOf "depth" "depth" (defArgs s_depth) (defBody s_depth) (defScope s_depth) .none kV_depth dc_depth pm_depth an_depth cd_depth ct_depth), sl_depth⟩)
    (c_depth : PySem.W.codeIn K cd_depth "depth" = true)
    (k_depth : PySem.W.keepIn K (.ref f_depth) = true)
    (a_law_deep : PySem.W.nsIn K mainGlobals "_law_deep" = some (some (.ref f_law_deep)))
    (l_law_deep : K.lookup f_law_deep = some ⟨oc_law_deep, od_law_deep, .func (PySem.W.fnOf "_law_deep" "_law_deep" (defArgs s_law_deep) (defBody s_law_deep) (defScope s_law_deep) .none kV_law_deep dc_law_deep pm_law_deep an_law_deep cd_law_deep ct_law_deep), sl_law_deep⟩)
    (c_law_deep : PySem.W.codeIn K cd_law_deep "_law_deep" = true)
    (k_law_deep : PySem.W.keepIn K (.ref f_law_deep) = true)
    (a_law_led : PySem.W.nsIn K mainGlobals "_law_led" = some (some (.ref f_law_led)))
    (l_law_led : K.lookup f_law_led = some ⟨oc_law_led, od_law_led, .func (PySem.W.fnOf "_law_led" "_law_led" (defArgs s_law_led) (defBody s_law_led) (defScope s_law_led) .none kV_law_led dc_law_led pm_law_led an_law_led cd_law_led ct_law_led), sl_law_led⟩)
    (c_law_led : PySem.W.codeIn K cd_law_led "_law_led" = true)
    (k_law_led : PySem.W.keepIn K (.ref f_law_led) = true)
    (a_law_toward : PySem.W.nsIn K mainGlobals "_law_toward" = some (some (.ref f_law_toward)))
    (l_law_toward : K.lookup f_law_toward = some ⟨oc_law_toward, od_law_toward, .func (PySem.W.fnOf "_law_toward" "_law_toward" (defArgs s_law_toward) (defBody s_law_toward) (defScope s_law_toward) .none kV_law_toward dc_law_toward pm_law_toward an_law_toward cd_law_toward ct_law_toward), sl_law_toward⟩)
    (c_law_toward : PySem.W.codeIn K cd_law_toward "_law_toward" = true)
    (k_law_toward : PySem.W.keepIn K (.ref f_law_toward) = true)
    (a_law_same : PySem.W.nsIn K mainGlobals "_law_same" = some (some (.ref f_law_same)))
    (l_law_same : K.lookup f_law_same = some ⟨oc_law_same, od_law_same, .func (PySem.W.fnOf "_law_same" "_law_same" (defArgs s_law_same) (defBody s_law_same) (defScope s_law_same) .none kV_law_same dc_law_same pm_law_same an_law_same cd_law_same ct_law_same), sl_law_same⟩)
    (c_law_same : PySem.W.codeIn K cd_law_same "_law_same" = true)
    (k_law_same : PySem.W.keepIn K (.ref f_law_same) = true)
    (a_law : PySem.W.nsIn K mainGlobals "law" = some (some (.ref f_law)))
    (l_law : K.lookup f_law = some ⟨oc_law, od_law, .func (PySem.W.fnOf "law" "law" (defArgs s_law) (defBody s_law) (defScope s_law) .none kV_law dc_law pm_law an_law cd_law ct_law), sl_law⟩)
    (c_law : PySem.W.codeIn K cd_law "law" = true)
    (k_law : PySem.W.keepIn K (.ref f_law) = true)
    (z_abs : PySem.W.nsIn K mainGlobals "abs" = some none)
    (z_bool : PySem.W.nsIn K mainGlobals "bool" = some none)
    (z_dict : PySem.W.nsIn K mainGlobals "dict" = some none)
    (z_enumerate : PySem.W.nsIn K mainGlobals "enumerate" = some none)
    (z_int : PySem.W.nsIn K mainGlobals "int" = some none)
    (z_isinstance : PySem.W.nsIn K mainGlobals "isinstance" = some none)
    (z_len : PySem.W.nsIn K mainGlobals "len" = some none)
    (z_max : PySem.W.nsIn K mainGlobals "max" = some none)
    (z_min : PySem.W.nsIn K mainGlobals "min" = some none)
    (z_range : PySem.W.nsIn K mainGlobals "range" = some none)
    (z_sorted : PySem.W.nsIn K mainGlobals "sorted" = some none)
    (z_str : PySem.W.nsIn K mainGlobals "str" = some none)
    (z_tuple : PySem.W.nsIn K mainGlobals "tuple" = some none)
    (z_zip : PySem.W.nsIn K mainGlobals "zip" = some none)
    (math : ∀ ns : List Int, ns.length ≤ 63 → ∃ μ, m_law [.frl (ns.map D.int)] [] = .ok (.bl true) μ) :
    ∃ fd : FuncData, (∀ (s : Shared) (v : Value), BindsTo s fd ⟨[v], []⟩ [("_law_script", v)]) ∧ ∀ base : Heap, K.In base → base.Ns mainGlobals mg → FnG l.prog w K mg base (L2.CX l.prog w) 12 fa fd ["_law_script"] (spLaw K) := by
  have e := hfa.symm.trans (PySem.W.mg_of X G a_law)
  cases e
  have T : Txt K mg := ⟨PySem.W.mg_none_of X G z_abs, PySem.W.mg_none_of X G z_bool, PySem.W.mg_none_of X G z_dict, PySem.W.mg_none_of X G z_enumerate, PySem.W.mg_none_of X G z_int, PySem.W.mg_none_of X G z_isinstance, PySem.W.mg_none_of X G z_len, PySem.W.mg_none_of X G z_max, PySem.W.mg_none_of X G z_min, PySem.W.mg_none_of X G z_range, PySem.W.mg_none_of X G z_sorted, PySem.W.mg_none_of X G z_str, PySem.W.mg_none_of X G z_tuple, PySem.W.mg_none_of X G z_zip⟩
  have F_law_begin := fun_mk (st := s_law_begin) l_law_begin c_law_begin k_law_begin
  have b_law_begin := F_law_begin.binds (ps := ["_law_script"]) fun _ _ _ _ _ _ us hl => match us, hl with | [_], _ => rfl
  have F_law_next := fun_mk (st := s_law_next) l_law_next c_law_next k_law_next
  have b_law_next := F_law_next.binds (ps := ["_law_deck", "_law_many"]) fun _ _ _ _ _ _ us hl => match us, hl with | [_, _], _ => rfl
  have F_law_house := fun_mk (st := s_law_house) l_law_house c_law_house k_law_house
  have b_law_house := F_law_house.binds (ps := ["_law_deck", "_law_most", "_law_top"]) fun _ _ _ _ _ _ us hl => match us, hl with | [_, _, _], _ => rfl
  have F_law_spot := fun_mk (st := s_law_spot) l_law_spot c_law_spot k_law_spot
  have b_law_spot := F_law_spot.binds (ps := ["_law_house_here", "_law_pipe", "_law_at"]) fun _ _ _ _ _ _ us hl => match us, hl with | [_, _, _], _ => rfl
  have F_law_nexts := fun_mk (st := s_law_nexts) l_law_nexts c_law_nexts k_law_nexts
  have b_law_nexts := F_law_nexts.binds (ps := ["_law_house_here"]) fun _ _ _ _ _ _ us hl => match us, hl with | [_], _ => rfl
  have F_law_greater := fun_mk (st := s_law_greater) l_law_greater c_law_greater k_law_greater
  have b_law_greater := F_law_greater.binds (ps := ["_law_house_here", "_law_times"]) fun _ _ _ _ _ _ us hl => match us, hl with | [_, _], _ => rfl
  have F_law_hung := fun_mk (st := s_law_hung) l_law_hung c_law_hung k_law_hung
  have b_law_hung := F_law_hung.binds (ps := ["_law_deck", "_law_house_here"]) fun _ _ _ _ _ _ us hl => match us, hl with | [_, _], _ => rfl
  have F_pipes_at := fun_mk (st := s_pipes_at) l_pipes_at c_pipes_at k_pipes_at
  have b_pipes_at := F_pipes_at.binds (ps := ["house", "room"]) fun _ _ _ _ _ _ us hl => match us, hl with | [_, _], _ => rfl
  have F_place_at := fun_mk (st := s_place_at) l_place_at c_place_at k_place_at
  have b_place_at := F_place_at.binds (ps := ["house", "pipe", "at"]) fun _ _ _ _ _ _ us hl => match us, hl with | [_, _, _], _ => rfl
  have F_rest_beyond := fun_mk (st := s_rest_beyond) l_rest_beyond c_rest_beyond k_rest_beyond
  have b_rest_beyond := F_rest_beyond.binds (ps := ["house", "known", "room", "pipe"]) fun _ _ _ _ _ _ us hl => match us, hl with | [_, _, _, _], _ => rfl
  have F_arms_of := fun_mk (st := s_arms_of) l_arms_of c_arms_of k_arms_of
  have b_arms_of := F_arms_of.binds (ps := ["house", "known", "place"]) fun _ _ _ _ _ _ us hl => match us, hl with | [_, _, _], _ => rfl
  have F_depth := fun_mk (st := s_depth) l_depth c_depth k_depth
  have b_depth := F_depth.binds (ps := ["house", "place", "beside"]) fun _ _ _ _ _ _ us hl => match us, hl with | [_, _, _], _ => rfl
  have F_law_deep := fun_mk (st := s_law_deep) l_law_deep c_law_deep k_law_deep
  have b_law_deep := F_law_deep.binds (ps := ["_law_nexts_here", "_law_place", "_law_beside"]) fun _ _ _ _ _ _ us hl => match us, hl with | [_, _, _], _ => rfl
  have F_law_led := fun_mk (st := s_law_led) l_law_led c_law_led k_law_led
  have b_law_led := F_law_led.binds (ps := ["_law_place", "_law_times"]) fun _ _ _ _ _ _ us hl => match us, hl with | [_, _], _ => rfl
  have F_law_toward := fun_mk (st := s_law_toward) l_law_toward c_law_toward k_law_toward
  have b_law_toward := F_law_toward.binds (ps := ["_law_great", "_law_place", "_law_beside"]) fun _ _ _ _ _ _ us hl => match us, hl with | [_, _, _], _ => rfl
  have F_law_same := fun_mk (st := s_law_same) l_law_same c_law_same k_law_same
  have b_law_same := F_law_same.binds (ps := ["_law_found", "_law_due"]) fun _ _ _ _ _ _ us hl => match us, hl with | [_, _], _ => rfl
  have F_law := fun_mk (st := s_law) l_law c_law k_law
  have b_law := F_law.binds (ps := ["_law_script"]) fun _ _ _ _ _ _ us hl => match us, hl with | [_], _ => rfl
  refine ⟨PySem.W.fnOf "law" "law" (defArgs s_law) (defBody s_law) (defScope s_law) .none kV_law dc_law pm_law an_law cd_law ct_law, fun s v => .of_eq rfl, fun base _ _ => ?_⟩
  have g_law_begin : Fn ⟨l.prog, w, K, mg⟩ base "_law_begin" 1 1 m_law_begin := ⟨f_law_begin, _, _, PySem.W.mg_of X G a_law_begin, F_law_begin.kp, b_law_begin, o_law_begin F_law_begin T⟩
  have g_law_next : Fn ⟨l.prog, w, K, mg⟩ base "_law_next" 1 2 m_law_next := ⟨f_law_next, _, _, PySem.W.mg_of X G a_law_next, F_law_next.kp, b_law_next, o_law_next F_law_next T⟩
  have g_law_house : Fn ⟨l.prog, w, K, mg⟩ base "_law_house" 2 3 m_law_house := ⟨f_law_house, _, _, PySem.W.mg_of X G a_law_house, F_law_house.kp, b_law_house, o_law_house F_law_house T g_law_next⟩
  have g_law_spot : Fn ⟨l.prog, w, K, mg⟩ base "_law_spot" 1 3 m_law_spot := ⟨f_law_spot, _, _, PySem.W.mg_of X G a_law_spot, F_law_spot.kp, b_law_spot, o_law_spot F_law_spot T⟩
  have g_law_nexts : Fn ⟨l.prog, w, K, mg⟩ base "_law_nexts" 2 1 m_law_nexts := ⟨f_law_nexts, _, _, PySem.W.mg_of X G a_law_nexts, F_law_nexts.kp, b_law_nexts, o_law_nexts F_law_nexts T g_law_spot⟩
  have g_law_greater : Fn ⟨l.prog, w, K, mg⟩ base "_law_greater" 1 2 m_law_greater := ⟨f_law_greater, _, _, PySem.W.mg_of X G a_law_greater, F_law_greater.kp, b_law_greater, o_law_greater F_law_greater T⟩
  have g_law_hung : Fn ⟨l.prog, w, K, mg⟩ base "_law_hung" 2 2 m_law_hung := ⟨f_law_hung, _, _, PySem.W.mg_of X G a_law_hung, F_law_hung.kp, b_law_hung, o_law_hung F_law_hung T g_law_next⟩
  have g_pipes_at : Fn ⟨l.prog, w, K, mg⟩ base "pipes_at" 1 2 m_pipes_at := ⟨f_pipes_at, _, _, PySem.W.mg_of X G a_pipes_at, F_pipes_at.kp, b_pipes_at, o_pipes_at F_pipes_at T⟩
  have g_place_at : Fn ⟨l.prog, w, K, mg⟩ base "place_at" 1 3 m_place_at := ⟨f_place_at, _, _, PySem.W.mg_of X G a_place_at, F_place_at.kp, b_place_at, o_place_at F_place_at T⟩
  have g_rest_beyond : Fn ⟨l.prog, w, K, mg⟩ base "rest_beyond" 9 4 (m_rest_beyond 8) := ⟨f_rest_beyond, _, _, PySem.W.mg_of X G a_rest_beyond, F_rest_beyond.kp, b_rest_beyond, o_rest_beyond F_rest_beyond T (PySem.W.mg_of X G a_rest_beyond) b_rest_beyond g_pipes_at 8⟩
  have g_arms_of : Fn ⟨l.prog, w, K, mg⟩ base "arms_of" 10 3 m_arms_of := ⟨f_arms_of, _, _, PySem.W.mg_of X G a_arms_of, F_arms_of.kp, b_arms_of, o_arms_of F_arms_of T g_pipes_at g_place_at g_rest_beyond⟩
  have g_depth : Fn ⟨l.prog, w, K, mg⟩ base "depth" 11 3 m_depth := ⟨f_depth, _, _, PySem.W.mg_of X G a_depth, F_depth.kp, b_depth, o_depth F_depth T g_arms_of⟩
  have g_law_deep : Fn ⟨l.prog, w, K, mg⟩ base "_law_deep" 1 3 m_law_deep := ⟨f_law_deep, _, _, PySem.W.mg_of X G a_law_deep, F_law_deep.kp, b_law_deep, o_law_deep F_law_deep T⟩
  have g_law_led : Fn ⟨l.prog, w, K, mg⟩ base "_law_led" 1 2 m_law_led := ⟨f_law_led, _, _, PySem.W.mg_of X G a_law_led, F_law_led.kp, b_law_led, o_law_led F_law_led T⟩
  have g_law_toward : Fn ⟨l.prog, w, K, mg⟩ base "_law_toward" 2 3 m_law_toward := ⟨f_law_toward, _, _, PySem.W.mg_of X G a_law_toward, F_law_toward.kp, b_law_toward, o_law_toward F_law_toward T g_law_spot⟩
  have g_law_same : Fn ⟨l.prog, w, K, mg⟩ base "_law_same" 8 2 (m_law_same 8) := ⟨f_law_same, _, _, PySem.W.mg_of X G a_law_same, F_law_same.kp, b_law_same, o_law_same F_law_same T (PySem.W.mg_of X G a_law_same) b_law_same 8⟩
  exact (o_law (P := l.prog) (w := w) (base := base) F_law T g_law_begin g_law_house g_law_nexts g_law_greater g_law_next g_law_hung g_depth g_law_deep g_law_led g_law_toward g_law_same).less fun vs H Q E q => law_sp (G := ⟨l.prog, w, K, mg⟩) math q
theorem walk {l : PySem.W.OpenLaw} {q : Program} {loose : List Str} {XP : (Str → Option Value) → Heap → Prop} {YP : World → Heap → Prop} {d : DefRec} {K : Params → PySem.W.Frag} (hn : l.most = some 63) (hdf : d.params.defaults = [])
    (hY : ∀ (w : World) (h : Heap), YP w h → (K w.params).In h)
    (F : ∀ (w : World) (mg : Str → Option Value) (fa : Addr) (h : Heap), (K w.params).In h → h.Ns mainGlobals mg → mg d.name = some (.ref fa) →
      ∃ fd : FuncData, (∀ (s : Shared) (u : Value), BindsTo s fd ⟨[u], []⟩ [("_law_script", u)]) ∧ ∀ base : Heap, (K w.params).In base → base.Ns mainGlobals mg → FnG l.prog w (K w.params) mg base (L2.CX l.prog w) 12 fa fd ["_law_script"] (spLaw (K w.params))) :
    PySem.W.WalkO q loose XP YP l.row.toRowW d [] (fun f vs => PySem.call f vs) :=
  RW.walkG (n := 63) (k := 12) (x := "_law_script") (Z := fun w => L2.CX l.prog w) (pr := fun w => spLaw (K w.params)) hn (by decide) hdf ⟨⟨rfl, by decide, by decide⟩, rfl⟩ hY F (fun _ _ a ns hl hO hS => ⟨a, ns, rfl, only_frl hO hS, hl, fun _ => rfl⟩) fun _ _ _ _ _ ⟨_, _, _, _, _, _, _, _, _, _, _, _, z⟩ => z
end K43

/-! S0: houses as data (for families without family A's deck). -/
namespace K43
open PySem L2 RW
/-! ### pipes -/
structure Pipe where
  a : Int
  b : Int
  len : Int
  nar : List (Int × Int)
  fl : List (Int × Int)
def pairD (p : Int × Int) : D := .tup [.int p.1, .int p.2]
def Pipe.d (p : Pipe) : D := .tup [.int p.a, .int p.b, .int p.len, .tup (p.nar.map pairD), .tup (p.fl.map pairD)]
/-- what stands on a pipe -/
structure Pipe.Ok (p : Pipe) : Prop where
  l1 : 1 ≤ p.len
  l2 : p.len ≤ 1000000000000
  n1 : (p.nar.map (·.1)).Pairwise (· < ·)
  n2 : ∀ x ∈ p.nar, 1 ≤ x.1 ∧ x.1 ≤ p.len - 1 ∧ 1 ≤ x.2 ∧ x.2 ≤ 1000000
  f1 : (p.fl.map (·.1)).Pairwise (· < ·)
  f2 : ∀ x ∈ p.fl, 0 ≤ x.1 ∧ x.1 ≤ p.len - 1 ∧ (x.2 = 1 ∨ x.2 = -1)
/-! ### houses -/
def upTo (n : Nat) : List Int := (List.range n).map fun (i : Nat) => (i : Int)
theorem upTo_succ (n : Nat) : upTo (n + 1) = upTo n ++ [(n : Int)] := by simp [upTo, List.range_succ]
theorem upTo_len (n : Nat) : (upTo n).length = n := by simp [upTo]
theorem mem_upTo {n : Nat} {x : Int} : x ∈ upTo n ↔ 0 ≤ x ∧ x < n := by
  simp only [upTo, List.mem_map, List.mem_range]
  exact ⟨fun ⟨a, h, e⟩ => by omega, fun h => ⟨x.toNat, by omega, by omega⟩⟩
theorem upTo_nodup (n : Nat) : (upTo n).Nodup := by
  induction n with
  | zero => exact .nil
  | succ n ih =>
    rw [upTo_succ, List.nodup_append]
    exact ⟨ih, by simp, fun a ha b hb e => by simp at hb; have := (mem_upTo.mp ha); omega⟩
inductive Tree : List Int → List Pipe → Prop
  | one (x : Int) : Tree [x] []
  | grow {S : List Int} {ps1 ps2 : List Pipe} {p : Pipe} {x y : Int} (t : Tree S (ps1 ++ ps2)) (hy : y ∈ S) (hx : x ∉ S) (he : (p.a = y ∧ p.b = x) ∨ (p.a = x ∧ p.b = y)) (hl : p.a < p.b) : Tree (S ++ [x]) (ps1 ++ p :: ps2)
def houseD (R : Nat) (ps : List Pipe) : D := .tup [.int R, .tup (ps.map Pipe.d)]
structure House (R : Nat) (ps : List Pipe) : Prop where
  r1 : 1 ≤ R
  r2 : R ≤ 16
  tree : ∃ S : List Int, S.Perm (upTo R) ∧ Tree S ps
  len : ps.length + 1 = R
  ok : ∀ p ∈ ps, p.Ok
  rng : ∀ p ∈ ps, 0 ≤ p.a ∧ p.a < p.b ∧ p.b < R
  nar : ((ps.map fun p => (p.nar.length : Int)).sum) ≤ 12
  fla : ((ps.map fun p => (p.fl.length : Int)).sum) ≤ 6
theorem sum_ins (f : Pipe → Int) (l1 l2 : List Pipe) (p : Pipe) : ((l1 ++ [p] ++ l2).map f).sum = ((l1 ++ l2).map f).sum + f p := by
  simp only [List.map_append, List.map_cons, List.map_nil, List.sum_append, List.sum_cons, List.sum_nil]; omega
end K43

/-! Q4B: comprehensions over ints, ranges. -/
namespace K43
open PySem L2 RW
namespace Q
theorem comp_mapD {chk : Mem → Prop} {te : MD} {ρ0 : Rho} {i : Nat} (xs : List Int) (f : Int → D) (μ : Mem) (hc : chk μ) (ht : ∀ x ∈ xs, te (ρ0.set i (some (.int x))) μ = .ok (f x) μ) (hl : xs.length < 100000) :
    compL chk (gN i) mYes te ρ0 (xs.map D.int) [] μ = .ok (xs.map f) μ := by
  have key := compL_ok (chk := chk) (g := gN i) (tt := mYes) (te := te) (ρ0 := ρ0) (xs.map D.int) (fun j acc μ' => j ≤ xs.length ∧ acc = (xs.take j).map f ∧ μ' = μ) 0 (acc := []) (μ := μ) ⟨Nat.zero_le _, by simp, rfl⟩
    (fun _ _ _ ⟨_, _, e⟩ => e ▸ hc) (fun j d acc μ' e ⟨hj, ea, em⟩ => by
      simp only [Nat.zero_add] at hj ea em ⊢
      subst em
      rw [List.getElem?_map] at e
      obtain ⟨x, ex, rfl⟩ := Option.map_eq_some_iff.mp e
      have hj2 := (List.getElem?_eq_some_iff.mp ex).1
      refine .mk (μ := μ') rfl (.mk (μ := μ') rfl ?_)
      rw [if_pos rfl]
      refine ⟨by rw [ea, List.length_map, List.length_take, sizeLine_eq]; omega, .mk (ht x (List.mem_of_getElem? ex)) ⟨by omega, ?_, rfl⟩⟩
      rw [ea, List.take_add_one, ex]; simp)
  rw [List.length_map, Nat.zero_add] at key
  obtain ⟨l, μ', e, _, rfl, rfl⟩ := key
  rw [e, List.take_length]
theorem range_at {lo : Int} {n i : Nat} {d : D} (e : (rangeItems lo n)[i]? = some d) : i < n ∧ d = .int (lo + (i : Int)) := by
  unfold rangeItems at e
  rw [List.getElem?_map] at e
  obtain ⟨x, ex, rfl⟩ := Option.map_eq_some_iff.mp e
  obtain ⟨h1, h2⟩ := List.getElem?_eq_some_iff.mp ex
  rw [List.length_range] at h1
  rw [List.getElem_range] at h2
  exact ⟨h1, by rw [h2]⟩
theorem range_len {lo : Int} {n : Nat} : (rangeItems lo n).length = n := by unfold rangeItems; simp
end Q
end K43

namespace K43
open PySem L2 RW
/-! ### distances of rooms in a tree -/
/-- at room s, pipe p leads nearer to room r -/
def Cls' (g : Int → Int → Int) (r s : Int) (p : Pipe) : Prop := (p.a = s ∧ g r p.b + p.len = g r s) ∨ (p.b = s ∧ g r p.a + p.len = g r s)
structure Metric (g : Int → Int → Int) (S : List Int) (ps : List Pipe) : Prop where
  ends : ∀ p ∈ ps, p.a ∈ S ∧ p.b ∈ S ∧ p.a < p.b
  nd : ps.Nodup
  m0 : ∀ r ∈ S, g r r = 0
  ms : ∀ r ∈ S, ∀ s ∈ S, g r s = g s r
  mn : ∀ r ∈ S, ∀ s ∈ S, 0 ≤ g r s
  mp : ∀ r ∈ S, ∀ p ∈ ps, g r p.b = g r p.a + p.len ∨ g r p.a = g r p.b + p.len
  me : ∀ r ∈ S, ∀ s ∈ S, r ≠ s → ∃ p ∈ ps, Cls' g r s p
  mu : ∀ r ∈ S, ∀ s ∈ S, ∀ p ∈ ps, ∀ q ∈ ps, Cls' g r s p → Cls' g r s q → p = q
  side : ∀ p ∈ ps, ∀ q ∈ ps, p ≠ q → (g p.a q.a < g p.b q.a ↔ g p.a q.b < g p.b q.b)
/-- room x put on room y by a pipe of length l -/
def gX (g : Int → Int → Int) (x y l : Int) (u v : Int) : Int := if u = x then (if v = x then 0 else l + g y v) else if v = x then g u y + l else g u v
theorem mem_mid {p q : Pipe} {ps1 ps2 : List Pipe} : q ∈ ps1 ++ p :: ps2 ↔ q = p ∨ q ∈ ps1 ++ ps2 := by
  simp only [List.mem_append, List.mem_cons]
  constructor
  · rintro (h | h | h)
    · exact .inr (.inl h)
    · exact .inl h
    · exact .inr (.inr h)
  · rintro (h | h | h)
    · exact .inr (.inl h)
    · exact .inl h
    · exact .inr (.inr h)
section
variable {g : Int → Int → Int} {x y l u v : Int}
theorem gX_old (hu : u ≠ x) (hv : v ≠ x) : gX g x y l u v = g u v := by unfold gX; rw [if_neg hu, if_neg hv]
theorem gX_new (hv : v ≠ x) : gX g x y l x v = l + g y v := by unfold gX; rw [if_pos rfl, if_neg hv]
theorem gX_to (hu : u ≠ x) : gX g x y l u x = g u y + l := by unfold gX; rw [if_neg hu, if_pos rfl]
theorem gX_self : gX g x y l x x = 0 := by unfold gX; rw [if_pos rfl, if_pos rfl]
end
theorem Metric.grow {g : Int → Int → Int} {S : List Int} {ps1 ps2 : List Pipe} {p : Pipe} {x y : Int} (M : Metric g S (ps1 ++ ps2)) (hy : y ∈ S) (hx : x ∉ S) (he : (p.a = y ∧ p.b = x) ∨ (p.a = x ∧ p.b = y)) (hl : p.a < p.b) (h1 : 1 ≤ p.len) (hok : ∀ q ∈ ps1 ++ ps2, 1 ≤ q.len) :
    Metric (gX g x y p.len) (S ++ [x]) (ps1 ++ p :: ps2) := by
  have ne : ∀ {r : Int}, r ∈ S → r ≠ x := fun h e => hx (e ▸ h)
  have nyx : y ≠ x := ne hy
  have hm : ∀ {r : Int}, r ∈ S ++ [x] → r = x ∨ r ∈ S := fun h => by simp at h; exact h.symm
  have oldp : ∀ q ∈ ps1 ++ ps2, q ≠ p := fun q hq e => by
    obtain ⟨e1, e2, _⟩ := M.ends q hq
    rcases he with ⟨_, h⟩ | ⟨h, _⟩
    · exact hx (by rw [← h, ← e]; exact e2)
    · exact hx (by rw [← h, ← e]; exact e1)
  -- the new distances at old rooms
  have qO : ∀ {r s : Int}, r ∈ S → s ∈ S → gX g x y p.len r s = g r s := fun hr hs => gX_old (ne hr) (ne hs)
  have qN : ∀ {s : Int}, s ∈ S → gX g x y p.len x s = p.len + g y s := fun hs => gX_new (ne hs)
  have qT : ∀ {r : Int}, r ∈ S → gX g x y p.len r x = g r y + p.len := fun hr => gX_to (ne hr)
  -- closer by an old pipe at an old room
  have clsO : ∀ {r s : Int} {q : Pipe}, r ∈ S → s ∈ S → q ∈ ps1 ++ ps2 → (Cls' (gX g x y p.len) r s q ↔ Cls' g r s q) := fun {r s q} hr hs hq => by
    obtain ⟨e1, e2, _⟩ := M.ends q hq
    unfold Cls'
    rw [qO hr e2, qO hr e1, qO hr hs]
  have clsX : ∀ {s : Int} {q : Pipe}, s ∈ S → q ∈ ps1 ++ ps2 → (Cls' (gX g x y p.len) x s q ↔ Cls' g y s q) := fun {s q} hs hq => by
    obtain ⟨e1, e2, _⟩ := M.ends q hq
    unfold Cls'
    rw [qN e2, qN e1, qN hs]
    constructor
    · rintro (⟨h, h'⟩ | ⟨h, h'⟩)
      · exact .inl ⟨h, by omega⟩
      · exact .inr ⟨h, by omega⟩
    · rintro (⟨h, h'⟩ | ⟨h, h'⟩)
      · exact .inl ⟨h, by omega⟩
      · exact .inr ⟨h, by omega⟩
  -- old pipes don't touch x
  have notx : ∀ {q : Pipe} {r : Int}, q ∈ ps1 ++ ps2 → ¬ Cls' (gX g x y p.len) r x q := fun {q r} hq h => by
    obtain ⟨e1, e2, _⟩ := M.ends q hq
    rcases h with ⟨h, _⟩ | ⟨h, _⟩
    · exact hx (h ▸ e1)
    · exact hx (h ▸ e2)
  -- the new pipe is nearer only at x (for old r), at y (for x)
  have newO : ∀ {r s : Int}, r ∈ S → s ∈ S → ¬ Cls' (gX g x y p.len) r s p := fun {r s} hr hs h => by
    have hn := M.mn r hr y hy
    rcases he with ⟨ha, hb⟩ | ⟨ha, hb⟩
    · rcases h with ⟨h, h'⟩ | ⟨h, h'⟩
      · rw [hb, qT hr, ← h, ha, qO hr hy] at h'; omega
      · exact hx (by rw [← hb, h]; exact hs)
    · rcases h with ⟨h, h'⟩ | ⟨h, h'⟩
      · exact hx (by rw [← ha, h]; exact hs)
      · rw [ha, qT hr, ← h, hb, qO hr hy] at h'; omega
  refine ⟨fun q hq => ?_, ?_, fun r hr => ?_, fun r hr s hs => ?_, fun r hr s hs => ?_, fun r hr q hq => ?_, fun r hr s hs hne => ?_, fun r hr s hs q hq q' hq' c c' => ?_, fun q hq q' hq' hne => ?_⟩
  · have hm' := mem_mid.mp hq; clear hq; rcases hm' with rfl | hq
    · rcases he with ⟨ha, hb⟩ | ⟨ha, hb⟩
      · exact ⟨by rw [ha]; simp [hy], by rw [hb]; simp, hl⟩
      · exact ⟨by rw [ha]; simp, by rw [hb]; simp [hy], hl⟩
    · obtain ⟨e1, e2, e3⟩ := M.ends q hq
      exact ⟨by simp [e1], by simp [e2], e3⟩
  · have h2 := M.nd
    rw [List.nodup_append] at h2 ⊢
    refine ⟨h2.1, List.nodup_cons.mpr ⟨fun h => oldp p (by simp [h]) rfl, h2.2.1⟩, fun a ha b hb e => ?_⟩
    rcases List.mem_cons.mp hb with rfl | hb
    · exact oldp a (by simp [ha]) e
    · exact h2.2.2 a ha b hb e
  · have hm' := hm hr; clear hr; rcases hm' with rfl | hr
    · exact gX_self
    · rw [qO hr hr]; exact M.m0 r hr
  · have hm' := hm hr; clear hr; rcases hm' with rfl | hr
    · have hm' := hm hs; clear hs; rcases hm' with rfl | hs
      · rfl
      · rw [qN hs, qT hs, M.ms y hy s hs]; omega
    · have hm' := hm hs; clear hs; rcases hm' with rfl | hs
      · rw [qN hr, qT hr, M.ms r hr y hy]; omega
      · rw [qO hr hs, qO hs hr]; exact M.ms r hr s hs
  · have hm' := hm hr; clear hr; rcases hm' with rfl | hr
    · have hm' := hm hs; clear hs; rcases hm' with rfl | hs
      · rw [gX_self]; omega
      · rw [qN hs]; have := M.mn y hy s hs; omega
    · have hm' := hm hs; clear hs; rcases hm' with rfl | hs
      · rw [qT hr]; have := M.mn r hr y hy; omega
      · rw [qO hr hs]; exact M.mn r hr s hs
  · have hm' := mem_mid.mp hq; clear hq; rcases hm' with rfl | hq
    · have hm' := hm hr; clear hr; rcases hm' with rfl | hr
      · rcases he with ⟨ha, hb⟩ | ⟨ha, hb⟩
        · rw [ha, hb, gX_self, qN hy, M.m0 y hy]; exact .inr (by omega)
        · rw [ha, hb, gX_self, qN hy, M.m0 y hy]; exact .inl (by omega)
      · rcases he with ⟨ha, hb⟩ | ⟨ha, hb⟩
        · rw [ha, hb, qT hr, qO hr hy]; exact .inl rfl
        · rw [ha, hb, qT hr, qO hr hy]; exact .inr rfl
    · obtain ⟨e1, e2, _⟩ := M.ends q hq
      have hm' := hm hr; clear hr; rcases hm' with rfl | hr
      · rw [qN e1, qN e2]
        rcases M.mp y hy q hq with h | h
        · exact .inl (by omega)
        · exact .inr (by omega)
      · rw [qO hr e1, qO hr e2]; exact M.mp r hr q hq
  · have hm' := hm hr; clear hr; rcases hm' with rfl | hr
    · have hm' := hm hs; clear hs; rcases hm' with rfl | hs
      · exact absurd rfl hne
      · by_cases hsy : s = y
        · subst hsy
          refine ⟨p, mem_mid.mpr (.inl rfl), ?_⟩
          rcases he with ⟨ha, hb⟩ | ⟨ha, hb⟩
          · exact .inl ⟨ha, by rw [hb, gX_self, qN hs, M.m0 s hs]; omega⟩
          · exact .inr ⟨hb, by rw [ha, gX_self, qN hs, M.m0 s hs]; omega⟩
        · obtain ⟨q, hq, c⟩ := M.me y hy s hs (Ne.symm hsy)
          exact ⟨q, mem_mid.mpr (.inr hq), (clsX hs hq).mpr c⟩
    · have hm' := hm hs; clear hs; rcases hm' with rfl | hs
      · refine ⟨p, mem_mid.mpr (.inl rfl), ?_⟩
        rcases he with ⟨ha, hb⟩ | ⟨ha, hb⟩
        · exact .inr ⟨hb, by rw [ha, qO hr hy, qT hr]⟩
        · exact .inl ⟨ha, by rw [hb, qO hr hy, qT hr]⟩
      · obtain ⟨q, hq, c⟩ := M.me r hr s hs hne
        exact ⟨q, mem_mid.mpr (.inr hq), (clsO hr hs hq).mpr c⟩
  · -- only one
    have atX : ∀ {q : Pipe} {s : Int}, s ∈ S → Cls' (gX g x y p.len) x s p → s = y := fun {q s} hs h => by
      rcases he with ⟨ha, hb⟩ | ⟨ha, hb⟩
      · rcases h with ⟨h, _⟩ | ⟨h, _⟩
        · exact h.symm.trans ha
        · exact (hx (by rw [← hb, h]; exact hs)).elim
      · rcases h with ⟨h, _⟩ | ⟨h, _⟩
        · exact (hx (by rw [← ha, h]; exact hs)).elim
        · exact h.symm.trans hb
    have atY : ∀ {q : Pipe}, q ∈ ps1 ++ ps2 → ¬ Cls' g y y q := fun {q} hq h => by
      obtain ⟨e1, e2, _⟩ := M.ends q hq
      have hq1 := hok q hq
      rw [Cls', M.m0 y hy] at h
      rcases h with ⟨_, h⟩ | ⟨_, h⟩
      · have := M.mn y hy q.b e2; omega
      · have := M.mn y hy q.a e1; omega
    have hm' := mem_mid.mp hq; clear hq; rcases hm' with hq | hq
    · have hm' := mem_mid.mp hq'; clear hq'; rcases hm' with hq' | hq'
      · rw [hq, hq']
      · subst hq
        exfalso
        have hm' := hm hs; clear hs; rcases hm' with rfl | hs
        · exact notx hq' c'
        · have hm' := hm hr; clear hr; rcases hm' with rfl | hr
          · have e := atX (q := q) hs c
            subst e
            exact atY hq' ((clsX hs hq').mp c')
          · exact newO hr hs c
    · have hm' := mem_mid.mp hq'; clear hq'; rcases hm' with hq' | hq'
      · subst hq'
        exfalso
        have hm' := hm hs; clear hs; rcases hm' with rfl | hs
        · exact notx hq c
        · have hm' := hm hr; clear hr; rcases hm' with rfl | hr
          · have e := atX (q := q') hs c'
            subst e
            exact atY hq ((clsX hs hq).mp c)
          · exact newO hr hs c'
      · have hm' := hm hs; clear hs; rcases hm' with rfl | hs
        · exact (notx hq c).elim
        · have hm' := hm hr; clear hr; rcases hm' with rfl | hr
          · exact M.mu y hy s hs q hq q' hq' ((clsX hs hq).mp c) ((clsX hs hq').mp c')
          · exact M.mu r hr s hs q hq q' hq' ((clsO hr hs hq).mp c) ((clsO hr hs hq').mp c')
  · have hm' := mem_mid.mp hq; clear hq; rcases hm' with hq | hq
    · have hm' := mem_mid.mp hq'; clear hq'; rcases hm' with hq' | hq'
      · exact absurd (hq.trans hq'.symm) hne
      · obtain ⟨e1, e2, _⟩ := M.ends q' hq'
        rw [hq]
        rcases he with ⟨ha, hb⟩ | ⟨ha, hb⟩
        · rw [ha, hb, qN e1, qN e2, qO hy e1, qO hy e2]
          exact ⟨fun _ => by omega, fun _ => by omega⟩
        · rw [ha, hb, qN e1, qN e2, qO hy e1, qO hy e2]
          exact ⟨fun _ => by omega, fun _ => by omega⟩
    · obtain ⟨f1, f2, _⟩ := M.ends q hq
      have hm' := mem_mid.mp hq'; clear hq'; rcases hm' with hq' | hq'
      · rw [hq']
        rcases he with ⟨ha, hb⟩ | ⟨ha, hb⟩
        · rw [ha, hb, qT f1, qT f2, qO f1 hy, qO f2 hy]
          exact ⟨fun _ => by omega, fun _ => by omega⟩
        · rw [ha, hb, qT f1, qT f2, qO f1 hy, qO f2 hy]
          exact ⟨fun _ => by omega, fun _ => by omega⟩
      · obtain ⟨e1, e2, _⟩ := M.ends q' hq'
        rw [qO f1 e1, qO f2 e1, qO f1 e2, qO f2 e2]
        exact M.side q hq q' hq' hne
theorem Tree.metric {S : List Int} {ps : List Pipe} (t : Tree S ps) (hok : ∀ q ∈ ps, 1 ≤ q.len) : ∃ g, Metric g S ps := by
  induction t with
  | one x => exact ⟨fun _ _ => 0, by simp, .nil, fun _ _ => rfl, fun _ _ _ _ => rfl, fun _ _ _ _ => Int.le_refl _, by simp, fun r hr s hs hne => (hne (by simp at hr hs; rw [hr, hs])).elim, by simp, by simp⟩
  | @grow S ps1 ps2 p x y t hy hx he hl ih =>
    obtain ⟨g, M⟩ := ih fun q hq => hok q (mem_mid.mpr (.inr hq))
    exact ⟨_, M.grow hy hx he hl (hok p (mem_mid.mpr (.inl rfl))) fun q hq => hok q (mem_mid.mpr (.inr hq))⟩
end K43

namespace K43
open PySem L2 RW
/-! ### places -/
inductive Pl where
  | room (r : Int) | on (i : Nat) (k : Int)
  deriving DecidableEq
/-- the place k steps along pipe i -/
def ln (p : Pipe) (i : Nat) (k : Int) : Pl := if k = 0 then .room p.a else if k = p.len then .room p.b else .on i k
def hOf (g : Int → Int → Int) (ps : List Pipe) (a : Pl) (r : Int) : Int := match a with
  | .room s => g s r
  | .on i j => match ps[i]? with
    | some p => min (j + g p.a r) (p.len - j + g p.b r)
    | none => 0
def IsPl (S : List Int) (ps : List Pipe) : Pl → Prop
  | .room r => r ∈ S
  | .on i k => ∃ p, ps[i]? = some p ∧ 0 < k ∧ k < p.len
/-- pipe q at room x leads nearer to the place a -/
def Cl (h : Int → Int) (a : Pl) (q : Nat) (p : Pipe) (x : Int) : Prop := (p.a = x ∨ p.b = x) ∧ ((∃ j, a = .on q j) ∨ (p.a = x ∧ h p.b + p.len = h x) ∨ (p.b = x ∧ h p.a + p.len = h x))
structure Root (S : List Int) (ps : List Pipe) (a : Pl) (h : Int → Int) : Prop where
  h1 : ∀ q p, ps[q]? = some p → (∀ j, a ≠ .on q j) → h p.b = h p.a + p.len ∨ h p.a = h p.b + p.len
  h2 : ∀ i j p, a = .on i j → ps[i]? = some p → h p.a = j ∧ h p.b = p.len - j ∧ 0 < j ∧ j < p.len
  he : ∀ x ∈ S, a ≠ .room x → ∃ q p, ps[q]? = some p ∧ Cl h a q p x
  hu : ∀ x ∈ S, ∀ q p q' p', ps[q]? = some p → ps[q']? = some p' → Cl h a q p x → Cl h a q' p' x → q = q'
  h4 : ∀ x ∈ S, 0 ≤ h x ∧ (h x = 0 → a = .room x)
  h5 : ∀ s, a = .room s → h s = 0
theorem ix_inj {ps : List Pipe} (nd : ps.Nodup) {i j : Nat} {p : Pipe} (h : ps[i]? = some p) (h' : ps[j]? = some p) : i = j := by
  obtain ⟨h1, e1⟩ := List.getElem?_eq_some_iff.mp h
  obtain ⟨h2, e2⟩ := List.getElem?_eq_some_iff.mp h'
  exact (List.getElem_inj nd).mp (e1.trans e2.symm)
theorem root_room {g : Int → Int → Int} {S : List Int} {ps : List Pipe} (M : Metric g S ps) (hok : ∀ q ∈ ps, 1 ≤ q.len) {s : Int} (hs : s ∈ S) : Root S ps (.room s) (hOf g ps (.room s)) := by
  have cl : ∀ {x : Int} {q : Nat} {p : Pipe}, Cl (hOf g ps (.room s)) (.room s) q p x ↔ Cls' g s x p := fun {x q p} => by
    unfold Cl Cls'
    constructor
    · rintro ⟨_, ⟨_, h⟩ | h⟩
      · cases h
      · exact h
    · intro h
      exact ⟨h.imp (·.1) (·.1), .inr h⟩
  refine ⟨fun q p e _ => M.mp s hs p (List.mem_of_getElem? e), fun i j p e => (nomatch e), fun x hx hne => ?_, fun x hx q p q' p' e e' c c' => ?_, fun x hx => ⟨M.mn s hs x hx, fun h0 => ?_⟩, fun r e => by cases e; exact M.m0 s hs⟩
  · obtain ⟨p, hp, c⟩ := M.me s hs x hx (fun e => hne (by rw [e]))
    obtain ⟨q, e⟩ := List.mem_iff_getElem?.mp hp
    exact ⟨q, p, e, cl.mpr c⟩
  · have := M.mu s hs x hx p (List.mem_of_getElem? e) p' (List.mem_of_getElem? e') (cl.mp c) (cl.mp c')
    subst this
    exact ix_inj M.nd e e'
  · by_cases hsx : s = x
    · rw [hsx]
    · exfalso
      obtain ⟨p, hp, c⟩ := M.me s hs x hx hsx
      obtain ⟨e1, e2, _⟩ := M.ends p hp
      have := hok p hp
      have h0' : g s x = 0 := h0
      rcases c with ⟨_, c⟩ | ⟨_, c⟩
      · have := M.mn s hs p.b e2; omega
      · have := M.mn s hs p.a e1; omega
theorem root_on {g : Int → Int → Int} {S : List Int} {ps : List Pipe} (M : Metric g S ps) (hok : ∀ q ∈ ps, 1 ≤ q.len) {i : Nat} {j : Int} {P : Pipe} (hP : ps[i]? = some P) (j0 : 0 < j) (j1 : j < P.len) : Root S ps (.on i j) (hOf g ps (.on i j)) := by
  have hm := List.mem_of_getElem? hP
  obtain ⟨hu, hv, _⟩ := M.ends P hm
  have hh : ∀ r, hOf g ps (.on i j) r = min (j + g P.a r) (P.len - j + g P.b r) := fun r => by simp only [hOf, hP]
  have guv : g P.a P.b = P.len := by
    have := M.mp P.a hu P hm
    rw [M.m0 P.a hu] at this
    have := M.mn P.a hu P.b hv
    have := hok P hm
    omega
  have gvu : g P.b P.a = P.len := by rw [M.ms P.b hv P.a hu]; exact guv
  -- the two sides
  have side : ∀ r ∈ S, (g P.b r = g P.a r + P.len ∧ hOf g ps (.on i j) r = j + g P.a r) ∨ (g P.a r = g P.b r + P.len ∧ hOf g ps (.on i j) r = P.len - j + g P.b r) := fun r hr => by
    rw [hh]
    have h1 := M.mp r hr P hm
    rw [M.ms r hr P.b hv, M.ms r hr P.a hu] at h1
    rcases h1 with h1 | h1
    · exact .inl ⟨h1, by omega⟩
    · exact .inr ⟨h1, by omega⟩
  have same : ∀ p ∈ ps, p ≠ P → (g P.a p.a < g P.b p.a ↔ g P.a p.b < g P.b p.b) := fun p hp hne => M.side P hm p hp (Ne.symm hne)
  have hl := hok P hm
  -- of another pipe: both ends on one side
  have both : ∀ p ∈ ps, p ≠ P → ∃ (w : Int) (c : Int), w ∈ S ∧ (w = P.a ∨ w = P.b) ∧ 0 < c ∧ hOf g ps (.on i j) p.a = c + g w p.a ∧ hOf g ps (.on i j) p.b = c + g w p.b := fun p hp hne => by
    obtain ⟨e1, e2, _⟩ := M.ends p hp
    have hs := same p hp hne
    rcases side p.a e1 with ⟨a1, a2⟩ | ⟨a1, a2⟩
    · rcases side p.b e2 with ⟨b1, b2⟩ | ⟨b1, b2⟩
      · exact ⟨P.a, j, hu, .inl rfl, j0, a2, b2⟩
      · exfalso; have : g P.a p.a < g P.b p.a := by omega
        have := hs.mp this; omega
    · rcases side p.b e2 with ⟨b1, b2⟩ | ⟨b1, b2⟩
      · exfalso; have : g P.a p.b < g P.b p.b := by omega
        have := hs.mpr this; omega
      · exact ⟨P.b, P.len - j, hv, .inr rfl, by omega, a2, b2⟩
  have hpos : ∀ x ∈ S, 0 < hOf g ps (.on i j) x := fun x hx => by
    have g1 := M.mn P.a hu x hx
    have g2 := M.mn P.b hv x hx
    rw [hh]; omega
  have hua : hOf g ps (.on i j) P.a = j := by rw [hh, M.m0 P.a hu, gvu]; omega
  have hvb : hOf g ps (.on i j) P.b = P.len - j := by rw [hh, M.m0 P.b hv, guv]; omega
  have other : ∀ {q : Nat} {p : Pipe}, ps[q]? = some p → q ≠ i → p ≠ P := fun {q p} e hq hp => hq (ix_inj M.nd (hp ▸ e) hP)
  have clO : ∀ {x : Int} {q : Nat} {p : Pipe}, ps[q]? = some p → q ≠ i → Cl (hOf g ps (.on i j)) (.on i j) q p x → (p.a = x ∧ hOf g ps (.on i j) p.b + p.len = hOf g ps (.on i j) x) ∨ (p.b = x ∧ hOf g ps (.on i j) p.a + p.len = hOf g ps (.on i j) x) := fun {x q p} e hq ⟨_, c⟩ => by
    rcases c with ⟨_, c⟩ | c
    · cases c; exact absurd rfl hq
    · exact c
  -- closer by another pipe: closer to w, with x on w's side
  have near : ∀ {x : Int} {q : Nat} {p : Pipe}, x ∈ S → ps[q]? = some p → q ≠ i → Cl (hOf g ps (.on i j)) (.on i j) q p x → ∃ w c, w ∈ S ∧ (w = P.a ∨ w = P.b) ∧ hOf g ps (.on i j) x = c + g w x ∧ Cls' g w x p ∧ 0 < c ∧ x ≠ w := fun {x q p} hx e hq c => by
    have hp := List.mem_of_getElem? e
    obtain ⟨e1, e2, _⟩ := M.ends p hp
    have hl := hok p hp
    obtain ⟨w, c', hw, hw2, c0, a1, a2⟩ := both p hp (other e hq)
    rcases clO e hq c with ⟨h, h'⟩ | ⟨h, h'⟩
    · subst h
      have := M.mn w hw p.b e2
      exact ⟨w, c', hw, hw2, a1, .inl ⟨rfl, by omega⟩, c0, fun z => absurd (show g w p.a = 0 from (congrArg (g w) z).trans (M.m0 w hw)) (by omega)⟩
    · subst h
      have := M.mn w hw p.a e1
      exact ⟨w, c', hw, hw2, a2, .inr ⟨rfl, by omega⟩, c0, fun z => absurd (show g w p.b = 0 from (congrArg (g w) z).trans (M.m0 w hw)) (by omega)⟩
  refine ⟨fun q p e hne => ?_, fun i' j' p e ep => ?_, fun x hx _ => ?_, fun x hx q p q' p' e e' c c' => ?_, fun x hx => ⟨Int.le_of_lt (hpos x hx), fun h0 => by have := hpos x hx; omega⟩, fun s e => nomatch e⟩
  · have hp := List.mem_of_getElem? e
    obtain ⟨w, c, hw, _, _, a1, a2⟩ := both p hp (other e fun z => hne j (by rw [z]))
    rw [a1, a2]
    rcases M.mp w hw p hp with h | h
    · exact .inl (by omega)
    · exact .inr (by omega)
  · cases e
    rw [hP] at ep; cases ep
    exact ⟨hua, hvb, j0, j1⟩
  · by_cases hxu : x = P.a
    · exact ⟨i, P, hP, .inl hxu.symm, .inl ⟨j, rfl⟩⟩
    · by_cases hxv : x = P.b
      · exact ⟨i, P, hP, .inr hxv.symm, .inl ⟨j, rfl⟩⟩
      · have find : ∀ w ∈ S, (w = P.a ∨ w = P.b) → ∀ c, hOf g ps (.on i j) x = c + g w x → (∀ p ∈ ps, p ≠ P → Cls' g w x p → (p.a = x → hOf g ps (.on i j) p.b = c + g w p.b) ∧ (p.b = x → hOf g ps (.on i j) p.a = c + g w p.a)) → ∃ q p, ps[q]? = some p ∧ Cl (hOf g ps (.on i j)) (.on i j) q p x := fun w hw hw2 c hc hb => by
          obtain ⟨p, hp, cl⟩ := M.me w hw x hx (fun z => by rcases hw2 with h | h <;> (rw [h] at z; first | exact hxu z.symm | exact hxv z.symm))
          have hpP : p ≠ P := fun z => by
            subst z
            rcases cl with ⟨h, _⟩ | ⟨h, _⟩
            · exact hxu h.symm
            · exact hxv h.symm
          obtain ⟨q, e⟩ := List.mem_iff_getElem?.mp hp
          obtain ⟨b1, b2⟩ := hb p hp hpP cl
          rcases cl with ⟨h, h'⟩ | ⟨h, h'⟩
          · exact ⟨q, p, e, .inl h, .inr (.inl ⟨h, by rw [b1 h, hc]; omega⟩)⟩
          · exact ⟨q, p, e, .inr h, .inr (.inr ⟨h, by rw [b2 h, hc]; omega⟩)⟩
        rcases side x hx with ⟨a1, a2⟩ | ⟨a1, a2⟩
        · refine find P.a hu (.inl rfl) j a2 fun p hp hne _ => ?_
          obtain ⟨e1, e2, _⟩ := M.ends p hp
          have hs := same p hp hne
          refine ⟨fun h => ?_, fun h => ?_⟩
          · rw [h] at hs
            have := hs.mp (by omega)
            rcases side p.b e2 with ⟨b1, b2⟩ | ⟨b1, b2⟩
            · exact b2
            · omega
          · rw [h] at hs
            have := hs.mpr (by omega)
            rcases side p.a e1 with ⟨b1, b2⟩ | ⟨b1, b2⟩
            · exact b2
            · omega
        · refine find P.b hv (.inr rfl) (P.len - j) a2 fun p hp hne _ => ?_
          obtain ⟨e1, e2, _⟩ := M.ends p hp
          have hs := same p hp hne
          refine ⟨fun h => ?_, fun h => ?_⟩
          · rw [h] at hs
            rcases side p.b e2 with ⟨b1, b2⟩ | ⟨b1, b2⟩
            · have := hs.mpr (by omega); omega
            · exact b2
          · rw [h] at hs
            rcases side p.a e1 with ⟨b1, b2⟩ | ⟨b1, b2⟩
            · have := hs.mp (by omega); omega
            · exact b2
  · -- only one
    have at_end : ∀ {x : Int}, (P.a = x ∨ P.b = x) → ∀ {w c : Int}, w ∈ S → (w = P.a ∨ w = P.b) → hOf g ps (.on i j) x = c + g w x → 0 < c → x ≠ w → x ∈ S → (∃ p ∈ ps, Cls' g w x p ∧ p ≠ P) → False := fun {x} hxe {w c} hw hw2 hc c0 hne hx ⟨p, hp, cl, hpP⟩ => by
      -- x and w are the two ends of P: P itself is closer at x
      have : Cls' g w x P := by
        rcases hxe with rfl | rfl
        · rcases hw2 with rfl | rfl
          · exact absurd rfl hne
          · exact .inl ⟨rfl, by rw [M.m0 P.b hv, gvu]; omega⟩
        · rcases hw2 with rfl | rfl
          · exact .inr ⟨rfl, by rw [M.m0 P.a hu, guv]; omega⟩
          · exact absurd rfl hne
      exact hpP (M.mu w hw x hx p hp P hm cl this)
    by_cases hq : q = i
    · by_cases hq' : q' = i
      · rw [hq, hq']
      · exfalso
        subst hq
        rw [hP] at e; cases e
        obtain ⟨w, cc, hw, hw2, hc, cl, c0, hne⟩ := near hx e' hq' c'
        exact at_end c.1 hw hw2 hc c0 hne hx ⟨p', List.mem_of_getElem? e', cl, other e' hq'⟩
    · by_cases hq' : q' = i
      · exfalso
        subst hq'
        rw [hP] at e'; cases e'
        obtain ⟨w, cc, hw, hw2, hc, cl, c0, hne⟩ := near hx e hq c
        exact at_end c'.1 hw hw2 hc c0 hne hx ⟨p, List.mem_of_getElem? e, cl, other e hq⟩
      · have hp := List.mem_of_getElem? e
        have hp' := List.mem_of_getElem? e'
        -- both on x's side
        have key : ∀ {q : Nat} {p : Pipe}, ps[q]? = some p → q ≠ i → Cl (hOf g ps (.on i j)) (.on i j) q p x → ∀ w ∈ S, (w = P.a ∨ w = P.b) → ∀ c, hOf g ps (.on i j) x = c + g w x → ((w = P.a ∧ g P.b x = g P.a x + P.len ∧ c = j) ∨ (w = P.b ∧ g P.a x = g P.b x + P.len ∧ c = P.len - j)) → Cls' g w x p := fun {q p} e hq cl w hw hw2 c hc hside => by
          have hp := List.mem_of_getElem? e
          obtain ⟨e1, e2, _⟩ := M.ends p hp
          have hs := same p hp (other e hq)
          rcases clO e hq cl with ⟨h, h'⟩ | ⟨h, h'⟩
          · refine .inl ⟨h, ?_⟩
            rw [h] at hs
            rcases hside with ⟨rfl, s1, s2⟩ | ⟨rfl, s1, s2⟩
            · have := hs.mp (by omega)
              rcases side p.b e2 with ⟨b1, b2⟩ | ⟨b1, b2⟩
              · omega
              · omega
            · rcases side p.b e2 with ⟨b1, b2⟩ | ⟨b1, b2⟩
              · have := hs.mpr (by omega); omega
              · omega
          · refine .inr ⟨h, ?_⟩
            rw [h] at hs
            rcases hside with ⟨rfl, s1, s2⟩ | ⟨rfl, s1, s2⟩
            · have := hs.mpr (by omega)
              rcases side p.a e1 with ⟨b1, b2⟩ | ⟨b1, b2⟩
              · omega
              · omega
            · rcases side p.a e1 with ⟨b1, b2⟩ | ⟨b1, b2⟩
              · have := hs.mp (by omega); omega
              · omega
        have done : p = p' := by
          rcases side x hx with ⟨a1, a2⟩ | ⟨a1, a2⟩
          · exact M.mu P.a hu x hx p hp p' hp' (key e hq c P.a hu (.inl rfl) j a2 (.inl ⟨rfl, a1, rfl⟩)) (key e' hq' c' P.a hu (.inl rfl) j a2 (.inl ⟨rfl, a1, rfl⟩))
          · exact M.mu P.b hv x hx p hp p' hp' (key e hq c P.b hv (.inr rfl) _ a2 (.inr ⟨rfl, a1, rfl⟩)) (key e' hq' c' P.b hv (.inr rfl) _ a2 (.inr ⟨rfl, a1, rfl⟩))
        subst done
        exact ix_inj M.nd e e'
end K43

namespace K43
open PySem L2 RW
/-! ### the distance from a place to the places -/
def lane (h : Int → Int) (a : Pl) (q : Nat) (p : Pipe) (k : Int) : Int := match a with
  | .on i j => if i = q then (if j ≤ k then k - j else j - k) else min (h p.a + k) (h p.b + p.len - k)
  | .room _ => min (h p.a + k) (h p.b + p.len - k)
def fOf (h : Int → Int) (ps : List Pipe) (a x : Pl) : Int := match x with
  | .room r => h r
  | .on q k => match ps[q]? with
    | some p => lane h a q p k
    | none => 0
/-- places one step apart -/
def E (ps : List Pipe) (x y : Pl) : Prop := ∃ q p k, ps[q]? = some p ∧ 0 ≤ k ∧ k < p.len ∧ ((x = ln p q k ∧ y = ln p q (k + 1)) ∨ (x = ln p q (k + 1) ∧ y = ln p q k))
section
variable {S : List Int} {ps : List Pipe} {a : Pl} {h : Int → Int} {q : Nat} {p : Pipe} {k : Int}
theorem lane_own {j : Int} (e : a = .on q j) : lane h a q p k = if j ≤ k then k - j else j - k := by subst e; simp [lane]
theorem lane_far (hn : ∀ j, a ≠ .on q j) : lane h a q p k = min (h p.a + k) (h p.b + p.len - k) := by
  cases a with
  | room r => rfl
  | on i j =>
    have : i ≠ q := fun e => hn j (by rw [e])
    simp [lane, this]
theorem own_or (a : Pl) (q : Nat) : (∃ j, a = .on q j) ∨ ∀ j, a ≠ .on q j := by
  cases a with
  | room r => exact .inr fun j e => nomatch e
  | on i j =>
    by_cases h : i = q
    · exact .inl ⟨j, by rw [h]⟩
    · exact .inr fun j' e => by cases e; exact h rfl
theorem ln_0 : ln p q 0 = .room p.a := by simp [ln]
theorem ln_len (h1 : 1 ≤ p.len) : ln p q p.len = .room p.b := by unfold ln; rw [if_neg (by omega), if_pos rfl]
theorem ln_on (h0 : 0 < k) (h1 : k < p.len) : ln p q k = .on q k := by unfold ln; rw [if_neg (by omega), if_neg (by omega)]
theorem f_ln (R : Root S ps a h) (e : ps[q]? = some p) (hl : 1 ≤ p.len) (h0 : 0 ≤ k) (h1 : k ≤ p.len) : fOf h ps a (ln p q k) = lane h a q p k := by
  by_cases hk : k = 0
  · subst hk
    rw [ln_0]
    show h p.a = _
    rcases own_or a q with ⟨j, ea⟩ | hn
    · obtain ⟨g1, g2, g3, g4⟩ := R.h2 q j p ea e
      rw [lane_own ea, if_neg (by omega), g1]; omega
    · rw [lane_far hn]
      rcases R.h1 q p e hn with g | g <;> omega
  · by_cases hk2 : k = p.len
    · subst hk2
      rw [ln_len hl]
      show h p.b = _
      rcases own_or a q with ⟨j, ea⟩ | hn
      · obtain ⟨g1, g2, g3, g4⟩ := R.h2 q j p ea e
        rw [lane_own ea, if_pos (by omega), g2]
      · rw [lane_far hn]
        rcases R.h1 q p e hn with g | g <;> omega
    · rw [ln_on (by omega) (by omega)]
      simp only [fOf, e]
/-- along a pipe: one up or one down -/
theorem lane_step (R : Root S ps a h) (e : ps[q]? = some p) (h0 : 0 ≤ k) (h1 : k < p.len) : lane h a q p (k + 1) = lane h a q p k + 1 ∨ lane h a q p (k + 1) = lane h a q p k - 1 := by
  rcases own_or a q with ⟨j, ea⟩ | hn
  · rw [lane_own ea, lane_own ea]
    by_cases hj : j ≤ k
    · rw [if_pos hj, if_pos (by omega)]; exact .inl (by omega)
    · rw [if_neg hj]
      by_cases hj2 : j ≤ k + 1
      · rw [if_pos hj2]; exact .inr (by omega)
      · rw [if_neg hj2]; exact .inr (by omega)
  · rw [lane_far hn, lane_far hn]
    rcases R.h1 q p e hn with g | g
    · exact .inl (by omega)
    · exact .inr (by omega)
/-- never down on both sides -/
theorem lane_cave (R : Root S ps a h) (e : ps[q]? = some p) (h0 : 0 < k) (h1 : k < p.len) (d1 : lane h a q p (k + 1) = lane h a q p k - 1) (d2 : lane h a q p (k - 1) = lane h a q p k - 1) : False := by
  rcases own_or a q with ⟨j, ea⟩ | hn
  · rw [lane_own ea, lane_own ea] at d1 d2
    split at d1 <;> split at d1 <;> split at d2 <;> omega
  · rw [lane_far hn, lane_far hn] at d1 d2
    rcases R.h1 q p e hn with g | g <;> omega
theorem ln_pl (hS : p.a ∈ S ∧ p.b ∈ S) (e : ps[q]? = some p) (h0 : 0 ≤ k) (h1 : k ≤ p.len) : IsPl S ps (ln p q k) := by
  unfold ln
  split
  · exact hS.1
  · split
    · exact hS.2
    · exact ⟨p, e, by omega, by omega⟩
theorem E.pl (hS : ∀ p ∈ ps, p.a ∈ S ∧ p.b ∈ S) {x y : Pl} (he : E ps x y) : IsPl S ps x ∧ IsPl S ps y := by
  obtain ⟨q, p, k, e, h0, h1, ⟨rfl, rfl⟩ | ⟨rfl, rfl⟩⟩ := he
  · exact ⟨ln_pl (hS p (List.mem_of_getElem? e)) e h0 (by omega), ln_pl (hS p (List.mem_of_getElem? e)) e (by omega) (by omega)⟩
  · exact ⟨ln_pl (hS p (List.mem_of_getElem? e)) e (by omega) (by omega), ln_pl (hS p (List.mem_of_getElem? e)) e h0 (by omega)⟩
theorem E.symm {x y : Pl} (he : E ps x y) : E ps y x := by
  obtain ⟨q, p, k, e, h0, h1, h⟩ := he
  exact ⟨q, p, k, e, h0, h1, h.symm.imp (fun h => ⟨h.2, h.1⟩) (fun h => ⟨h.2, h.1⟩)⟩
/-- neighbours of a place along a pipe -/
theorem E_on {k : Int} {y : Pl} (e : ps[q]? = some p) (h0 : 0 < k) (h1 : k < p.len) (he : E ps (.on q k) y) : y = ln p q (k + 1) ∨ y = ln p q (k - 1) := by
  obtain ⟨q', p', k', e', g0, g1, ⟨hx, hy⟩ | ⟨hx, hy⟩⟩ := he
  · unfold ln at hx
    split at hx
    · cases hx
    · split at hx
      · cases hx
      · cases hx
        rw [e] at e'; cases e'
        exact .inl hy
  · unfold ln at hx
    split at hx
    · cases hx
    · split at hx
      · cases hx
      · cases hx
        rw [e] at e'; cases e'
        exact .inr (by rw [hy]; congr 1; omega)
/-- neighbours of a room -/
theorem E_room (hl : ∀ p ∈ ps, 1 ≤ p.len) {r : Int} {y : Pl} (he : E ps (.room r) y) : ∃ q p, ps[q]? = some p ∧ ((p.a = r ∧ y = ln p q 1) ∨ (p.b = r ∧ y = ln p q (p.len - 1))) := by
  obtain ⟨q, p, k, e, g0, g1, ⟨hx, hy⟩ | ⟨hx, hy⟩⟩ := he
  · unfold ln at hx
    split at hx
    · cases hx
      rename_i hk
      subst hk
      exact ⟨q, p, e, .inl ⟨rfl, by simpa using hy⟩⟩
    · split at hx
      · cases hx; omega
      · cases hx
  · have := hl p (List.mem_of_getElem? e)
    unfold ln at hx
    split at hx
    · cases hx; omega
    · split at hx
      · cases hx
        rename_i hk
        exact ⟨q, p, e, .inr ⟨rfl, by rw [hy]; congr 1; omega⟩⟩
      · cases hx
/-- what a walk that begins at a asks of a distance f -/
structure Dist (S : List Int) (ps : List Pipe) (a : Pl) (f : Pl → Int) : Prop where
  f0 : f a = 0
  pos : ∀ x, IsPl S ps x → 0 ≤ f x
  step : ∀ x y, E ps x y → f y = f x + 1 ∨ f y = f x - 1
  ex : ∀ x, IsPl S ps x → x ≠ a → ∃ y, E ps x y ∧ f y = f x - 1
  un : ∀ x y y', IsPl S ps x → E ps x y → E ps x y' → f y = f x - 1 → f y' = f x - 1 → y = y'
theorem dist_of (R : Root S ps a h) (hl : ∀ p ∈ ps, 1 ≤ p.len) (hS : ∀ p ∈ ps, p.a ∈ S ∧ p.b ∈ S ∧ p.a < p.b) (ha : IsPl S ps a) : Dist S ps a (fOf h ps a) := by
  have L : ∀ {q : Nat} {p : Pipe}, ps[q]? = some p → 1 ≤ p.len := fun e => hl _ (List.mem_of_getElem? e)
  -- a pipe at a room leads nearer there
  have near : ∀ {r : Int} {q : Nat} {p : Pipe} {y : Pl}, ps[q]? = some p → ((p.a = r ∧ y = ln p q 1) ∨ (p.b = r ∧ y = ln p q (p.len - 1))) → (Cl h a q p r ↔ fOf h ps a y = h r - 1) := fun {r q p y} e hy => by
    have hl1 := L e
    rcases hy with ⟨rfl, rfl⟩ | ⟨rfl, rfl⟩
    · rw [f_ln R e hl1 (by omega) (by omega)]
      rcases own_or a q with ⟨j, ea⟩ | hn
      · obtain ⟨g1, g2, g3, g4⟩ := R.h2 q j p ea e
        rw [lane_own ea]
        refine ⟨fun _ => ?_, fun _ => ⟨.inl rfl, .inl ⟨j, ea⟩⟩⟩
        split <;> omega
      · rw [lane_far hn]
        refine ⟨fun ⟨_, c⟩ => ?_, fun c => ⟨.inl rfl, .inr (.inl ⟨rfl, ?_⟩)⟩⟩
        · rcases c with ⟨j, ea⟩ | ⟨_, c⟩ | ⟨c, _⟩
          · exact absurd ea (hn j)
          · omega
          · obtain ⟨_, _, h3⟩ := hS p (List.mem_of_getElem? e); omega
        · rcases R.h1 q p e hn with g | g <;> omega
    · rw [f_ln R e hl1 (by omega) (by omega)]
      rcases own_or a q with ⟨j, ea⟩ | hn
      · obtain ⟨g1, g2, g3, g4⟩ := R.h2 q j p ea e
        rw [lane_own ea]
        refine ⟨fun _ => ?_, fun _ => ⟨.inr rfl, .inl ⟨j, ea⟩⟩⟩
        split <;> omega
      · rw [lane_far hn]
        refine ⟨fun ⟨_, c⟩ => ?_, fun c => ⟨.inr rfl, .inr (.inr ⟨rfl, ?_⟩)⟩⟩
        · rcases c with ⟨j, ea⟩ | ⟨c, _⟩ | ⟨_, c⟩
          · exact absurd ea (hn j)
          · obtain ⟨_, _, h3⟩ := hS p (List.mem_of_getElem? e); omega
          · omega
        · rcases R.h1 q p e hn with g | g <;> omega
  refine ⟨?_, fun x hx => ?_, fun x y he => ?_, fun x hx hne => ?_, fun x y y' hx he he' d d' => ?_⟩
  · cases a with
    | room s => exact R.h5 s rfl
    | on i j =>
      obtain ⟨p, e, _, _⟩ := ha
      simp only [fOf, e]
      rw [lane_own rfl, if_pos (Int.le_refl _)]; omega
  · cases x with
    | room r => exact (R.h4 r hx).1
    | on q k =>
      obtain ⟨p, e, h0, h1⟩ := hx
      simp only [fOf, e]
      rcases own_or a q with ⟨j, ea⟩ | hn
      · rw [lane_own ea]; split <;> omega
      · obtain ⟨e1, e2, _⟩ := hS p (List.mem_of_getElem? e)
        have := (R.h4 _ e1).1
        have := (R.h4 _ e2).1
        rw [lane_far hn]; omega
  · obtain ⟨q, p, k, e, h0, h1, ⟨rfl, rfl⟩ | ⟨rfl, rfl⟩⟩ := he
    · rw [f_ln R e (L e) h0 (by omega), f_ln R e (L e) (by omega) (by omega)]
      exact lane_step R e h0 h1
    · rw [f_ln R e (L e) h0 (by omega), f_ln R e (L e) (by omega) (by omega)]
      rcases lane_step R e h0 h1 with g | g
      · exact .inr (by omega)
      · exact .inl (by omega)
  · cases x with
    | room r =>
      obtain ⟨q, p, e, c⟩ := R.he r hx (Ne.symm hne)
      have hl1 := L e
      rcases c.1 with hr | hr
      · exact ⟨ln p q 1, ⟨q, p, 0, e, by omega, by omega, .inl ⟨by rw [ln_0, hr], rfl⟩⟩, (near e (.inl ⟨hr, rfl⟩)).mp c⟩
      · exact ⟨ln p q (p.len - 1), ⟨q, p, p.len - 1, e, by omega, by omega, .inr ⟨by rw [show p.len - 1 + 1 = p.len by omega, ln_len hl1, hr], rfl⟩⟩, (near e (.inr ⟨hr, rfl⟩)).mp c⟩
    | on q k =>
      obtain ⟨p, e, h0, h1⟩ := hx
      have hl1 := L e
      have up : E ps (.on q k) (ln p q (k + 1)) := ⟨q, p, k, e, by omega, h1, .inl ⟨(ln_on h0 h1).symm, rfl⟩⟩
      have dn : E ps (.on q k) (ln p q (k - 1)) := ⟨q, p, k - 1, e, by omega, by omega, .inr ⟨by rw [show k - 1 + 1 = k by omega, ln_on h0 h1], rfl⟩⟩
      have fx : fOf h ps a (.on q k) = lane h a q p k := by simp only [fOf, e]
      rcases own_or a q with ⟨j, ea⟩ | hn
      · by_cases hj : j < k
        · refine ⟨_, dn, ?_⟩
          rw [fx, f_ln R e hl1 (by omega) (by omega), lane_own ea, lane_own ea, if_pos (by omega), if_pos (by omega)]; omega
        · have hjk : j ≠ k := fun z => hne (by rw [ea, z])
          refine ⟨_, up, ?_⟩
          rw [fx, f_ln R e hl1 (by omega) (by omega), lane_own ea, lane_own ea]
          split <;> split <;> omega
      · rcases R.h1 q p e hn with g | g
        · refine ⟨_, dn, ?_⟩
          rw [fx, f_ln R e hl1 (by omega) (by omega), lane_far hn, lane_far hn]; omega
        · refine ⟨_, up, ?_⟩
          rw [fx, f_ln R e hl1 (by omega) (by omega), lane_far hn, lane_far hn]; omega
  · cases x with
    | room r =>
      obtain ⟨q, p, e, c⟩ := E_room hl he
      obtain ⟨q', p', e', c'⟩ := E_room hl he'
      have hq := R.hu r hx q p q' p' e e' ((near e c).mpr d) ((near e' c').mpr d')
      subst hq
      rw [e] at e'; cases e'
      obtain ⟨_, _, h3⟩ := hS p (List.mem_of_getElem? e)
      rcases c with ⟨c1, c2⟩ | ⟨c1, c2⟩
      · rcases c' with ⟨c3, c4⟩ | ⟨c3, c4⟩
        · rw [c2, c4]
        · omega
      · rcases c' with ⟨c3, c4⟩ | ⟨c3, c4⟩
        · omega
        · rw [c2, c4]
    | on q k =>
      obtain ⟨p, e, h0, h1⟩ := hx
      have hl1 := L e
      have fx : fOf h ps a (.on q k) = lane h a q p k := by simp only [fOf, e]
      rw [fx] at d d'
      rcases E_on e h0 h1 he with rfl | rfl
      · rcases E_on e h0 h1 he' with rfl | rfl
        · rfl
        · rw [f_ln R e hl1 (by omega) (by omega)] at d d'
          exact (lane_cave R e h0 h1 d d').elim
      · rcases E_on e h0 h1 he' with rfl | rfl
        · rw [f_ln R e hl1 (by omega) (by omega)] at d d'
          exact (lane_cave R e h0 h1 d' d).elim
        · rfl
end
end K43

namespace K43
open PySem L2 RW
def Pl.d : Pl → D
  | .room r => .tup [.int r]
  | .on i k => .tup [.int i, .int k]
theorem Pl.nk (x : Pl) : x.d.nk? = some (match x with
  | .room r => .tup [.num r]
  | .on i k => .tup [.num i, .num k]) := by cases x <;> rfl
theorem Pl.nk_inj {x y : Pl} : x.d.nk? = y.d.nk? ↔ x = y := by
  rw [Pl.nk, Pl.nk]
  cases x <;> cases y <;> simp
  intro _; exact Int.ofNat_inj
theorem Pl.isT (x : Pl) : RW.isT x.d = true := by cases x <;> rfl
/-! ### places beside places, as a dict -/
def getA : List (Pl × List Pl) → Pl → Option (List Pl)
  | [], _ => none
  | (a, ys) :: r, x => if a = x then some ys else getA r x
def repA (x : Pl) (ys : List Pl) : List (Pl × List Pl) → List (Pl × List Pl)
  | [] => []
  | (a, zs) :: r => (if a = x then (a, ys) else (a, zs)) :: repA x ys r
def putA (adj : List (Pl × List Pl)) (x : Pl) (ys : List Pl) : List (Pl × List Pl) := if (getA adj x).isSome = true then repA x ys adj else adj ++ [(x, ys)]
def Cellp (μ : Mem) (F : Nat) : D × D → Pl × List Pl → Prop := fun p x => p.1 = x.1.d ∧ ∃ n, p.2 = .ref n ∧ n ≠ F ∧ μ[n]? = some (.lst (x.2.map Pl.d))
structure Adj (μ : Mem) (F : Nat) (l : List (D × D)) (adj : List (Pl × List Pl)) : Prop where
  at_ : μ[F]? = some (.tdic l)
  pr : Paired (Cellp μ F) l adj
theorem adj_get {μ : Mem} {F : Nat} {x : Pl} : ∀ {l : List (D × D)} {adj : List (Pl × List Pl)}, Paired (Cellp μ F) l adj → (dGet l x.d = none ∧ getA adj x = none) ∨ ∃ n ys, dGet l x.d = some (.ref n) ∧ getA adj x = some ys ∧ n ≠ F ∧ μ[n]? = some (.lst (ys.map Pl.d))
  | _, _, .nil => .inl ⟨rfl, rfl⟩
  | (a, d) :: l, (z, ys) :: adj, .cons ⟨h1, n, h2, h3, h4⟩ t => by
    have h1 : a = z.d := h1
    have h2 : d = .ref n := h2
    subst h1 h2
    by_cases hz : z = x
    · exact .inr ⟨n, ys, by simp [dGet, hz], by simp [getA, hz], h3, h4⟩
    · have hne : ¬ (z.d.nk? = x.d.nk?) := fun e => hz (Pl.nk_inj.mp e)
      rcases adj_get (x := x) t with ⟨g1, g2⟩ | ⟨n', ys', g1, g2, g3, g4⟩
      · exact .inl ⟨by simp [dGet, hne, g1], by simp [getA, hz, g2]⟩
      · exact .inr ⟨n', ys', by simp [dGet, hne, g1], by simp [getA, hz, g2], g3, g4⟩
theorem adj_rep {μ : Mem} {F n : Nat} {x : Pl} {ys : List Pl} (hn : n ≠ F) (e : μ[n]? = some (.lst (ys.map Pl.d))) : ∀ {l : List (D × D)} {adj : List (Pl × List Pl)}, Paired (Cellp μ F) l adj → Paired (Cellp μ F) (dRep x.d (.ref n) l) (repA x ys adj)
  | _, _, .nil => .nil
  | (a, d) :: l, (z, zs) :: adj, .cons ⟨h1, m, h2, h3, h4⟩ t => by
    have h1 : a = z.d := h1
    subst h1
    unfold dRep repA
    by_cases hz : z = x
    · rw [if_pos (Pl.nk_inj.mpr hz), if_pos hz]
      exact .cons ⟨rfl, n, rfl, hn, e⟩ (adj_rep hn e t)
    · rw [if_neg (fun e => hz (Pl.nk_inj.mp e)), if_neg hz]
      exact .cons ⟨rfl, m, h2, h3, h4⟩ (adj_rep hn e t)
theorem adj_put {μ : Mem} {F n : Nat} {x : Pl} {ys : List Pl} {l : List (D × D)} {adj : List (Pl × List Pl)} (p : Paired (Cellp μ F) l adj) (hn : n ≠ F) (e : μ[n]? = some (.lst (ys.map Pl.d))) : Paired (Cellp μ F) (dPut l x.d (.ref n)) (putA adj x ys) := by
  unfold dPut putA dHas
  rcases adj_get (x := x) p with ⟨g1, g2⟩ | ⟨n', ys', g1, g2, _⟩
  · rw [g1, g2]; exact RW.Paired.snoc p ⟨rfl, n, rfl, hn, e⟩
  · rw [g1, g2]; exact adj_rep hn e p
theorem adj_keep {μ μ' : Mem} {F : Nat} {l : List (D × D)} {adj : List (Pl × List Pl)} (p : Paired (Cellp μ F) l adj) (k : Keep [F] μ μ') : Paired (Cellp μ' F) l adj :=
  Paired.imp' p fun _ _ ⟨h1, n, h2, h3, h4⟩ => ⟨h1, n, h2, h3, k.get h4 (by simp [h3])⟩
theorem Adj.keep {μ μ' : Mem} {F : Nat} {l : List (D × D)} {adj : List (Pl × List Pl)} (A : Adj μ F l adj) (k : Keep [] μ μ') : Adj μ' F l adj :=
  ⟨k.get A.at_ (by simp), adj_keep A.pr (k.mono (by simp))⟩
theorem Adj.store {μ : Mem} {F n : Nat} {l : List (D × D)} {adj : List (Pl × List Pl)} {x : Pl} {ys : List Pl} (A : Adj μ F l adj) (hl : adj.length < 10000) (hn : n ≠ F) (e : μ[n]? = some (.lst (ys.map Pl.d))) :
    setDD (.ref F) x.d (.ref n) μ = .ok () (μ.set F (.tdic (dPut l x.d (.ref n)))) ∧ Adj (μ.set F (.tdic (dPut l x.d (.ref n)))) F (dPut l x.d (.ref n)) (putA adj x ys) := by
  have hz : l.length < sizeLine := by rw [Paired.length A.pr, sizeLine_eq]; omega
  refine ⟨by simp only [setDD, A.at_, if_pos (And.intro (Pl.isT x) hz)], set_at (at_lt A.at_), adj_keep (adj_put A.pr hn e) (Keep.set (by simp))⟩
/-- found[x] = found.get(x, []) + [y] -/
def bump (adj : List (Pl × List Pl)) (x y : Pl) : List (Pl × List Pl) := putA adj x ((getA adj x).getD [] ++ [y])
theorem putA_len {adj : List (Pl × List Pl)} {x : Pl} {ys : List Pl} : (putA adj x ys).length ≤ adj.length + 1 := by
  have h : ∀ adj : List (Pl × List Pl), (repA x ys adj).length = adj.length := fun adj => by
    induction adj with
    | nil => rfl
    | cons a r ih => simp [repA, ih]
  unfold putA
  split
  · rw [h]; omega
  · simp
theorem bump_len {adj : List (Pl × List Pl)} {x y : Pl} : (bump adj x y).length ≤ adj.length + 1 := putA_len
theorem bump_spec {μ : Mem} {F : Nat} {l : List (D × D)} {adj : List (Pl × List Pl)} {x y : Pl} {ρ : Rho} {mx my : MD} (A : Adj μ F l adj) (hl : adj.length < 10000) (hd : ∀ ys, getA adj x = some ys → ys.length < 1000) (hF : ρ[1]? = some (some (.ref F)))
    (hx : ∀ μ', Keep [F] μ μ' → mx ρ μ' = .ok x.d μ') (hy : ∀ μ', Keep [F] μ μ' → my ρ μ' = .ok y.d μ') :
    ∃ (l' : List (D × D)) (μ' : Mem), sAsg (mBin addD (mMt isDic getM (mVar 1) (mCons mx (mCons (mLst (mNil)) (mNil)))) (mLst (mCons my (mNil)))) (gSubM setDD (mVar 1) mx) ρ μ = .ok (.nx ρ) μ' ∧ Adj μ' F l' (bump adj x y) ∧ Keep [F] μ μ' := by
  have hv : ∀ μ', mVar 1 ρ μ' = .ok (.ref F) μ' := fun μ' => by simp only [mVar, hF]
  have hlt := at_lt A.at_
  have dic : isDic (.ref F) μ = true := by simp only [isDic, A.at_]
  obtain ⟨μ1, h1⟩ : ∃ μ1, μ1 = μ ++ [Cell.lst []] := ⟨_, rfl⟩
  have A1 : Adj μ1 F l adj := by rw [h1]; exact A.keep Keep.app
  have z1 : μ1.length = μ.length + 1 := by rw [h1]; simp
  -- what get answers
  obtain ⟨n, ys, hg, hys, hn, en⟩ : ∃ n ys, getM (.ref F) [x.d, .ref μ.length] μ1 = .ok (.ref n) μ1 ∧ (getA adj x).getD [] = ys ∧ n ≠ F ∧ μ1[n]? = some (.lst (ys.map Pl.d)) := by
    have ea : dictAt (.ref F) x.d μ1 = some (dGet l x.d) := by simp only [dictAt, A1.at_, if_pos (Pl.isT x)]
    rcases adj_get (x := x) A1.pr with ⟨g1, g2⟩ | ⟨n, ys, g1, g2, g3, g4⟩
    · exact ⟨μ.length, [], by simp only [getM, ea, g1, Option.getD_none], by rw [g2]; rfl, by omega, by rw [h1]; exact app_new⟩
    · exact ⟨n, ys, by simp only [getM, ea, g1, Option.getD_some], by rw [g2]; rfl, g3, g4⟩
  have hyl : ys.length < 1000 := by
    cases e : getA adj x with
    | none => rw [e] at hys; rw [← hys]; simp
    | some zs => rw [e] at hys; rw [← hys]; exact hd zs e
  obtain ⟨μ2, h2⟩ : ∃ μ2, μ2 = μ1 ++ [Cell.lst [y.d]] := ⟨_, rfl⟩
  obtain ⟨μ3, h3⟩ : ∃ μ3, μ3 = μ2 ++ [Cell.lst (ys.map Pl.d ++ [y.d])] := ⟨_, rfl⟩
  have k1 : Keep [F] μ μ1 := by rw [h1]; exact Keep.app
  have k2 : Keep [F] μ μ2 := by rw [h2]; exact k1.trans Keep.app
  have k3 : Keep [F] μ μ3 := by rw [h3]; exact k2.trans Keep.app
  have z2 : μ2.length = μ.length + 2 := by rw [h2]; simp [z1]
  have cat : addD (.ref n) (.ref μ1.length) μ2 = .ok (.ref μ2.length) μ3 := by
    rw [h3]
    exact catL_ok (by rw [h2]; exact app_at en) (by rw [h2]; exact app_new) (by simp; omega)
  have A3 : Adj μ3 F l adj := by rw [h3, h2]; exact (A1.keep Keep.app).keep Keep.app
  obtain ⟨s1, s2⟩ := A3.store (x := x) (ys := ys ++ [y]) (n := μ2.length) hl (by omega) (by rw [h3]; simp)
  refine ⟨_, _, ?_, by unfold bump; rw [hys]; exact s2, k3.trans (Keep.set (by simp))⟩
  have ev : mBin addD (mMt isDic getM (mVar 1) (mCons mx (mCons (mLst (mNil)) (mNil)))) (mLst (mCons my (mNil))) ρ μ = .ok (.ref μ2.length) μ3 := by
    have e1 : mMt isDic getM (mVar 1) (mCons mx (mCons (mLst (mNil)) (mNil))) ρ μ = .ok (.ref n) μ1 := by
      simp only [mMt, hv, Res.bind, dic, if_true, mCons, hx μ .refl, mLst, mNil, List.length_nil, Nat.zero_le, ← h1, hg]
    have e2 : mLst (mCons my (mNil)) ρ μ1 = .ok (.ref μ1.length) μ2 := by
      simp only [mLst, mCons, hy μ1 k1, Res.bind, mNil, List.length_cons, List.length_nil, h2]
      rfl
    simp only [mBin, e1, e2, Res.bind, cat]
  simp only [sAsg, ev, onE, gSubM, hv, hx μ3 k3, Res.bind, s1, pureE]
end K43

namespace K43
open PySem L2 RW
structure Good (adj : List (Pl × List Pl)) (T : Pl → Pl → Prop) (K : Pl → Prop) (N : Nat) : Prop where
  keys : ∀ x, (getA adj x).isSome = true ↔ K x
  val : ∀ x ys, getA adj x = some ys → ∀ y, y ∈ ys ↔ T x y
  nd : (adj.map (·.1)).Nodup
  sub : ∀ x y, T x y → K x
  sz : ∀ x ys, getA adj x = some ys → ys.length ≤ N
  len : adj.length ≤ N
  nd2 : ∀ x ys, getA adj x = some ys → ys.Nodup
theorem getA_none : ∀ {adj : List (Pl × List Pl)} {x : Pl}, getA adj x = none ↔ x ∉ adj.map (·.1)
  | [], x => by simp [getA]
  | (a, ys) :: r, x => by
    by_cases h : a = x
    · simp [getA, h]
    · simp only [getA, if_neg h, getA_none, List.map_cons, List.mem_cons, not_or]
      exact ⟨fun q => ⟨fun e => h e.symm, q⟩, fun q => q.2⟩
theorem repA_keys {x : Pl} {ys : List Pl} : ∀ {adj : List (Pl × List Pl)}, (repA x ys adj).map (·.1) = adj.map (·.1)
  | [] => rfl
  | (a, zs) :: r => by
    unfold repA
    rw [List.map_cons, List.map_cons, repA_keys]
    split <;> rfl
theorem getA_rep {x z : Pl} {ys : List Pl} : ∀ {adj : List (Pl × List Pl)}, (getA adj x).isSome = true → getA (repA x ys adj) z = if z = x then some ys else getA adj z
  | [], h => by simp [getA] at h
  | (a, zs) :: r, h => by
    unfold repA
    by_cases ha : a = x
    · rw [if_pos ha]
      by_cases hz : z = x
      · simp [getA, ha, hz]
      · have h1 : ¬ a = z := fun e => hz (e ▸ ha)
        rw [if_neg hz]
        simp only [getA, if_neg h1]
        cases hs : (getA r x).isSome with
        | true => rw [getA_rep hs, if_neg hz]
        | false =>
          -- x isn't in r: nothing replaced there
          have hn : getA r x = none := by cases e : getA r x with | none => rfl | some _ => rw [e] at hs; cases hs
          have : ∀ {r : List (Pl × List Pl)}, getA r x = none → getA (repA x ys r) z = getA r z := fun {r} => by
            induction r with
            | nil => intro _; rfl
            | cons b r ih =>
              obtain ⟨b, bs⟩ := b
              intro h
              by_cases hb : b = x
              · simp [getA, hb] at h
              · simp only [getA, if_neg hb] at h
                simp only [repA, if_neg hb, getA]
                split
                · rfl
                · exact ih h
          exact this hn
    · rw [if_neg ha]
      simp only [getA, if_neg ha] at h
      by_cases hz : a = z
      · have : ¬ z = x := fun e => ha (hz.trans e)
        simp [getA, hz, this]
      · simp only [getA, if_neg hz]
        exact getA_rep h
theorem getA_app {x z : Pl} {ys : List Pl} : ∀ {adj : List (Pl × List Pl)}, getA adj x = none → getA (adj ++ [(x, ys)]) z = if z = x then some ys else getA adj z
  | [], _ => by
    by_cases h : z = x
    · simp [getA, h]
    · have : ¬ x = z := fun e => h e.symm
      simp [getA, h, this]
  | (a, zs) :: r, h => by
    by_cases ha : a = x
    · simp [getA, ha] at h
    · simp only [getA, if_neg ha] at h
      simp only [List.cons_append, getA]
      by_cases hz : a = z
      · have : ¬ z = x := fun e => ha (hz.trans e)
        simp [hz, this]
      · simp only [if_neg hz]
        exact getA_app h
theorem getA_put {adj : List (Pl × List Pl)} {x z : Pl} {ys : List Pl} : getA (putA adj x ys) z = if z = x then some ys else getA adj z := by
  unfold putA
  cases hs : (getA adj x).isSome with
  | true => rw [if_pos rfl]; exact getA_rep hs
  | false =>
    rw [if_neg (by simp)]
    exact getA_app (by cases e : getA adj x with | none => rfl | some _ => rw [e] at hs; cases hs)
theorem putA_nd {adj : List (Pl × List Pl)} {x : Pl} {ys : List Pl} (h : (adj.map (·.1)).Nodup) : ((putA adj x ys).map (·.1)).Nodup := by
  unfold putA
  cases hs : (getA adj x).isSome with
  | true => rw [if_pos rfl, repA_keys]; exact h
  | false =>
    rw [if_neg (by simp), List.map_append, List.nodup_append]
    have hn : getA adj x = none := by cases e : getA adj x with | none => rfl | some _ => rw [e] at hs; cases hs
    refine ⟨h, by simp, fun a ha b hb e => ?_⟩
    simp at hb
    exact getA_none.mp hn (hb ▸ e ▸ ha)
theorem Good.congr {adj : List (Pl × List Pl)} {T T' : Pl → Pl → Prop} {K K' : Pl → Prop} {N N' : Nat} (g : Good adj T K N) (hT : ∀ x y, T x y ↔ T' x y) (hK : ∀ x, K x ↔ K' x) (hN : N ≤ N') : Good adj T' K' N' :=
  ⟨fun x => (g.keys x).trans (hK x), fun x ys e y => (g.val x ys e y).trans (hT x y), g.nd, fun x y h => (hK x).mp (g.sub x y ((hT x y).mpr h)), fun x ys e => Nat.le_trans (g.sz x ys e) hN, Nat.le_trans g.len hN, g.nd2⟩
theorem Good.bump {adj : List (Pl × List Pl)} {T : Pl → Pl → Prop} {K : Pl → Prop} {N : Nat} (g : Good adj T K N) (x y : Pl) (hxy : ¬ T x y) : Good (bump adj x y) (fun u v => T u v ∨ (u = x ∧ v = y)) (fun u => K u ∨ u = x) (N + 1) := by
  have hget : ∀ z, getA (K43.bump adj x y) z = if z = x then some ((getA adj x).getD [] ++ [y]) else getA adj z := fun z => getA_put
  have hx : ∀ v, v ∈ (getA adj x).getD [] ↔ T x v := fun v => by
    cases e : getA adj x with
    | some ys => exact g.val x ys e v
    | none =>
      refine ⟨fun h => by simp at h, fun h => ?_⟩
      have := (g.keys x).mpr (g.sub x v h)
      rw [e] at this; cases this
  have hl : ((getA adj x).getD []).length ≤ N := by
    cases e : getA adj x with
    | some ys => exact g.sz x ys e
    | none => simp
  refine ⟨fun z => ?_, fun z ys e v => ?_, putA_nd g.nd, fun u v h => ?_, fun z ys e => ?_, Nat.le_trans bump_len (by have := g.len; omega), fun z ys e => ?_⟩
  · rw [hget]
    by_cases hz : z = x
    · simp [hz]
    · rw [if_neg hz]; simp [hz, g.keys z]
  · rw [hget] at e
    by_cases hz : z = x
    · rw [if_pos hz] at e
      cases e
      rw [List.mem_append, hx, hz]; simp
    · rw [if_neg hz] at e
      rw [g.val z ys e v]; simp [hz]
  · rcases h with h | ⟨h, _⟩
    · exact .inl (g.sub u v h)
    · exact .inr h
  · rw [hget] at e
    by_cases hz : z = x
    · rw [if_pos hz] at e
      cases e
      simp; omega
    · rw [if_neg hz] at e
      have := g.sz z ys e; omega
  · rw [hget] at e
    by_cases hz : z = x
    · rw [if_pos hz] at e
      cases e
      rw [List.nodup_append]
      refine ⟨?_, by simp, fun u hu v hv e => ?_⟩
      · cases ex : getA adj x with
        | some ys => exact g.nd2 x ys ex
        | none => exact .nil
      · simp at hv
        subst hv
        subst e
        exact hxy ((hx u).mp hu)
    · rw [if_neg hz] at e
      exact g.nd2 z ys e
theorem Good.fresh {adj : List (Pl × List Pl)} {K : Pl → Prop} {N : Nat} (g : Good adj (fun _ _ => False) K N) (x : Pl) : Good (putA adj x []) (fun _ _ => False) (fun u => K u ∨ u = x) (N + 1) := by
  have hget : ∀ z, getA (putA adj x []) z = if z = x then some [] else getA adj z := fun z => getA_put
  refine ⟨fun z => ?_, fun z ys e v => ?_, putA_nd g.nd, fun u v h => h.elim, fun z ys e => ?_, Nat.le_trans putA_len (by have := g.len; omega), fun z ys e => ?_⟩
  · rw [hget]
    by_cases hz : z = x
    · simp [hz]
    · rw [if_neg hz]; simp [hz, g.keys z]
  · rw [hget] at e
    by_cases hz : z = x
    · rw [if_pos hz] at e
      cases e; simp
    · rw [if_neg hz] at e
      exact g.val z ys e v
  · rw [hget] at e
    by_cases hz : z = x
    · rw [if_pos hz] at e
      cases e; simp
    · rw [if_neg hz] at e
      have := g.sz z ys e; omega
  · rw [hget] at e
    by_cases hz : z = x
    · rw [if_pos hz] at e
      cases e; exact .nil
    · rw [if_neg hz] at e
      exact g.nd2 z ys e
/-- each step of the pipes stands there once -/
def Once (ps : List Pipe) : Prop := ∀ q p k q' p' k', ps[q]? = some p → ps[q']? = some p' → 0 ≤ k → k < p.len → 0 ≤ k' → k' < p'.len →
  ((ln p q k = ln p' q' k' ∧ ln p q (k + 1) = ln p' q' (k' + 1)) ∨ (ln p q k = ln p' q' (k' + 1) ∧ ln p q (k + 1) = ln p' q' k')) → q = q' ∧ k = k'
theorem ln_ne {p : Pipe} {q : Nat} {k : Int} (hab : p.a < p.b) (h0 : 0 ≤ k) (h1 : k < p.len) : ln p q k ≠ ln p q (k + 1) := by
  unfold ln
  by_cases h : k = 0
  · rw [if_pos h, if_neg (show ¬ k + 1 = 0 by omega)]
    by_cases h2 : k + 1 = p.len
    · rw [if_pos h2]; intro z; injection z; omega
    · rw [if_neg h2]; intro z; cases z
  · rw [if_neg h, if_neg (show ¬ k = p.len by omega), if_neg (show ¬ k + 1 = 0 by omega)]
    by_cases h2 : k + 1 = p.len
    · rw [if_pos h2]; intro z; cases z
    · rw [if_neg h2]; intro z; injection z; omega
/-- the steps of the pipes ahead of q0, and of the first k0 of q0 -/
def Ahead (q0 k0 : Nat) (q : Nat) (k : Int) : Prop := q < q0 ∨ (q = q0 ∧ k < k0)
def TE (ps : List Pipe) (q0 k0 : Nat) (x y : Pl) : Prop := ∃ q p k, ps[q]? = some p ∧ 0 ≤ k ∧ k < p.len ∧ Ahead q0 k0 q k ∧ ((x = ln p q k ∧ y = ln p q (k + 1)) ∨ (x = ln p q (k + 1) ∧ y = ln p q k))
def KE (R : Nat) (ps : List Pipe) (q0 k0 : Nat) (x : Pl) : Prop := (∃ r : Int, 0 ≤ r ∧ r < R ∧ x = .room r) ∨ ∃ q p k, ps[q]? = some p ∧ 0 ≤ k ∧ k < p.len ∧ Ahead q0 k0 q k ∧ (x = ln p q k ∨ x = ln p q (k + 1))
theorem TE_succ {ps : List Pipe} {q k : Nat} {p : Pipe} (e : ps[q]? = some p) (hk : (k : Int) < p.len) (x y : Pl) : ((TE ps q k x y ∨ (x = ln p q k ∧ y = ln p q (k + 1))) ∨ (x = ln p q (k + 1) ∧ y = ln p q k)) ↔ TE ps q (k + 1) x y := by
  constructor
  · rintro ((⟨q', p', k', e', h0, h1, ha, h⟩ | h) | h)
    · exact ⟨q', p', k', e', h0, h1, ha.imp id (fun ⟨a, b⟩ => ⟨a, by push_cast; omega⟩), h⟩
    · exact ⟨q, p, k, e, by omega, hk, .inr ⟨rfl, by push_cast; omega⟩, .inl h⟩
    · exact ⟨q, p, k, e, by omega, hk, .inr ⟨rfl, by push_cast; omega⟩, .inr h⟩
  · rintro ⟨q', p', k', e', h0, h1, ha | ⟨rfl, ha⟩, h⟩
    · exact .inl (.inl ⟨q', p', k', e', h0, h1, .inl ha, h⟩)
    · rw [e] at e'; cases e'
      by_cases hk' : k' < k
      · exact .inl (.inl ⟨q', p, k', e, h0, h1, .inr ⟨rfl, hk'⟩, h⟩)
      · obtain rfl : k' = (k : Int) := by push_cast at ha; omega
        rcases h with h | h
        · exact .inl (.inr h)
        · exact .inr h
theorem KE_succ {R : Nat} {ps : List Pipe} {q k : Nat} {p : Pipe} (e : ps[q]? = some p) (hk : (k : Int) < p.len) (x : Pl) : ((KE R ps q k x ∨ x = ln p q k) ∨ x = ln p q (k + 1)) ↔ KE R ps q (k + 1) x := by
  constructor
  · rintro ((h | h) | h)
    · rcases h with h | ⟨q', p', k', e', h0, h1, ha, h⟩
      · exact .inl h
      · exact .inr ⟨q', p', k', e', h0, h1, ha.imp id (fun ⟨a, b⟩ => ⟨a, by push_cast; omega⟩), h⟩
    · exact .inr ⟨q, p, k, e, by omega, hk, .inr ⟨rfl, by push_cast; omega⟩, .inl h⟩
    · exact .inr ⟨q, p, k, e, by omega, hk, .inr ⟨rfl, by push_cast; omega⟩, .inr h⟩
  · rintro (h | ⟨q', p', k', e', h0, h1, ha | ⟨rfl, ha⟩, h⟩)
    · exact .inl (.inl (.inl h))
    · exact .inl (.inl (.inr ⟨q', p', k', e', h0, h1, .inl ha, h⟩))
    · rw [e] at e'; cases e'
      by_cases hk' : k' < k
      · exact .inl (.inl (.inr ⟨q', p, k', e, h0, h1, .inr ⟨rfl, hk'⟩, h⟩))
      · obtain rfl : k' = (k : Int) := by push_cast at ha; omega
        rcases h with h | h
        · exact .inl (.inr h)
        · exact .inr h
theorem ahead_next {ps : List Pipe} {q q' : Nat} {p p' : Pipe} {k' : Int} {n : Nat} (e : ps[q]? = some p) (hn : (n : Int) = p.len) (e' : ps[q']? = some p') (h0 : 0 ≤ k') (h1 : k' < p'.len) : Ahead q n q' k' ↔ Ahead (q + 1) 0 q' k' := by
  unfold Ahead
  constructor
  · rintro (h | ⟨h, _⟩)
    · exact .inl (by omega)
    · exact .inl (by omega)
  · rintro (h | ⟨_, h⟩)
    · by_cases hq : q' = q
      · subst hq
        rw [e] at e'; cases e'
        exact .inr ⟨rfl, by omega⟩
      · exact .inl (by omega)
    · simp at h; omega
theorem TE_next {ps : List Pipe} {q n : Nat} {p : Pipe} (e : ps[q]? = some p) (hn : (n : Int) = p.len) (x y : Pl) : TE ps q n x y ↔ TE ps (q + 1) 0 x y := by
  unfold TE
  exact ⟨fun ⟨q', p', k', e', h0, h1, ha, h⟩ => ⟨q', p', k', e', h0, h1, (ahead_next e hn e' h0 h1).mp ha, h⟩, fun ⟨q', p', k', e', h0, h1, ha, h⟩ => ⟨q', p', k', e', h0, h1, (ahead_next e hn e' h0 h1).mpr ha, h⟩⟩
theorem KE_next {R : Nat} {ps : List Pipe} {q n : Nat} {p : Pipe} (e : ps[q]? = some p) (hn : (n : Int) = p.len) (x : Pl) : KE R ps q n x ↔ KE R ps (q + 1) 0 x := by
  unfold KE
  refine or_congr Iff.rfl ?_
  exact ⟨fun ⟨q', p', k', e', h0, h1, ha, h⟩ => ⟨q', p', k', e', h0, h1, (ahead_next e hn e' h0 h1).mp ha, h⟩, fun ⟨q', p', k', e', h0, h1, ha, h⟩ => ⟨q', p', k', e', h0, h1, (ahead_next e hn e' h0 h1).mpr ha, h⟩⟩
theorem TE_all {ps : List Pipe} {n : Nat} (hn : n = ps.length) (x y : Pl) : TE ps n 0 x y ↔ E ps x y := by
  constructor
  · rintro ⟨q, p, k, e, h0, h1, _, h⟩
    exact ⟨q, p, k, e, h0, h1, h⟩
  · rintro ⟨q, p, k, e, h0, h1, h⟩
    exact ⟨q, p, k, e, h0, h1, .inl (by rw [hn]; exact (List.getElem?_eq_some_iff.mp e).1), h⟩
theorem KE_all {R : Nat} {ps : List Pipe} {S : List Int} {n : Nat} (hn : n = ps.length) (hS : ∀ x, x ∈ S ↔ 0 ≤ x ∧ x < R) (hps : ∀ p ∈ ps, p.a ∈ S ∧ p.b ∈ S) (x : Pl) : KE R ps n 0 x ↔ IsPl S ps x := by
  constructor
  · rintro (⟨r, h0, h1, rfl⟩ | ⟨q, p, k, e, h0, h1, _, rfl | rfl⟩)
    · exact (hS r).mpr ⟨h0, h1⟩
    · exact ln_pl (hps p (List.mem_of_getElem? e)) e h0 (by omega)
    · exact ln_pl (hps p (List.mem_of_getElem? e)) e (by omega) (by omega)
  · intro h
    cases x with
    | room r =>
      have := (hS r).mp h
      exact .inl ⟨r, this.1, this.2, rfl⟩
    | on q k =>
      obtain ⟨p, e, h0, h1⟩ := h
      exact .inr ⟨q, p, k, e, by omega, h1, .inl (by rw [hn]; exact (List.getElem?_eq_some_iff.mp e).1), .inl (ln_on h0 h1).symm⟩
theorem TE_0 {ps : List Pipe} (x y : Pl) : ¬ TE ps 0 0 x y := by
  rintro ⟨q, p, k, e, h0, h1, h | ⟨_, h⟩, _⟩
  · omega
  · simp at h; omega
theorem KE_0 {R : Nat} {ps : List Pipe} (x : Pl) : KE R ps 0 0 x ↔ ∃ r : Int, 0 ≤ r ∧ r < R ∧ x = .room r := by
  constructor
  · rintro (h | ⟨q, p, k, e, h0, h1, h | ⟨_, h⟩, _⟩)
    · exact h
    · omega
    · simp at h; omega
  · exact .inl
end K43

namespace K43
open PySem L2 RW
theorem rng_get {n i : Nat} {d : D} (e : (rangeItems 0 n)[i]? = some d) : i < n ∧ d = .int (i : Int) := by
  have h := (List.getElem?_eq_some_iff.mp e).1
  have h : i < n := by simpa [rangeItems] using h
  rw [rangeItems, List.getElem?_map, List.getElem?_range h] at e
  exact ⟨h, by simpa using e.symm⟩
theorem rng_len {n : Nat} : (rangeItems 0 n).length = n := by simp [rangeItems]
end K43

namespace K43
open PySem L2 RW
/-! ### the distance of any two places -/
inductive Path (ps : List Pipe) : Nat → Pl → Pl → Prop
  | nil (x : Pl) : Path ps 0 x x
  | cons {n : Nat} {x y z : Pl} (h : E ps x y) (t : Path ps n y z) : Path ps (n + 1) x z
theorem Path.app {ps : List Pipe} {n m : Nat} {x y z : Pl} (h : Path ps n x y) (h' : Path ps m y z) : Path ps (n + m) x z := by
  induction h with
  | nil x => rw [Nat.zero_add]; exact h'
  | cons e _ ih => rw [Nat.add_right_comm]; exact .cons e (ih h')
theorem Path.symm {ps : List Pipe} {n : Nat} {x y : Pl} (h : Path ps n x y) : Path ps n y x := by
  induction h with
  | nil x => exact .nil x
  | cons e _ ih => exact ih.app (.cons e.symm (.nil _))
structure Geo (S : List Int) (ps : List Pipe) (d : Pl → Pl → Int) : Prop where
  ends : ∀ p ∈ ps, p.a ∈ S ∧ p.b ∈ S
  dist : ∀ a, IsPl S ps a → Dist S ps a (d a)
section
variable {S : List Int} {ps : List Pipe} {d : Pl → Pl → Int} {a b x x' y z p : Pl} {n : Nat}
theorem Path.pl (hS : ∀ p ∈ ps, p.a ∈ S ∧ p.b ∈ S) (h : Path ps n x y) (hx : IsPl S ps x) : IsPl S ps y := by
  induction h with
  | nil x => exact hx
  | cons e _ ih => exact ih (e.pl hS).2
theorem Path.le {f : Pl → Int} (hs : ∀ x y, E ps x y → f y = f x + 1 ∨ f y = f x - 1) (h : Path ps n x y) : f y ≤ f x + n := by
  induction h with
  | nil x => omega
  | cons e _ ih =>
    have := hs _ _ e
    omega
namespace Geo
variable (G : Geo S ps d)
include G
theorem self (ha : IsPl S ps a) : d a a = 0 := (G.dist a ha).f0
theorem pos (ha : IsPl S ps a) (hx : IsPl S ps x) : 0 ≤ d a x := (G.dist a ha).pos x hx
theorem step (ha : IsPl S ps a) (e : E ps x y) : d a y = d a x + 1 ∨ d a y = d a x - 1 := (G.dist a ha).step x y e
theorem near (ha : IsPl S ps a) (hx : IsPl S ps x) (h : x ≠ a) : ∃ y, E ps x y ∧ d a y = d a x - 1 := (G.dist a ha).ex x hx h
theorem one (ha : IsPl S ps a) (hx : IsPl S ps x) (e : E ps x y) (e' : E ps x z) (h : d a y = d a x - 1) (h' : d a z = d a x - 1) : y = z := (G.dist a ha).un x y z hx e e' h h'
theorem pl (e : E ps x y) : IsPl S ps x ∧ IsPl S ps y := e.pl G.ends
theorem le (ha : IsPl S ps a) (h : Path ps n x y) : d a y ≤ d a x + n := h.le (f := d a) fun _ _ => (G.dist a ha).step _ _
theorem path (ha : IsPl S ps a) (hx : IsPl S ps x) : Path ps (d a x).toNat x a := by
  have key : ∀ (n : Nat) (x : Pl), IsPl S ps x → (d a x).toNat = n → Path ps n x a := fun n => by
    induction n with
    | zero =>
      intro x hx h
      by_cases hxa : x = a
      · rw [hxa]; exact .nil a
      · obtain ⟨y, e, hy⟩ := G.near ha hx hxa
        have := G.pos ha (G.pl e).2
        omega
    | succ n ih =>
      intro x hx h
      by_cases hxa : x = a
      · rw [hxa, G.self ha] at h; simp at h
      · obtain ⟨y, e, hy⟩ := G.near ha hx hxa
        exact .cons e (ih y (G.pl e).2 (by omega))
  exact key _ x hx rfl
theorem le0 (ha : IsPl S ps a) (h : Path ps n a y) : d a y ≤ n := by
  have := G.le ha h
  rw [G.self ha] at this; omega
theorem symm (ha : IsPl S ps a) (hb : IsPl S ps b) : d a b = d b a := by
  have h1 := G.le0 ha (G.path hb ha)
  have h2 := G.le0 hb (G.path ha hb)
  have h3 := G.pos ha hb
  have h4 := G.pos hb ha
  omega
theorem tri (ha : IsPl S ps a) (hx : IsPl S ps x) (hy : IsPl S ps y) : d a y ≤ d a x + d x y := by
  have h1 := G.le ha (G.path hx hy).symm
  have h2 := G.pos hx hy
  omega
theorem eq_of (ha : IsPl S ps a) (hb : IsPl S ps b) (h : d a b = 0) : a = b := by
  have q := G.path ha hb
  rw [h] at q
  cases q; rfl
theorem zero_iff (ha : IsPl S ps a) (hb : IsPl S ps b) : d a b = 0 ↔ a = b := ⟨G.eq_of ha hb, fun h => h ▸ G.self ha⟩
theorem edge (e : E ps x y) : d x y = 1 := by
  obtain ⟨hx, hy⟩ := G.pl e
  have h1 := G.self hx
  have h2 := G.step hx e
  have h3 := G.pos hx hy
  omega
theorem edge_of (hx : IsPl S ps x) (hy : IsPl S ps y) (h : d x y = 1) : E ps x y := by
  obtain ⟨z, e, hz⟩ := G.near hx hy (fun z => by rw [z, G.self hx] at h; omega)
  have := G.eq_of hx (G.pl e).2 (by omega)
  subst this
  exact e.symm
/-- the place that lies so far on the row from a to b -/
theorem amid (ha : IsPl S ps a) (hb : IsPl S ps b) {k : Int} (h0 : 0 ≤ k) (h1 : k ≤ d a b) : ∃ x, IsPl S ps x ∧ d a x = k ∧ d x b = d a b - k := by
  have key : ∀ (m : Nat) (b : Pl), IsPl S ps b → k + m = d a b → ∃ x, IsPl S ps x ∧ d a x = k ∧ d x b = d a b - k := fun m => by
    induction m with
    | zero => intro b hb h; exact ⟨b, hb, by omega, by rw [G.self hb]; omega⟩
    | succ m ih =>
      intro b hb h
      obtain ⟨z, e, hz⟩ := G.near ha hb (fun z => by rw [z, G.self ha] at h; omega)
      obtain ⟨x, hx, q1, q2⟩ := ih z (G.pl e).2 (by omega)
      refine ⟨x, hx, q1, ?_⟩
      have h2 := G.step hx e
      have h3 := G.tri ha hx hb
      omega
  exact key (d a b - k).toNat b hb (by omega)
theorem amid_one (ha : IsPl S ps a) (hb : IsPl S ps b) (hx : IsPl S ps x) (hx' : IsPl S ps x') {k : Int} (h1 : d a x = k) (h2 : d x b = d a b - k) (h1' : d a x' = k) (h2' : d x' b = d a b - k) : x = x' := by
  have key : ∀ (m : Nat) (b : Pl), IsPl S ps b → d x b = m → d x b = d a b - k → d x' b = d a b - k → x = x' := fun m => by
    induction m with
    | zero =>
      intro b hb h g g'
      rw [G.eq_of hx hb (by omega), G.eq_of hx' hb (by omega)]
    | succ m ih =>
      intro b hb h g g'
      obtain ⟨z, e, hz⟩ := G.near hx hb (fun z => by rw [z, G.self hx] at h; omega)
      obtain ⟨z', e', hz'⟩ := G.near hx' hb (fun z => by subst z; have := G.self hb; omega)
      have t := G.tri ha hx (G.pl e).2
      have t' := G.tri ha hx' (G.pl e').2
      have s := G.step ha e
      have s' := G.step ha e'
      have : z = z' := G.one ha hb e e' (by omega) (by omega)
      subst this
      exact ih z (G.pl e).2 (by omega) (by omega) (by omega)
  exact key (d x b).toNat b hb (by have := G.pos hx hb; omega) h2 h2'
/-- what lies between a and h, looked at from h's neighbour -/
theorem amid_step (ha : IsPl S ps a) (hp : IsPl S ps p) (e : E ps x y) (hy : d a y = d a x - 1) (hne : x ≠ p) : d a p + d p x = d a x ↔ d a p + d p y = d a y := by
  obtain ⟨hx, hyp⟩ := G.pl e
  have s := G.step hp e
  constructor
  · intro h
    obtain ⟨z, e', hz⟩ := G.near hp hx hne
    have t := G.tri ha hp (G.pl e').2
    have s' := G.step ha e'
    have : z = y := G.one ha hx e' e (by omega) hy
    subst this
    omega
  · intro h
    have t := G.tri ha hp hx
    omega
theorem amid_at (ha : IsPl S ps a) (hp : IsPl S ps p) (h : a ≠ p) : ¬ d a p + d p a = d a a := fun q => by
  have h1 := G.pos ha hp
  have h2 := G.pos hp ha
  rw [G.self ha] at q
  exact h (G.eq_of ha hp (by omega))
/-- a row of places as long as the distance is the row -/
theorem on_row (ha : IsPl S ps a) (hx : IsPl S ps x) (hb : IsPl S ps b) {k m : Nat} (h1 : Path ps k a x) (h2 : Path ps m x b) (h : d a b = (k : Int) + m) : d a x = k ∧ d x b = m := by
  have g1 := G.le0 ha h1
  have g2 := G.le0 hx h2
  have g3 := G.tri ha hx hb
  omega
/-- the parity of three distances; the place amid -/
theorem three (ha : IsPl S ps a) (hb : IsPl S ps b) (hx : IsPl S ps x) : ∃ y, IsPl S ps y ∧ d a y + d y b = d a b ∧ d a y + d y x = d a x ∧ d b y + d y x = d b x := by
  have key : ∀ (m : Nat) (b : Pl), IsPl S ps b → (d a b).toNat = m → ∃ y, IsPl S ps y ∧ d a y + d y b = d a b ∧ d a y + d y x = d a x ∧ d b y + d y x = d b x := fun m => by
    induction m with
    | zero =>
      intro b hb h
      have h0 := G.pos ha hb
      have := G.eq_of ha hb (by omega)
      subst this
      exact ⟨a, ha, by rw [G.self ha]; omega, by rw [G.self ha]; omega, by rw [G.self ha]; omega⟩
    | succ m ih =>
      intro b hb h
      obtain ⟨z, e, hz⟩ := G.near ha hb (fun z => by rw [z, G.self ha] at h; simp at h)
      have hzp := (G.pl e).2
      obtain ⟨y, hy, q1, q2, q3⟩ := ih z hzp (by omega)
      have e1 := G.edge e
      have b1 := G.symm hb hzp
      have b2 := G.symm hb hx
      have b3 := G.symm hzp hx
      have b4 := G.symm hy hb
      have b5 := G.symm hzp hy
      have b6 := G.symm hy hx
      have b7 := G.symm hb hy
      by_cases hzy : z = y
      · subst hzy
        have t0 := G.self hzp
        rcases G.step hx e with s | s
        · -- one step away from x: b lies nearer to x
          have sy : d z x = d b x + 1 := by omega
          refine ⟨b, hb, by rw [G.self hb]; omega, ?_, by rw [G.self hb]; omega⟩
          omega
        · exact ⟨z, hzp, by omega, by omega, by omega⟩
      · refine ⟨y, hy, ?_, q2, ?_⟩
        · have t := G.tri ha hy hb
          have t2 := G.tri hy hzp hb
          omega
        · -- d b y = d z y + 1, d b x = d z x + 1
          have t1 : d y b = d y z + 1 := by
            have t := G.tri ha hy hb
            have t2 := G.tri hy hzp hb
            omega
          rcases G.step hx e with s | s
          · -- b nearer to x than z: then z has two neighbours nearer to x
            exfalso
            obtain ⟨u, eu, hu⟩ := G.near hy hzp hzy
            have t := G.tri hx hy (G.pl eu).2
            have su := G.step hx eu
            have ub : u = b := G.one hx hzp eu e.symm (by omega) (by omega)
            subst ub
            omega
          · omega
  exact key _ b hb rfl
/-- no distance is as great as there are places -/
theorem short (ha : IsPl S ps a) (hb : IsPl S ps b) {keys : List Pl} (hk : ∀ x, IsPl S ps x → x ∈ keys) (hle : ∀ l : List Pl, l.Nodup → (∀ x ∈ l, x ∈ keys) → l.length ≤ keys.length) : d a b < keys.length := by
  have key : ∀ n : Nat, (n : Int) ≤ d a b → ∃ l : List Pl, l.length = n + 1 ∧ l.Nodup ∧ ∀ x ∈ l, IsPl S ps x ∧ d a x ≤ n := fun n => by
    induction n with
    | zero => intro _; exact ⟨[a], rfl, by simp, fun x hx => by simp at hx; subst hx; exact ⟨ha, by rw [G.self ha]; omega⟩⟩
    | succ n ih =>
      intro h
      obtain ⟨l, h1, h2, h3⟩ := ih (by omega)
      obtain ⟨x, hx, q1, _⟩ := G.amid ha hb (k := ((n + 1 : Nat) : Int)) (by omega) h
      refine ⟨x :: l, by simp [h1], List.nodup_cons.mpr ⟨fun z => ?_, h2⟩, fun y hy => ?_⟩
      · have := (h3 x z).2; omega
      · rcases List.mem_cons.mp hy with rfl | hy
        · exact ⟨hx, by omega⟩
        · exact ⟨(h3 y hy).1, by have := (h3 y hy).2; omega⟩
  have h0 := G.pos ha hb
  obtain ⟨l, h1, h2, h3⟩ := key (d a b).toNat (by omega)
  have := hle l h2 fun x hx => hk x (h3 x hx).1
  omega
end Geo
end
/-! ### of a tree -/
def dd (g : Int → Int → Int) (ps : List Pipe) (a x : Pl) : Int := fOf (hOf g ps a) ps a x
theorem geo {g : Int → Int → Int} {S : List Int} {ps : List Pipe} (M : Metric g S ps) (hok : ∀ p ∈ ps, 1 ≤ p.len) : Geo S ps (dd g ps) := by
  refine ⟨fun p hp => ⟨(M.ends p hp).1, (M.ends p hp).2.1⟩, fun a ha => ?_⟩
  refine dist_of ?_ hok M.ends ha
  cases a with
  | room s => exact root_room M hok ha
  | on i j =>
    obtain ⟨p, e, h0, h1⟩ := ha
    exact root_on M hok e h0 h1
end K43

namespace K43
open PySem L2 RW
/-! ### each step once; the neighbours of a place as a row -/
section
variable {S : List Int} {ps : List Pipe} {g : Int → Int → Int} {p p' : Pipe} {q q' : Nat} {k j : Int}
theorem ln_cases (p : Pipe) (q : Nat) (k : Int) : (k = 0 ∧ ln p q k = .room p.a) ∨ (k ≠ 0 ∧ k = p.len ∧ ln p q k = .room p.b) ∨ (k ≠ 0 ∧ k ≠ p.len ∧ ln p q k = .on q k) := by
  unfold ln
  by_cases h : k = 0
  · exact .inl ⟨h, by rw [if_pos h]⟩
  · by_cases h2 : k = p.len
    · exact .inr (.inl ⟨h, h2, by rw [if_neg h, if_pos h2]⟩)
    · exact .inr (.inr ⟨h, h2, by rw [if_neg h, if_neg h2]⟩)
theorem ln_inj (hab : p.a < p.b) (h : ln p q k = ln p q j) : k = j := by
  rcases ln_cases p q k with ⟨h1, e1⟩ | ⟨h1, h2, e1⟩ | ⟨h1, h2, e1⟩ <;> rcases ln_cases p q j with ⟨g1, e2⟩ | ⟨g1, g2, e2⟩ | ⟨g1, g2, e2⟩ <;> rw [e1, e2] at h <;> first | omega | (injection h with _ h; omega) | (injection h with h; omega) | (exact (Pl.on.inj h).2) | (cases h; done)
theorem ln_apart (hq : q ≠ q') (h : ln p q k = ln p' q' j) : (k = 0 ∨ k = p.len) ∧ (j = 0 ∨ j = p'.len) := by
  rcases ln_cases p q k with ⟨h1, e1⟩ | ⟨h1, h2, e1⟩ | ⟨h1, h2, e1⟩ <;> rcases ln_cases p' q' j with ⟨g1, e2⟩ | ⟨g1, g2, e2⟩ | ⟨g1, g2, e2⟩ <;> rw [e1, e2] at h <;> first | omega | (injection h with _ h; omega) | (injection h with h; omega) | (exact (Pl.on.inj h).2) | (cases h; done)
theorem join_len (M : Metric g S ps) (hok : ∀ p ∈ ps, 1 ≤ p.len) (hp : p ∈ ps) : g p.a p.b = p.len := by
  obtain ⟨e1, e2, e3⟩ := M.ends p hp
  have := M.mp p.a e1 p hp
  have := M.m0 p.a e1
  have := M.mn p.a e1 p.b e2
  have := hok p hp
  omega
theorem join_one (M : Metric g S ps) (hok : ∀ p ∈ ps, 1 ≤ p.len) (hp : p ∈ ps) (hp' : p' ∈ ps) (ha : p.a = p'.a) (hb : p.b = p'.b) : p = p' := by
  obtain ⟨e1, e2, e3⟩ := M.ends p hp
  have h0 := M.m0 p.a e1
  have h1 := join_len M hok hp
  have h2 := join_len M hok hp'
  refine M.mu p.a e1 p.b e2 p hp p' hp' (.inr ⟨rfl, by omega⟩) (.inr ⟨hb.symm, ?_⟩)
  rw [← ha, h0, h1]
  rw [← ha, ← hb] at h2
  omega
theorem once (M : Metric g S ps) (hok : ∀ p ∈ ps, 1 ≤ p.len) : Once ps := by
  intro q p k q' p' k' e e' h0 h1 h0' h1' h
  have hp := List.mem_of_getElem? e
  have hp' := List.mem_of_getElem? e'
  have hab := (M.ends p hp).2.2
  have hab' := (M.ends p' hp').2.2
  by_cases hq : q = q'
  · subst hq
    rw [e] at e'; cases e'
    refine ⟨rfl, ?_⟩
    rcases h with ⟨h, _⟩ | ⟨h, h'⟩
    · exact ln_inj hab h
    · have := ln_inj hab h
      have := ln_inj hab h'
      omega
  · exfalso
    have l1 := hok p hp
    have l2 := hok p' hp'
    rcases h with ⟨h, h'⟩ | ⟨h, h'⟩
    · have a1 := ln_apart hq h
      have a2 := ln_apart hq h'
      have k0 : k = 0 := by omega
      have k0' : k' = 0 := by omega
      have z : k + 1 = p.len := by omega
      have z' : k' + 1 = p'.len := by omega
      rw [z, z', ln_len l1, ln_len l2] at h'
      rw [k0, k0', ln_0, ln_0] at h
      injection h with ha
      injection h' with hb
      have := join_one M hok hp hp' ha hb
      subst this
      exact hq (ix_inj M.nd e e')
    · have a1 := ln_apart hq h
      have a2 := ln_apart hq h'
      have k0 : k = 0 := by omega
      have k0' : k' = 0 := by omega
      have z : k + 1 = p.len := by omega
      have z' : k' + 1 = p'.len := by omega
      rw [z, k0', ln_len l1, ln_0] at h'
      rw [k0, z', ln_0, ln_len l2] at h
      injection h with ha
      injection h' with hb
      omega
/-! the neighbours in the program's order -/
def nbOne (x : Int) (q : Nat) (p : Pipe) : List Pl := if p.a = x then [ln p q 1] else if p.b = x then [ln p q (p.len - 1)] else []
def nbs (x : Int) : Nat → List Pipe → List Pl
  | _, [] => []
  | k, p :: r => nbOne x k p ++ nbs x (k + 1) r
theorem nbs_mem (x : Int) : ∀ (l : List Pipe) (k : Nat) (d : Pl), d ∈ nbs x k l ↔ ∃ i p, l[i]? = some p ∧ d ∈ nbOne x (k + i) p
  | [], k, d => by simp [nbs]
  | p :: l, k, d => by
    rw [nbs, List.mem_append, nbs_mem x l (k + 1) d]
    constructor
    · rintro (h | ⟨i, q, h1, h2⟩)
      · exact ⟨0, p, rfl, h⟩
      · exact ⟨i + 1, q, h1, by rw [show k + (i + 1) = k + 1 + i by omega]; exact h2⟩
    · rintro ⟨i, q, h1, h2⟩
      cases i with
      | zero => simp at h1; subst h1; exact .inl h2
      | succ i => exact .inr ⟨i, q, h1, by rw [show k + 1 + i = k + (i + 1) by omega]; exact h2⟩
def nbr (ps : List Pipe) : Pl → List Pl
  | .room x => nbs x 0 ps
  | .on q k => match ps[q]? with
    | some p => [ln p q (k - 1), ln p q (k + 1)]
    | none => []
theorem nbOne_E (hl : 1 ≤ p.len) (e : ps[q]? = some p) {x : Int} {y : Pl} (h : y ∈ nbOne x q p) : E ps (.room x) y := by
  unfold nbOne at h
  split at h
  · rename_i ha
    simp at h; subst h
    exact ⟨q, p, 0, e, by omega, by omega, .inl ⟨by rw [ln_0, ha], rfl⟩⟩
  · split at h
    · rename_i hb
      simp at h; subst h
      exact ⟨q, p, p.len - 1, e, by omega, by omega, .inr ⟨by rw [show p.len - 1 + 1 = p.len by omega, ln_len hl, hb], rfl⟩⟩
    · simp at h
theorem mem_nbr (M : Metric g S ps) (hok : ∀ p ∈ ps, 1 ≤ p.len) {x y : Pl} (hx : IsPl S ps x) : y ∈ nbr ps x ↔ E ps x y := by
  cases x with
  | room r =>
    show y ∈ nbs r 0 ps ↔ _
    rw [nbs_mem]
    constructor
    · rintro ⟨i, p, e, h⟩
      rw [Nat.zero_add] at h
      exact nbOne_E (hok p (List.mem_of_getElem? e)) e h
    · intro h
      obtain ⟨q, p, e, h⟩ := E_room hok h
      have hab := (M.ends p (List.mem_of_getElem? e)).2.2
      refine ⟨q, p, e, ?_⟩
      rw [Nat.zero_add]
      unfold nbOne
      rcases h with ⟨h1, h2⟩ | ⟨h1, h2⟩
      · rw [if_pos h1, h2]; simp
      · rw [if_neg (by omega), if_pos h1, h2]; simp
  | on q k =>
    obtain ⟨p, e, h0, h1⟩ := hx
    simp only [nbr, e]
    constructor
    · intro h
      simp at h
      rcases h with rfl | rfl
      · exact ⟨q, p, k - 1, e, by omega, by omega, .inr ⟨by rw [show k - 1 + 1 = k by omega, ln_on h0 h1], rfl⟩⟩
      · exact ⟨q, p, k, e, by omega, by omega, .inl ⟨(ln_on h0 h1).symm, rfl⟩⟩
    · intro h
      rcases E_on e h0 h1 h with rfl | rfl <;> simp
theorem nbr_room_one (M : Metric g S ps) (hok : ∀ p ∈ ps, 1 ≤ p.len) {x : Int} {y : Pl} (e : ps[q]? = some p) (e' : ps[q']? = some p') (h : y ∈ nbOne x q p) (h' : y ∈ nbOne x q' p') : q = q' := by
  have hp := List.mem_of_getElem? e
  have hp' := List.mem_of_getElem? e'
  have l1 := hok p hp
  have l2 := hok p' hp'
  have key : ∀ {q : Nat} {p : Pipe}, ps[q]? = some p → 1 ≤ p.len → y ∈ nbOne x q p → (ln p q 0 = .room x ∧ ln p q (0 + 1) = y ∧ (0 : Int) < p.len) ∨ (ln p q (p.len - 1) = y ∧ ln p q (p.len - 1 + 1) = .room x) := fun {q p} e hl h => by
    unfold nbOne at h
    split at h
    · rename_i ha
      simp at h
      exact .inl ⟨by rw [ln_0, ha], h.symm, by omega⟩
    · split at h
      · rename_i hb
        simp at h
        exact .inr ⟨h.symm, by rw [show p.len - 1 + 1 = p.len by omega, ln_len hl, hb]⟩
      · simp at h
  have O := once M hok
  rcases key e l1 h with ⟨a1, a2, a3⟩ | ⟨a1, a2⟩ <;> rcases key e' l2 h' with ⟨b1, b2, b3⟩ | ⟨b1, b2⟩
  · exact (O q p 0 q' p' 0 e e' (by omega) (by omega) (by omega) (by omega) (.inl ⟨a1.trans b1.symm, a2.trans b2.symm⟩)).1
  · exact (O q p 0 q' p' (p'.len - 1) e e' (by omega) (by omega) (by omega) (by omega) (.inr ⟨a1.trans b2.symm, a2.trans b1.symm⟩)).1
  · exact (O q p (p.len - 1) q' p' 0 e e' (by omega) (by omega) (by omega) (by omega) (.inr ⟨a1.trans b2.symm, a2.trans b1.symm⟩)).1
  · exact (O q p (p.len - 1) q' p' (p'.len - 1) e e' (by omega) (by omega) (by omega) (by omega) (.inl ⟨a1.trans b1.symm, a2.trans b2.symm⟩)).1
theorem nbs_nodup {x : Int} : ∀ (l : List Pipe) (k : Nat), (∀ i j p p' y, l[i]? = some p → l[j]? = some p' → y ∈ nbOne x (k + i) p → y ∈ nbOne x (k + j) p' → i = j) → (nbs x k l).Nodup
  | [], k, _ => .nil
  | p :: l, k, h => by
    rw [nbs, List.nodup_append]
    refine ⟨?_, nbs_nodup l (k + 1) fun i j p1 p2 y e1 e2 m1 m2 => ?_, fun u hu v hv e => ?_⟩
    · unfold nbOne
      split
      · simp
      · split <;> simp
    · have := h (i + 1) (j + 1) p1 p2 y e1 e2 (by rw [show k + (i + 1) = k + 1 + i by omega]; exact m1) (by rw [show k + (j + 1) = k + 1 + j by omega]; exact m2)
      omega
    · subst e
      obtain ⟨i, p', e', m⟩ := (nbs_mem x l (k + 1) u).mp hv
      have := h 0 (i + 1) p p' u rfl e' hu (by rw [show k + (i + 1) = k + 1 + i by omega]; exact m)
      omega
theorem nbr_nodup (M : Metric g S ps) (hok : ∀ p ∈ ps, 1 ≤ p.len) {x : Pl} (hx : IsPl S ps x) : (nbr ps x).Nodup := by
  cases x with
  | room r =>
    refine nbs_nodup ps 0 fun i j p p' y e e' h h' => ?_
    rw [Nat.zero_add] at h h'
    exact nbr_room_one M hok e e' h h'
  | on q k =>
    obtain ⟨p, e, h0, h1⟩ := hx
    simp only [nbr, e]
    have hab := (M.ends p (List.mem_of_getElem? e)).2.2
    simp
    intro z
    have := ln_inj hab z
    omega
end
end K43

namespace K43
open PySem L2 RW
/-! ### places as data -/
def penc : Pl → PyData
  | .room r => .tuple [.int r]
  | .on q k => .tuple [.int q, .int k]
theorem pl_py (x : Pl) (μ : Mem) : D.py? 8 μ x.d = some (penc x) := by cases x <;> simp [Pl.d, penc, D.py?, D.pys?]
theorem pl_depth (x : Pl) : (penc x).depth ≤ 32 := by cases x <;> simp [penc, PyData.depth, PyData.depthAll]
theorem pl_isTup (x : Pl) : isTupD (penc x) = true := by cases x <;> rfl
theorem pl_shaped (x : Pl) : SeqAt.shaped (penc x) = true := by cases x <;> simp [penc, SeqAt.shaped, PyData.canLay0, PyData.canLayAll0, PyData.depth, PyData.depthAll]
theorem pl_alike (x y : Pl) : PySem.W.alike (penc x) (penc y) = true := by cases x <;> cases y <;> simp [penc, PySem.W.alike, PySem.W.alikeAll]
theorem pl_toks (x y : Pl) (h : PySem.W.keyToks (penc x) = PySem.W.keyToks (penc y)) : x = y := by
  cases x <;> cases y <;> simp [penc, PySem.W.keyToks, PySem.W.keyToksAll] at h
  · rw [h]
  · obtain ⟨h1, h2⟩ := h
    rw [Int.ofNat_inj.mp h1, h2]
theorem pl_eqv (x y : Pl) : PyData.eqv (penc x) (penc y) = decide (x = y) := by
  cases x <;> cases y <;> simp [penc, PyData.eqv, PyData.eqvAll]
  · rfl
  · rename_i i k j l
    by_cases h : i = j
    · by_cases h2 : k = l <;> simp [h, h2]
    · have h' : ¬ (i : Int) = j := fun z => h (Int.ofNat_inj.mp z)
      by_cases h2 : k = l <;> simp [h, h', h2]
theorem eqP {x y : Pl} {μ : Mem} : eqD x.d y.d μ = .ok (.bl (decide (x = y))) μ := by
  simp only [eqD, pl_py, pl_shaped, Bool.and_self, if_true, pl_eqv]
theorem sorted_pl {μ : Mem} {n : Nat} {l : List Pl} (e : μ[n]? = some (.lst (l.map Pl.d))) (hl : l.length ≤ 1000) : sortedA [.ref n] μ = .ok (.ref μ.length) (μ ++ [.lst ((sortE penc l).map Pl.d)]) :=
  sorted_tup e (by omega) (fun x _ => ⟨pl_py x μ, pl_depth x, pl_isTup x⟩) fun x _ y _ => pl_alike x y
theorem sortP_eq {l l' : List Pl} (h : l.Perm l') : sortE penc l = sortE penc l' := sortE_eq h fun x _ y _ => pl_toks x y
theorem paired_at {α β : Type} {F : α → β → Prop} : ∀ {l : List α} {l' : List β} {i : Nat} {a : α}, Paired F l l' → l[i]? = some a → ∃ b, l'[i]? = some b ∧ F a b
  | _, _, _, _, .nil, e => by simp at e
  | _ :: _, _ :: _, 0, _, .cons h _, e => by simp at e; subst e; exact ⟨_, rfl, h⟩
  | _ :: _, _ :: _, i + 1, _, .cons _ t, e => by simpa using paired_at t (by simpa using e)
/-! ### the program's place_at, next_to -/
section
variable {S : List Int} {ps : List Pipe} {g : Int → Int → Int} {p : Pipe} {q R : Nat} {k : Int} {μ : Mem}
theorem place_at_spec (e : ps[q]? = some p) : m_place_at [houseD R ps, .int q, .int k] μ = .ok (ln p q k).d μ := by
  have i1 : idxA (houseD R ps) (.int 1) μ = .ok (.tup (ps.map Pipe.d)) μ := ix_tup (by decide) rfl
  have i2 : idxA (.tup (ps.map Pipe.d)) (.int (q : Int)) μ = .ok p.d μ := ix_tup (by omega) (by rw [Int.toNat_natCast, List.getElem?_map, e]; rfl)
  have start : b_place_at (startR 8 [houseD R ps, .int q, .int k]) μ = sSeq (sIf (mTest (mBin eqD (mVar 2) (mC (.int 0)))) (sRet (mTup (mCons (mVar 3) (mNil)))) (sNil))
    (sSeq (sIf (mTest (mBin eqD (mVar 2) (mVar 5))) (sRet (mTup (mCons (mVar 4) (mNil)))) (sNil))
    (sRet (mTup (mCons (mVar 1) (mCons (mVar 2) (mNil)))))) [some (houseD R ps), some (.int q), some (.int k), some (.int p.a), some (.int p.b), some (.int p.len), some (.tup (p.nar.map pairD)), some (.tup (p.fl.map pairD))] μ := by
    unfold b_place_at
    rw [seq_asg (d := p.d) (μ1 := μ) (ρ2 := [some (houseD R ps), some (.int q), some (.int k), some (.int p.a), some (.int p.b), some (.int p.len), some (.tup (p.nar.map pairD)), some (.tup (p.fl.map pairD))]) (μ2 := μ) (by simp [startR, i1, i2]) rfl]
  refine run_is (start.trans ?_)
  rcases ln_cases p q k with ⟨h1, e1⟩ | ⟨h1, h2, e1⟩ | ⟨h1, h2, e1⟩
  · exact seq_ret ((if_t (μ1 := μ) (by simp [eqI, h1])).trans (ret_is (by rw [e1]; simp [Pl.d])))
  · refine (seq_skip (μ1 := μ) (by simp [eqI, h1])).trans ?_
    exact seq_ret ((if_t (μ1 := μ) (by simp [eqI, h2])).trans (ret_is (by rw [e1]; simp [Pl.d])))
  · refine (seq_skip (μ1 := μ) (by simp [eqI, h1])).trans ?_
    refine (seq_skip (μ1 := μ) (by simp [eqI, h2])).trans (ret_is (by rw [e1]; simp [Pl.d]))
end
end K43

/-! S40: family E's deck. -/
namespace K43
open PySem L2 RW
/-- the deck at k, its digits at c; N: no more mixed draws than that -/
def Dk (μ : Mem) (k c N : Nat) : Prop := k ≠ c ∧ ∃ (gs : List Int) (w t : Nat), μ[k]? = some (.lst [.ref c, .int w, .int t]) ∧ μ[c]? = some (.lst (gs.map .int)) ∧ (∀ x ∈ gs, 0 ≤ x) ∧ gs.length ≤ 63 ∧ t ≤ N ∧ w < 2305843009213693951
section
variable {μ μ' : Mem} {k c N : Nat} {ex : List Nat}
theorem Dk.mono {M : Nat} (h : Dk μ k c N) (hm : N ≤ M) : Dk μ k c M := by
  obtain ⟨n, gs, w, t, e1, e2, h1, h2, h3, h4⟩ := h
  exact ⟨n, gs, w, t, e1, e2, h1, h2, by omega, h4⟩
theorem Dk.keep (h : Dk μ k c N) (w : Keep ex μ μ') (h1 : k ∉ ex) (h2 : c ∉ ex) : Dk μ' k c N := by
  obtain ⟨n, gs, w', t, e1, e2, h3⟩ := h
  exact ⟨n, gs, w', t, w.get e1 h1, w.get e2 h2, h3⟩
theorem Dk.app {cs : List Cell} (h : Dk μ k c N) : Dk (μ ++ cs) k c N := h.keep (ex := []) Keep.app (by simp) (by simp)
theorem Dk.lt (h : Dk μ k c N) : k < μ.length ∧ c < μ.length := by
  obtain ⟨n, gs, w, t, e1, e2, h3⟩ := h
  exact ⟨at_lt e1, at_lt e2⟩
theorem lst_ne {cs : List Int} {n : Nat} (e : μ[c]? = some (.lst (cs.map .int))) (e2 : μ[n]? = some (.lst [])) : neD (.ref c) (.ref n) μ = .ok (.bl (!cs.isEmpty)) μ := by
  have pys : ∀ l : List Int, D.pys? 7 μ (l.map D.int) = some (l.map PyData.int) := fun l => by
    induction l with
    | nil => simp [D.pys?]
    | cons a l ih => simp [D.pys?, D.py?, ih]
  have h1 : D.py? 8 μ (.ref c) = some (.list (cs.map PyData.int)) := by simp [D.py?, e, pys]
  have h2 : D.py? 8 μ (.ref n) = some (.list []) := by simp [D.py?, e2, D.pys?]
  have h3 : SeqAt.shaped (.list []) = true := by rfl
  have h4 : SeqAt.shaped (.list (cs.map PyData.int)) = true := by
    have g1 : ∀ l : List Int, PyData.canLayAll0 (l.map PyData.int) = true := fun l => by
      induction l with
      | nil => rfl
      | cons a l ih => simp [PyData.canLayAll0, PyData.canLay0, ih]
    have g2 : ∀ l : List Int, PyData.depthAll (l.map PyData.int) = 0 := fun l => by
      induction l with
      | nil => rfl
      | cons a l ih => simp [PyData.depthAll, PyData.depth, ih]
    unfold SeqAt.shaped
    refine Bool.and_eq_true_iff.mpr ⟨by simp only [PyData.canLay0, g1], decide_eq_true ?_⟩
    simp only [PyData.depth, g2]; omega
  simp only [neD, h1, h2, h3, h4, Bool.and_self, if_true]
  cases cs <;> simp [PyData.eqv, PyData.eqvAll]
noncomputable def nxB : MS := sSeq (sSet 2 (mMt0 isLst popM (mBin idxA (mVar 0) (mC (.int 0)))))
    (sIf (mTest (mBin (cmpI fun i j => decide (j < i)) (mVar 2) (mC (.int 0)))) (sSeq (sExpr (mMt isLst appendM (mBin idxA (mVar 0) (mC (.int 0))) (mCons (mBin fdivD (mVar 2) (mVar 1)) (mNil))))
    (sRet (mBin modD (mVar 2) (mVar 1)))) (sNil))
noncomputable def nxT : MS := sSeq (sAsg (mBin addD (mBin idxA (mVar 0) (mC (.int 2))) (mC (.int 1))) (gSubM setDD (mVar 0) (mC (.int 2))))
    (sSeq (sSet 3 (mBin addD (mBin mulD (mBin idxA (mVar 0) (mC (.int 1))) (mBin addD (mC (.int 48271)) (mBin mulD (mC (.int 69621)) (mBin idxA (mVar 0) (mC (.int 2)))))) (mBin mulD (mC (.int 40692)) (mBin idxA (mVar 0) (mC (.int 2))))))
    (sSeq (sSet 3 (mBin modD (mVar 3) (mC (.int 2305843009213693951))))
    (sSeq (sSet 3 (mBin modD (mBin mulD (mVar 3) (mVar 3)) (mC (.int 2305843009213693951))))
    (sRet (mBin modD (mBin fdivD (mBin modD (mBin mulD (mVar 3) (mVar 3)) (mC (.int 4611686018427387847))) (mC (.int 16))) (mVar 1))))))
theorem next_eq : b_law_next = sSeq (whileL (mTest (mBin neD (mBin idxA (mVar 0) (mC (.int 0))) (mLst (mNil)))) nxB 1000) nxT := rfl
theorem nxT_spec {j : Int} {o2 o3 : Option D} (h : Dk μ k c N) (hN : N < 1000000) (hj : 0 < j) : ∃ (x : Int) (μ' : Mem), nxT [some (.ref k), some (.int j), o2, o3] μ = .ok (.ret (.int x)) μ' ∧ 0 ≤ x ∧ x < j ∧ Dk μ' k c (N + 1) ∧ Keep [k, c] μ μ' := by
  obtain ⟨n1, gs, w, t, e1, e2, h1, h2, h3, h4⟩ := h
  have l1 := at_lt e1
  let μ1 : Mem := μ.set k (.lst [.ref c, .int w, .int ((t : Int) + 1)])
  have e11 : μ1[k]? = some (.lst [.ref c, .int w, .int ((t + 1 : Nat) : Int)]) := by rw [show μ1 = _ from rfl, set_at l1]; rfl
  have e21 : μ1[c]? = some (.lst (gs.map .int)) := (set_ne' n1).trans e2
  have s1 : setDD (.ref k) (.int 2) (.int ((t : Int) + 1)) μ = .ok () μ1 := set_lst' e1 (by decide) (by show (2 : Int) < 3; decide)
  have i2 : idxA (.ref k) (.int 2) μ = .ok (.int t) μ := ix_lst e1 (by decide) rfl
  have j1 : idxA (.ref k) (.int 1) μ1 = .ok (.int w) μ1 := ix_lst e11 (by decide) rfl
  have j2 : idxA (.ref k) (.int 2) μ1 = .ok (.int ((t + 1 : Nat) : Int)) μ1 := ix_lst e11 (by decide) rfl
  let T : Int := ((t + 1 : Nat) : Int)
  have hT : T = ((t + 1 : Nat) : Int) := rfl
  let m0 : Int := w * (48271 + 69621 * T) + 40692 * T
  obtain ⟨a1, b1⟩ := mod_rng (i := m0) (j := 2305843009213693951) (by decide)
  generalize hx1 : m0 % 2305843009213693951 = x1 at a1 b1
  obtain ⟨a2, b2⟩ := mod_rng (i := x1 * x1) (j := 2305843009213693951) (by decide)
  generalize hx2 : x1 * x1 % 2305843009213693951 = x2 at a2 b2
  obtain ⟨a3, b3⟩ := mod_rng (i := x2 * x2 % 4611686018427387847 / 16) (j := j) hj
  have hw : (w : Int).natAbs < 18446744073709551616 := by omega
  have t2 : T.natAbs < 18446744073709551616 := by omega
  have x1b : x1.natAbs < 18446744073709551616 := by omega
  have x2b : x2.natAbs < 18446744073709551616 := by omega
  refine ⟨x2 * x2 % 4611686018427387847 / 16 % j, μ1, ?_, a3, b3, ⟨n1, gs, w, t + 1, e11, e21, h1, h2, by omega, h4⟩, Keep.set (by simp)⟩
  unfold nxT
  refine (seq_asg (d := .int ((t : Int) + 1)) (μ1 := μ) (ρ2 := [some (.ref k), some (.int j), o2, o3]) (μ2 := μ1) (by simp [i2, add_ok]) (by simp [s1])).trans ?_
  have z1 : mBin addD (mBin mulD (mBin idxA (mVar 0) (mC (.int 1))) (mBin addD (mC (.int 48271)) (mBin mulD (mC (.int 69621)) (mBin idxA (mVar 0) (mC (.int 2)))))) (mBin mulD (mC (.int 40692)) (mBin idxA (mVar 0) (mC (.int 2)))) [some (.ref k), some (.int j), o2, o3] μ1 = .ok (.int m0) μ1 := by
    simp only [mBin, mVar, mC, List.getElem?_cons_zero, Res.bind, j1, j2, mul_ok (.inl (show (69621 : Int).natAbs < 18446744073709551616 by decide)), mul_ok (.inl (show (40692 : Int).natAbs < 18446744073709551616 by decide)), add_ok, mul_ok (.inl hw)]
    rfl
  refine (seq_set z1).trans ?_
  refine (seq_set (d := .int x1) (μ1 := μ1) (by simp only [mBin, mVar, mC, List.set_cons_succ, List.set_cons_zero, List.getElem?_cons_succ, List.getElem?_cons_zero, Res.bind, mod_ok (show (0 : Int) < 2305843009213693951 by decide), hx1])).trans ?_
  refine (seq_set (d := .int x2) (μ1 := μ1) (by simp only [mBin, mVar, mC, List.set_cons_succ, List.set_cons_zero, List.getElem?_cons_succ, List.getElem?_cons_zero, Res.bind, mul_ok (.inl x1b), mod_ok (show (0 : Int) < 2305843009213693951 by decide), hx2])).trans ?_
  refine ret_is ?_
  simp only [mBin, mVar, mC, List.set_cons_succ, List.set_cons_zero, List.getElem?_cons_succ, List.getElem?_cons_zero, Res.bind, mul_ok (.inl x2b), mod_ok (show (0 : Int) < 4611686018427387847 by decide), fdiv_ok (show (0 : Int) < 16 by decide) (show (16 : Int) < 18446744073709551616 by decide), mod_ok hj]
theorem next_spec {j : Int} (h : Dk μ k c N) (hN : N < 1000000) (hj : 0 < j) (hj2 : j < 18446744073709551616) :
    ∃ (x : Int) (μ' : Mem), m_law_next [.ref k, .int j] μ = .ok (.int x) μ' ∧ 0 ≤ x ∧ x < j ∧ Dk μ' k c (N + 1) ∧ Keep [k, c] μ μ' := by
  obtain ⟨n1, gs, w, t, e1, e2, h1, h2, h3, h4⟩ := h
  have loop := whileL_ret (c := mTest (mBin neD (mBin idxA (mVar 0) (mC (.int 0))) (mLst (mNil)))) (body := nxB)
    (fun m ρ μ' => ∃ (gs : List Int) (o2 : Option D), ρ = [some (.ref k), some (.int j), o2, none] ∧ μ'[k]? = some (.lst [.ref c, .int w, .int t]) ∧ μ'[c]? = some (.lst (gs.map .int)) ∧ (∀ x ∈ gs, 0 ≤ x) ∧ gs.length ≤ 63 ∧ m = gs.length ∧ Keep [k, c] μ μ') gs.length (n := 1000)
    (ρ := [some (.ref k), some (.int j), none, none]) (μ := μ) (by omega) ⟨gs, none, rfl, e1, e2, h1, h2, rfl, .refl⟩
    (fun ρ μ' => ∃ o2, ρ = [some (.ref k), some (.int j), o2, none] ∧ Dk μ' k c N ∧ Keep [k, c] μ μ')
    (fun d μ' => ∃ x : Int, d = .int x ∧ 0 ≤ x ∧ x < j ∧ Dk μ' k c N ∧ Keep [k, c] μ μ')
    (fun m ρ μ1 ⟨gs, o2, eρ, e1, e2, h1, h2, em, kk⟩ => by
      subst eρ
      have i0 : idxA (.ref k) (.int 0) μ1 = .ok (.ref c) μ1 := ix_lst e1 (by decide) rfl
      have ne := lst_ne (n := μ1.length) (cs := gs) (μ := μ1 ++ [Cell.lst []]) (app_at e2) app_new
      have e1' : (μ1 ++ [Cell.lst []])[k]? = some (.lst [.ref c, .int w, .int t]) := app_at e1
      have e2' : (μ1 ++ [Cell.lst []])[c]? = some (.lst (gs.map .int)) := app_at e2
      have kk' : Keep [k, c] μ (μ1 ++ [Cell.lst []]) := kk.trans Keep.app
      refine .mk (a := !gs.isEmpty) (μ := μ1 ++ [.lst []]) (by simp [i0, ne]) ?_
      cases hg : gs.isEmpty with
      | true => exact ⟨o2, rfl, ⟨n1, gs, w, t, e1', e2', h1, h2, h3, h4⟩, kk'⟩
      | false =>
        have hne : gs ≠ [] := fun z => by rw [z] at hg; cases hg
        obtain ⟨hs, y, rfl⟩ : ∃ hs y, gs = hs ++ [y] := ⟨gs.dropLast, gs.getLast hne, (List.dropLast_concat_getLast hne).symm⟩
        have y0 : 0 ≤ y := h1 y (by simp)
        have hs0 : ∀ x ∈ hs, 0 ≤ x := fun x hx => h1 x (by simp [hx])
        have hl : (hs ++ [y]).length = hs.length + 1 := by simp
        let μ2 : Mem := (μ1 ++ [Cell.lst []]).set c (.lst (hs.map .int))
        have i0' : idxA (.ref k) (.int 0) (μ1 ++ [Cell.lst []]) = .ok (.ref c) (μ1 ++ [Cell.lst []]) := ix_lst e1' (by decide) rfl
        have pop : popM (.ref c) [] (μ1 ++ [Cell.lst []]) = .ok (.int y) μ2 := by
          simp only [popM, e2', List.map_append, List.map_cons, List.map_nil, List.getLast?_append, List.getLast?_singleton, Option.some_or, List.dropLast_concat, μ2]
        have il : isLst (.ref c) (μ1 ++ [Cell.lst []]) = true := by simp only [isLst, e2']
        have g1 : μ2[k]? = some (.lst [.ref c, .int w, .int t]) := (set_ne' (Ne.symm n1)).trans e1'
        have g2 : μ2[c]? = some (.lst (hs.map .int)) := set_at (at_lt e2')
        have k2 : Keep [k, c] μ μ2 := kk'.trans (Keep.set (by simp))
        have st : sSet 2 (mMt0 isLst popM (mBin idxA (mVar 0) (mC (.int 0)))) [some (.ref k), some (.int j), o2, none] (μ1 ++ [Cell.lst []]) = .ok (.nx [some (.ref k), some (.int j), some (.int y), none]) μ2 := by
          simp [i0', il, pop]
        by_cases hy : 0 < y
        · have i0'' : idxA (.ref k) (.int 0) μ2 = .ok (.ref c) μ2 := ix_lst g1 (by decide) rfl
          have il2 : isLst (.ref c) μ2 = true := by simp only [isLst, g2]
          let μ3 : Mem := μ2.set c (.lst ((hs ++ [y / j]).map .int))
          have ap : appendM (.ref c) [.int (y / j)] μ2 = .ok .non μ3 := by
            have : (hs.map D.int).length < sizeLine := by rw [List.length_map, sizeLine_eq]; omega
            simp only [appendM, g2, if_pos this, μ3, List.map_append, List.map_cons, List.map_nil]
          obtain ⟨r1, r2⟩ := mod_rng (i := y) hj
          have yd : 0 ≤ y / j := Int.ediv_nonneg y0 (by omega)
          refine .mk (a := .ret (.int (y % j))) (μ := μ3) ?_ (.inr ⟨_, rfl, y % j, rfl, r1, r2, ⟨n1, hs ++ [y / j], w, t, (set_ne' (Ne.symm n1)).trans g1, set_at (at_lt g2), fun x hx => ?_, by simp; omega, h3, h4⟩, k2.trans (Keep.set (by simp))⟩)
          · unfold nxB
            refine (seq_run st).trans ((if_t (μ1 := μ2) (by simp [cmpI, hy])).trans ((seq_expr (d := .non) (μ1 := μ3) ?_).trans (ret_is ?_)))
            · simp [i0'', il2, fdiv_ok hj hj2, ap]
            · simp [mod_ok hj]
          · rcases List.mem_append.mp hx with hx | hx
            · exact hs0 x hx
            · simp at hx; subst hx; exact yd
        · refine .mk (a := .nx [some (.ref k), some (.int j), some (.int y), none]) (μ := μ2) ?_ (.inl ⟨_, hs.length, .inl rfl, by omega, hs, some (.int y), rfl, g1, g2, hs0, by omega, rfl, k2⟩)
          unfold nxB
          exact (seq_run st).trans ((if_f (μ1 := μ2) (by simp [cmpI]; omega)).trans rfl))
  obtain ⟨f, μ1, q, ⟨ρ', rfl, o2, rfl, D1, k1⟩ | ⟨d, rfl, x, rfl, x0, x1, D1, k1⟩⟩ := loop
  · obtain ⟨x, μ2, q2, x0, x1, D2, k2⟩ := nxT_spec (o2 := o2) (o3 := none) D1 hN hj
    exact ⟨x, μ2, run_is (by rw [next_eq]; exact (seq_run q).trans q2), x0, x1, D2, k1.trans k2⟩
  · exact ⟨x, μ1, run_is (by rw [next_eq]; exact seq_ret q), x0, x1, D1.mono (by omega), k1⟩
end
end K43

/-! S41: family E's deck begun; its houses. -/
namespace K43
open PySem L2 RW
def absZ (x : Int) : Int := if x < 0 then -x else x
theorem absZ_nn (x : Int) : 0 ≤ absZ x := by unfold absZ; split <;> omega
noncomputable def bgB : MS := sSet 2 (mBin modD (mBin addD (mBin addD (mBin mulD (mVar 2) (mC (.int 1000033))) (mBin mulD (mC (.int 2)) (mB absL (mCons (mVar 3) (mNil))))) (mB intL (mCons (mBin (cmpI fun i j => decide (i < j)) (mVar 3) (mC (.int 0))) (mNil)))) (mC (.int 2305843009213693951)))
theorem begin_eq : b_law_begin = sSeq (sSet 1 (mComp (iSeq (mVar 0)) (gN 3) (mTest (mBin (cmpI fun i j => decide (j ≤ i)) (mB absL (mCons (mVar 3) (mNil))) (mBin powD (mC (.int 10)) (mC (.int 18))))) (mB absL (mCons (mVar 3) (mNil))) [3]))
    (sSeq (sSet 2 (mBin addD (mC (.int 66)) (mB lenL (mCons (mVar 0) (mNil)))))
    (sSeq (sFor (iSeq (mVar 0)) (gN 3) bgB)
    (sRet (mLst (mCons (mUn backD (mVar 1)) (mCons (mVar 2) (mCons (mC (.int 0)) (mNil)))))))) := rfl
theorem begin_spec (ns : List Int) (hn : ns.length ≤ 63) : ∃ (k c : Nat) (μ : Mem), m_law_begin [.frl (ns.map D.int)] [] = .ok (.ref k) μ ∧ Dk μ k c 0 := by
  let gf : Int → Bool := fun x => decide (1000000000000000000 ≤ absZ x)
  have key := compL_ok (chk := fun _ => True) (g := gN 3) (tt := mTest (mBin (cmpI fun i j => decide (j ≤ i)) (mB absL (mCons (mVar 3) (mNil))) (mBin powD (mC (.int 10)) (mC (.int 18))))) (te := mB absL (mCons (mVar 3) (mNil))) (ρ0 := wipeR (startR 4 [.frl (ns.map D.int)]) [3]) (ns.map D.int)
    (fun j acc μ' => j ≤ ns.length ∧ acc = (((ns.take j).filter gf).map absZ).map D.int ∧ μ' = []) 0 (acc := []) (μ := []) ⟨Nat.zero_le _, by simp, rfl⟩ (fun _ _ _ _ => trivial)
    (fun j d acc μ' e ⟨hj, ea, em⟩ => by
      simp only [Nat.zero_add] at hj ea em ⊢
      subst em
      rw [List.getElem?_map] at e
      obtain ⟨x, ex, rfl⟩ := Option.map_eq_some_iff.mp e
      have hj2 := (List.getElem?_eq_some_iff.mp ex).1
      have hpw : powD (.int 10) (.int 18) [] = .ok (.int 1000000000000000000) [] := by rfl
      refine .mk (a := [some (.frl (ns.map D.int)), none, none, some (.int x)]) (μ := []) rfl (.mk (a := gf x) (μ := []) ?_ ?_)
      · simp only [mTest, mBin, mB, mCons, mNil, mVar, mC, List.getElem?_cons_succ, List.getElem?_cons_zero, Res.bind, absL, hpw, cmpI]
        rfl
      · have tk : (ns.take (j + 1)).filter gf = (ns.take j).filter gf ++ if gf x = true then [x] else [] := by
          rw [List.take_add_one, ex, List.filter_append]
          cases h : gf x <;> simp [h]
        by_cases hx : gf x = true
        · rw [if_pos hx]
          refine ⟨?_, .mk (a := .int (absZ x)) (μ := []) rfl ⟨by omega, ?_, rfl⟩⟩
          · rw [ea, List.length_map, List.length_map, sizeLine_eq]
            have := List.length_filter_le gf (ns.take j)
            rw [List.length_take] at this
            omega
          · rw [tk, if_pos hx, ea]; simp
        · rw [if_neg hx]
          exact ⟨by omega, by rw [tk, if_neg hx, ea]; simp, rfl⟩)
  rw [List.length_map, Nat.zero_add] at key
  obtain ⟨l, μ', e, _, rfl, rfl⟩ := key
  rw [List.take_length] at e
  let gs : List Int := (ns.filter gf).map absZ
  have c1 : mComp (iSeq (mVar 0)) (gN 3) (mTest (mBin (cmpI fun i j => decide (j ≤ i)) (mB absL (mCons (mVar 3) (mNil))) (mBin powD (mC (.int 10)) (mC (.int 18))))) (mB absL (mCons (mVar 3) (mNil))) [3] (startR 4 [.frl (ns.map D.int)]) [] = .ok (.ref 0) [.lst (gs.map D.int)] := by
    have i0 : iSeq (mVar 0) (startR 4 [.frl (ns.map D.int)]) [] = .ok (ns.map D.int, fun _ => True) [] := rfl
    exact comp_is i0 e
  have loop := forL_ok (chk := fun _ => True) (g := gN 3) (body := bgB) (ns.map D.int)
    (fun i ρ μ' => μ' = [Cell.lst (gs.map D.int)] ∧ ∃ (w : Nat) (o3 : Option D), ρ = [some (.frl (ns.map D.int)), some (.ref 0), some (.int w), o3] ∧ w < 2305843009213693951) 0
    (ρ := [some (.frl (ns.map D.int)), some (.ref 0), some (.int ((66 + ns.length : Nat) : Int)), none]) (μ := [Cell.lst (gs.map D.int)]) ⟨rfl, 66 + ns.length, none, rfl, by omega⟩ (fun _ _ _ _ => trivial)
    (fun i d ρ μ' ed ⟨em, w, o3, eρ, hw⟩ => by
      subst em eρ
      rw [List.getElem?_map] at ed
      obtain ⟨x, ex, rfl⟩ := Option.map_eq_some_iff.mp ed
      let v : Int := (w * 1000033 + 2 * absZ x + (if decide (x < 0) = true then 1 else 0)) % 2305843009213693951
      obtain ⟨v0, v1⟩ := mod_rng (i := w * 1000033 + 2 * absZ x + (if decide (x < 0) = true then 1 else 0)) (j := 2305843009213693951) (by decide)
      obtain ⟨w2, hw2⟩ : ∃ w2 : Nat, v = (w2 : Int) := ⟨v.toNat, (Int.toNat_of_nonneg v0).symm⟩
      refine .mk (a := [some (.frl (ns.map D.int)), some (.ref 0), some (.int w), some (.int x)]) (μ := [Cell.lst (gs.map D.int)]) rfl (.mk (a := .nx [some (.frl (ns.map D.int)), some (.ref 0), some (.int w2), some (.int x)]) (μ := [Cell.lst (gs.map D.int)]) ?_ ⟨_, .inl rfl, rfl, w2, _, rfl, by omega⟩)
      rw [← hw2]
      unfold bgB
      refine (set_is (d := .int v) (μ' := [Cell.lst (gs.map D.int)]) ?_).trans rfl
      simp only [mBin, mB, mCons, mNil, mVar, mC, List.getElem?_cons_succ, List.getElem?_cons_zero, Res.bind, absL, cmpI, intL, mul_ok (.inr (show (1000033 : Int).natAbs < 18446744073709551616 by decide)), mul_ok (.inl (show (2 : Int).natAbs < 18446744073709551616 by decide)), add_ok, mod_ok (show (0 : Int) < 2305843009213693951 by decide)]
      rfl)
  obtain ⟨f, μ1, q, ρ', rfl, rfl, w, o3, rfl, hw⟩ := loop
  let μ2 : Mem := [Cell.lst (gs.map D.int), .lst (gs.reverse.map D.int)]
  have bk : backD (.ref 0) [Cell.lst (gs.map D.int)] = .ok (.ref 1) μ2 := by
    simp only [backD, revD, lstAt, List.getElem?_cons_zero, μ2, List.map_reverse]
    rfl
  refine ⟨2, 1, μ2 ++ [.lst [.ref 1, .int w, .int 0]], run_is ?_, by decide, gs.reverse, w, 0, rfl, rfl, fun x hx => ?_, ?_, Nat.le_refl _, hw⟩
  · rw [begin_eq]
    refine (seq_set c1).trans ?_
    refine (seq_set (d := .int ((66 + ns.length : Nat) : Int)) (μ1 := [Cell.lst (gs.map D.int)]) ?_).trans ?_
    · have ll : lenL [.frl (ns.map D.int)] [Cell.lst (gs.map D.int)] = .ok (.int ns.length) [Cell.lst (gs.map D.int)] := by simp only [lenL, List.length_map]
      have : mB lenL (mCons (mVar 0) mNil) ((startR 4 [.frl (ns.map D.int)]).set 1 (some (.ref 0))) [Cell.lst (gs.map D.int)] = .ok (.int ns.length) [Cell.lst (gs.map D.int)] := by
        simp only [mB, mCons, mNil, mVar, startR]
        exact ll
      simp only [mBin, mC, Res.bind, this, add_ok]
      rfl
    · refine (seq_run (for_run (chk := fun _ => True) (items := ns.map D.int) (μ1 := [Cell.lst (gs.map D.int)]) rfl q)).trans (ret_is ?_)
      simp [bk, μ2]
  · rw [List.mem_reverse] at hx
    obtain ⟨y, _, rfl⟩ := List.mem_map.mp hx
    exact absZ_nn y
  · rw [List.length_reverse, List.length_map]
    have := List.length_filter_le gf ns
    omega
end K43

/-! S42: family E's houses. -/
namespace K43
open PySem L2 RW
structure LaidE (far : Int) (i : Nat) (ps : List Pipe) : Prop where
  len : ps.length = i
  tree : Tree (upTo (i + 1)) ps
  ok : ∀ p ∈ ps, p.Ok
  rng : ∀ p ∈ ps, 0 ≤ p.a ∧ p.a < p.b ∧ p.b < 1 + (i : Int)
  nar : ((ps.map fun p => (p.nar.length : Int)).sum) ≤ (i : Int)
  fla : ∀ p ∈ ps, p.fl = []
  lng : ∀ p ∈ ps, p.len ≤ far
theorem LaidE.more {far : Int} {i w : Nat} {ps : List Pipe} {p : Pipe} (L : LaidE far i ps) (hw : w ≤ i) (pa : 0 ≤ p.a ∧ p.a < 1 + (i : Int)) (pb : p.b = 1 + (i : Int)) (pok : p.Ok) (plen : p.len ≤ far) (pn : p.nar.length ≤ 1) (pf : p.fl = []) :
    LaidE far (i + 1) (ps.take w ++ [p] ++ ps.drop w) := by
  have hmem : ∀ q ∈ ps.take w ++ [p] ++ ps.drop w, q = p ∨ q ∈ ps := fun q hq => by
    rcases List.mem_append.mp hq with hq | hq
    · rcases List.mem_append.mp hq with hq | hq
      · exact .inr (List.mem_of_mem_take hq)
      · simp at hq; exact .inl hq
    · exact .inr (List.mem_of_mem_drop hq)
  have hl := L.len
  refine ⟨by simp; omega, ?_, fun q hq => ?_, fun q hq => ?_, ?_, fun q hq => ?_, fun q hq => ?_⟩
  · have ht' : Tree (upTo (i + 1)) (ps.take w ++ ps.drop w) := by rw [List.take_append_drop]; exact L.tree
    have := Tree.grow (p := p) (x := ((i + 1 : Nat) : Int)) (y := p.a) ht' (mem_upTo.mpr ⟨pa.1, by omega⟩) (fun z => by have := (mem_upTo.mp z).2; omega) (.inl ⟨rfl, by omega⟩) (by omega)
    rw [upTo_succ, List.append_assoc]
    exact this
  · rcases hmem q hq with rfl | hq
    · exact pok
    · exact L.ok q hq
  · rcases hmem q hq with rfl | hq
    · omega
    · have := L.rng q hq; omega
  · have := L.nar
    rw [sum_ins, List.take_append_drop]; omega
  · rcases hmem q hq with rfl | hq
    · exact pf
    · exact L.fla q hq
  · rcases hmem q hq with rfl | hq
    · exact plen
    · exact L.lng q hq
noncomputable def hsS : MD := mLst (mCons (mVar 4) (mCons (mVar 4) (mCons (mBin addD (mC (.int 1)) (mB m_law_next (mCons (mVar 0) (mCons (mVar 2) (mNil))))) (mCons (mBin addD (mC (.int 1)) (mB m_law_next (mCons (mVar 0) (mCons (mB min2L (mCons (mVar 2) (mCons (mC (.int 3)) (mNil)))) (mNil))))) (mCons (mB max2L (mCons (mC (.int 1)) (mCons (mBin subD (mVar 4) (mC (.int 1))) (mNil)))) (mNil))))))
noncomputable def hsN : MS := sIf (mAnd (mTest (mBin (cmpI fun i j => decide (j < i)) (mVar 7) (mC (.int 1)))) (mAnd (mTest (mBin (cmpI fun i j => decide (i < j)) (mVar 6) (mC (.int 13)))) (mTest (mBin eqD (mB m_law_next (mCons (mVar 0) (mCons (mC (.int 4)) (mNil)))) (mC (.int 0)))))) (sSet 8 (mTup (mCons (mTup (mCons (mBin addD (mC (.int 1)) (mB m_law_next (mCons (mVar 0) (mCons (mBin subD (mVar 7) (mC (.int 1))) (mNil))))) (mCons (mBin addD (mC (.int 1)) (mB m_law_next (mCons (mVar 0) (mCons (mC (.int 9)) (mNil))))) (mNil)))) (mNil)))) (sNil)
noncomputable def hsO : MD := mBin idxA (mLst (mCons (mC (.int 0)) (mCons (mBin subD (mVar 6) (mC (.int 1))) (mCons (mB m_law_next (mCons (mVar 0) (mCons (mVar 6) (mNil)))) (mNil))))) (mB m_law_next (mCons (mVar 0) (mCons (mC (.int 3)) (mNil))))
noncomputable def hsB : MS := sSeq (sSet 7 hsS)
    (sSeq (sSet 7 (mBin idxA (mVar 7) (mB m_law_next (mCons (mVar 0) (mCons (mC (.int 5)) (mNil))))))
    (sSeq (sSet 8 (mTup (mNil)))
    (sSeq hsN
    (sSeq (sSet 9 hsO)
    (sExpr (mMt isLst insertM (mVar 5) (mCons (mB m_law_next (mCons (mVar 0) (mCons (mBin addD (mB lenL (mCons (mVar 5) (mNil))) (mC (.int 1))) (mNil)))) (mCons (mTup (mCons (mVar 9) (mCons (mVar 6) (mCons (mVar 7) (mCons (mVar 8) (mCons (mTup (mNil)) (mNil))))))) (mNil)))))))))
theorem house_eq : b_law_house = sSeq (sSet 3 (mBin addD (mC (.int 2)) (mB m_law_next (mCons (mVar 0) (mCons (mBin subD (mVar 1) (mC (.int 1))) (mNil))))))
    (sSeq (sSet 4 (mBin addD (mC (.int 1)) (mB m_law_next (mCons (mVar 0) (mCons (mVar 2) (mNil))))))
    (sSeq (sSet 5 (mLst (mNil)))
    (sSeq (sFor (iRange2 (mCons (mC (.int 1)) (mCons (mVar 3) (mNil)))) (gN 6) hsB)
    (sRet (mTup (mCons (mVar 3) (mCons (mB tupleL (mCons (mVar 5) (mNil))) (mNil)))))))) := rfl
section
variable {μ : Mem} {k c N pp : Nat} {top base r : Int} {v1 v3 v7 v8 v9 : Option D}
theorem hsS_spec (h : Dk μ k c N) (hN : N + 10 < 1000000) (h1 : 1 ≤ base) (h2 : base ≤ top) (h3 : top ≤ 1000) :
    ∃ (l : List Int) (n : Nat) (μ' : Mem), hsS [some (.ref k), v1, some (.int top), v3, some (.int base), some (.ref pp), some (.int r), v7, v8, v9] μ = .ok (.ref n) μ' ∧ μ'[n]? = some (.lst (l.map D.int)) ∧ l.length = 5 ∧ (∀ x ∈ l, 1 ≤ x ∧ x ≤ top) ∧ Dk μ' k c (N + 2) ∧ Keep [k, c] μ μ' ∧ μ.length ≤ n := by
  obtain ⟨x, μ1, q1, x0, x1, d1, k1⟩ := next_spec (j := top) h (by omega) (by omega) (by omega)
  obtain ⟨m, hm, m0, m1⟩ : ∃ m : Int, min2L [.int top, .int 3] μ1 = .ok (.int m) μ1 ∧ 1 ≤ m ∧ m ≤ top := by
    refine ⟨if 3 < top then 3 else top, by simp only [min2L], ?_, ?_⟩ <;> split <;> omega
  obtain ⟨y, μ2, q2, y0, y1, d2, k2⟩ := next_spec (j := m) d1 (by omega) (by omega) (by omega)
  obtain ⟨z, hz, z0, z1⟩ : ∃ z : Int, max2L [.int 1, .int (base - 1)] μ2 = .ok (.int z) μ2 ∧ 1 ≤ z ∧ z ≤ top := by
    refine ⟨if 1 < base - 1 then base - 1 else 1, by simp only [max2L], ?_, ?_⟩ <;> split <;> omega
  refine ⟨[base, base, 1 + x, 1 + y, z], μ2.length, μ2 ++ [.lst ([base, base, 1 + x, 1 + y, z].map D.int)], ?_, app_new, rfl, fun w hw => ?_, (d2.app).mono (by omega), (k1.trans k2).trans Keep.app, (k1.trans k2).1⟩
  · unfold hsS
    simp [q1, q2, hm, hz, add_ok, subD]
  · simp at hw; omega
theorem hsN_spec {size : Int} (h : Dk μ k c N) (hN : N + 10 < 1000000) (h1 : 1 ≤ size) (h3 : size ≤ 1000) :
    ∃ (xs : List (Int × Int)) (μ' : Mem), hsN [some (.ref k), v1, some (.int top), v3, some (.int base), some (.ref pp), some (.int r), some (.int size), some (.tup []), v9] μ = .ok (.nx [some (.ref k), v1, some (.int top), v3, some (.int base), some (.ref pp), some (.int r), some (.int size), some (.tup (xs.map pairD)), v9]) μ' ∧ xs.length ≤ 1 ∧ (∀ x ∈ xs, 1 ≤ x.1 ∧ x.1 ≤ size - 1 ∧ 1 ≤ x.2 ∧ x.2 ≤ 9) ∧ Dk μ' k c (N + 3) ∧ Keep [k, c] μ μ' := by
  have no : ∀ {μ' : Mem}, Dk μ' k c (N + 3) → Keep [k, c] μ μ' → (mAnd (mTest (mBin (cmpI fun i j => decide (j < i)) (mVar 7) (mC (.int 1)))) (mAnd (mTest (mBin (cmpI fun i j => decide (i < j)) (mVar 6) (mC (.int 13)))) (mTest (mBin eqD (mB m_law_next (mCons (mVar 0) (mCons (mC (.int 4)) (mNil)))) (mC (.int 0)))))) [some (.ref k), v1, some (.int top), v3, some (.int base), some (.ref pp), some (.int r), some (.int size), some (.tup []), v9] μ = .ok false μ' →
      ∃ (xs : List (Int × Int)) (μ' : Mem), hsN [some (.ref k), v1, some (.int top), v3, some (.int base), some (.ref pp), some (.int r), some (.int size), some (.tup []), v9] μ = .ok (.nx [some (.ref k), v1, some (.int top), v3, some (.int base), some (.ref pp), some (.int r), some (.int size), some (.tup (xs.map pairD)), v9]) μ' ∧ xs.length ≤ 1 ∧ (∀ x ∈ xs, 1 ≤ x.1 ∧ x.1 ≤ size - 1 ∧ 1 ≤ x.2 ∧ x.2 ≤ 9) ∧ Dk μ' k c (N + 3) ∧ Keep [k, c] μ μ' := fun {μ'} d kk q => ⟨[], μ', (if_f q).trans rfl, by simp, by simp, d, kk⟩
  by_cases hs : 1 < size
  · by_cases hr : r < 13
    · obtain ⟨x, μ1, q1, x0, x1, d1, k1⟩ := next_spec (j := 4) h (by omega) (by decide) (by decide)
      by_cases hx : x = 0
      · obtain ⟨y, μ2, q2, y0, y1, d2, k2⟩ := next_spec (j := size - 1) d1 (by omega) (by omega) (by omega)
        obtain ⟨z, μ3, q3, z0, z1, d3, k3⟩ := next_spec (j := 9) d2 (by omega) (by decide) (by decide)
        refine ⟨[(1 + y, 1 + z)], μ3, (if_t (μ1 := μ1) ?_).trans ((set_is (d := .tup [pairD (1 + y, 1 + z)]) (μ' := μ3) ?_).trans rfl), by simp, fun w hw => ?_, d3.mono (by omega), (k1.trans k2).trans k3⟩
        · simp [cmpI, hs, hr, q1, eqI, hx]
        · simp [subD, q2, q3, add_ok, pairD]
        · simp at hw; subst hw; exact ⟨by omega, by omega, by omega, by omega⟩
      · exact no (d1.mono (by omega)) k1 (by simp [cmpI, hs, hr, q1, eqI, hx])
    · exact no (h.mono (by omega)) .refl (by simp [cmpI, hs, hr])
  · exact no (h.mono (by omega)) .refl (by simp [cmpI, hs])
theorem hsO_spec {size : Int} (h : Dk μ k c N) (hN : N + 10 < 1000000) (h1 : 1 ≤ r) (h3 : r ≤ 1000) :
    ∃ (x : Int) (μ' : Mem), hsO [some (.ref k), v1, some (.int top), v3, some (.int base), some (.ref pp), some (.int r), v7, v8, v9] μ = .ok (.int x) μ' ∧ 0 ≤ x ∧ x < r ∧ Dk μ' k c (N + 2) ∧ Keep [k, c] μ μ' := by
  obtain ⟨x, μ1, q1, x0, x1, d1, k1⟩ := next_spec (j := r) h (by omega) (by omega) (by omega)
  let l : List D := [.int 0, .int (r - 1), .int x]
  have d1' : Dk (μ1 ++ [Cell.lst l]) k c (N + 1) := d1.app
  have l1 := d1.lt
  obtain ⟨y, μ2, q2, y0, y1, d2, k2⟩ := next_spec (j := 3) d1' (by omega) (by decide) (by decide)
  have e2 : μ2[μ1.length]? = some (.lst l) := k2.get app_new (by simp; omega)
  obtain ⟨v, ev, v0, v1⟩ : ∃ v : Int, l[y.toNat]? = some (.int v) ∧ 0 ≤ v ∧ v < r := by
    have : y = 0 ∨ y = 1 ∨ y = 2 := by omega
    rcases this with rfl | rfl | rfl
    · exact ⟨0, rfl, by omega, by omega⟩
    · exact ⟨r - 1, rfl, by omega, by omega⟩
    · exact ⟨x, rfl, x0, x1⟩
  have ix : idxA (.ref μ1.length) (.int y) μ2 = .ok (.int v) μ2 := ix_lst e2 y0 ev
  refine ⟨v, μ2, ?_, v0, v1, d2, (k1.trans Keep.app).trans k2⟩
  unfold hsO
  simp [subD, q1]
  rw [show (μ1 ++ [Cell.lst [D.int 0, .int (r - 1), .int x]]) = μ1 ++ [Cell.lst l] from rfl]
  simp [q2, ix]
end
end K43

/-! S43: family E's houses, whole. -/
namespace K43
open PySem L2 RW
section
variable {μ : Mem} {k c N pp : Nat} {top base : Int} {v1 v3 v7 v8 v9 : Option D}
theorem hsB_spec {i : Nat} {ps : List Pipe} (h : Dk μ k c N) (hN : N + 20 < 1000000) (h1 : 1 ≤ base) (h2 : base ≤ top) (h3 : top ≤ 1000) (hi : i < 100) (L : LaidE top i ps) (ep : μ[pp]? = some (.lst (ps.map Pipe.d))) (a3 : pp ≠ k) (a4 : pp ≠ c) :
    ∃ (b7 b8 b9 : Option D) (ps' : List Pipe) (μ' : Mem), hsB [some (.ref k), v1, some (.int top), v3, some (.int base), some (.ref pp), some (.int (1 + (i : Int))), v7, v8, v9] μ = .ok (.nx [some (.ref k), v1, some (.int top), v3, some (.int base), some (.ref pp), some (.int (1 + (i : Int))), b7, b8, b9]) μ' ∧ LaidE top (i + 1) ps' ∧
      μ'[pp]? = some (.lst (ps'.map Pipe.d)) ∧ Dk μ' k c (N + 20) ∧ Keep [k, c, pp] μ μ' := by
  obtain ⟨l, n, μ1, q1, en, ll, lr, d1, k1, hn⟩ := hsS_spec (v1 := v1) (v3 := v3) (v7 := v7) (v8 := v8) (v9 := v9) (pp := pp) (r := 1 + (i : Int)) h (by omega) h1 h2 h3
  have l0 := h.lt
  have lp := at_lt ep
  obtain ⟨x, μ2, q2, x0, x1, d2, k2⟩ := next_spec (j := 5) d1 (by omega) (by decide) (by decide)
  have en2 : μ2[n]? = some (.lst (l.map D.int)) := k2.get en (by simp; omega)
  obtain ⟨size, es⟩ : ∃ s, l[x.toNat]? = some s := ⟨_, List.getElem?_eq_getElem (by omega)⟩
  obtain ⟨s1, s2⟩ := lr size (List.mem_of_getElem? es)
  have ix : idxA (.ref n) (.int x) μ2 = .ok (.int size) μ2 := ix_lst en2 x0 (by rw [List.getElem?_map, es]; rfl)
  obtain ⟨xs, μ3, q3, xl, xr, d3, k3⟩ := hsN_spec (v1 := v1) (v3 := v3) (v9 := v9) (top := top) (base := base) (pp := pp) (r := 1 + (i : Int)) d2 (by omega) s1 (by omega)
  obtain ⟨y, μ4, q4, y0, y1, d4, k4⟩ := hsO_spec (v1 := v1) (v3 := v3) (v7 := some (.int size)) (v8 := some (.tup (xs.map pairD))) (v9 := v9) (top := top) (base := base) (pp := pp) (r := 1 + (i : Int)) (size := size) d3 (by omega) (by omega) (by omega)
  have hpl := L.len
  obtain ⟨w, μ5, q5, w0, w1, d5, k5⟩ := next_spec (j := (ps.length : Int) + 1) d4 (by omega) (by omega) (by omega)
  have k14 := ((k1.trans k2).trans k3).trans k4
  have ep4 : μ4[pp]? = some (.lst (ps.map Pipe.d)) := k14.get ep (by simp [a3, a4])
  have ep5 : μ5[pp]? = some (.lst (ps.map Pipe.d)) := k5.get ep4 (by simp [a3, a4])
  let p : Pipe := ⟨y, 1 + (i : Int), size, xs, []⟩
  have hp : p.Ok := ⟨s1, by show size ≤ _; omega, by
      show (xs.map (·.1)).Pairwise _
      match xs, xl with
      | [], _ => exact .nil
      | [a], _ => exact List.pairwise_singleton _ _, fun z hz => ⟨(xr z hz).1, (xr z hz).2.1, (xr z hz).2.2.1, by have := (xr z hz).2.2.2; omega⟩, .nil, fun z hz => nomatch hz⟩
  have hpd : (ps.map Pipe.d).take w.toNat ++ [p.d] ++ (ps.map Pipe.d).drop w.toNat = (ps.take w.toNat ++ [p] ++ ps.drop w.toNat).map Pipe.d := by simp [List.map_take, List.map_drop]
  let μ6 : Mem := μ5.set pp (.lst ((ps.take w.toNat ++ [p] ++ ps.drop w.toNat).map Pipe.d))
  refine ⟨some (.int size), some (.tup (xs.map pairD)), some (.int y), ps.take w.toNat ++ [p] ++ ps.drop w.toNat, μ6, ?_, L.more (by omega) ⟨y0, y1⟩ rfl hp s2 xl rfl, set_at (at_lt ep5), (d5.keep (ex := [pp]) (Keep.set (by simp)) (by simp [Ne.symm a3]) (by simp [Ne.symm a4])).mono (by omega), ?_⟩
  · unfold hsB
    refine (seq_set q1).trans ?_
    refine (seq_set (d := .int size) (μ1 := μ2) ?_).trans ?_
    · simp [q2, ix]
    refine (seq_set (d := .tup []) (μ1 := μ2) rfl).trans ?_
    refine (seq_run q3).trans ?_
    refine (seq_set q4).trans ?_
    have ls : lenL [.ref pp] μ4 = .ok (.int ps.length) μ4 := by simp only [lenL, ep4, List.length_map]
    have isl : isLst (.ref pp) μ4 = true := by simp only [isLst, ep4]
    have ins := ins_ok (y := p.d) ep5 w0 (by omega) (by rw [List.length_map]; omega)
    let ρ5 : Rho := [some (.ref k), v1, some (.int top), v3, some (.int base), some (.ref pp), some (.int (1 + (i : Int))), some (.int size), some (.tup (xs.map pairD)), some (.int y)]
    show sExpr _ ρ5 μ4 = .ok (.nx ρ5) μ6
    have tp : mTup (mCons (mVar 9) (mCons (mVar 6) (mCons (mVar 7) (mCons (mVar 8) (mCons (mTup (mNil)) (mNil)))))) ρ5 μ5 = .ok p.d μ5 := rfl
    have v5 : mVar 5 ρ5 μ4 = .ok (.ref pp) μ4 := rfl
    have ll : mB lenL (mCons (mVar 5) mNil) ρ5 μ4 = .ok (.int ps.length) μ4 := by simp only [mB, mCons, mNil, v5, Res.bind, ls]
    have nx : mB m_law_next (mCons (mVar 0) (mCons (mBin addD (mB lenL (mCons (mVar 5) (mNil))) (mC (.int 1))) (mNil))) ρ5 μ4 = .ok (.int w) μ5 := by
      have v0 : mVar 0 ρ5 μ4 = .ok (.ref k) μ4 := rfl
      have ad : mBin addD (mB lenL (mCons (mVar 5) mNil)) (mC (.int 1)) ρ5 μ4 = .ok (.int ((ps.length : Int) + 1)) μ4 := by simp only [mBin, ll, mC, Res.bind, add_ok]
      simp only [mB, mCons, mNil, v0, Res.bind]
      rw [show (mBin addD (mB lenL (mCons (mVar 5) mNil)) (mC (.int 1)) ρ5 μ4) = _ from ad]
      simp only [Res.bind, q5]
    simp only [sExpr, mMt, mCons, mNil, v5, nx, tp, Res.bind, isl, if_true, ins]
    rw [hpd]
    rfl
  · have m1 : ∀ {μ μ' : Mem}, Keep [k, c] μ μ' → Keep [k, c, pp] μ μ' := fun q => q.mono fun i hi => .inl (by simp at hi ⊢; omega)
    exact ((m1 k14).trans (m1 k5)).trans (Keep.set (by simp))
theorem house_spec {most : Int} (h : Dk μ k c N) (hN : N + 1000 < 1000000) (hm : 2 ≤ most) (hm2 : most ≤ 13) (hf : 1 ≤ top) (hf2 : top ≤ 1000) :
    ∃ (R : Nat) (ps : List Pipe) (μ' : Mem), m_law_house [.ref k, .int most, .int top] μ = .ok (houseD R ps) μ' ∧ House R ps ∧ 2 ≤ R ∧ (R : Int) ≤ most ∧ (∀ p ∈ ps, p.len ≤ top) ∧ (∀ p ∈ ps, p.fl = []) ∧ Dk μ' k c (N + 1000) ∧ Keep [k, c] μ μ' := by
  obtain ⟨x, μ1, q1, x0, x1, s1, k1⟩ := next_spec (j := most - 1) h (by omega) (by omega) (by omega)
  obtain ⟨R, hR⟩ : ∃ R : Nat, 2 + x = (R : Int) := ⟨(2 + x).toNat, by omega⟩
  obtain ⟨y, μ2, q2, y0, y1, s2, k2⟩ := next_spec (j := top) s1 (by omega) (by omega) (by omega)
  have l0 := h.lt
  have l1 := s2.lt
  have k12 := k1.trans k2
  have s2' : Dk (μ2 ++ [Cell.lst []]) k c (N + 1 + 1) := s2.app
  let ρ (b6 b7 b8 b9 : Option D) : Rho := [some (.ref k), some (.int most), some (.int top), some (.int R), some (.int (1 + y)), some (.ref μ2.length), b6, b7, b8, b9]
  have loop := forL_ok (chk := fun _ => True) (g := gN 6) (body := hsB) (rangeItems 1 (R - 1))
    (fun i ρ' μ' => i ≤ R - 1 ∧ ∃ (b6 b7 b8 b9 : Option D) (ps : List Pipe), ρ' = ρ b6 b7 b8 b9 ∧ LaidE top i ps ∧ μ'[μ2.length]? = some (.lst (ps.map Pipe.d)) ∧ Dk μ' k c (N + 2 + 20 * i) ∧ Keep [k, c, μ2.length] (μ2 ++ [Cell.lst []]) μ') 0
    (ρ := ρ none none none none) (μ := μ2 ++ [Cell.lst []]) ⟨Nat.zero_le _, none, none, none, none, [], rfl, ⟨rfl, .one 0, by simp, by simp, by simp, by simp, by simp⟩, app_new, s2', .refl⟩ (fun _ _ _ _ => trivial)
    (fun i d ρ' μ' ed ⟨hi, b6, b7, b8, b9, ps, eρ, L, ep, hs, hk⟩ => by
      simp only [Nat.zero_add] at hi L hs ⊢
      obtain ⟨hi2, rfl⟩ := Q.range_at ed
      subst eρ
      obtain ⟨c7, c8, c9, ps', μ3, q, L', ep', s', k'⟩ := hsB_spec (v1 := some (.int most)) (v3 := some (.int R)) (v7 := b7) (v8 := b8) (v9 := b9) (base := 1 + y) hs (by omega) (by omega) (by omega) hf2 (by omega) L ep (by omega) (by omega)
      exact .mk (μ := μ') rfl (.mk q ⟨_, .inl rfl, by omega, some (.int (1 + (i : Int))), c7, c8, c9, ps', rfl, L', ep', s'.mono (by omega), hk.trans k'⟩))
  rw [Q.range_len, Nat.zero_add] at loop
  obtain ⟨f, μ3, w, ρ2, rfl, _, b6, b7, b8, b9, ps, rfl, L, ep, s3, k3⟩ := loop
  have ht := L.tree
  rw [show R - 1 + 1 = R by omega] at ht
  have n0 := L.nar
  have hl := L.len
  have f0 : ((ps.map fun p => (p.fl.length : Int)).sum) = 0 := by
    have : ∀ l : List Pipe, (∀ p ∈ l, p.fl = []) → ((l.map fun p => (p.fl.length : Int)).sum) = 0 := fun l => by
      induction l with
      | nil => intro _; rfl
      | cons a l ih =>
        intro h
        rw [List.map_cons, List.sum_cons, ih fun p hp => h p (List.mem_cons_of_mem _ hp), h a List.mem_cons_self]
        rfl
    exact this ps L.fla
  have nn : ((ps.map fun p => (p.nar.length : Int)).sum) ≤ 12 ∨ 12 < R - 1 := by omega
  refine ⟨R, ps, μ3, run_is ?_, ⟨by omega, by omega, ⟨upTo R, .refl _, ht⟩, by omega, L.ok, fun p hp => ?_, ?_, by omega⟩, by omega, by omega, L.lng, L.fla, s3.mono (by omega), ?_⟩
  · rw [house_eq]
    refine (seq_set (d := .int R) (μ1 := μ1) (by simp [startR, subD, q1, add_ok, hR])).trans ?_
    refine (seq_set (d := .int (1 + y)) (μ1 := μ2) (by simp [startR, q2, add_ok])).trans ?_
    refine (seq_set (d := .ref μ2.length) (μ1 := μ2 ++ [.lst []]) (by simp)).trans ?_
    refine (seq_run (for_run (ir2 (m := 1) (n := R) (e := mC (.int 1)) (f := mVar 3) rfl rfl (by omega) (by omega)) w)).trans ?_
    refine ret_is ?_
    simp [tupleL, ep, houseD, ρ]
  · have := L.rng p hp; omega
  · omega
  · exact ((k12.trans Keep.app).mono (ex' := [k, c, μ2.length]) fun i hi => .inl (by simp at hi ⊢; omega)).trans k3 |>.mono fun i hi => by
      have := k12.1
      simp at hi ⊢; omega
end
end K43

/-! S44: family E's places along pipes. -/
namespace K43
open PySem L2 RW
theorem cut_from {l : List D} {n : Nat} : cutD l (some (n : Int)) none = l.drop n := by
  have e : HT.sIx l.length 0 (some (n : Int)) = min n l.length := HT.sIx_nat _ _ n
  unfold cutD
  rw [HT.sIx_none, e]
  by_cases h : n ≤ l.length
  · rw [Nat.min_eq_left h, List.take_of_length_le (by simp)]
  · rw [Nat.min_eq_right (by omega), List.drop_eq_nil_of_le (by omega), List.drop_eq_nil_of_le (by omega)]; simp
theorem cut_to {l : List D} {n : Nat} : cutD l none (some (n : Int)) = l.take n := by
  have e : HT.sIx l.length l.length (some (n : Int)) = min n l.length := HT.sIx_nat _ _ n
  unfold cutD
  rw [HT.sIx_none, e]
  simp only [List.drop_zero, Nat.sub_zero]
  by_cases h : n ≤ l.length
  · rw [Nat.min_eq_left h]
  · rw [Nat.min_eq_right (by omega), List.take_of_length_le (by omega), List.take_of_length_le (by omega)]
def lanes (p : Pipe) (q n : Nat) : List Pl := (List.range n).map fun (k : Nat) => ln p q (k : Int)
theorem lanes_len {p : Pipe} {q n : Nat} : (lanes p q n).length = n := by simp [lanes]
theorem lanes_get {p : Pipe} {q n k : Nat} (h : k < n) : (lanes p q n)[k]? = some (ln p q (k : Int)) := by simp [lanes, h]
theorem lanes_succ {p : Pipe} {q n : Nat} : lanes p q (n + 1) = lanes p q n ++ [ln p q (n : Int)] := by simp [lanes, List.range_succ]
section
variable {R : Nat} {ps : List Pipe} {q : Nat} {p : Pipe} {μ : Mem} {k : Int}
theorem spot_spec (e : ps[q]? = some p) : ∃ μ', m_law_spot [houseD R ps, .int q, .int k] μ = .ok (ln p q k).d μ' ∧ Keep [] μ μ' := by
  have i1 : idxA (houseD R ps) (.int 1) μ = .ok (.tup (ps.map Pipe.d)) μ := ix_tup (by decide) rfl
  have i2 : idxA (.tup (ps.map Pipe.d)) (.int (q : Int)) μ = .ok p.d μ := ix_tup (by omega) (by rw [Int.toNat_natCast, List.getElem?_map, e]; rfl)
  have sl : slcD p.d none (some 3) μ = .ok (.tup [.int p.a, .int p.b, .int p.len]) μ := rfl
  have start : ∀ {rest : MS}, (sSeq (sAsg (mSlc (mBin idxA (mBin idxA (mVar 0) (mC (.int 1))) (mVar 1)) oNone (oSome (mC (.int 3)))) (gTupM 3 (gConsM (gN 3) (gConsM (gN 4) (gConsM (gN 5) (gNilM)))))) rest) (startR 6 [houseD R ps, .int q, .int k]) μ = rest [some (houseD R ps), some (.int q), some (.int k), some (.int p.a), some (.int p.b), some (.int p.len)] μ := fun {rest} => by
    rw [seq_asg (d := .tup [.int p.a, .int p.b, .int p.len]) (μ1 := μ) (ρ2 := [some (houseD R ps), some (.int q), some (.int k), some (.int p.a), some (.int p.b), some (.int p.len)]) (μ2 := μ) (by simp [startR, i1, i2, sl]) (by simp [startR])]
  by_cases h0 : k = 0
  · subst h0
    exact ⟨μ, run_is (start.trans (seq_ret ((if_t (μ1 := μ) (by simp [eqI])).trans (ret_is (by rw [ln_0]; simp [Pl.d]))))), .refl⟩
  · refine ⟨μ ++ [.lst [.tup [.int q, .int k], .tup [.int p.b]]], run_is (start.trans ((seq_skip (μ1 := μ) (by simp [eqI, h0])).trans (ret_is ?_))), Keep.app⟩
    by_cases hl : k = p.len
    · have ix : idxA (.ref μ.length) (.int 1) (μ ++ [Cell.lst [.tup [.int q, .int k], .tup [.int p.b]]]) = .ok (.tup [.int p.b]) (μ ++ [Cell.lst [.tup [.int q, .int k], .tup [.int p.b]]]) := ix_lst app_new (by decide) rfl
      have e2 : ln p q k = .room p.b := by unfold ln; rw [if_neg h0, if_pos hl]
      rw [e2]
      subst hl
      simp [eqI, intL, Pl.d]
      simpa using ix
    · have ix : idxA (.ref μ.length) (.int 0) (μ ++ [Cell.lst [.tup [.int q, .int k], .tup [.int p.b]]]) = .ok (.tup [.int q, .int k]) (μ ++ [Cell.lst [.tup [.int q, .int k], .tup [.int p.b]]]) := ix_lst app_new (by decide) rfl
      have e2 : ln p q k = .on q k := by unfold ln; rw [if_neg h0, if_neg hl]
      rw [e2]
      simp [eqI, hl, intL, Pl.d]
      simpa using ix
theorem lane_comp {o1 o2 o4 o5 o6 o8 : Option D} (e : ps[q]? = some p) (n : Nat) (hn : n ≤ 1000) :
    ∃ μ', compL (fun _ => True) (gN 7) mYes (mB m_law_spot (mCons (mVar 0) (mCons (mVar 3) (mCons (mVar 7) (mNil))))) [some (houseD R ps), o1, o2, some (.int q), o4, o5, o6, none, o8] (rangeItems 0 n) [] μ = .ok ((lanes p q n).map Pl.d) μ' ∧ Keep [] μ μ' := by
  have key := compL_ok (chk := fun _ => True) (g := gN 7) (tt := mYes) (te := mB m_law_spot (mCons (mVar 0) (mCons (mVar 3) (mCons (mVar 7) (mNil))))) (ρ0 := [some (houseD R ps), o1, o2, some (.int q), o4, o5, o6, none, o8]) (rangeItems 0 n)
    (fun i acc μ' => i ≤ n ∧ acc = (lanes p q i).map Pl.d ∧ Keep [] μ μ') 0 (acc := []) (μ := μ) ⟨Nat.zero_le _, rfl, .refl⟩ (fun _ _ _ _ => trivial) (fun i d acc μ' ed ⟨hi, ea, hk⟩ => by
      simp only [Nat.zero_add] at hi ea hk ⊢
      obtain ⟨hi2, rfl⟩ := rng_get ed
      obtain ⟨μ2, e2, k2⟩ := spot_spec (R := R) (k := (i : Int)) (μ := μ') e
      refine .mk (μ := μ') rfl (.mk (μ := μ') rfl ?_)
      rw [if_pos rfl]
      refine ⟨by rw [ea, List.length_map, lanes_len, sizeLine_eq]; omega, .mk (a := (ln p q (i : Int)).d) (μ := μ2) (by simp [e2]) ⟨by omega, ?_, hk.trans k2⟩⟩
      rw [ea, lanes_succ]; simp)
  rw [rng_len, Nat.zero_add] at key
  obtain ⟨l, μ', e1, _, rfl, hk⟩ := key
  exact ⟨μ', e1, hk⟩
end
end K43

/-! S45: family E's dict of next places, before its lists are sorted. -/
namespace K43
open PySem L2 RW
noncomputable abbrev stepB : MS := sSeq (sAsg (mBin addD (mMt isDic getM (mVar 1) (mCons (mVar 5) (mCons (mLst (mNil)) (mNil)))) (mLst (mCons (mVar 6) (mNil)))) (gSubM setDD (mVar 1) (mVar 5)))
    (sAsg (mBin addD (mMt isDic getM (mVar 1) (mCons (mVar 6) (mCons (mLst (mNil)) (mNil)))) (mLst (mCons (mVar 5) (mNil)))) (gSubM setDD (mVar 1) (mVar 6)))
noncomputable def nxP : MS := sSeq (sSet 4 (mComp (iRange1 (mCons (mBin addD (mBin idxA (mBin idxA (mBin idxA (mVar 0) (mC (.int 1))) (mVar 3)) (mC (.int 2))) (mC (.int 1))) (mNil))) (gN 7) (mYes) (mB m_law_spot (mCons (mVar 0) (mCons (mVar 3) (mCons (mVar 7) (mNil))))) [7]))
    (sFor (iZipD (mCons (mVar 4) (mCons (mSlc (mVar 4) (oSome (mC (.int 1))) oNone) (mNil)))) (gTupM 2 (gConsM (gN 5) (gConsM (gN 6) (gNilM)))) stepB)
noncomputable def nxS : MS := sRet (mB dictL (mCons (mComp (iKeysD (mVar 1)) (gN 8) (mYes) (mTup (mCons (mVar 8) (mCons (mB sortedA (mCons (mBin idxA (mVar 1) (mVar 8)) (mNil))) (mNil)))) [8]) (mNil)))
theorem nexts_eq : b_law_nexts = sSeq (sSet 1 (mTdicNew))
    (sSeq (sFor (iRange1 (mCons (mBin idxA (mVar 0) (mC (.int 0))) (mNil))) (gN 2) (sAsg (mLst (mNil)) (gSubM setDD (mVar 1) (mTup (mCons (mVar 2) (mNil))))))
    (sSeq (sFor (iRange1 (mCons (mB lenL (mCons (mBin idxA (mVar 0) (mC (.int 1))) (mNil))) (mNil))) (gN 3) nxP)
    (sLock 1 nxS))) := rfl
theorem zip_lanes {p : Pipe} {q n i : Nat} {d : D} (e : (zipItems ((lanes p q (n + 1)).map Pl.d) (((lanes p q (n + 1)).map Pl.d).drop 1))[i]? = some d) : i < n ∧ d = .tup [(ln p q (i : Int)).d, (ln p q ((i : Int) + 1)).d] := by
  obtain ⟨x, y, h1, h2, rfl⟩ := zipItems_get e
  rw [List.getElem?_drop, List.getElem?_map] at h2
  rw [List.getElem?_map] at h1
  obtain ⟨b, hb, rfl⟩ := Option.map_eq_some_iff.mp h2
  obtain ⟨a, ha, rfl⟩ := Option.map_eq_some_iff.mp h1
  have l2 := (List.getElem?_eq_some_iff.mp hb).1
  rw [lanes_len] at l2
  rw [lanes_get (by omega)] at ha hb
  cases ha; cases hb
  refine ⟨by omega, ?_⟩
  rw [show ((1 + i : Nat) : Int) = (i : Int) + 1 by omega]
theorem zip_lanes_len {p : Pipe} {q n : Nat} : (zipItems ((lanes p q (n + 1)).map Pl.d) (((lanes p q (n + 1)).map Pl.d).drop 1)).length = n := by
  have h : ∀ l r : List D, (zipItems l r).length = min l.length r.length := fun l => by
    induction l with
    | nil => intro r; simp [zipItems]
    | cons a l ih =>
      intro r
      cases r with
      | nil => simp [zipItems]
      | cons b r => simp [zipItems, ih]
  rw [h, List.length_drop, List.length_map, lanes_len]; omega
theorem steps_spec {R : Nat} {ps : List Pipe} {q : Nat} {p : Pipe} {μ : Mem} {F n5 n6 N : Nat} {l : List (D × D)} {adj : List (Pl × List Pl)} {o0 o2 o3 o4 o5 o6 : Option D} (hO : Once ps) (hab : p.a < p.b) (e : ps[q]? = some p) (h1 : 1 ≤ p.len) (h4 : p.len ≤ 20) (A : Adj μ F l adj) (g : Good adj (TE ps q 0) (KE R ps q 0) N) (hN : N ≤ 700)
    (e5 : μ[n5]? = some (.lst ((lanes p q (p.len.toNat + 1)).map Pl.d))) (h5 : n5 ≠ F) (e6 : μ[n6]? = some (.lst (((lanes p q (p.len.toNat + 1)).map Pl.d).drop 1))) (h6 : n6 ≠ F) :
    ∃ (o5' o6' : Option D) (l' : List (D × D)) (adj' : List (Pl × List Pl)) (μ' : Mem), forL (fun μ' => μ'[n5]? = some (.lst ((lanes p q (p.len.toNat + 1)).map Pl.d)) ∧ μ'[n6]? = some (.lst (((lanes p q (p.len.toNat + 1)).map Pl.d).drop 1))) (gTupM 2 (gConsM (gN 5) (gConsM (gN 6) (gNilM)))) stepB (zipItems ((lanes p q (p.len.toNat + 1)).map Pl.d) (((lanes p q (p.len.toNat + 1)).map Pl.d).drop 1)) [o0, some (.ref F), o2, o3, o4, o5, o6, none, none] μ = .ok (.nx [o0, some (.ref F), o2, o3, o4, o5', o6', none, none]) μ' ∧
      Adj μ' F l' adj' ∧ Good adj' (TE ps (q + 1) 0) (KE R ps (q + 1) 0) (N + 40) ∧ Keep [F] μ μ' := by
  have loop := forL_ok (chk := fun μ' => μ'[n5]? = some (.lst ((lanes p q (p.len.toNat + 1)).map Pl.d)) ∧ μ'[n6]? = some (.lst (((lanes p q (p.len.toNat + 1)).map Pl.d).drop 1))) (g := gTupM 2 (gConsM (gN 5) (gConsM (gN 6) (gNilM)))) (body := stepB) (zipItems ((lanes p q (p.len.toNat + 1)).map Pl.d) (((lanes p q (p.len.toNat + 1)).map Pl.d).drop 1))
    (fun i ρ μ' => i ≤ p.len.toNat ∧ ∃ (o5' o6' : Option D) (l' : List (D × D)) (adj' : List (Pl × List Pl)), ρ = [o0, some (.ref F), o2, o3, o4, o5', o6', none, none] ∧ Adj μ' F l' adj' ∧ Good adj' (TE ps q i) (KE R ps q i) (N + 2 * i) ∧ Keep [F] μ μ') 0
    (ρ := [o0, some (.ref F), o2, o3, o4, o5, o6, none, none]) (μ := μ) ⟨Nat.zero_le _, o5, o6, l, adj, rfl, A, g.congr (fun _ _ => Iff.rfl) (fun _ => Iff.rfl) (by omega), .refl⟩ (fun _ _ _ ⟨_, _, _, _, _, _, _, _, kk⟩ => ⟨kk.get e5 (by simp [h5]), kk.get e6 (by simp [h6])⟩)
    (fun i d ρ μ' ed ⟨hi, o5', o6', l', adj', eρ, A', g', k'⟩ => by
      simp only [Nat.zero_add] at hi eρ A' g' k' ⊢
      obtain ⟨hi2, rfl⟩ := zip_lanes ed
      subst eρ
      let ρ1 : Rho := [o0, some (.ref F), o2, o3, o4, some (ln p q (i : Int)).d, some (ln p q ((i : Int) + 1)).d, none, none]
      have mx : ∀ μ2, Keep [F] μ μ2 → mVar 5 ρ1 μ2 = .ok (ln p q (i : Int)).d μ2 := fun μ2 k => rfl
      have my : ∀ μ2, Keep [F] μ μ2 → mVar 6 ρ1 μ2 = .ok (ln p q ((i : Int) + 1)).d μ2 := fun μ2 k => rfl
      have sz : ∀ {adj : List (Pl × List Pl)} {T K N'} {x : Pl}, Good adj T K N' → N' ≤ 900 → ∀ ys, getA adj x = some ys → ys.length < 1000 := fun g hN ys h => by have := g.sz _ ys h; omega
      obtain ⟨l1, μ1, q1, A1, k1⟩ := bump_spec (x := ln p q (i : Int)) (y := ln p q ((i : Int) + 1)) (ρ := ρ1) (mx := mVar 5) (my := mVar 6) A' (by have := g'.len; omega) (sz g' (by omega)) rfl (fun μ2 k => mx μ2 (k'.trans k)) (fun μ2 k => my μ2 (k'.trans k))
      have hlt0 : (i : Int) < p.len := by omega
      have nT : ∀ x y, (x = ln p q (i : Int) ∧ y = ln p q ((i : Int) + 1)) ∨ (x = ln p q ((i : Int) + 1) ∧ y = ln p q (i : Int)) → ¬ TE ps q i x y := fun x y hxy ⟨q', p', k', e', h0', h1', hA, h⟩ => by
        have := hO q' p' k' q p i e' e h0' h1' (by omega) hlt0 (by
          rcases hxy with ⟨rfl, rfl⟩ | ⟨rfl, rfl⟩ <;> rcases h with ⟨h, h'⟩ | ⟨h, h'⟩
          · exact .inl ⟨h.symm, h'.symm⟩
          · exact .inr ⟨h'.symm, h.symm⟩
          · exact .inr ⟨h.symm, h'.symm⟩
          · exact .inl ⟨h'.symm, h.symm⟩)
        rcases hA with hA | ⟨hA, hA'⟩ <;> omega
      have hne : ln p q (i : Int) ≠ ln p q ((i : Int) + 1) := ln_ne hab (by omega) hlt0
      have g1 := g'.bump (ln p q (i : Int)) (ln p q ((i : Int) + 1)) (nT _ _ (.inl ⟨rfl, rfl⟩))
      obtain ⟨l2, μ2, q2, A2, k2⟩ := bump_spec (x := ln p q ((i : Int) + 1)) (y := ln p q (i : Int)) (ρ := ρ1) (mx := mVar 6) (my := mVar 5) A1 (by have := g1.len; omega) (sz g1 (by omega)) rfl (fun μ3 k => my μ3 ((k'.trans k1).trans k)) (fun μ3 k => mx μ3 ((k'.trans k1).trans k))
      have g2 := g1.bump (ln p q ((i : Int) + 1)) (ln p q (i : Int)) (fun z => z.elim (nT _ _ (.inr ⟨rfl, rfl⟩)) fun z => hne z.2)
      have hlt : (i : Int) < p.len := by omega
      refine .mk (a := ρ1) (μ := μ') rfl (.mk (a := .nx ρ1) (μ := μ2) ((seq_run q1).trans q2) ⟨_, .inl rfl, by omega, _, _, l2, _, rfl, A2, g2.congr (fun x y => ?_) (fun x => ?_) (by omega), (k'.trans k1).trans k2⟩)
      · exact TE_succ e hlt x y
      · exact KE_succ e hlt x)
  rw [zip_lanes_len, Nat.zero_add] at loop
  obtain ⟨f, μ', w, ρ', rfl, _, o5', o6', l', adj', rfl, A', g', k'⟩ := loop
  have hz : ((p.len.toNat : Nat) : Int) = p.len := by omega
  exact ⟨o5', o6', l', adj', μ', w, A', g'.congr (TE_next e hz) (KE_next e hz) (by omega), k'⟩
theorem nexts_one {R : Nat} {ps : List Pipe} {μ : Mem} (hO : Once ps) (hab : ∀ p ∈ ps, p.a < p.b) (hR : R ≤ 16) (hp : ps.length ≤ 16) (hl : ∀ p ∈ ps, 1 ≤ p.len ∧ p.len ≤ 20) : ∃ (F : Nat) (l : List (D × D)) (adj : List (Pl × List Pl)) (o2 o3 o4 o5 o6 : Option D) (μ' : Mem), (∀ {rest : MS}, (sSeq (sSet 1 (mTdicNew))
    (sSeq (sFor (iRange1 (mCons (mBin idxA (mVar 0) (mC (.int 0))) (mNil))) (gN 2) (sAsg (mLst (mNil)) (gSubM setDD (mVar 1) (mTup (mCons (mVar 2) (mNil))))))
    (sSeq (sFor (iRange1 (mCons (mB lenL (mCons (mBin idxA (mVar 0) (mC (.int 1))) (mNil))) (mNil))) (gN 3) nxP) rest))) (startR 9 [houseD R ps]) μ = rest [some (houseD R ps), some (.ref F), o2, o3, o4, o5, o6, none, none] μ') ∧
    μ.length ≤ F ∧ Adj μ' F l adj ∧ Good adj (TE ps ps.length 0) (KE R ps ps.length 0) 700 ∧ Keep [] μ μ' := by
  obtain ⟨F, hF⟩ : ∃ F, F = μ.length := ⟨_, rfl⟩
  have i0 : ∀ μ, idxA (houseD R ps) (.int 0) μ = .ok (.int (R : Int)) μ := fun μ => ix_tup (by decide) rfl
  have i1 : ∀ μ, idxA (houseD R ps) (.int 1) μ = .ok (.tup (ps.map Pipe.d)) μ := fun μ => ix_tup (by decide) rfl
  -- the rooms
  have loop1 := forL_ok (chk := fun _ => True) (g := gN 2) (body := sAsg (mLst (mNil)) (gSubM setDD (mVar 1) (mTup (mCons (mVar 2) (mNil))))) (rangeItems 0 R)
    (fun i ρ μ' => i ≤ R ∧ ∃ (o2 : Option D) (l : List (D × D)) (adj : List (Pl × List Pl)), ρ = [some (houseD R ps), some (.ref F), o2, none, none, none, none, none, none] ∧ Adj μ' F l adj ∧ Good adj (fun _ _ => False) (fun x => ∃ r : Int, 0 ≤ r ∧ r < i ∧ x = .room r) i ∧ Keep [F] (μ ++ [.tdic []]) μ') 0
    (ρ := [some (houseD R ps), some (.ref F), none, none, none, none, none, none, none]) (μ := μ ++ [.tdic []])
    ⟨Nat.zero_le _, none, [], [], rfl, ⟨by rw [hF]; exact app_new, .nil⟩, ⟨fun x => ⟨fun h => by simp [getA] at h, fun ⟨r, h0, h1, _⟩ => by simp at h1; omega⟩, fun x ys h => by simp [getA] at h, .nil, fun x y h => h.elim, fun x ys h => by simp [getA] at h, Nat.zero_le _, fun x ys h => by simp [getA] at h⟩, .refl⟩ (fun _ _ _ _ => trivial)
    (fun i d ρ μ' ed ⟨hi, o2, l, adj, eρ, A, g, k⟩ => by
      simp only [Nat.zero_add] at hi eρ A g k ⊢
      obtain ⟨hi2, rfl⟩ := rng_get ed
      subst eρ
      have hlt := at_lt A.at_
      have A1 : Adj (μ' ++ [Cell.lst []]) F l adj := A.keep Keep.app
      obtain ⟨s1, s2⟩ := A1.store (x := .room (i : Int)) (ys := []) (n := μ'.length) (by have := g.len; omega) (by omega) app_new
      refine .mk (μ := μ') rfl (.mk (a := .nx [some (houseD R ps), some (.ref F), some (.int (i : Int)), none, none, none, none, none, none]) ?_ ⟨_, .inl rfl, by omega, _, _, _, rfl, s2, (g.fresh (.room (i : Int))).congr (fun _ _ => Iff.rfl) (fun x => ?_) (by omega), (k.trans Keep.app).trans (Keep.set (by simp))⟩)
      · have s1' : setDD (.ref F) (.tup [.int (i : Int)]) (.ref μ'.length) (μ' ++ [Cell.lst []]) = _ := s1
        simp [s1']
      · constructor
        · rintro (⟨r, h0, h1, rfl⟩ | rfl)
          · exact ⟨r, h0, by push_cast; omega, rfl⟩
          · exact ⟨i, by omega, by push_cast; omega, rfl⟩
        · rintro ⟨r, h0, h1, rfl⟩
          push_cast at h1
          by_cases hr : r < i
          · exact .inl ⟨r, h0, hr, rfl⟩
          · exact .inr (by congr 1; omega))
  rw [rng_len, Nat.zero_add] at loop1
  obtain ⟨f1, μ1, w1, ρ1, rfl, _, o2, l1, adj1, rfl, A1, g1, k1⟩ := loop1
  have g1' : Good adj1 (TE ps 0 0) (KE R ps 0 0) 16 := g1.congr (fun x y => ⟨fun h => h.elim, TE_0 x y⟩) (fun x => (KE_0 x).symm) hR
  have loop2 := forL_ok (chk := fun _ => True) (g := gN 3) (body := nxP) (rangeItems 0 ps.length)
    (fun i ρ μ' => i ≤ ps.length ∧ ∃ (o3 o4 o5 o6 : Option D) (l : List (D × D)) (adj : List (Pl × List Pl)), ρ = [some (houseD R ps), some (.ref F), o2, o3, o4, o5, o6, none, none] ∧ Adj μ' F l adj ∧ Good adj (TE ps i 0) (KE R ps i 0) (16 + 40 * i) ∧ Keep [F] μ1 μ') 0
    (ρ := [some (houseD R ps), some (.ref F), o2, none, none, none, none, none, none]) (μ := μ1) ⟨Nat.zero_le _, none, none, none, none, l1, adj1, rfl, A1, g1', .refl⟩ (fun _ _ _ _ => trivial)
    (fun i d ρ μ' ed ⟨hi, o3, o4, o5, o6, l, adj, eρ, A, g, k⟩ => by
      simp only [Nat.zero_add] at hi eρ A g k ⊢
      subst eρ
      obtain ⟨hi2, rfl⟩ := rng_get ed
      obtain ⟨p, ep⟩ : ∃ p, ps[i]? = some p := ⟨_, List.getElem?_eq_getElem hi2⟩
      obtain ⟨h1, h4⟩ := hl p (List.mem_of_getElem? ep)
      have i2 : idxA (.tup (ps.map Pipe.d)) (.int (i : Int)) μ' = .ok p.d μ' := ix_tup (by omega) (by rw [Int.toNat_natCast, List.getElem?_map, ep]; rfl)
      have ip : idxA p.d (.int 2) μ' = .ok (.int p.len) μ' := ix_tup (by decide) rfl
      obtain ⟨μ2, e2, k2⟩ := lane_comp (R := R) (μ := μ') (o1 := some (.ref F)) (o2 := o2) (o4 := o4) (o5 := o5) (o6 := o6) (o8 := none) ep (p.len.toNat + 1) (by omega)
      let L : List D := (lanes p i (p.len.toNat + 1)).map Pl.d
      let μ3 : Mem := μ2 ++ [Cell.lst L]
      have k23 : Keep [] μ' μ3 := k2.trans Keep.app
      have hFl : F < μ2.length := Nat.lt_of_lt_of_le (at_lt A.at_) k2.1
      have v1 : mBin addD (mBin idxA (mBin idxA (mBin idxA (mVar 0) (mC (.int 1))) (mVar 3)) (mC (.int 2))) (mC (.int 1)) [some (houseD R ps), some (.ref F), o2, some (.int (i : Int)), o4, o5, o6, none, none] μ' = .ok (.int ((p.len.toNat + 1 : Nat) : Int)) μ' := by
        have : p.len + 1 = ((p.len.toNat + 1 : Nat) : Int) := by omega
        simp only [mBin, mVar, mC, List.getElem?_cons_succ, List.getElem?_cons_zero, Res.bind, i1, i2, ip, add_ok, this]
      have c4 : mComp (iRange1 (mCons (mBin addD (mBin idxA (mBin idxA (mBin idxA (mVar 0) (mC (.int 1))) (mVar 3)) (mC (.int 2))) (mC (.int 1))) (mNil))) (gN 7) (mYes) (mB m_law_spot (mCons (mVar 0) (mCons (mVar 3) (mCons (mVar 7) (mNil))))) [7] [some (houseD R ps), some (.ref F), o2, some (.int (i : Int)), o4, o5, o6, none, none] μ' = .ok (.ref μ2.length) μ3 := comp_is (ir1 (n := p.len.toNat + 1) v1 (by omega)) e2
      let μ4 : Mem := μ3 ++ [Cell.lst (L.drop 1)]
      have A4 : Adj μ4 F l adj := A.keep (k23.trans Keep.app)
      have e5 : μ4[μ2.length]? = some (.lst L) := app_at app_new
      have e6 : μ4[μ3.length]? = some (.lst (L.drop 1)) := app_new
      have sl : slcD (.ref μ2.length) (some 1) none μ3 = .ok (.ref μ3.length) μ4 := by
        have := cut_from (l := L) (n := 1)
        have e3 : μ3[μ2.length]? = some (.lst L) := app_new
        simp only [slcD, e3, μ4]
        rw [show (1 : Int) = ((1 : Nat) : Int) by rfl, this]
      have hz3 : μ3.length = μ2.length + 1 := by simp [μ3]
      obtain ⟨o5', o6', l', adj', μ5, w, A', g', k'⟩ := steps_spec (o0 := some (houseD R ps)) (o2 := o2) (o3 := some (.int (i : Int))) (o4 := some (.ref μ2.length)) (o5 := o5) (o6 := o6) hO (hab p (List.mem_of_getElem? ep)) ep h1 h4 A4 g (by omega) e5 (by omega) e6 (by omega)
      refine .mk (a := [some (houseD R ps), some (.ref F), o2, some (.int (i : Int)), o4, o5, o6, none, none]) (μ := μ') rfl (.mk (a := .nx [some (houseD R ps), some (.ref F), o2, some (.int (i : Int)), some (.ref μ2.length), o5', o6', none, none]) (μ := μ5) ?_ ⟨_, .inl rfl, by omega, _, _, _, _, l', adj', rfl, A', g'.congr (fun _ _ => Iff.rfl) (fun _ => Iff.rfl) (by omega), ((k.trans (k23.mono (ex' := [F]) (by simp))).trans Keep.app).trans k'⟩)
      unfold nxP
      refine (seq_set c4).trans ?_
      show sFor _ _ _ [some (houseD R ps), some (.ref F), o2, some (.int (i : Int)), some (.ref μ2.length), o5, o6, none, none] μ3 = _
      refine for_run (chk := fun μ' => μ'[μ2.length]? = some (.lst L) ∧ μ'[μ3.length]? = some (.lst (L.drop 1))) (items := zipItems L (L.drop 1)) (μ1 := μ4) ?_ w
      simp only [iZipD, mCons, mNil, mVar, mSlc, oSome, oNone, mC, List.getElem?_cons_succ, List.getElem?_cons_zero, Res.bind, sl, zipD, e5, e6])
  rw [rng_len, Nat.zero_add] at loop2
  obtain ⟨f2, μ2, w2, ρ2, rfl, _, o3, o4, o5, o6, l2, adj2, rfl, A2, g2, k2⟩ := loop2
  have ll : lenL [.tup (ps.map Pipe.d)] μ1 = .ok (.int ps.length) μ1 := by simp only [lenL, List.length_map]
  refine ⟨F, l2, adj2, o2, o3, o4, o5, o6, μ2, fun {rest} => ?_, by omega, A2, g2.congr (fun _ _ => Iff.rfl) (fun _ => Iff.rfl) (by omega), (Keep.trans (ex := [F]) Keep.app (k1.trans k2)).mono fun i hi => .inr (by simp at hi; omega)⟩
  have t0 : mTdicNew (startR 9 [houseD R ps]) μ = .ok (.ref F) (μ ++ [.tdic []]) := by rw [hF]; rfl
  refine (seq_set t0).trans ?_
  refine (seq_run (for_run (ir1 (n := R) (e := mBin idxA (mVar 0) (mC (.int 0))) (by simp [startR, i0]) (by omega)) w1)).trans ?_
  exact seq_run (for_run (ir1 (n := ps.length) (e := mB lenL (mCons (mBin idxA (mVar 0) (mC (.int 1))) (mNil))) (by simp [i1, ll]) (by omega)) w2)
end K43

/-! S46: family E's dict of next places, its lists sorted. -/
namespace K43
open PySem L2 RW
theorem lock_r {i n : Nat} {l : List (D × D)} {m : MS} {ρ : Rho} {d : D} {μ μ' : Mem} (hρ : ρ[i]? = some (some (.ref n))) (e : μ[n]? = some (.tdic l)) (h : m ρ (μ.set n (.lck true l)) = .ok (.ret d) μ') : sLock i m ρ μ = .ok (.ret d) (μ'.set n (.tdic l)) := by
  have t : toLock i ρ μ = some (n, .tdic l, .lck true l) := by simp only [toLock, hρ, e, lockC, Option.map_some]
  simp only [sLock, t, h, Res.bind, openF]
theorem keys_is {a : MD} {ρ : Rho} {μ : Mem} {n : Nat} {t : Bool} {l : List (D × D)} (h : a ρ μ = .ok (.ref n) μ) (e : μ[n]? = some (.lck t l)) : iKeysD a ρ μ = .ok (l.map (·.1), fun μ' => μ'[n]? = some (.lck t l)) μ := by
  simp only [iKeysD, h, Res.bind, itKeys, e]
def Prs (base : Nat) (μ : Mem) : D × D → Pl × List Pl → Prop := fun p x => p.1 = x.1.d ∧ ∃ n, p.2 = .ref n ∧ base ≤ n ∧ n < μ.length ∧ μ[n]? = some (.lst ((sortE penc x.2).map Pl.d))
def tupP (p : D × D) : D := .tup [p.1, p.2]
theorem pairs_tup {base : Nat} {μ : Mem} : ∀ {ps : List (D × D)} {adj : List (Pl × List Pl)}, Paired (Prs base μ) ps adj → pairsT (ps.map tupP) = some ps
  | _, _, .nil => rfl
  | p :: ps, x :: adj, .cons h t => by
    have e : p.1 = x.1.d := h.1
    have ih := pairs_tup t
    have ht : RW.isT p.1 = true := by rw [e]; exact Pl.isT x.1
    show (if RW.isT p.1 = true then (pairsT (ps.map tupP)).map fun r => (p.1, p.2) :: r else none) = _
    rw [if_pos ht, ih]; rfl
theorem dget_none {base : Nat} {μ : Mem} {z : Pl} : ∀ {ps : List (D × D)} {adj : List (Pl × List Pl)}, Paired (Prs base μ) ps adj → z ∉ adj.map (·.1) → dGet ps z.d = none
  | _, _, .nil, _ => rfl
  | (a, v) :: ps, x :: adj, .cons h t, hz => by
    simp only [List.map_cons, List.mem_cons, not_or] at hz
    have e : a = x.1.d := h.1
    subst e
    simp only [dGet]
    rw [if_neg (fun q => hz.1 (Pl.nk_inj.mp q).symm)]
    exact dget_none t hz.2
theorem fold_put {base : Nat} {μ : Mem} : ∀ {ps acc : List (D × D)} {adj a0 : List (Pl × List Pl)}, Paired (Prs base μ) acc a0 → Paired (Prs base μ) ps adj → ((a0 ++ adj).map (·.1)).Nodup → ps.foldl (fun acc p => dPut acc p.1 p.2) acc = acc ++ ps
  | _, acc, _, a0, _, .nil, _ => by simp
  | p :: ps, acc, x :: adj, a0, ha, .cons h t, nd => by
    have e : p.1 = x.1.d := h.1
    have hx : x.1 ∉ a0.map (·.1) := fun q => by
      rw [List.map_append, List.nodup_append] at nd
      exact nd.2.2 x.1 q x.1 (by simp) rfl
    have hg : dGet acc p.1 = none := by rw [e]; exact dget_none ha hx
    have hput : dPut acc p.1 p.2 = acc ++ [p] := by unfold dPut dHas; rw [hg]; rfl
    show ps.foldl (fun acc p => dPut acc p.1 p.2) (dPut acc p.1 p.2) = _
    rw [hput]
    have := fold_put (ps := ps) (acc := acc ++ [p]) (adj := adj) (a0 := a0 ++ [x]) (RW.Paired.snoc ha h) t (by simpa using nd)
    rw [this]; simp
theorem Prs.keep {base : Nat} {μ μ' : Mem} {p : D × D} {x : Pl × List Pl} {ex : List Nat} (h : Prs base μ p x) (k : Keep ex μ μ') (hex : ∀ i ∈ ex, i < base) : Prs base μ' p x := by
  obtain ⟨e, n, h1, h2, h3, h4⟩ := h
  exact ⟨e, n, h1, h2, Nat.lt_of_lt_of_le h3 k.1, k.get h4 (fun q => by have := hex n q; omega)⟩
theorem sort_comp {μ : Mem} {F : Nat} {l : List (D × D)} {adj : List (Pl × List Pl)} {o0 o2 o3 o4 o5 o6 o7 : Option D} (eF : μ[F]? = some (.lck true l)) (P : Paired (Cellp μ F) l adj) (hs : ∀ x ∈ adj, x.2.length ≤ 1000) (hl : adj.length ≤ 1000) (nd : (adj.map (·.1)).Nodup) :
    ∃ (ps : List (D × D)) (μ' : Mem), compL (fun μ' => μ'[F]? = some (.lck true l)) (gN 8) mYes (mTup (mCons (mVar 8) (mCons (mB sortedA (mCons (mBin idxA (mVar 1) (mVar 8)) (mNil))) (mNil)))) [o0, some (.ref F), o2, o3, o4, o5, o6, o7, none] (l.map (·.1)) [] μ = .ok (ps.map tupP) μ' ∧ Paired (Prs μ.length μ') ps adj ∧ Keep [] μ μ' := by
  have hll : l.length = adj.length := Paired.length P
  have key := compL_ok (chk := fun μ' => μ'[F]? = some (.lck true l)) (g := gN 8) (tt := mYes) (te := mTup (mCons (mVar 8) (mCons (mB sortedA (mCons (mBin idxA (mVar 1) (mVar 8)) (mNil))) (mNil)))) (ρ0 := [o0, some (.ref F), o2, o3, o4, o5, o6, o7, none]) (l.map (·.1))
    (fun j acc μ' => j ≤ l.length ∧ ∃ ps : List (D × D), acc = ps.map tupP ∧ Paired (Prs μ.length μ') ps (adj.take j) ∧ Keep [] μ μ') 0 (acc := []) (μ := μ) ⟨Nat.zero_le _, [], rfl, by rw [List.take_zero]; exact .nil, .refl⟩
    (fun _ _ _ ⟨_, _, _, _, kk⟩ => kk.get eF (by simp)) (fun j d acc μ' ed ⟨hj, ps, ea, pp, kk⟩ => by
      simp only [Nat.zero_add] at hj pp ⊢
      rw [List.getElem?_map] at ed
      obtain ⟨z, ez, rfl⟩ := Option.map_eq_some_iff.mp ed
      have hj2 := (List.getElem?_eq_some_iff.mp ez).1
      obtain ⟨x, ex, h1, n, h2, h3, h4⟩ := paired_at P ez
      have en : μ'[n]? = some (.lst (x.2.map Pl.d)) := kk.get h4 (by simp)
      have gx : dGet l x.1.d = some (.ref n) := by
        have : ∀ {l : List (D × D)} {adj : List (Pl × List Pl)} {j : Nat} {z : D × D} {x : Pl × List Pl}, Paired (Cellp μ F) l adj → (adj.map (·.1)).Nodup → l[j]? = some z → adj[j]? = some x → z.2 = .ref n → dGet l x.1.d = some (.ref n) := fun {l} => by
          induction l with
          | nil => intro adj j z x _ _ e; simp at e
          | cons a l ih =>
            intro adj j z x P nd e1 e2 e3
            cases P with
            | cons h t =>
              rename_i b adj
              have eb : a.1 = b.1.d := h.1
              cases j with
              | zero =>
                simp at e1 e2; subst e1 e2
                obtain ⟨a1, a2⟩ := a
                simp only at eb e3
                subst eb e3
                simp [dGet]
              | succ j =>
                have nd' := List.nodup_cons.mp (by simpa only [List.map_cons] using nd)
                obtain ⟨a1, a2⟩ := a
                simp only at eb
                subst eb
                simp only [dGet]
                rw [if_neg (fun q => by
                  have hbx := Pl.nk_inj.mp q
                  have : x ∈ adj := List.mem_of_getElem? (by simpa using e2)
                  exact nd'.1 (by rw [hbx]; exact List.mem_map_of_mem this))]
                exact ih t nd'.2 (by simpa using e1) (by simpa using e2) e3
        exact this P nd ez ex h2
      have eFk : μ'[F]? = some (.lck true l) := kk.get eF (by simp)
      have ix : idxA (.ref F) x.1.d μ' = .ok (.ref n) μ' := by simp only [idxA, eFk, idxDD, dictAt, if_pos (Pl.isT x.1), gx]
      have so := sorted_pl (μ := μ') (n := n) (l := x.2) en (hs x (List.mem_of_getElem? ex))
      refine .mk (a := [o0, some (.ref F), o2, o3, o4, o5, o6, o7, some z.1]) (μ := μ') rfl (.mk (μ := μ') rfl ?_)
      rw [if_pos rfl]
      have hpl : ps.length = (adj.take j).length := Paired.length pp
      rw [List.length_take] at hpl
      refine ⟨by rw [ea, List.length_map, sizeLine_eq]; omega, .mk (a := tupP (x.1.d, .ref μ'.length)) (μ := μ' ++ [.lst ((sortE penc x.2).map Pl.d)]) ?_ ⟨by omega, ps ++ [(x.1.d, .ref μ'.length)], by rw [ea]; simp, ?_, kk.trans Keep.app⟩⟩
      · rw [h1]
        simp only [mTup, mCons, mNil, mB, mBin, mVar, List.getElem?_cons_succ, List.getElem?_cons_zero, Res.bind, ix, so]
        rfl
      · rw [List.take_add_one, ex]
        exact RW.Paired.snoc (Paired.imp' pp fun _ _ h => h.keep (ex := []) Keep.app (by simp)) ⟨rfl, μ'.length, rfl, kk.1, by simp, app_new⟩)
  rw [List.length_map, Nat.zero_add] at key
  obtain ⟨lr, μ', e, _, ps, rfl, pp, kk⟩ := key
  rw [hll, List.take_length] at pp
  exact ⟨ps, μ', e, pp, kk⟩
/-- the dict of next places at F -/
structure Nx (μ : Mem) (F : Nat) (S : List Int) (ps : List Pipe) : Prop where
  ex : ∃ (l : List (D × D)) (keys : List Pl), (μ[F]? = some (.lck true l) ∨ μ[F]? = some (.tdic l)) ∧ keys.Nodup ∧ (∀ x, x ∈ keys ↔ IsPl S ps x) ∧ keys.length ≤ 700 ∧ Paired (Cellp μ F) l (keys.map fun x => (x, sortE penc (nbr ps x)))
theorem nexts_spec {S : List Int} {g : Int → Int → Int} {R : Nat} {ps : List Pipe} {μ : Mem} (M : Metric g S ps) (hS : ∀ x : Int, x ∈ S ↔ 0 ≤ x ∧ x < R) (hR : R ≤ 16) (hp : ps.length ≤ 16) (hl : ∀ p ∈ ps, 1 ≤ p.len ∧ p.len ≤ 20) : ∃ (F : Nat) (l : List (D × D)) (keys : List Pl) (μ' : Mem), m_law_nexts [houseD R ps] μ = .ok (.ref F) μ' ∧ μ.length ≤ F ∧
    μ'[F]? = some (.tdic l) ∧ keys.Nodup ∧ (∀ x, x ∈ keys ↔ IsPl S ps x) ∧ keys.length ≤ 700 ∧ Paired (Cellp μ' F) l (keys.map fun x => (x, sortE penc (nbr ps x))) ∧ Keep [] μ μ' := by
  have hok : ∀ p ∈ ps, 1 ≤ p.len := fun p h => (hl p h).1
  obtain ⟨F, l, adj, o2, o3, o4, o5, o6, μ1, q1, hF, A, g0, k1⟩ := nexts_one (R := R) (μ := μ) (once M hok) (fun p h => (M.ends p h).2.2) hR hp hl
  have g1 : Good adj (E ps) (IsPl S ps) 700 := g0.congr (TE_all rfl) (KE_all rfl hS fun p h => ⟨(M.ends p h).1, (M.ends p h).2.1⟩) (Nat.le_refl _)
  let μL : Mem := μ1.set F (.lck true l)
  have eL : μL[F]? = some (.lck true l) := set_at (at_lt A.at_)
  have PL : Paired (Cellp μL F) l adj := adj_keep A.pr (Keep.set (by simp))
  have sz : ∀ x ∈ adj, x.2.length ≤ 1000 := fun x hx => by
    have : ∀ {adj : List (Pl × List Pl)}, (adj.map (·.1)).Nodup → x ∈ adj → getA adj x.1 = some x.2 := fun {adj} => by
      induction adj with
      | nil => intro _ h; simp at h
      | cons a r ih =>
        intro nd h
        have nd' := List.nodup_cons.mp (show (a.1 :: r.map (·.1)).Nodup from nd)
        obtain ⟨a1, a2⟩ := a
        rcases List.mem_cons.mp h with rfl | h
        · simp [getA]
        · simp only [getA]
          rw [if_neg (fun q => nd'.1 (by have hm : x.1 ∈ r.map (·.1) := List.mem_map_of_mem h; rw [← show a1 = x.1 from q] at hm; exact hm))]
          exact ih nd'.2 h
    have := g1.sz _ _ (this g1.nd hx)
    omega
  have lens := g1.len
  obtain ⟨prs, μ2, q2, pp, k2⟩ := sort_comp (o0 := some (houseD R ps)) (o2 := o2) (o3 := o3) (o4 := o4) (o5 := o5) (o6 := o6) (o7 := none) eL PL sz (by omega) g1.nd
  let μ3 : Mem := μ2 ++ [.lst (prs.map tupP)]
  let μ4 : Mem := μ3 ++ [.tdic prs]
  have pl : prs.length = adj.length := Paired.length pp
  have c3 : mComp (iKeysD (mVar 1)) (gN 8) (mYes) (mTup (mCons (mVar 8) (mCons (mB sortedA (mCons (mBin idxA (mVar 1) (mVar 8)) (mNil))) (mNil)))) [8] [some (houseD R ps), some (.ref F), o2, o3, o4, o5, o6, none, none] μL = .ok (.ref μ2.length) μ3 := comp_is (keys_is (n := F) rfl eL) q2
  have dl : dictL [.ref μ2.length] μ3 = .ok (.ref μ3.length) μ4 := by
    have e3 : μ3[μ2.length]? = some (.lst (prs.map tupP)) := app_new
    have fp := fold_put (acc := []) (a0 := []) .nil pp g1.nd
    simp only [dictL, e3, pairs_tup pp, if_pos (show prs.length ≤ 100000 by omega), dicOf, fp, List.nil_append, μ4]
  have r4 : nxS [some (houseD R ps), some (.ref F), o2, o3, o4, o5, o6, none, none] μL = .ok (.ret (.ref μ3.length)) μ4 := by
    unfold nxS
    refine ret_is ?_
    simp only [mB, mCons, mNil, c3, Res.bind, dl]
  let keys : List Pl := adj.map (·.1)
  have zz : μL.length = μ1.length := by simp [μL]
  have hk2 := k2.1
  have hl1 := at_lt A.at_
  have z3 : μ3.length = μ2.length + 1 := by simp [μ3]
  have keq : ∀ x ∈ adj, sortE penc x.2 = sortE penc (nbr ps x.1) := fun x hx => by
    have : ∀ {adj : List (Pl × List Pl)}, (adj.map (·.1)).Nodup → x ∈ adj → getA adj x.1 = some x.2 := fun {adj} => by
      induction adj with
      | nil => intro _ h; simp at h
      | cons a r ih =>
        intro nd h
        have nd' := List.nodup_cons.mp (show (a.1 :: r.map (·.1)).Nodup from nd)
        obtain ⟨a1, a2⟩ := a
        rcases List.mem_cons.mp h with rfl | h
        · simp [getA]
        · simp only [getA]
          rw [if_neg (fun q => nd'.1 (by have hm : x.1 ∈ r.map (·.1) := List.mem_map_of_mem h; rw [← show a1 = x.1 from q] at hm; exact hm))]
          exact ih nd'.2 h
    have ga := this g1.nd hx
    have hxp : IsPl S ps x.1 := (g1.keys x.1).mp (by rw [ga]; rfl)
    refine sortP_eq ((List.perm_ext_iff_of_nodup (g1.nd2 _ _ ga) (nbr_nodup M hok hxp)).mpr fun y => ?_)
    rw [g1.val _ _ ga y, mem_nbr M hok hxp]
  have hmem : ∀ x, x ∈ keys ↔ IsPl S ps x := fun x => by
    rw [← g1.keys x]
    constructor
    · intro h
      cases e : getA adj x with
      | some _ => rfl
      | none => exact absurd h (getA_none.mp e)
    · intro h
      exact Classical.byContradiction fun n => by rw [getA_none.mpr n] at h; cases h
  have ek : (keys.map fun x => (x, sortE penc (nbr ps x))) = adj.map fun x => (x.1, sortE penc x.2) := by
    rw [List.map_map]
    exact List.map_congr_left fun x hx => by show (x.1, sortE penc (nbr ps x.1)) = _; rw [keq x hx]
  have kL : Keep [F] μ1 μL := Keep.set (by simp)
  have k4 : Keep [F] μ1 ((μ4).set F (.tdic l)) := (((kL.trans (k2.mono (by simp))).trans Keep.app).trans Keep.app).trans (Keep.set (by simp))
  refine ⟨μ3.length, prs, keys, μ4.set F (.tdic l), run_is ?_, by omega, ?_, g1.nd, hmem, by show (adj.map (·.1)).length ≤ 700; rw [List.length_map]; exact lens, ?_, ?_⟩
  · rw [nexts_eq]
    exact q1.trans (lock_r rfl A.at_ r4)
  · exact (set_ne' (by omega)).trans app_new
  · rw [ek]
    have mp : ∀ {ps : List (D × D)} {adj : List (Pl × List Pl)}, Paired (Prs μL.length μ2) ps adj → Paired (Cellp (μ4.set F (.tdic l)) μ3.length) ps (adj.map fun x => (x.1, sortE penc x.2)) := fun {ps adj} t => by
      induction t with
      | nil => exact .nil
      | cons h t ih =>
        obtain ⟨e, n, h1, h2, h3, h4⟩ := h
        exact .cons ⟨e, n, h1, by omega, (set_ne' (by omega)).trans (app_at (app_at h4))⟩ ih
    exact mp pp
  · exact ((k1.mono (ex' := [F]) (by simp)).trans k4).mono fun i hi => .inr (by simp at hi; omega)
end K43

/-! S47: how deep it goes on from a room by all its pipes but one. -/
namespace K43
open PySem L2 RW
def mx (l : List Int) : Int := l.foldr max 0
theorem mx_nn : ∀ l : List Int, 0 ≤ mx l
  | [] => Int.le_refl _
  | a :: l => by
    have := mx_nn l
    show 0 ≤ max a (mx l)
    omega
theorem mx_le {x : Int} : ∀ {l : List Int}, x ∈ l → x ≤ mx l
  | a :: l, h => by
    show x ≤ max a (mx l)
    rcases List.mem_cons.mp h with rfl | h
    · omega
    · have := mx_le h; omega
theorem mx_in : ∀ l : List Int, mx l = 0 ∨ mx l ∈ l
  | [] => .inl rfl
  | a :: l => by
    show max a (mx l) = 0 ∨ max a (mx l) ∈ a :: l
    by_cases h : a ≤ mx l
    · rw [Int.max_eq_right h]
      exact (mx_in l).imp id (List.mem_cons_of_mem _)
    · rw [Int.max_eq_left (by omega)]
      exact .inr List.mem_cons_self
def AtE (p : Pipe) (r : Int) : Prop := p.a = r ∨ p.b = r
def oth (p : Pipe) (r : Int) : Int := if p.a = r then p.b else p.a
def near (g : Int → Int → Int) (r : Int) (p : Pipe) (s : Int) : Bool := decide (g (oth p r) s = g r s + p.len)
def Rst (g : Int → Int → Int) (S : List Int) (r : Int) (p : Pipe) : Int := mx ((S.filter (near g r p)).map (g r))
def cnt (g : Int → Int → Int) (S : List Int) (r : Int) (p : Pipe) : Nat := S.countP (near g r p)
theorem cnt_lt {p q : Int → Bool} {u : Int} : ∀ {l : List Int}, (∀ x ∈ l, p x = true → q x = true) → u ∈ l → q u = true → p u = false → l.countP p < l.countP q
  | [], _, h, _, _ => by simp at h
  | a :: l, h, hu, h1, h2 => by
    have mono : l.countP p ≤ l.countP q := List.countP_mono_left fun x hx => h x (List.mem_cons_of_mem _ hx)
    rw [List.countP_cons, List.countP_cons]
    rcases List.mem_cons.mp hu with rfl | hu
    · rw [if_neg (by rw [h2]; decide), if_pos h1]; omega
    · have ih := cnt_lt (fun x hx => h x (List.mem_cons_of_mem _ hx)) hu h1 h2
      by_cases ha : p a = true
      · rw [if_pos ha, if_pos (h a (by simp) ha)]; omega
      · rw [if_neg ha]; omega
section
variable {g : Int → Int → Int} {S : List Int} {ps : List Pipe} {r s : Int} {p p' : Pipe}
theorem at_S (M : Metric g S ps) (hp : p ∈ ps) (ha : AtE p r) : r ∈ S ∧ oth p r ∈ S ∧ AtE p (oth p r) ∧ oth p (oth p r) = r := by
  obtain ⟨e1, e2, e3⟩ := M.ends p hp
  unfold oth AtE
  rcases ha with rfl | rfl
  · rw [if_pos rfl]
    exact ⟨e1, e2, .inr rfl, by rw [if_neg (by omega)]⟩
  · have h0 : (if p.a = p.b then p.b else p.a) = p.a := if_neg (by omega)
    rw [h0, if_pos rfl]
    exact ⟨e2, e1, .inl rfl, rfl⟩
theorem cls_at (M : Metric g S ps) (hp : p ∈ ps) (ha : AtE p r) (h : g s (oth p r) + p.len = g s r) : Cls' g s r p := by
  have e3 := (M.ends p hp).2.2
  unfold oth at h
  rcases ha with rfl | rfl
  · rw [if_pos rfl] at h; exact .inl ⟨rfl, h⟩
  · rw [if_neg (by omega)] at h; exact .inr ⟨rfl, h⟩
/-- of each pipe at r a room lies beyond it or not -/
theorem near_or (M : Metric g S ps) (hp : p ∈ ps) (ha : AtE p r) (hs : s ∈ S) : near g r p s = true ∨ g r s = g (oth p r) s + p.len := by
  obtain ⟨hr, ho, _, _⟩ := at_S M hp ha
  have e3 := (M.ends p hp).2.2
  have m := M.mp s hs p hp
  have s1 := M.ms s hs r hr
  have s2 := M.ms s hs _ ho
  unfold near
  rw [decide_eq_true_eq]
  rcases ha with rfl | rfl
  · have h0 : oth p p.a = p.b := by unfold oth; rw [if_pos rfl]
    rw [h0] at s2 ⊢; omega
  · have h0 : oth p p.b = p.a := by unfold oth; rw [if_neg (by omega)]
    rw [h0] at s2 ⊢; omega
theorem near_self (M : Metric g S ps) (hok : ∀ p ∈ ps, 1 ≤ p.len) (hp : p ∈ ps) (ha : AtE p r) : near g r p r = true := by
  obtain ⟨hr, ho, _, _⟩ := at_S M hp ha
  rcases near_or M hp ha hr with h | h
  · exact h
  · have := M.m0 r hr
    have := M.mn _ ho r hr
    have := hok p hp
    omega
/-- beyond another pipe is not beyond this one -/
theorem near_on (M : Metric g S ps) (hp : p ∈ ps) (hp' : p' ∈ ps) (ha : AtE p r) (ha' : AtE p' r) (hne : p' ≠ p) (hs : s ∈ S) (h : near g (oth p' r) p' s = true) : near g r p s = true ∧ g r s = g (oth p' r) s + p'.len := by
  obtain ⟨hr, ho, _, _⟩ := at_S M hp ha
  obtain ⟨_, ho', _, hoo⟩ := at_S M hp' ha'
  have h' : g r s = g (oth p' r) s + p'.len := by
    have := of_decide_eq_true h
    rw [hoo] at this
    exact this
  refine ⟨?_, h'⟩
  rcases near_or M hp ha hs with h2 | h2
  · exact h2
  · exfalso
    have c1 : Cls' g s r p := cls_at M hp ha (by rw [M.ms s hs _ ho, M.ms s hs r hr]; omega)
    have c2 : Cls' g s r p' := cls_at M hp' ha' (by rw [M.ms s hs _ ho', M.ms s hs r hr]; omega)
    exact hne (M.mu s hs r hr p' hp' p hp c2 c1)
theorem rst_at (M : Metric g S ps) (hok : ∀ p ∈ ps, 1 ≤ p.len) (hp : p ∈ ps) (ha : AtE p r) : ∃ s ∈ S, near g r p s = true ∧ Rst g S r p = g r s := by
  rcases mx_in ((S.filter (near g r p)).map (g r)) with h | h
  · have hr := (at_S M hp ha).1
    exact ⟨r, hr, near_self M hok hp ha, by rw [M.m0 r hr]; exact h⟩
  · obtain ⟨s, hs, e⟩ := List.mem_map.mp h
    obtain ⟨h1, h2⟩ := List.mem_filter.mp hs
    exact ⟨s, h1, h2, e.symm⟩
theorem rst_ge (hs : s ∈ S) (h : near g r p s = true) : g r s ≤ Rst g S r p := mx_le (List.mem_map_of_mem (List.mem_filter.mpr ⟨hs, h⟩))
theorem rst_nn : 0 ≤ Rst g S r p := mx_nn _
theorem rst_up (M : Metric g S ps) (hok : ∀ p ∈ ps, 1 ≤ p.len) (hp : p ∈ ps) (hp' : p' ∈ ps) (ha : AtE p r) (ha' : AtE p' r) (hne : p' ≠ p) : p'.len + Rst g S (oth p' r) p' ≤ Rst g S r p := by
  obtain ⟨_, _, hao, _⟩ := at_S M hp' ha'
  obtain ⟨s, hs, h1, h2⟩ := rst_at M hok hp' hao
  obtain ⟨h3, h4⟩ := near_on M hp hp' ha ha' hne hs h1
  have := rst_ge hs h3
  omega
theorem rst_is (M : Metric g S ps) (hok : ∀ p ∈ ps, 1 ≤ p.len) (hp : p ∈ ps) (ha : AtE p r) : Rst g S r p = 0 ∨ ∃ p' ∈ ps, p' ≠ p ∧ AtE p' r ∧ Rst g S r p = p'.len + Rst g S (oth p' r) p' := by
  obtain ⟨s, hs, h1, h2⟩ := rst_at M hok hp ha
  obtain ⟨hr, ho, _, _⟩ := at_S M hp ha
  by_cases hsr : s = r
  · subst hsr
    exact .inl (by rw [h2, M.m0 s hr])
  · obtain ⟨p', hp', c⟩ := M.me s hs r hr hsr
    have e3 := (M.ends p' hp').2.2
    have ha' : AtE p' r := c.imp (·.1) (·.1)
    obtain ⟨_, ho', hao, hoo⟩ := at_S M hp' ha'
    have h3 : g s (oth p' r) + p'.len = g s r := by
      unfold oth
      rcases c with ⟨rfl, h⟩ | ⟨rfl, h⟩
      · rw [if_pos rfl]; exact h
      · rw [if_neg (by omega)]; exact h
    have s1 := M.ms s hs r hr
    have s2 := M.ms s hs _ ho'
    have hn : near g (oth p' r) p' s = true := by
      unfold near
      rw [decide_eq_true_eq, hoo]; omega
    have hne : p' ≠ p := fun e => by
      subst e
      have := of_decide_eq_true h1
      have := hok p' hp'
      omega
    have h5 := rst_ge (g := g) hs hn
    have h6 := rst_up M hok hp hp' ha ha' hne
    exact .inr ⟨p', hp', hne, ha', by omega⟩
theorem cnt_less (M : Metric g S ps) (hok : ∀ p ∈ ps, 1 ≤ p.len) (hp : p ∈ ps) (hp' : p' ∈ ps) (ha : AtE p r) (ha' : AtE p' r) (hne : p' ≠ p) : cnt g S (oth p' r) p' < cnt g S r p := by
  obtain ⟨hr, _, _, hoo⟩ := at_S M hp' ha'
  refine cnt_lt (u := r) (fun s hs h => (near_on M hp hp' ha ha' hne hs h).1) hr (near_self M hok hp ha) (Bool.eq_false_iff.mpr fun h => ?_)
  have h4 := (near_on M hp hp' ha ha' hne hr h).2
  have := M.m0 r hr
  have := M.mn _ (at_S M hp' ha').2.1 r hr
  have := hok p' hp'
  omega
end
end K43

/-! S48: how deep an arm is. -/
namespace K43
open PySem L2 RW
/-- the arm from y by x is n deep -/
def Dir (g : Int → Int → Int) (S : List Int) (ps : List Pipe) (y x : Pl) (n : Int) : Prop := ∃ q p k, ps[q]? = some p ∧ 0 ≤ k ∧ k < p.len ∧
  ((y = ln p q k ∧ x = ln p q (k + 1) ∧ n = p.len - k + Rst g S p.b p) ∨ (y = ln p q (k + 1) ∧ x = ln p q k ∧ n = k + 1 + Rst g S p.a p))
def nbx (r : Int) (q : Nat) (p : Pipe) : Pl := if p.a = r then ln p q 1 else ln p q (p.len - 1)
section
variable {g : Int → Int → Int} {S : List Int} {ps : List Pipe} {r : Int} {p p' : Pipe} {q q' : Nat} {x y z : Pl} {n k t : Int}
theorem nbx_mem (ha : AtE p r) : nbx r q p ∈ nbOne r q p := by
  unfold nbx nbOne
  rcases ha with h | h
  · rw [if_pos h, if_pos h]; simp
  · by_cases h2 : p.a = r
    · rw [if_pos h2, if_pos h2]; simp
    · rw [if_neg h2, if_neg h2, if_pos h]; simp
theorem nbOne_is (h : z ∈ nbOne r q p) : AtE p r ∧ z = nbx r q p := by
  unfold nbOne at h
  unfold nbx
  split at h
  · rename_i h1
    simp at h
    exact ⟨.inl h1, by rw [if_pos h1]; exact h⟩
  · rename_i h1
    split at h
    · rename_i h2
      simp at h
      exact ⟨.inr h2, by rw [if_neg h1]; exact h⟩
    · simp at h
theorem nbr_room (M : Metric g S ps) (hok : ∀ p ∈ ps, 1 ≤ p.len) (hr : r ∈ S) : E ps (.room r) z ↔ ∃ q p, ps[q]? = some p ∧ AtE p r ∧ z = nbx r q p := by
  rw [← mem_nbr M hok (show IsPl S ps (.room r) from hr)]
  show z ∈ nbs r 0 ps ↔ _
  rw [nbs_mem]
  constructor
  · rintro ⟨i, p, e, h⟩
    rw [Nat.zero_add] at h
    obtain ⟨h1, h2⟩ := nbOne_is h
    exact ⟨i, p, e, h1, h2⟩
  · rintro ⟨q, p, e, h1, rfl⟩
    exact ⟨q, p, e, by rw [Nat.zero_add]; exact nbx_mem h1⟩
theorem nbx_one (M : Metric g S ps) (hok : ∀ p ∈ ps, 1 ≤ p.len) (e : ps[q]? = some p) (e' : ps[q']? = some p') (ha : AtE p r) (ha' : AtE p' r) (h : nbx r q p = nbx r q' p') : q = q' :=
  nbr_room_one M hok e e' (nbx_mem ha) (h ▸ nbx_mem ha')
theorem pipe_one (M : Metric g S ps) (e : ps[q]? = some p) (e' : ps[q']? = some p) : q = q' := by
  obtain ⟨h1, h2⟩ := List.getElem?_eq_some_iff.mp e
  obtain ⟨h3, h4⟩ := List.getElem?_eq_some_iff.mp e'
  exact (List.getElem_inj M.nd).mp (h2.trans h4.symm)
/-- out of a room along a pipe -/
theorem dir_room (M : Metric g S ps) (hok : ∀ p ∈ ps, 1 ≤ p.len) (e : ps[q]? = some p) (ha : AtE p r) : Dir g S ps (.room r) (nbx r q p) (p.len + Rst g S (oth p r) p) := by
  have hp := List.mem_of_getElem? e
  have hl := hok p hp
  have e3 := (M.ends p hp).2.2
  unfold nbx oth
  rcases ha with rfl | rfl
  · rw [if_pos rfl, if_pos rfl]
    exact ⟨q, p, 0, e, by omega, by omega, .inl ⟨ln_0.symm, rfl, by omega⟩⟩
  · rw [if_neg (by omega), if_neg (by omega)]
    refine ⟨q, p, p.len - 1, e, by omega, by omega, .inr ⟨?_, rfl, by omega⟩⟩
    rw [show p.len - 1 + 1 = p.len by omega, ln_len hl]
/-- into a room along a pipe -/
theorem in_room (M : Metric g S ps) (hok : ∀ p ∈ ps, 1 ≤ p.len) (e : ps[q]? = some p) (ha : AtE p r) :
    (∀ z, E ps (.room r) z → z ≠ nbx r q p → ∃ m, Dir g S ps (.room r) z m ∧ m ≤ Rst g S r p) ∧ (Rst g S r p = 0 ∨ ∃ z, E ps (.room r) z ∧ z ≠ nbx r q p ∧ Dir g S ps (.room r) z (Rst g S r p)) := by
  have hp := List.mem_of_getElem? e
  have hr := (at_S M hp ha).1
  refine ⟨fun z hz hne => ?_, ?_⟩
  · obtain ⟨q', p', e', ha', rfl⟩ := (nbr_room M hok hr).mp hz
    have hp' := List.mem_of_getElem? e'
    refine ⟨_, dir_room M hok e' ha', rst_up M hok hp hp' ha ha' fun h => ?_⟩
    subst h
    exact hne (by rw [pipe_one M e' e])
  · rcases rst_is M hok hp ha with h | ⟨p', hp', hne, ha', h⟩
    · exact .inl h
    · obtain ⟨q', hq', e'⟩ := List.mem_iff_getElem.mp hp'
      have e' : ps[q']? = some p' := List.getElem?_eq_some_iff.mpr ⟨hq', e'⟩
      refine .inr ⟨nbx r q' p', (nbr_room M hok hr).mpr ⟨q', p', e', ha', rfl⟩, fun h2 => ?_, by rw [h]; exact dir_room M hok e' ha'⟩
      have := nbx_one M hok e' e ha' ha h2
      subst this
      rw [e] at e'; cases e'
      exact hne rfl
/-- next to a place along a pipe -/
theorem nbr_on (M : Metric g S ps) (e : ps[q]? = some p) (h0 : 0 < t) (h1 : t < p.len) : E ps (ln p q t) z ↔ z = ln p q (t - 1) ∨ z = ln p q (t + 1) := by
  have hab := (M.ends p (List.mem_of_getElem? e)).2.2
  constructor
  · rintro ⟨q', p', k', e', h0', h1', h⟩
    have key : ∀ {j : Int}, ln p q t = ln p' q' j → q' = q ∧ p' = p ∧ j = t := fun {j} h => by
      by_cases hq : q = q'
      · subst hq
        rw [e] at e'; cases e'
        exact ⟨rfl, rfl, (ln_inj hab h).symm⟩
      · have := (ln_apart hq h).1
        omega
    rcases h with ⟨h, rfl⟩ | ⟨h, rfl⟩
    · obtain ⟨rfl, rfl, rfl⟩ := key h
      exact .inr rfl
    · obtain ⟨rfl, rfl, h3⟩ := key h
      exact .inl (by rw [← h3]; congr 1; omega)
  · rintro (rfl | rfl)
    · exact ⟨q, p, t - 1, e, by omega, by omega, .inr ⟨by congr 1; omega, rfl⟩⟩
    · exact ⟨q, p, t, e, by omega, by omega, .inl ⟨rfl, rfl⟩⟩
theorem Dir.pos (h : Dir g S ps y x n) : 1 ≤ n := by
  obtain ⟨q, p, k, e, h0, h1, ⟨_, _, h⟩ | ⟨_, _, h⟩⟩ := h
  · have := rst_nn (g := g) (S := S) (r := p.b) (p := p); omega
  · have := rst_nn (g := g) (S := S) (r := p.a) (p := p); omega
theorem Dir.edge (h : Dir g S ps y x n) : E ps y x := by
  obtain ⟨q, p, k, e, h0, h1, h⟩ := h
  exact ⟨q, p, k, e, h0, h1, h.imp (fun h => ⟨h.1, h.2.1⟩) fun h => ⟨h.1, h.2.1⟩⟩
theorem Dir.next (M : Metric g S ps) (hok : ∀ p ∈ ps, 1 ≤ p.len) (h : Dir g S ps y x n) :
    (∀ z, E ps x z → z ≠ y → ∃ m, Dir g S ps x z m ∧ m ≤ n - 1) ∧ (n = 1 ∨ ∃ z, E ps x z ∧ z ≠ y ∧ Dir g S ps x z (n - 1)) := by
  obtain ⟨q, p, k, e, h0, h1, h⟩ := h
  have hp := List.mem_of_getElem? e
  have hl := hok p hp
  have hab := (M.ends p hp).2.2
  rcases h with ⟨rfl, rfl, rfl⟩ | ⟨rfl, rfl, rfl⟩
  · by_cases ht : k + 1 < p.len
    · have D2 : Dir g S ps (ln p q (k + 1)) (ln p q (k + 1 + 1)) (p.len - k + Rst g S p.b p - 1) := ⟨q, p, k + 1, e, by omega, ht, .inl ⟨rfl, rfl, by omega⟩⟩
      refine ⟨fun z hz hne => ?_, .inr ⟨ln p q (k + 1 + 1), (nbr_on M e (by omega) ht).mpr (.inr rfl), fun h => ?_, D2⟩⟩
      · rcases (nbr_on M e (by omega) ht).mp hz with rfl | rfl
        · exact absurd (by congr 1; omega) hne
        · exact ⟨_, D2, Int.le_refl _⟩
      · have := ln_inj hab h; omega
    · have hk : k + 1 = p.len := by omega
      rw [hk, ln_len hl]
      have hy : ln p q k = nbx p.b q p := by unfold nbx; rw [if_neg (by omega)]; congr 1; omega
      rw [hy]
      obtain ⟨i1, i2⟩ := in_room (q := q) (r := p.b) M hok e (.inr rfl)
      have en : p.len - k + Rst g S p.b p - 1 = Rst g S p.b p := by omega
      rw [en]
      refine ⟨i1, i2.imp (fun h => by omega) id⟩
  · by_cases ht : 0 < k
    · have D2 : Dir g S ps (ln p q k) (ln p q (k - 1)) (k + 1 + Rst g S p.a p - 1) := ⟨q, p, k - 1, e, by omega, by omega, .inr ⟨by congr 1; omega, rfl, by omega⟩⟩
      refine ⟨fun z hz hne => ?_, .inr ⟨ln p q (k - 1), (nbr_on M e ht h1).mpr (.inl rfl), fun h => ?_, D2⟩⟩
      · rcases (nbr_on M e ht h1).mp hz with rfl | rfl
        · exact ⟨_, D2, Int.le_refl _⟩
        · exact absurd rfl hne
      · have := ln_inj hab h; omega
    · have hk : k = 0 := by omega
      subst hk
      rw [ln_0]
      have hy : ln p q (0 + 1) = nbx p.a q p := by unfold nbx; rw [if_pos rfl]; rfl
      rw [hy]
      obtain ⟨i1, i2⟩ := in_room (q := q) (r := p.a) M hok e (.inl rfl)
      have en : 0 + 1 + Rst g S p.a p - 1 = Rst g S p.a p := by omega
      rw [en]
      refine ⟨i1, i2.imp (fun h => by omega) id⟩
end
end K43

/-! S49: an arm gone through, layer by layer. -/
namespace K43
open PySem L2 RW
theorem nodup_le : ∀ {l k : List Pl}, l.Nodup → (∀ x ∈ l, x ∈ k) → l.length ≤ k.length
  | [], _, _, _ => Nat.zero_le _
  | x :: l, k, nd, h => by
    have hx := h x (by simp)
    have hn := List.nodup_cons.mp nd
    have ih := nodup_le (l := l) (k := k.erase x) hn.2 fun y hy => (List.mem_erase_of_ne (show y ≠ x from fun e => hn.1 (by rw [← e]; exact hy))).mpr (h y (by simp [hy]))
    have := List.length_erase_of_mem hx
    have := List.length_pos_of_mem hx
    simp only [List.length_cons]; omega
abbrev Ed := Pl × Pl
def sucs (ps : List Pipe) (e : Ed) : List Ed := ((sortE penc (nbr ps e.2)).filter fun z => decide (z ≠ e.1)).map fun z => (e.2, z)
def succs (ps : List Pipe) (last : List Ed) : List Ed := (last.map (sucs ps)).flatten
section
variable {g : Int → Int → Int} {S : List Int} {ps : List Pipe} {y0 x0 : Pl} {f : Pl → Int} {n : Int} {last : List Ed}
theorem mem_sucs {e w : Ed} : w ∈ sucs ps e ↔ w.1 = e.2 ∧ w.2 ∈ nbr ps e.2 ∧ w.2 ≠ e.1 := by
  unfold sucs
  rw [List.mem_map]
  constructor
  · rintro ⟨z, hz, rfl⟩
    obtain ⟨h1, h2⟩ := List.mem_filter.mp hz
    exact ⟨rfl, sortE_perm.mem_iff.mp h1, of_decide_eq_true h2⟩
  · rintro ⟨h1, h2, h3⟩
    exact ⟨w.2, List.mem_filter.mpr ⟨sortE_perm.mem_iff.mpr h2, decide_eq_true h3⟩, Prod.ext h1.symm rfl⟩
theorem mem_succs {w : Ed} : w ∈ succs ps last ↔ ∃ e, e ∈ last ∧ w ∈ sucs ps e := by
  unfold succs
  rw [List.mem_flatten]
  constructor
  · rintro ⟨l, hl, hw⟩
    obtain ⟨e, he, rfl⟩ := List.mem_map.mp hl
    exact ⟨e, he, hw⟩
  · rintro ⟨e, he, hw⟩
    exact ⟨_, List.mem_map_of_mem he, hw⟩
structure Inv (g : Int → Int → Int) (S : List Int) (ps : List Pipe) (f : Pl → Int) (n : Int) (last : List Ed) : Prop where
  ed : ∀ e ∈ last, E ps e.1 e.2 ∧ f e.2 = f e.1 + 1
  nd : (last.map (·.2)).Nodup
  le : ∀ e ∈ last, ∃ m, Dir g S ps e.1 e.2 m ∧ m ≤ n
  top : n = 0 ∨ ∃ e ∈ last, Dir g S ps e.1 e.2 n
theorem Inv.start (Df : Dist S ps y0 f) (hy : IsPl S ps x0) (D : Dir g S ps y0 x0 n) : Inv g S ps f n [(y0, x0)] where
  ed := fun e he => by
    cases List.mem_singleton.mp he
    refine ⟨D.edge, ?_⟩
    have h0 := Df.f0
    rcases Df.step y0 x0 D.edge with h | h
    · exact h
    · have := Df.pos x0 hy; omega
  nd := by simp
  le := fun e he => by
    cases List.mem_singleton.mp he
    exact ⟨n, D, Int.le_refl _⟩
  top := .inr ⟨(y0, x0), List.mem_singleton.mpr rfl, D⟩
theorem Inv.end_ (I : Inv g S ps f 0 last) : last = [] := by
  cases last with
  | nil => rfl
  | cons e l =>
    obtain ⟨m, h1, h2⟩ := I.le e (by simp)
    have := h1.pos; omega
theorem succs_nd (M : Metric g S ps) (hok : ∀ p ∈ ps, 1 ≤ p.len) (Df : Dist S ps y0 f) : ∀ {last : List Ed}, (∀ e ∈ last, E ps e.1 e.2 ∧ f e.2 = f e.1 + 1) → (last.map (·.2)).Nodup → ((succs ps last).map (·.2)).Nodup
  | [], _, _ => List.nodup_nil
  | e :: last, h, nd => by
    have hS : ∀ p ∈ ps, p.a ∈ S ∧ p.b ∈ S := fun p hp => ⟨(M.ends p hp).1, (M.ends p hp).2.1⟩
    obtain ⟨n1, n2⟩ := List.nodup_cons.mp nd
    have ih := succs_nd M hok Df (fun e he => h e (List.mem_cons_of_mem _ he)) n2
    have fz : ∀ {e w : Ed}, E ps e.1 e.2 ∧ f e.2 = f e.1 + 1 → w ∈ sucs ps e → E ps w.2 e.2 ∧ f e.2 = f w.2 - 1 := fun {e w} he hw => by
      obtain ⟨q1, q2, q3⟩ := mem_sucs.mp hw
      have hx := (he.1.pl hS).2
      have ee := (mem_nbr M hok hx).mp q2
      refine ⟨ee.symm, ?_⟩
      rcases Df.step _ _ ee with q | q
      · omega
      · exact absurd (Df.un e.2 w.2 e.1 hx ee he.1.symm q (by omega)) q3
    have split : succs ps (e :: last) = sucs ps e ++ succs ps last := by unfold succs; rw [List.map_cons, List.flatten_cons]
    rw [split, List.map_append, List.nodup_append]
    refine ⟨?_, ih, fun a ha b hb hab => ?_⟩
    · have : (sucs ps e).map (·.2) = (sortE penc (nbr ps e.2)).filter fun z => decide (z ≠ e.1) := by unfold sucs; rw [List.map_map]; exact List.map_id _
      rw [this]
      exact (sortE_perm.nodup_iff.mpr (nbr_nodup M hok ((h e (by simp)).1.pl hS).2)).filter _
    · subst hab
      obtain ⟨w, hw, rfl⟩ := List.mem_map.mp ha
      obtain ⟨w', hw', e2⟩ := List.mem_map.mp hb
      obtain ⟨e', he', hw''⟩ := mem_succs.mp hw'
      obtain ⟨c1, c2⟩ := fz (h e (by simp)) hw
      obtain ⟨d1, d2⟩ := fz (h e' (List.mem_cons_of_mem _ he')) hw''
      have e2 : w'.2 = w.2 := e2
      rw [e2] at d1 d2
      have := Df.un w.2 e.2 e'.2 (c1.pl hS).1 c1 d1 c2 d2
      have hm : e'.2 ∈ last.map (·.2) := List.mem_map_of_mem he'
      rw [← this] at hm
      exact n1 hm
theorem Inv.round (M : Metric g S ps) (hok : ∀ p ∈ ps, 1 ≤ p.len) (Df : Dist S ps y0 f) (I : Inv g S ps f n last) (hn : 1 ≤ n) : Inv g S ps f (n - 1) (succs ps last) where
  ed := fun w hw => by
    have hS : ∀ p ∈ ps, p.a ∈ S ∧ p.b ∈ S := fun p hp => ⟨(M.ends p hp).1, (M.ends p hp).2.1⟩
    obtain ⟨e, he, h⟩ := mem_succs.mp hw
    obtain ⟨q1, q2, q3⟩ := mem_sucs.mp h
    obtain ⟨h1, h2⟩ := I.ed e he
    have hx := (h1.pl hS).2
    have ee := (mem_nbr M hok hx).mp q2
    rw [q1]
    refine ⟨ee, ?_⟩
    rcases Df.step _ _ ee with q | q
    · exact q
    · exact absurd (Df.un e.2 w.2 e.1 hx ee h1.symm q (by omega)) q3
  nd := succs_nd M hok Df I.ed I.nd
  le := fun w hw => by
    have hS : ∀ p ∈ ps, p.a ∈ S ∧ p.b ∈ S := fun p hp => ⟨(M.ends p hp).1, (M.ends p hp).2.1⟩
    obtain ⟨e, he, h⟩ := mem_succs.mp hw
    obtain ⟨q1, q2, q3⟩ := mem_sucs.mp h
    obtain ⟨m, d1, d2⟩ := I.le e he
    have ee := (mem_nbr M hok ((I.ed e he).1.pl hS).2).mp q2
    obtain ⟨k, k1, k2⟩ := (d1.next M hok).1 w.2 ee q3
    rw [q1]
    exact ⟨k, k1, by omega⟩
  top := by
    have hS : ∀ p ∈ ps, p.a ∈ S ∧ p.b ∈ S := fun p hp => ⟨(M.ends p hp).1, (M.ends p hp).2.1⟩
    rcases I.top with h | ⟨e, he, d⟩
    · omega
    · rcases (d.next M hok).2 with h | ⟨z, h1, h2, h3⟩
      · exact .inl (by omega)
      · exact .inr ⟨(e.2, z), mem_succs.mpr ⟨e, he, mem_sucs.mpr ⟨rfl, (mem_nbr M hok ((I.ed e he).1.pl hS).2).mpr h1, h2⟩⟩, h3⟩
theorem Inv.size (hS : ∀ p ∈ ps, p.a ∈ S ∧ p.b ∈ S) {keys : List Pl} (hk : ∀ x, x ∈ keys ↔ IsPl S ps x) (I : Inv g S ps f n last) : last.length ≤ keys.length := by
  rw [← List.length_map (f := (·.2))]
  refine nodup_le I.nd fun x hx => ?_
  obtain ⟨e, he, rfl⟩ := List.mem_map.mp hx
  exact (hk _).mpr (((I.ed e he).1.pl hS).2)
theorem far_len (Df : Dist S ps y0 f) (hS : ∀ p ∈ ps, p.a ∈ S ∧ p.b ∈ S) {keys : List Pl} (hk : ∀ x, x ∈ keys ↔ IsPl S ps x) {z : Pl} (hz : IsPl S ps z) : f z < keys.length := by
  have key : ∀ (n : Nat) (z : Pl), IsPl S ps z → f z = (n : Int) → ∃ l : List Pl, l.length = n + 1 ∧ l.Nodup ∧ ∀ x ∈ l, IsPl S ps x ∧ f x ≤ n := fun n => by
    induction n with
    | zero => intro z hz hf; exact ⟨[z], rfl, by simp, fun x hx => by simp at hx; subst hx; exact ⟨hz, by omega⟩⟩
    | succ n ih =>
      intro z hz hf
      have h0 := Df.f0
      obtain ⟨y, he, hy⟩ := Df.ex z hz (fun h => by rw [h] at hf; omega)
      obtain ⟨l, l1, l2, l3⟩ := ih y (he.pl hS).2 (by omega)
      refine ⟨z :: l, by simp [l1], List.nodup_cons.mpr ⟨fun h => ?_, l2⟩, fun x hx => ?_⟩
      · have := (l3 z h).2; omega
      · rcases List.mem_cons.mp hx with rfl | hx
        · exact ⟨hz, by omega⟩
        · exact ⟨(l3 x hx).1, by have := (l3 x hx).2; omega⟩
  have h0 := Df.pos z hz
  obtain ⟨l, l1, l2, l3⟩ := key (f z).toNat z hz (by omega)
  have := nodup_le l2 fun x hx => (hk x).mpr (l3 x hx).1
  omega
theorem Dir.far (M : Metric g S ps) (hok : ∀ p ∈ ps, 1 ≤ p.len) (Df : Dist S ps y0 f) : ∀ (n : Nat) {y x : Pl}, Dir g S ps y x (n : Int) → f x = f y + 1 → ∃ z, IsPl S ps z ∧ f z = f y + n
  | 0, y, x, D, _ => by have := D.pos; omega
  | n + 1, y, x, D, h => by
    have hS : ∀ p ∈ ps, p.a ∈ S ∧ p.b ∈ S := fun p hp => ⟨(M.ends p hp).1, (M.ends p hp).2.1⟩
    rcases (D.next M hok).2 with h1 | ⟨z, h1, h2, h3⟩
    · exact ⟨x, (D.edge.pl hS).2, by omega⟩
    · have hx := (D.edge.pl hS).2
      have hz : f z = f x + 1 := by
        rcases Df.step _ _ h1 with q | q
        · exact q
        · exact absurd (Df.un x z y hx h1 D.edge.symm q (by omega)) h2
      obtain ⟨w, w1, w2⟩ := Dir.far M hok Df n (y := x) (x := z) (by rw [show (n : Int) = ((n + 1 : Nat) : Int) - 1 by omega]; exact h3) hz
      exact ⟨w, w1, by omega⟩
theorem Dir.small (M : Metric g S ps) (hok : ∀ p ∈ ps, 1 ≤ p.len) (Df : Dist S ps y0 f) {keys : List Pl} (hk : ∀ x, x ∈ keys ↔ IsPl S ps x) (D : Dir g S ps y0 x0 n) : n < keys.length := by
  have hS : ∀ p ∈ ps, p.a ∈ S ∧ p.b ∈ S := fun p hp => ⟨(M.ends p hp).1, (M.ends p hp).2.1⟩
  have hp := D.pos
  have h0 := Df.f0
  have h1 : f x0 = f y0 + 1 := by
    rcases Df.step _ _ D.edge with q | q
    · exact q
    · have := Df.pos x0 (D.edge.pl hS).2; omega
  obtain ⟨z, z1, z2⟩ := Dir.far M hok Df n.toNat (y := y0) (x := x0) (by rw [Int.toNat_of_nonneg (by omega)]; exact D) h1
  have := far_len Df hS hk z1
  omega
end
end K43

/-! S50: the law's own going: how deep an arm is. -/
namespace K43
open PySem L2 RW
theorem Nx.keep {μ μ' : Mem} {F : Nat} {S : List Int} {ps : List Pipe} (N : Nx μ F S ps) (k : Keep [] μ μ') : Nx μ' F S ps := by
  obtain ⟨l, keys, h1, h2, h3, h4, h5⟩ := N.ex
  exact ⟨l, keys, h1.imp (fun h => k.get h (by simp)) (fun h => k.get h (by simp)), h2, h3, h4, adj_keep h5 (k.mono (by simp))⟩
theorem getA_keys {f : Pl → List Pl} {x : Pl} : ∀ {keys : List Pl}, x ∈ keys → getA (keys.map fun x => (x, f x)) x = some (f x)
  | z :: keys, h => by
    simp only [List.map_cons, getA]
    by_cases e : z = x
    · rw [if_pos e, e]
    · rw [if_neg e]
      exact getA_keys ((List.mem_cons.mp h).resolve_left fun q => e q.symm)
theorem Nx.get {μ : Mem} {F : Nat} {S : List Int} {ps : List Pipe} (N : Nx μ F S ps) {x : Pl} (hx : IsPl S ps x) : ∃ n, idxA (.ref F) x.d μ = .ok (.ref n) μ ∧ μ[n]? = some (.lst ((sortE penc (nbr ps x)).map Pl.d)) := by
  obtain ⟨l, keys, h1, h2, h3, h4, h5⟩ := N.ex
  have g := getA_keys (f := fun x => sortE penc (nbr ps x)) ((h3 x).mpr hx)
  rcases adj_get (x := x) h5 with ⟨_, g'⟩ | ⟨n, ys', g1, g2, _, g4⟩
  · rw [g] at g'; cases g'
  · rw [g] at g2; cases g2
    refine ⟨n, ?_, g4⟩
    rcases h1 with e | e
    · simp only [idxA, e, idxDD, dictAt, if_pos (Pl.isT x), g1]
    · simp only [idxA, e, idxDD, dictAt, if_pos (Pl.isT x), g1]
def edD (e : Ed) : D := .tup [e.1.d, e.2.d]
def edE (e : Ed) : PyData := .tuple [penc e.1, penc e.2]
theorem pl_py' (x : Pl) (n : Nat) (μ : Mem) : D.py? (n + 2) μ x.d = some (penc x) := by cases x <;> simp [Pl.d, penc, D.py?, D.pys?]
theorem pl_lay (x : Pl) : (penc x).canLay0 = true ∧ (penc x).depth ≤ 1 := by cases x <;> simp [penc, PyData.canLay0, PyData.canLayAll0, PyData.depth, PyData.depthAll]
theorem ed_py (n : Nat) (μ : Mem) (e : Ed) : D.py? (n + 3) μ (edD e) = some (edE e) := by
  simp [edD, edE, D.py?, D.pys?, pl_py']
theorem ed_lay (e : Ed) : (edE e).canLay0 = true ∧ (edE e).depth ≤ 2 := by
  obtain ⟨a1, a2⟩ := pl_lay e.1
  obtain ⟨b1, b2⟩ := pl_lay e.2
  refine ⟨by simp [edE, PyData.canLay0, PyData.canLayAll0, a1, b1], ?_⟩
  simp only [edE, PyData.depth, PyData.depthAll]; omega
theorem eds_ne {μ : Mem} {last : List Ed} {c n : Nat} (e : μ[c]? = some (.lst (last.map edD))) (e2 : μ[n]? = some (.lst [])) : neD (.ref c) (.ref n) μ = .ok (.bl (!last.isEmpty)) μ := by
  have pys : ∀ l : List Ed, D.pys? 7 μ (l.map edD) = some (l.map edE) := fun l => by
    induction l with
    | nil => simp [D.pys?]
    | cons a l ih => simp [D.pys?, ed_py 4, ih]
  have h1 : D.py? 8 μ (.ref c) = some (.list (last.map edE)) := by simp [D.py?, e, pys]
  have h2 : D.py? 8 μ (.ref n) = some (.list []) := by simp [D.py?, e2, D.pys?]
  have h3 : SeqAt.shaped (.list []) = true := by rfl
  have h4 : SeqAt.shaped (.list (last.map edE)) = true := by
    have g1 : ∀ l : List Ed, PyData.canLayAll0 (l.map edE) = true := fun l => by
      induction l with
      | nil => rfl
      | cons a l ih => simp [PyData.canLayAll0, (ed_lay a).1, ih]
    have g2 : ∀ l : List Ed, PyData.depthAll (l.map edE) ≤ 2 := fun l => by
      induction l with
      | nil => simp [PyData.depthAll]
      | cons a l ih =>
        have := (ed_lay a).2
        simp only [List.map_cons, PyData.depthAll]; omega
    unfold SeqAt.shaped
    refine Bool.and_eq_true_iff.mpr ⟨by simp only [PyData.canLay0, g1], decide_eq_true ?_⟩
    have := g2 last
    simp only [PyData.depth]; omega
  simp only [neD, h1, h2, h3, h4, Bool.and_self, if_true]
  cases last <;> simp [PyData.eqv, PyData.eqvAll]
theorem neP {x y : Pl} {μ : Mem} : neD x.d y.d μ = .ok (.bl (!decide (x = y))) μ := by
  simp only [neD, pl_py, pl_shaped, Bool.and_self, if_true, pl_eqv]
theorem on_comp {chk : Mem → Prop} {b h : Pl} {μ : Mem} {o0 o1 o2 o3 o4 o5 : Option D} (hc : chk μ) {l : List Pl} (hl : l.length ≤ 1000) :
    compL chk (gN 8) (mTest (mBin neD (mVar 8) (mVar 6))) (mTup (mCons (mVar 7) (mCons (mVar 8) (mNil)))) [o0, o1, o2, o3, o4, o5, some b.d, some h.d, none] (l.map Pl.d) [] μ = .ok (((l.filter fun z => decide (z ≠ b)).map fun z => (h, z)).map edD) μ := by
  have key := compL_ok (chk := chk) (g := gN 8) (tt := mTest (mBin neD (mVar 8) (mVar 6))) (te := mTup (mCons (mVar 7) (mCons (mVar 8) (mNil)))) (ρ0 := [o0, o1, o2, o3, o4, o5, some b.d, some h.d, none]) (l.map Pl.d)
    (fun i acc μ' => i ≤ l.length ∧ acc = (((l.take i).filter fun z => decide (z ≠ b)).map fun z => (h, z)).map edD ∧ μ' = μ) 0 (acc := []) (μ := μ) ⟨Nat.zero_le _, rfl, rfl⟩ (fun _ _ _ ⟨_, _, e⟩ => e ▸ hc) (fun i d acc μ' ed ⟨hi, ea, em⟩ => by
      simp only [Nat.zero_add] at hi ea em ⊢
      subst em
      rw [List.getElem?_map] at ed
      obtain ⟨z, ez, rfl⟩ := Option.map_eq_some_iff.mp ed
      have hi2 := (List.getElem?_eq_some_iff.mp ez).1
      refine .mk (a := [o0, o1, o2, o3, o4, o5, some b.d, some h.d, some z.d]) (μ := μ') rfl (.mk (a := decide (z ≠ b)) (μ := μ') (by simp [neP]) ?_)
      rw [List.take_add_one, ez]
      by_cases hz : z = b
      · rw [if_neg (by simp [hz])]
        refine ⟨by omega, ?_, rfl⟩
        rw [ea]; simp [hz]
      · rw [if_pos (by simp [hz])]
        refine ⟨?_, .mk (a := edD (h, z)) (μ := μ') (by simp [edD]) ⟨by omega, ?_, rfl⟩⟩
        · rw [ea, List.length_map, List.length_map, sizeLine_eq]
          have := List.length_filter_le (fun z => decide (z ≠ b)) (l.take i)
          rw [List.length_take] at this
          omega
        · rw [ea]; simp [hz])
  rw [List.length_map, Nat.zero_add] at key
  obtain ⟨r, μ', e1, _, rfl, rfl⟩ := key
  rw [List.take_length] at e1
  exact e1
noncomputable abbrev dpX : MS := sExpr (mMt isLst extendM (mVar 5) (mCons (mComp (iSeq (mBin idxA (mVar 0) (mVar 7))) (gN 8) (mTest (mBin neD (mVar 8) (mVar 6))) (mTup (mCons (mVar 7) (mCons (mVar 8) (mNil)))) [8]) (mNil)))
section
variable {g : Int → Int → Int} {S : List Int} {ps : List Pipe} {μ : Mem} {F nf nl : Nat}
theorem nbr_len (hp : ps.length ≤ 16) {x : Pl} : (nbr ps x).length ≤ 64 := by
  have one : ∀ (r : Int) (q : Nat) (p : Pipe), (nbOne r q p).length ≤ 2 := fun r q p => by
    unfold nbOne
    split
    · simp
    · split <;> simp
  have all : ∀ (r : Int) (l : List Pipe) (k : Nat), (nbs r k l).length ≤ 2 * l.length := fun r l => by
    induction l with
    | nil => intro k; simp [nbs]
    | cons p l ih =>
      intro k
      have := ih (k + 1)
      have := one r k p
      simp only [nbs, List.length_append, List.length_cons]; omega
  cases x with
  | room r => have := all r ps 0; show (nbs r 0 ps).length ≤ 64; omega
  | on q k =>
    show (match ps[q]? with
      | some p => [ln p q (k - 1), ln p q (k + 1)]
      | none => []).length ≤ 64
    split <;> simp
theorem ext_step {e : Ed} {acc : List Ed} {o1 o2 o3 o4 o8 : Option D} (N : Nx μ F S ps) (hp : ps.length ≤ 16) (hx : IsPl S ps e.2) (ef : μ[nf]? = some (.lst (acc.map edD))) (hl : acc.length ≤ 2000) :
    ∃ μ', dpX [some (.ref F), o1, o2, o3, o4, some (.ref nf), some e.1.d, some e.2.d, o8] μ = .ok (.nx [some (.ref F), o1, o2, o3, o4, some (.ref nf), some e.1.d, some e.2.d, o8]) μ' ∧ μ'[nf]? = some (.lst ((acc ++ sucs ps e).map edD)) ∧ Keep [nf] μ μ' := by
  obtain ⟨n, q1, q2⟩ := N.get hx
  have hn : (sortE penc (nbr ps e.2)).length ≤ 64 := by rw [sortE_perm.length_eq]; exact nbr_len hp
  have oc := on_comp (chk := fun μ' => μ'[n]? = some (.lst ((sortE penc (nbr ps e.2)).map Pl.d))) (b := e.1) (h := e.2) (μ := μ) (o0 := some (.ref F)) (o1 := o1) (o2 := o2) (o3 := o3) (o4 := o4) (o5 := some (.ref nf)) q2 (l := sortE penc (nbr ps e.2)) (by omega)
  have cm : mComp (iSeq (mBin idxA (mVar 0) (mVar 7))) (gN 8) (mTest (mBin neD (mVar 8) (mVar 6))) (mTup (mCons (mVar 7) (mCons (mVar 8) (mNil)))) [8] [some (.ref F), o1, o2, o3, o4, some (.ref nf), some e.1.d, some e.2.d, o8] μ = .ok (.ref μ.length) (μ ++ [.lst ((sucs ps e).map edD)]) :=
    comp_is (seq_lst (n := n) (by simp [q1]) q2) oc
  have lf := at_lt ef
  have e1 : (μ ++ [Cell.lst ((sucs ps e).map edD)])[nf]? = some (.lst (acc.map edD)) := app_at ef
  have e2 : (μ ++ [Cell.lst ((sucs ps e).map edD)])[μ.length]? = some (.lst ((sucs ps e).map edD)) := app_new
  have hs : (sucs ps e).length ≤ 64 := by
    unfold sucs
    rw [List.length_map]
    exact Nat.le_trans (List.length_filter_le _ _) hn
  have ex : extendM (.ref nf) [.ref μ.length] (μ ++ [Cell.lst ((sucs ps e).map edD)]) = .ok .non ((μ ++ [Cell.lst ((sucs ps e).map edD)]).set nf (.lst ((acc ++ sucs ps e).map edD))) := by
    have : (acc.map edD).length + ((sucs ps e).map edD).length ≤ sizeLine := by rw [List.length_map, List.length_map, sizeLine_eq]; omega
    simp only [extendM, e1, e2, if_pos this, List.map_append]
  have il : isLst (.ref nf) μ = true := by simp only [isLst, ef]
  refine ⟨(μ ++ [Cell.lst ((sucs ps e).map edD)]).set nf (.lst ((acc ++ sucs ps e).map edD)), ?_, set_at (by simp; omega), Keep.trans Keep.app (Keep.set (by simp))⟩
  show sExpr _ _ _ = _
  simp only [sExpr, mMt, mCons, mNil, mVar, List.getElem?_cons_succ, List.getElem?_cons_zero, Res.bind, il, if_true, onE, cm, ex]
end
end K43

/-! S51: the law's own going, whole. -/
namespace K43
open PySem L2 RW
noncomputable abbrev dpF : MS := sFor (iSeq (mVar 3)) (gTupM 2 (gConsM (gN 6) (gConsM (gN 7) (gNilM)))) dpX
noncomputable def dpB : MS := sSeq (sSet 4 (mBin addD (mVar 4) (mC (.int 1)))) (sSeq (sSet 5 (mLst (mNil))) (sSeq dpF (sSet 3 (mVar 5))))
theorem deep_eq : b_law_deep = sSeq (sSet 3 (mLst (mCons (mTup (mCons (mVar 1) (mCons (mVar 2) (mNil)))) (mNil))))
    (sSeq (sSet 4 (mC (.int 0))) (sSeq (whileL (mTest (mBin neD (mVar 3) (mLst (mNil)))) dpB 1000) (sRet (mVar 4)))) := rfl
section
variable {g : Int → Int → Int} {S : List Int} {ps : List Pipe} {μ : Mem} {F nf nl : Nat}
theorem succs_snoc {last : List Ed} {e : Ed} : succs ps (last ++ [e]) = succs ps last ++ sucs ps e := by simp [succs]
theorem succs_take {last : List Ed} {i : Nat} : (succs ps (last.take i)).length ≤ (succs ps last).length := by
  have : succs ps last = succs ps (last.take i) ++ succs ps (last.drop i) := by
    have : succs ps (last.take i ++ last.drop i) = succs ps (last.take i) ++ succs ps (last.drop i) := by simp only [succs, List.map_append, List.flatten_append]
    rw [List.take_append_drop] at this
    exact this
  rw [this, List.length_append]; omega
theorem layF_spec {last : List Ed} {o1 o2 o4 o6 o7 o8 : Option D} (N : Nx μ F S ps) (hp : ps.length ≤ 16) (hall : ∀ e ∈ last, IsPl S ps e.2) (el : μ[nl]? = some (.lst (last.map edD))) (ef : μ[nf]? = some (.lst [])) (hne : nl ≠ nf) (hF : F < nf) (hbase : ∀ μ', Keep [nf] μ μ' → Nx μ' F S ps) (hz : (succs ps last).length ≤ 700) :
    ∃ (b6 b7 : Option D) (μ' : Mem), dpF [some (.ref F), o1, o2, some (.ref nl), o4, some (.ref nf), o6, o7, o8] μ = .ok (.nx [some (.ref F), o1, o2, some (.ref nl), o4, some (.ref nf), b6, b7, o8]) μ' ∧ μ'[nf]? = some (.lst ((succs ps last).map edD)) ∧ Keep [nf] μ μ' := by
  have loop := forL_ok (chk := fun μ' => μ'[nl]? = some (.lst (last.map edD))) (g := gTupM 2 (gConsM (gN 6) (gConsM (gN 7) (gNilM)))) (body := dpX) (last.map edD)
    (fun i ρ μ' => i ≤ last.length ∧ ∃ (o6 o7 : Option D), ρ = [some (.ref F), o1, o2, some (.ref nl), o4, some (.ref nf), o6, o7, o8] ∧ μ'[nf]? = some (.lst ((succs ps (last.take i)).map edD)) ∧ Keep [nf] μ μ') 0
    (ρ := [some (.ref F), o1, o2, some (.ref nl), o4, some (.ref nf), o6, o7, o8]) (μ := μ) ⟨Nat.zero_le _, o6, o7, rfl, by simpa [succs] using ef, .refl⟩ (fun _ _ _ ⟨_, _, _, _, _, k⟩ => k.get el (by simp [hne]))
    (fun i d ρ μ' ed ⟨hi, o6, o7, eρ, en, k⟩ => by
      simp only [Nat.zero_add] at hi eρ en k ⊢
      subst eρ
      rw [List.getElem?_map] at ed
      obtain ⟨e, ee, rfl⟩ := Option.map_eq_some_iff.mp ed
      have hi2 := (List.getElem?_eq_some_iff.mp ee).1
      have sz := succs_take (ps := ps) (last := last) (i := i)
      obtain ⟨μ2, q1, q2, q3⟩ := ext_step (o1 := o1) (o2 := o2) (o3 := some (.ref nl)) (o4 := o4) (o8 := o8) (hbase μ' k) hp (hall e (List.mem_of_getElem? ee)) en (by omega)
      refine .mk (a := [some (.ref F), o1, o2, some (.ref nl), o4, some (.ref nf), some e.1.d, some e.2.d, o8]) (μ := μ') rfl (.mk q1 ⟨_, .inl rfl, by omega, _, _, rfl, ?_, k.trans q3⟩)
      rw [q2, List.take_add_one, ee]
      show _ = some (Cell.lst ((succs ps (last.take i ++ [e])).map edD))
      rw [succs_snoc])
  rw [List.length_map, Nat.zero_add] at loop
  obtain ⟨f, μ', w, ρ', rfl, _, o6, o7, rfl, en, k⟩ := loop
  rw [List.take_length] at en
  exact ⟨o6, o7, μ', for_run (seq_lst rfl el) w, en, k⟩
theorem layer_spec {last : List Ed} {far : Int} {o1 o2 o5 o6 o7 o8 : Option D} (N : Nx μ F S ps) (hp : ps.length ≤ 16) (hall : ∀ e ∈ last, IsPl S ps e.2) (el : μ[nl]? = some (.lst (last.map edD))) (hz : (succs ps last).length ≤ 700) :
    ∃ (b6 b7 : Option D) (n2 : Nat) (μ' : Mem), dpB [some (.ref F), o1, o2, some (.ref nl), some (.int far), o5, o6, o7, o8] μ = .ok (.nx [some (.ref F), o1, o2, some (.ref n2), some (.int (far + 1)), some (.ref n2), b6, b7, o8]) μ' ∧ μ'[n2]? = some (.lst ((succs ps last).map edD)) ∧ Keep [] μ μ' := by
  have hF : F < μ.length := by
    obtain ⟨l, keys, h1, _⟩ := N.ex
    exact h1.elim at_lt at_lt
  have hl := at_lt el
  have N1 : Nx (μ ++ [Cell.lst []]) F S ps := N.keep Keep.app
  obtain ⟨b6, b7, μ2, q1, q2, q3⟩ := layF_spec (nf := μ.length) (μ := μ ++ [Cell.lst []]) (o1 := o1) (o2 := o2) (o4 := some (.int (far + 1))) (o6 := o6) (o7 := o7) (o8 := o8) N1 hp hall (app_at el) app_new (by omega) hF
    (fun μ' k => N.keep ((Keep.trans Keep.app k).mono fun i hi => .inr (by simp at hi; omega))) hz
  refine ⟨b6, b7, μ.length, μ2, ?_, q2, (Keep.trans Keep.app q3).mono fun i hi => .inr (by simp at hi; omega)⟩
  unfold dpB
  rw [seq_set (d := .int (far + 1)) (μ1 := μ) rfl]
  rw [seq_set (d := .ref μ.length) (μ1 := μ ++ [Cell.lst []]) rfl]
  exact (seq_run q1).trans (set_is rfl)
theorem deep_spec (M : Metric g S ps) (hok : ∀ p ∈ ps, 1 ≤ p.len) (hp : ps.length ≤ 16) (N : Nx μ F S ps) {y0 x0 : Pl} {f : Pl → Int} {n0 : Int} (Df : Dist S ps y0 f) (Dn : Dir g S ps y0 x0 n0) :
    ∃ μ', m_law_deep [.ref F, y0.d, x0.d] μ = .ok (.int n0) μ' ∧ Keep [] μ μ' := by
  have hS : ∀ p ∈ ps, p.a ∈ S ∧ p.b ∈ S := fun p hp => ⟨(M.ends p hp).1, (M.ends p hp).2.1⟩
  obtain ⟨l, keys, _, _, hk, hk7, _⟩ := N.ex
  have hn0 := Dn.pos
  have hsm := Dn.small M hok Df hk
  let e0 : Ed := (y0, x0)
  let μ1 : Mem := μ ++ [.lst ([e0].map edD)]
  have k1 : Keep [] μ μ1 := Keep.app
  have loop := whileL_ok (c := mTest (mBin neD (mVar 3) (mLst (mNil)))) (body := dpB)
    (fun m ρ μ' => ∃ (last : List Ed) (nl : Nat) (o5 o6 o7 o8 : Option D), ρ = [some (.ref F), some y0.d, some x0.d, some (.ref nl), some (.int (n0 - (m : Int))), o5, o6, o7, o8] ∧ Inv g S ps f (m : Int) last ∧ μ'[nl]? = some (.lst (last.map edD)) ∧ Keep [] μ μ') n0.toNat (n := 1000)
    (ρ := [some (.ref F), some y0.d, some x0.d, some (.ref μ.length), some (.int 0), none, none, none, none]) (μ := μ1) (by omega)
    ⟨[e0], μ.length, none, none, none, none, by rw [Int.toNat_of_nonneg (by omega), Int.sub_self], by rw [Int.toNat_of_nonneg (by omega)]; exact Inv.start Df (Dn.edge.pl hS).2 Dn, app_new, k1⟩
    (fun ρ μ' => ∃ o3 o5 o6 o7 o8 : Option D, ρ = [some (.ref F), some y0.d, some x0.d, o3, some (.int n0), o5, o6, o7, o8] ∧ Keep [] μ μ')
    (fun m ρ μ' ⟨last, nl, o5, o6, o7, o8, eρ, I, el, k⟩ => by
      subst eρ
      have el1 : (μ' ++ [Cell.lst []])[nl]? = some (.lst (last.map edD)) := app_at el
      have ne := eds_ne (μ := μ' ++ [Cell.lst []]) (n := μ'.length) el1 app_new
      refine .mk (a := !last.isEmpty) (μ := μ' ++ [Cell.lst []]) (by simp [ne]) ?_
      cases m with
      | zero =>
        have := I.end_
        subst this
        rw [if_neg (by simp)]
        exact ⟨_, _, _, _, _, by rw [show n0 - ((0 : Nat) : Int) = n0 by omega], k.trans Keep.app⟩
      | succ m =>
        obtain ⟨e, he⟩ : ∃ e, e ∈ last := I.top.elim (fun h => by omega) fun ⟨e, he, _⟩ => ⟨e, he⟩
        have hb : (!last.isEmpty) = true := by
          cases last with
          | nil => simp at he
          | cons _ _ => rfl
        rw [if_pos hb]
        have I2 := I.round M hok Df (by omega)
        obtain ⟨b6, b7, n2, μ2, q1, q2, q3⟩ := layer_spec (far := n0 - ((m + 1 : Nat) : Int)) (o1 := some y0.d) (o2 := some x0.d) (o5 := o5) (o6 := o6) (o7 := o7) (o8 := o8) (N.keep (k.trans (Keep.app (cs := [Cell.lst []])))) hp (fun e he => ((I.ed e he).1.pl hS).2) el1 (by have := I2.size hS hk; omega)
        refine .mk q1 ⟨_, m, .inl rfl, by omega, succs ps last, n2, some (.ref n2), b6, b7, o8, ?_, ?_, q2, (k.trans Keep.app).trans q3⟩
        · rw [show n0 - ((m + 1 : Nat) : Int) + 1 = n0 - (m : Int) by omega]
        · rw [show ((m + 1 : Nat) : Int) - 1 = (m : Int) by omega] at I2
          exact I2)
  obtain ⟨fl, μ', w, ρ', rfl, o3, o5, o6, o7, o8, rfl, k⟩ := loop
  refine ⟨μ', run_is (m := b_law_deep) ?_, k⟩
  rw [deep_eq, show startR 9 [D.ref F, y0.d, x0.d] = [some (.ref F), some y0.d, some x0.d, none, none, none, none, none, none] from rfl]
  rw [seq_set (d := .ref μ.length) (μ1 := μ1) rfl]
  rw [seq_set (d := .int 0) (μ1 := μ1) rfl]
  exact (seq_run w).trans (ret_is rfl)
end
end K43

/-! S52: family E's same: what is the same as itself. -/
namespace K43
open PySem L2 RW
def PlT : Nat → D → Prop
  | _, .int _ => True
  | n + 1, .tup l => l.length ≤ 1000 ∧ ∀ x ∈ l, PlT n x
  | _, _ => False
theorem pl_T (x : Pl) : PlT 1 x.d := by cases x <;> simp [Pl.d, PlT]
theorem pls_T {l : List Pl} (h : l.length ≤ 1000) : PlT 2 (.tup (l.map Pl.d)) := by
  unfold PlT
  refine ⟨by rw [List.length_map]; exact h, fun x hx => ?_⟩
  obtain ⟨y, _, rfl⟩ := List.mem_map.mp hx
  exact pl_T y
theorem eqBl {a b : Bool} {μ : Mem} : eqD (.bl a) (.bl b) μ = .ok (.bl (a == b)) μ := by
  have h1 : SeqAt.shaped (PyData.bool a) = true := by rfl
  have h2 : SeqAt.shaped (PyData.bool b) = true := by rfl
  simp only [eqD, D.py?, h1, h2, Bool.and_self, if_true, PyData.eqv]
theorem same_int {n : Nat} {i : Int} {μ : Mem} : m_law_same (n + 1) [.int i, .int i] μ = .ok (.bl true) μ := by
  have u2 : subT "int" "tuple" = false := by decide +kernel
  have u3 : subT "int" "str" = false := by decide +kernel
  have u4 : subT "int" "int" = true := by decide +kernel
  have u5 : subT "int" "bool" = false := by decide +kernel
  refine run_is (m := b_law_same (m_law_same n)) ?_
  unfold b_law_same
  refine (seq_skip (μ1 := μ) (by simp [startR, isT1, tyD, u2])).trans ?_
  refine (seq_skip (μ1 := μ) (by simp [startR, isD, isNonD])).trans ?_
  refine (seq_skip (μ1 := μ) (by simp [startR, isT1, tyD, u3])).trans ?_
  exact ret_is (by simp [startR, isT1, tyD, u4, u5, eqBl, eqI])
theorem same_tup {n : Nat} {l : List D} {μ : Mem} (hz : l.length ≤ 1000) (ih : ∀ (x : D) (μ : Mem), x ∈ l → ∃ μ', m_law_same n [x, x] μ = .ok (.bl true) μ' ∧ Keep [] μ μ') : ∃ μ', m_law_same (n + 1) [.tup l, .tup l] μ = .ok (.bl true) μ' ∧ Keep [] μ μ' := by
  have s4 : subT "tuple" "tuple" = true := by decide +kernel
  have key := compL_ok (chk := fun _ => True) (g := gN 2) (tt := mNot (mTest (mB (m_law_same n) (mCons (mBin idxA (mVar 0) (mVar 2)) (mCons (mBin idxA (mVar 1) (mVar 2)) (mNil)))))) (te := mVar 2)
    (ρ0 := [some (.tup l), some (.tup l), none]) (rangeItems 0 l.length) (fun i acc μ' => acc = [] ∧ Keep [] μ μ') 0 (acc := []) (μ := μ) ⟨rfl, .refl⟩ (fun _ _ _ _ => trivial) (fun i d acc μ' ed ⟨ea, k⟩ => by
      obtain ⟨hi, rfl⟩ := rng_get ed
      obtain ⟨a, ha⟩ : ∃ a, l[i]? = some a := ⟨_, List.getElem?_eq_getElem (by omega)⟩
      obtain ⟨μ2, q, k2⟩ := ih a μ' (List.mem_of_getElem? ha)
      have i1 : idxA (.tup l) (.int (i : Int)) μ' = .ok a μ' := ix_tup (by omega) (by rw [Int.toNat_natCast]; exact ha)
      refine .mk (a := [some (.tup l), some (.tup l), some (.int (i : Int))]) (μ := μ') (by simp) (.mk (a := false) (μ := μ2) (by simp [i1, q]) ?_)
      rw [if_neg (by simp)]
      exact ⟨ea, k.trans k2⟩)
  obtain ⟨l2, μ2, e, rfl, k⟩ := key
  have ll : lenL [.tup l] μ = .ok (.int (l.length : Int)) μ := rfl
  have ir : iRange1 (mCons (mB lenL (mCons (mVar 1) (mNil))) (mNil)) [some (.tup l), some (.tup l), none] μ = .ok (rangeItems 0 l.length, fun _ => True) μ := ir1 (by simp [ll]) (by omega)
  have hc := comp_is (own := [2]) ir (show compL _ _ _ _ (wipeR [some (.tup l), some (.tup l), none] [2]) _ [] μ = _ from e)
  have d0 : ∀ (μ : Mem) (r : Nat), μ[r]? = some (.lst []) → D.py? 8 μ (.ref r) = some (.list []) := fun μ r h => by simp [D.py?, h, D.pys?]
  have he : eqD (.ref μ2.length) (.ref (μ2.length + 1)) (μ2 ++ [.lst []] ++ [.lst []]) = .ok (.bl true) (μ2 ++ [.lst []] ++ [.lst []]) := by
    have h1 := d0 (μ2 ++ [.lst []] ++ [.lst []]) μ2.length (app_at app_new)
    have h2 := d0 (μ2 ++ [.lst []] ++ [.lst []]) (μ2.length + 1) (by rw [show μ2.length + 1 = (μ2 ++ [Cell.lst []]).length by simp]; exact app_new)
    have h3 : SeqAt.shaped (PyData.list []) = true := by rfl
    simp only [eqD, h1, h2, h3, Bool.and_self, if_true, PyData.eqv, PyData.eqvAll]
  refine ⟨μ2 ++ [.lst []] ++ [.lst []], run_is (m := b_law_same (m_law_same n)) ?_, k.trans (Keep.trans Keep.app Keep.app)⟩
  unfold b_law_same
  refine seq_ret ((if_t (μ1 := μ) (by simp [startR, isT1, tyD, s4])).trans ?_)
  have ln : neD (.int (l.length : Int)) (.int (l.length : Int)) μ = .ok (.bl false) μ := by rw [neI]; simp
  refine (seq_skip (μ1 := μ) (by simp [startR, isT1, tyD, s4, ll, ln])).trans ?_
  refine ret_is ?_
  rw [mBin, show startR 3 [D.tup l, D.tup l] = [some (.tup l), some (.tup l), none] from rfl, hc]
  simp only [Res.bind, mLst, mNil, List.length_nil, Nat.zero_le, if_true, List.length_append, List.length_cons]
  exact he
theorem same_self : ∀ (n : Nat) (d : D) (μ : Mem), PlT n d → ∀ k, n ≤ k → ∃ μ', m_law_same (k + 1) [d, d] μ = .ok (.bl true) μ' ∧ Keep [] μ μ'
  | n, .int i, μ, _, k, _ => ⟨μ, same_int, .refl⟩
  | n + 1, .tup l, μ, h, k, hk => by
    unfold PlT at h
    obtain ⟨k, rfl⟩ : ∃ j, k = j + 1 := ⟨k - 1, by omega⟩
    exact same_tup h.1 fun x μ hx => same_self n x μ (h.2 x hx) k (by omega)
  | 0, .tup l, μ, h, _, _ => by unfold PlT at h; exact h.elim
  | _, .frl l, _, h, _, _ => by unfold PlT at h; exact h.elim
  | _, .ref l, _, h, _, _ => by unfold PlT at h; exact h.elim
  | _, .fn l, _, h, _, _ => by unfold PlT at h; exact h.elim
  | _, .non, _, h, _, _ => by unfold PlT at h; exact h.elim
  | _, .bl _, _, h, _, _ => by unfold PlT at h; exact h.elim
  | _, .str _, _, h, _, _ => by unfold PlT at h; exact h.elim
end K43

/-! S53: family E: the pipes at a room. -/
namespace K43
open PySem L2 RW
def paOne (x : Int) (q : Nat) (p : Pipe) : List D := if p.a = x then [.tup [.int q, .int 0, .int p.len, .int p.b]] else if p.b = x then [.tup [.int q, .int p.len, .int 0, .int p.a]] else []
def pa (x : Int) : Nat → List Pipe → List D
  | _, [] => []
  | k, p :: r => paOne x k p ++ pa x (k + 1) r
theorem pa_snoc (x : Int) : ∀ (l : List Pipe) (k : Nat) (p : Pipe), pa x k (l ++ [p]) = pa x k l ++ paOne x (k + l.length) p
  | [], k, p => by simp [pa]
  | q :: l, k, p => by
    simp only [List.cons_append, pa, pa_snoc x l (k + 1) p, List.append_assoc, List.length_cons]
    rw [show k + 1 + l.length = k + (l.length + 1) by omega]
theorem pa_len (x : Int) : ∀ (l : List Pipe) (k : Nat), (pa x k l).length ≤ l.length
  | [], k => Nat.le_refl _
  | p :: l, k => by
    have := pa_len x l (k + 1)
    have h1 : (paOne x k p).length ≤ 1 := by
      unfold paOne
      split
      · simp
      · split <;> simp
    simp only [pa, List.length_append, List.length_cons]; omega
theorem pa_mem (x : Int) : ∀ (l : List Pipe) (k : Nat) (d : D), d ∈ pa x k l ↔ ∃ i p, l[i]? = some p ∧ d ∈ paOne x (k + i) p
  | [], k, d => by simp [pa]
  | p :: l, k, d => by
    rw [pa, List.mem_append, pa_mem x l (k + 1) d]
    constructor
    · rintro (h | ⟨i, q, h1, h2⟩)
      · exact ⟨0, p, rfl, h⟩
      · exact ⟨i + 1, q, h1, by rw [show k + (i + 1) = k + 1 + i by omega]; exact h2⟩
    · rintro ⟨i, q, h1, h2⟩
      cases i with
      | zero => simp at h1; subst h1; exact .inl h2
      | succ i => exact .inr ⟨i, q, h1, by rw [show k + 1 + i = k + (i + 1) by omega]; exact h2⟩
theorem pipes_at_spec {R : Nat} {ps : List Pipe} {x : Int} {μ : Mem} (hp : ps.length ≤ 16) : ∃ (n : Nat) (μ' : Mem), m_pipes_at [houseD R ps, .int x] μ = .ok (.ref n) μ' ∧ μ.length ≤ n ∧ μ'[n]? = some (.lst (pa x 0 ps)) ∧ Keep [] μ μ' := by
  obtain ⟨n, hn⟩ : ∃ n, n = μ.length := ⟨_, rfl⟩
  have i1 : ∀ μ, idxA (houseD R ps) (.int 1) μ = .ok (.tup (ps.map Pipe.d)) μ := fun μ => ix_tup (by decide) rfl
  have loop := forL_ok (chk := fun _ => True) (g := gTupM 2 (gConsM (gN 3) (gConsM (gTupM 5 (gConsM (gN 4) (gConsM (gN 5) (gConsM (gN 6) (gConsM (gN 7) (gConsM (gN 8) (gNilM))))))) (gNilM)))) (body := sIf (mTest (mBin eqD (mVar 4) (mVar 1))) (sExpr (mMt isLst appendM (mVar 2) (mCons (mTup (mCons (mVar 3) (mCons (mC (.int 0)) (mCons (mVar 6) (mCons (mVar 5) (mNil)))))) (mNil)))) (sIf (mTest (mBin eqD (mVar 5) (mVar 1))) (sExpr (mMt isLst appendM (mVar 2) (mCons (mTup (mCons (mVar 3) (mCons (mVar 6) (mCons (mC (.int 0)) (mCons (mVar 4) (mNil)))))) (mNil)))) (sNil))) (enItems 0 (ps.map Pipe.d))
    (fun i ρ μ' => i ≤ ps.length ∧ ∃ (o3 o4 o5 o6 o7 o8 : Option D), ρ = [some (houseD R ps), some (.int x), some (.ref n), o3, o4, o5, o6, o7, o8] ∧ μ'[n]? = some (.lst (pa x 0 (ps.take i))) ∧ Keep [n] (μ ++ [.lst []]) μ') 0
    (ρ := [some (houseD R ps), some (.int x), some (.ref n), none, none, none, none, none, none]) (μ := μ ++ [.lst []]) ⟨Nat.zero_le _, none, none, none, none, none, none, rfl, by rw [hn]; exact app_new, .refl⟩ (fun _ _ _ _ => trivial)
    (fun i d ρ μ' ed ⟨hi, o3, o4, o5, o6, o7, o8, eρ, en, k⟩ => by
      simp only [Nat.zero_add] at hi eρ en k ⊢
      subst eρ
      obtain ⟨d', ed', rfl⟩ := enItems_get _ 0 i d ed
      rw [List.getElem?_map] at ed'
      obtain ⟨p, ep, rfl⟩ := Option.map_eq_some_iff.mp ed'
      have hi2 := (List.getElem?_eq_some_iff.mp ep).1
      have hlen := pa_len x (ps.take i) 0
      rw [List.length_take] at hlen
      have tk : pa x 0 (ps.take (i + 1)) = pa x 0 (ps.take i) ++ paOne x i p := by
        rw [List.take_add_one, ep]
        show pa x 0 (ps.take i ++ [p]) = _
        rw [pa_snoc, List.length_take, Nat.min_eq_left (by omega), Nat.zero_add]
      have ap : ∀ d, appendM (.ref n) [d] μ' = .ok .non (μ'.set n (.lst (pa x 0 (ps.take i) ++ [d]))) := fun d => by
        have : (pa x 0 (ps.take i)).length < sizeLine := by rw [sizeLine_eq]; omega
        simp only [appendM, en, if_pos this]
      have il : isLst (.ref n) μ' = true := by simp only [isLst, en]
      refine .mk (a := [some (houseD R ps), some (.int x), some (.ref n), some (.int (i : Int)), some (.int p.a), some (.int p.b), some (.int p.len), some (.tup (p.nar.map pairD)), some (.tup (p.fl.map pairD))]) (μ := μ') (by rw [Nat.zero_add]; rfl) ?_
      by_cases ha : p.a = x
      · refine .mk (a := .nx [some (houseD R ps), some (.int x), some (.ref n), some (.int (i : Int)), some (.int p.a), some (.int p.b), some (.int p.len), some (.tup (p.nar.map pairD)), some (.tup (p.fl.map pairD))]) (μ := μ'.set n (.lst (pa x 0 (ps.take i) ++ [.tup [.int i, .int 0, .int p.len, .int p.b]]))) ?_ ⟨_, .inl rfl, by omega, _, _, _, _, _, _, rfl, ?_, k.trans (Keep.set (by simp))⟩
        · exact (if_t (μ1 := μ') (by simp [eqI, ha])).trans (by simp [il, ap])
        · rw [set_at (at_lt en), tk, paOne, if_pos ha]
      · by_cases hb : p.b = x
        · refine .mk (a := .nx [some (houseD R ps), some (.int x), some (.ref n), some (.int (i : Int)), some (.int p.a), some (.int p.b), some (.int p.len), some (.tup (p.nar.map pairD)), some (.tup (p.fl.map pairD))]) (μ := μ'.set n (.lst (pa x 0 (ps.take i) ++ [.tup [.int i, .int p.len, .int 0, .int p.a]]))) ?_ ⟨_, .inl rfl, by omega, _, _, _, _, _, _, rfl, ?_, k.trans (Keep.set (by simp))⟩
          · exact (if_f (μ1 := μ') (by simp [eqI, ha])).trans ((if_t (μ1 := μ') (by simp [eqI, hb])).trans (by simp [il, ap]))
          · rw [set_at (at_lt en), tk, paOne, if_neg ha, if_pos hb]
        · refine .mk (μ := μ') ((if_f (μ1 := μ') (by simp [eqI, ha])).trans ((if_f (μ1 := μ') (by simp [eqI, hb])).trans rfl)) ⟨_, .inl rfl, by omega, _, _, _, _, _, _, rfl, ?_, k⟩
          rw [tk, paOne, if_neg ha, if_neg hb, List.append_nil]; exact en)
  rw [enItems_len, List.length_map, Nat.zero_add] at loop
  obtain ⟨f, μ', w, ρ', rfl, _, o3, o4, o5, o6, o7, o8, rfl, en, k⟩ := loop
  rw [List.take_length] at en
  refine ⟨n, μ', run_is ?_, by omega, en, (Keep.trans Keep.app k).mono fun i hi => .inr (by simp at hi; omega)⟩
  unfold b_pipes_at
  rw [seq_set (d := .ref n) (μ1 := μ ++ [.lst []]) (by simp [hn])]
  refine (seq_run (for_run (chk := fun _ => True) (items := enItems 0 (ps.map Pipe.d)) (μ1 := μ ++ [.lst []]) (by simp [startR, i1, enumD, itSeq]) w)).trans ?_
  exact ret_is rfl

/-- the pipes at room x, each with its number -/
def atOne (x : Int) (q : Nat) (p : Pipe) : List (Nat × Pipe) := if p.a = x then [(q, p)] else if p.b = x then [(q, p)] else []
def atL (x : Int) : Nat → List Pipe → List (Nat × Pipe)
  | _, [] => []
  | k, p :: r => atOne x k p ++ atL x (k + 1) r
def beg (x : Int) (p : Pipe) : Int := if p.a = x then 0 else p.len
def fin (x : Int) (p : Pipe) : Int := if p.a = x then p.len else 0
def paD (x : Int) (w : Nat × Pipe) : D := .tup [.int w.1, .int (beg x w.2), .int (fin x w.2), .int (oth w.2 x)]
theorem paOne_eq {x : Int} {q : Nat} {p : Pipe} : paOne x q p = (atOne x q p).map (paD x) := by
  unfold paOne atOne paD beg fin oth
  by_cases h : p.a = x
  · simp [h]
  · by_cases h2 : p.b = x <;> simp [h, h2]
theorem pa_eq {x : Int} : ∀ (l : List Pipe) (k : Nat), pa x k l = (atL x k l).map (paD x)
  | [], _ => rfl
  | p :: l, k => by simp only [pa, atL, List.map_append, paOne_eq, pa_eq l (k + 1)]
theorem atL_mem {x : Int} : ∀ (l : List Pipe) (k : Nat) (w : Nat × Pipe), w ∈ atL x k l ↔ ∃ i, l[i]? = some w.2 ∧ w.1 = k + i ∧ AtE w.2 x
  | [], k, w => by simp [atL]
  | p :: l, k, w => by
    rw [atL, List.mem_append, atL_mem l (k + 1) w]
    have h1 : w ∈ atOne x k p ↔ w.2 = p ∧ w.1 = k ∧ AtE p x := by
      unfold atOne AtE
      by_cases h : p.a = x
      · rw [if_pos h]
        simp only [List.mem_singleton]
        constructor
        · rintro rfl; exact ⟨rfl, rfl, .inl h⟩
        · rintro ⟨h1, h2, _⟩; exact Prod.ext h2 h1
      · rw [if_neg h]
        by_cases h2 : p.b = x
        · rw [if_pos h2]
          simp only [List.mem_singleton]
          constructor
          · rintro rfl; exact ⟨rfl, rfl, .inr h2⟩
          · rintro ⟨h1, h2, _⟩; exact Prod.ext h2 h1
        · rw [if_neg h2]
          simp [h, h2]
    rw [h1]
    constructor
    · rintro (⟨h1, h2, h3⟩ | ⟨i, h1, h2, h3⟩)
      · exact ⟨0, by rw [h1]; rfl, h2, h1 ▸ h3⟩
      · exact ⟨i + 1, h1, by omega, h3⟩
    · rintro ⟨i, h1, h2, h3⟩
      cases i with
      | zero =>
        have h1 : p = w.2 := by simpa using h1
        exact .inl ⟨h1.symm, h2, h1 ▸ h3⟩
      | succ i => exact .inr ⟨i, h1, by omega, h3⟩
theorem mem_atL {x : Int} {ps : List Pipe} {w : Nat × Pipe} : w ∈ atL x 0 ps ↔ ps[w.1]? = some w.2 ∧ AtE w.2 x := by
  rw [atL_mem]
  constructor
  · rintro ⟨i, h1, h2, h3⟩; rw [show w.1 = i by omega]; exact ⟨h1, h3⟩
  · rintro ⟨h1, h2⟩; exact ⟨w.1, h1, by omega, h2⟩
theorem atL_len {x : Int} {ps : List Pipe} : (atL x 0 ps).length ≤ ps.length := by
  have := pa_len x ps 0
  rw [pa_eq, List.length_map] at this
  exact this
theorem pipes_at' {R : Nat} {ps : List Pipe} {x : Int} {μ : Mem} (hp : ps.length ≤ 16) : ∃ (n : Nat) (μ' : Mem), m_pipes_at [houseD R ps, .int x] μ = .ok (.ref n) μ' ∧ μ.length ≤ n ∧ μ'[n]? = some (.lst ((atL x 0 ps).map (paD x))) ∧ Keep [] μ μ' := by
  obtain ⟨n, μ', h1, h2, h3, h4⟩ := pipes_at_spec (R := R) (x := x) (μ := μ) hp
  exact ⟨n, μ', h1, h2, by rw [h3, pa_eq], h4⟩
end K43

/-! S54: the program's rest_beyond. -/
namespace K43
open PySem L2 RW
def kD (x : Int × Nat) : D := .tup [.int x.1, .int x.2]
theorem kD_inj {x y : Int × Nat} : (kD x).nk? = (kD y).nk? ↔ x = y := by
  obtain ⟨a, b⟩ := x
  obtain ⟨c, d⟩ := y
  simp [kD, D.nk?, D.nks?]
  intro _; exact Int.ofNat_inj
theorem kD_T (x : Int × Nat) : RW.isT (kD x) = true := by rfl
theorem nodup_le' {α : Type} [DecidableEq α] : ∀ {l k : List α}, l.Nodup → (∀ x ∈ l, x ∈ k) → l.length ≤ k.length
  | [], _, _, _ => Nat.zero_le _
  | x :: l, k, nd, h => by
    have hx := h x (by simp)
    have hn := List.nodup_cons.mp nd
    have ih := nodup_le' (l := l) (k := k.erase x) hn.2 fun y hy => (List.mem_erase_of_ne (show y ≠ x from fun e => hn.1 (by rw [← e]; exact hy))).mpr (h y (by simp [hy]))
    have := List.length_erase_of_mem hx
    have := List.length_pos_of_mem hx
    simp only [List.length_cons]; omega
/-- what known holds of a room and a pipe -/
def Kp (g : Int → Int → Int) (S : List Int) (ps : List Pipe) : D × D → Int × Nat → Prop := fun d x => d.1 = kD x ∧ ∃ p, ps[x.2]? = some p ∧ AtE p x.1 ∧ d.2 = .int (Rst g S x.1 p)
def Kn (g : Int → Int → Int) (S : List Int) (ps : List Pipe) (μ : Mem) (K : Nat) : Prop := ∃ (l : List (D × D)) (ks : List (Int × Nat)), μ[K]? = some (.tdic l) ∧ ks.Nodup ∧ Paired (Kp g S ps) l ks
section
variable {g : Int → Int → Int} {S : List Int} {ps : List Pipe} {μ : Mem} {K : Nat} {r : Int} {q : Nat} {p : Pipe}
theorem kp_get {x : Int × Nat} : ∀ {l : List (D × D)} {ks : List (Int × Nat)}, Paired (Kp g S ps) l ks → (x ∉ ks ∧ dGet l (kD x) = none) ∨ (x ∈ ks ∧ ∃ p, ps[x.2]? = some p ∧ AtE p x.1 ∧ dGet l (kD x) = some (.int (Rst g S x.1 p)))
  | _, _, .nil => .inl ⟨by simp, rfl⟩
  | (a, d) :: l, z :: ks, .cons ⟨h1, p, h2, h3, h4⟩ t => by
    have h1 : a = kD z := h1
    have h4 : d = .int (Rst g S z.1 p) := h4
    subst h1 h4
    by_cases e : z = x
    · subst e
      exact .inr ⟨by simp, p, h2, h3, by simp [dGet]⟩
    · have hk : ¬ (kD z).nk? = (kD x).nk? := fun h => e (kD_inj.mp h)
      rcases kp_get (x := x) t with ⟨g1, g2⟩ | ⟨g1, g2⟩
      · exact .inl ⟨by simp [g1]; exact fun q => e q.symm, by simp only [dGet]; rw [if_neg hk]; exact g2⟩
      · obtain ⟨p', g3, g4, g5⟩ := g2
        exact .inr ⟨List.mem_cons_of_mem _ g1, p', g3, g4, by simp only [dGet]; rw [if_neg hk]; exact g5⟩
theorem Kn.keep {μ' : Mem} {ex : List Nat} (h : Kn g S ps μ K) (k : Keep ex μ μ') (hx : K ∉ ex) : Kn g S ps μ' K := by
  obtain ⟨l, ks, h1, h2, h3⟩ := h
  exact ⟨l, ks, k.get h1 hx, h2, h3⟩
theorem Kn.lt (h : Kn g S ps μ K) : K < μ.length := by
  obtain ⟨l, ks, h1, h2, h3⟩ := h
  exact at_lt h1
/-- what is known is so many at most -/
theorem kn_len {l : List (D × D)} {ks : List (Int × Nat)} (hp : ps.length ≤ 16) (nd : ks.Nodup) (P : Paired (Kp g S ps) l ks) : l.length ≤ 64 := by
  rw [Paired.length P]
  have sub : ∀ x ∈ ks, x ∈ (List.range ps.length).flatMap fun q => match ps[q]? with
      | some p => [(p.a, q), (p.b, q)]
      | none => [] := fun x hx => by
    rcases kp_get (x := x) P with ⟨h, _⟩ | ⟨_, p, h2, h3, _⟩
    · exact absurd hx h
    · rw [List.mem_flatMap]
      refine ⟨x.2, List.mem_range.mpr (List.getElem?_eq_some_iff.mp h2).1, ?_⟩
      rw [h2]
      rcases h3 with h3 | h3
      · exact List.mem_cons.mpr (.inl (Prod.ext h3.symm rfl))
      · exact List.mem_cons_of_mem _ (List.mem_singleton.mpr (Prod.ext h3.symm rfl))
  refine Nat.le_trans (nodup_le' nd sub) ?_
  have all : ∀ (m : List Nat), (m.flatMap fun q => match ps[q]? with
      | some p => [(p.a, q), (p.b, q)]
      | none => []).length ≤ 2 * m.length := fun m => by
    induction m with
    | nil => simp
    | cons a m ih =>
      rw [List.flatMap_cons, List.length_append, List.length_cons]
      have : (match ps[a]? with
        | some p => [(p.a, a), (p.b, a)]
        | none => []).length ≤ 2 := by split <;> simp
      omega
  have := all (List.range ps.length)
  rw [List.length_range] at this
  omega
theorem Kn.at (h : Kn g S ps μ K) (e : ps[q]? = some p) (hp : ps.length ≤ 16) (ha : AtE p r) :
    (notInDD (kD (r, q)) (.ref K) μ = .ok (.bl false) μ ∧ idxA (.ref K) (kD (r, q)) μ = .ok (.int (Rst g S r p)) μ) ∨
    (notInDD (kD (r, q)) (.ref K) μ = .ok (.bl true) μ) := by
  obtain ⟨l, ks, h1, h2, h3⟩ := h
  rcases kp_get (x := (r, q)) h3 with ⟨g1, g2⟩ | ⟨g1, p', g2, g3, g4⟩
  · right
    simp only [notInDD, dictAt, h1, if_pos (kD_T _), g2]
    rfl
  · left
    have : p' = p := by rw [e] at g2; exact (Option.some.inj g2).symm
    subst this
    constructor
    · simp only [notInDD, dictAt, h1, if_pos (kD_T _), g4]
      rfl
    · simp only [idxA, h1, idxDD, dictAt, if_pos (kD_T _), g4]
theorem Kn.put (h : Kn g S ps μ K) (e : ps[q]? = some p) (hp : ps.length ≤ 16) (ha : AtE p r) :
    ∃ μ', setDD (.ref K) (kD (r, q)) (.int (Rst g S r p)) μ = .ok () μ' ∧ Kn g S ps μ' K ∧ Keep [K] μ μ' ∧ idxA (.ref K) (kD (r, q)) μ' = .ok (.int (Rst g S r p)) μ' := by
  obtain ⟨l, ks, h1, h2, h3⟩ := h
  have hl := kn_len hp h2 h3
  have sd : setDD (.ref K) (kD (r, q)) (.int (Rst g S r p)) μ = .ok () (μ.set K (.tdic (dPut l (kD (r, q)) (.int (Rst g S r p))))) := by
    simp only [setDD, h1]
    rw [if_pos ⟨kD_T _, by rw [sizeLine_eq]; omega⟩]
  have nw : ∃ ks', ks'.Nodup ∧ Paired (Kp g S ps) (dPut l (kD (r, q)) (.int (Rst g S r p))) ks' ∧ dGet (dPut l (kD (r, q)) (.int (Rst g S r p))) (kD (r, q)) = some (.int (Rst g S r p)) := by
    rcases kp_get (x := (r, q)) h3 with ⟨g1, g2⟩ | ⟨g1, p', g2, g3, g4⟩
    · have ed : dPut l (kD (r, q)) (.int (Rst g S r p)) = l ++ [(kD (r, q), .int (Rst g S r p))] := by
        unfold dPut dHas; rw [g2]; rfl
      rw [ed]
      have h3' : Paired (Kp g S ps) (l ++ [(kD (r, q), .int (Rst g S r p))]) (ks ++ [(r, q)]) := RW.Paired.snoc h3 ⟨rfl, p, e, ha, rfl⟩
      refine ⟨ks ++ [(r, q)], ?_, h3', ?_⟩
      · rw [List.nodup_append]
        exact ⟨h2, by simp, fun a h1 b h2 => by simp at h2; subst h2; exact fun q => g1 (q ▸ h1)⟩
      · rcases kp_get (x := (r, q)) h3' with ⟨c1, _⟩ | ⟨_, p', c2, _, c4⟩
        · exact absurd (by simp) c1
        · have : p' = p := by rw [e] at c2; exact (Option.some.inj c2).symm
          subst this; exact c4
    · have : p' = p := by rw [e] at g2; exact (Option.some.inj g2).symm
      subst this
      have rep : ∀ {l : List (D × D)} {ks : List (Int × Nat)}, Paired (Kp g S ps) l ks → Paired (Kp g S ps) (dRep (kD (r, q)) (.int (Rst g S r p')) l) ks := fun {l ks} P => by
        induction P with
        | nil => exact .nil
        | @cons a x l ks h t ih =>
          obtain ⟨a1, a2⟩ := a
          simp only [dRep]
          by_cases hk : a1.nk? = (kD (r, q)).nk?
          · rw [if_pos hk]
            obtain ⟨c1, _, _⟩ := h
            have c1 : a1 = kD x := c1
            have hx : x = (r, q) := kD_inj.mp (by rw [← c1]; exact hk)
            exact .cons ⟨c1, p', by rw [hx]; exact e, by rw [hx]; exact ha, by rw [hx]⟩ ih
          · rw [if_neg hk]
            exact .cons h ih
      have ed : dPut l (kD (r, q)) (.int (Rst g S r p')) = dRep (kD (r, q)) (.int (Rst g S r p')) l := by
        unfold dPut dHas; rw [g4]; rfl
      rw [ed]
      refine ⟨ks, h2, rep h3, ?_⟩
      rcases kp_get (x := (r, q)) (rep h3) with ⟨c1, _⟩ | ⟨_, p2, c2, _, c4⟩
      · exact absurd g1 c1
      · have : p2 = p' := by rw [e] at c2; exact (Option.some.inj c2).symm
        subst this; exact c4
  obtain ⟨ks', n1, n2, n3⟩ := nw
  have e2 : (μ.set K (.tdic (dPut l (kD (r, q)) (.int (Rst g S r p)))))[K]? = some (.tdic (dPut l (kD (r, q)) (.int (Rst g S r p)))) := set_at (at_lt h1)
  exact ⟨_, sd, ⟨_, ks', e2, n1, n2⟩, Keep.set (by simp), by simp only [idxA, e2, idxDD, dictAt, if_pos (kD_T _), n3]⟩
end
end K43

/-! S55: the program's rest_beyond, its loop and whole. -/
namespace K43
open PySem L2 RW
noncomputable abbrev rsB (self : Sem) : MS := sIf (mTest (mBin neD (mVar 5) (mVar 3))) (sExpr (mMt isLst appendM (mVar 4) (mCons (mBin addD (mB absL (mCons (mBin subD (mVar 7) (mVar 6)) (mNil))) (mB self (mCons (mVar 0) (mCons (mVar 1) (mCons (mVar 8) (mCons (mVar 5) (mNil))))))) (mNil)))) (sNil)
noncomputable abbrev rsF (self : Sem) : MS := sFor (iSeq (mB m_pipes_at (mCons (mVar 0) (mCons (mVar 2) (mNil))))) (gTupM 4 (gConsM (gN 5) (gConsM (gN 6) (gConsM (gN 7) (gConsM (gN 8) (gNilM)))))) (rsB self)
noncomputable def rsT (self : Sem) : MS := sSeq (sSet 4 (mLst (mCons (mC (.int 0)) (mNil)))) (sSeq (rsF self) (sAsg (mB maxLL (mCons (mVar 4) (mNil))) (gSubM setDD (mVar 1) (mTup (mCons (mVar 2) (mCons (mVar 3) (mNil)))))))
theorem rest_eq {self : Sem} : b_rest_beyond self = sSeq (sIf (mTest (mBin notInDD (mTup (mCons (mVar 2) (mCons (mVar 3) (mNil)))) (mVar 1))) (rsT self) (sNil))
    (sRet (mBin idxA (mVar 1) (mTup (mCons (mVar 2) (mCons (mVar 3) (mNil)))))) := rfl
def rs (g : Int → Int → Int) (S : List Int) (r : Int) (q : Nat) (L : List (Nat × Pipe)) : List Int := (L.filter fun w => decide (w.1 ≠ q)).map fun w => w.2.len + Rst g S (oth w.2 r) w.2
def SelfOk (g : Int → Int → Int) (S : List Int) (ps : List Pipe) (R K n : Nat) (self : Sem) : Prop := ∀ (r : Int) (q : Nat) (p : Pipe) (μ : Mem), cnt g S r p ≤ n → ps[q]? = some p → AtE p r → Kn g S ps μ K → ∃ μ', self [houseD R ps, .ref K, .int r, .int q] μ = .ok (.int (Rst g S r p)) μ' ∧ Kn g S ps μ' K ∧ Keep [K] μ μ'
section
variable {g : Int → Int → Int} {S : List Int} {ps : List Pipe} {μ : Mem} {K ns R n : Nat} {r : Int} {q : Nat} {p : Pipe} {self : Sem}
theorem rs_snoc {L : List (Nat × Pipe)} {w : Nat × Pipe} : rs g S r q (L ++ [w]) = rs g S r q L ++ rs g S r q [w] := by simp [rs]
theorem beg_fin {p : Pipe} (h : 1 ≤ p.len) : (if fin r p - beg r p < 0 then -(fin r p - beg r p) else fin r p - beg r p) = p.len := by
  unfold fin beg
  by_cases h1 : p.a = r
  · rw [if_pos h1, if_pos h1, if_neg (by omega)]; omega
  · rw [if_neg h1, if_neg h1, if_pos (by omega)]; omega
theorem rsB_spec (M : Metric g S ps) (hok : ∀ p ∈ ps, 1 ≤ p.len) (ep : ps[q]? = some p) (ha : AtE p r) (hs : SelfOk g S ps R K n self) (hn : cnt g S r p ≤ n + 1) {w : Nat × Pipe} (hw : ps[w.1]? = some w.2) (hwa : AtE w.2 r)
    {acc : List Int} (en : μ[ns]? = some (.lst (acc.map D.int))) (hl : acc.length ≤ 100) (hK : Kn g S ps μ K) (hne : ns ≠ K) :
    ∃ μ', rsB self [some (houseD R ps), some (.ref K), some (.int r), some (.int q), some (.ref ns), some (.int w.1), some (.int (beg r w.2)), some (.int (fin r w.2)), some (.int (oth w.2 r))] μ =
      .ok (.nx [some (houseD R ps), some (.ref K), some (.int r), some (.int q), some (.ref ns), some (.int w.1), some (.int (beg r w.2)), some (.int (fin r w.2)), some (.int (oth w.2 r))]) μ' ∧
      μ'[ns]? = some (.lst ((acc ++ rs g S r q [w]).map D.int)) ∧ Kn g S ps μ' K ∧ Keep [K, ns] μ μ' := by
  by_cases e : w.1 = q
  · refine ⟨μ, (if_f (μ1 := μ) (by simp [neI, e])).trans rfl, ?_, hK, .refl⟩
    have : rs g S r q [w] = [] := by simp [rs, e]
    rw [this, List.append_nil]; exact en
  · have hpw := List.mem_of_getElem? hw
    have hp := List.mem_of_getElem? ep
    have hne2 : w.2 ≠ p := fun h => e (pipe_one M hw (by rw [h]; exact ep))
    have c := cnt_less M hok hp hpw ha hwa hne2
    obtain ⟨_, _, hao, _⟩ := at_S M hpw hwa
    obtain ⟨μ1, q1, k1, kk⟩ := hs (oth w.2 r) w.1 w.2 μ (by omega) hw hao hK
    have en1 : μ1[ns]? = some (.lst (acc.map D.int)) := kk.get en (by simp [hne])
    have ab : absL [.int (fin r w.2 - beg r w.2)] μ = .ok (.int w.2.len) μ := by
      show Res.ok (D.int (if fin r w.2 - beg r w.2 < 0 then -(fin r w.2 - beg r w.2) else fin r w.2 - beg r w.2)) μ = _
      rw [beg_fin (hok _ hpw)]
    have sb : subD (.int (fin r w.2)) (.int (beg r w.2)) μ = .ok (.int (fin r w.2 - beg r w.2)) μ := rfl
    have e3 : rs g S r q [w] = [w.2.len + Rst g S (oth w.2 r) w.2] := by simp [rs, e]
    have ap : appendM (.ref ns) [.int (w.2.len + Rst g S (oth w.2 r) w.2)] μ1 = .ok .non (μ1.set ns (.lst ((acc ++ rs g S r q [w]).map D.int))) := by
      have : (acc.map D.int).length < sizeLine := by rw [List.length_map, sizeLine_eq]; omega
      simp only [appendM, en1, if_pos this, e3, List.map_append, List.map_cons, List.map_nil]
    have il : isLst (.ref ns) μ = true := by simp only [isLst, en]
    refine ⟨μ1.set ns (.lst ((acc ++ rs g S r q [w]).map D.int)), (if_t (μ1 := μ) (by simp [neI]; omega)).trans ?_, set_at (at_lt en1), k1.keep (ex := [ns]) (Keep.set (by simp)) (by simp; exact fun h => hne h.symm), (kk.mono (by simp)).trans (Keep.set (by simp))⟩
    simp only [sExpr, mMt, mCons, mNil, mVar, mB, mBin, List.getElem?_cons_succ, List.getElem?_cons_zero, Res.bind, il, if_true, onE, sb, ab, q1, add_ok, ap]
theorem rsF_spec (M : Metric g S ps) (hok : ∀ p ∈ ps, 1 ≤ p.len) (hp16 : ps.length ≤ 16) (ep : ps[q]? = some p) (ha : AtE p r) (hs : SelfOk g S ps R K n self) (hn : cnt g S r p ≤ n + 1)
    (en : μ[ns]? = some (.lst [.int 0])) (hK : Kn g S ps μ K) (hne : ns ≠ K) {o5 o6 o7 o8 : Option D} :
    ∃ (b5 b6 b7 b8 : Option D) (μ' : Mem), rsF self [some (houseD R ps), some (.ref K), some (.int r), some (.int q), some (.ref ns), o5, o6, o7, o8] μ =
      .ok (.nx [some (houseD R ps), some (.ref K), some (.int r), some (.int q), some (.ref ns), b5, b6, b7, b8]) μ' ∧
      μ'[ns]? = some (.lst ((0 :: rs g S r q (atL r 0 ps)).map D.int)) ∧ Kn g S ps μ' K ∧ Keep [K, ns] μ μ' := by
  obtain ⟨m, μ1, q1, q2, q3, q4⟩ := pipes_at' (R := R) (x := r) (μ := μ) hp16
  have en1 : μ1[ns]? = some (.lst [.int 0]) := q4.get en (by simp)
  have lK := hK.lt
  have ln := at_lt en
  have hlen := atL_len (x := r) (ps := ps)
  have rsl : ∀ i, (rs g S r q ((atL r 0 ps).take i)).length ≤ 16 := fun i => by
    unfold rs
    rw [List.length_map]
    refine Nat.le_trans (List.length_filter_le _ _) ?_
    rw [List.length_take]; omega
  have loop := forL_ok (chk := fun μ' => μ'[m]? = some (.lst ((atL r 0 ps).map (paD r)))) (g := gTupM 4 (gConsM (gN 5) (gConsM (gN 6) (gConsM (gN 7) (gConsM (gN 8) (gNilM)))))) (body := rsB self) ((atL r 0 ps).map (paD r))
    (fun i ρ μ' => i ≤ (atL r 0 ps).length ∧ ∃ (o5 o6 o7 o8 : Option D), ρ = [some (houseD R ps), some (.ref K), some (.int r), some (.int q), some (.ref ns), o5, o6, o7, o8] ∧ μ'[ns]? = some (.lst ((0 :: rs g S r q ((atL r 0 ps).take i)).map D.int)) ∧ Kn g S ps μ' K ∧ Keep [K, ns] μ1 μ') 0
    (ρ := [some (houseD R ps), some (.ref K), some (.int r), some (.int q), some (.ref ns), o5, o6, o7, o8]) (μ := μ1) ⟨Nat.zero_le _, o5, o6, o7, o8, rfl, by simpa [rs] using en1, hK.keep q4 (by simp), .refl⟩ (fun _ _ _ ⟨_, _, _, _, _, _, _, _, k⟩ => k.get q3 (by simp; omega))
    (fun i d ρ μ' ed ⟨hi, o5, o6, o7, o8, eρ, en, hK, k⟩ => by
      simp only [Nat.zero_add] at hi eρ en k ⊢
      subst eρ
      rw [List.getElem?_map] at ed
      obtain ⟨w, ew, rfl⟩ := Option.map_eq_some_iff.mp ed
      have hi2 := (List.getElem?_eq_some_iff.mp ew).1
      obtain ⟨w1, w2⟩ := mem_atL.mp (List.mem_of_getElem? ew)
      have := rsl i
      obtain ⟨μ2, c1, c2, c3, c4⟩ := rsB_spec (R := R) M hok ep ha hs hn w1 w2 (acc := 0 :: rs g S r q ((atL r 0 ps).take i)) en (by simp only [List.length_cons]; omega) hK hne
      refine .mk (a := [some (houseD R ps), some (.ref K), some (.int r), some (.int q), some (.ref ns), some (.int w.1), some (.int (beg r w.2)), some (.int (fin r w.2)), some (.int (oth w.2 r))]) (μ := μ') rfl (.mk c1 ⟨_, .inl rfl, by omega, _, _, _, _, rfl, ?_, c3, k.trans c4⟩)
      rw [c2, List.take_add_one, ew]
      show _ = some (Cell.lst ((0 :: rs g S r q ((atL r 0 ps).take i ++ [w])).map D.int))
      rw [rs_snoc]; rfl)
  rw [List.length_map, Nat.zero_add] at loop
  obtain ⟨f, μ', w, ρ', rfl, _, o5, o6, o7, o8, rfl, en, hK, k⟩ := loop
  rw [List.take_length] at en
  exact ⟨o5, o6, o7, o8, μ', for_run (seq_lst (by simp [q1]) q3) w, en, hK, (q4.mono (by simp)).trans k⟩
theorem rs_max (M : Metric g S ps) (hok : ∀ p ∈ ps, 1 ≤ p.len) (ep : ps[q]? = some p) (ha : AtE p r) : maxI (0 :: rs g S r q (atL r 0 ps)) = Rst g S r p := by
  have hp := List.mem_of_getElem? ep
  obtain ⟨h1, h2⟩ := maxI_spec (l := 0 :: rs g S r q (atL r 0 ps)) (by simp)
  have up : maxI (0 :: rs g S r q (atL r 0 ps)) ≤ Rst g S r p := by
    rcases List.mem_cons.mp h1 with h | h
    · rw [h]; exact rst_nn
    · obtain ⟨w, hw, e⟩ := List.mem_map.mp h
      obtain ⟨hw1, hw2⟩ := List.mem_filter.mp hw
      obtain ⟨c1, c2⟩ := mem_atL.mp hw1
      have hne : w.2 ≠ p := fun h => of_decide_eq_true hw2 (pipe_one M c1 (by rw [h]; exact ep))
      rw [← e]
      exact rst_up M hok hp (List.mem_of_getElem? c1) ha c2 hne
  have lo : Rst g S r p ≤ maxI (0 :: rs g S r q (atL r 0 ps)) := by
    rcases rst_is M hok hp ha with h | ⟨p', hp', hne, ha', h⟩
    · rw [h]; exact h2 0 (by simp)
    · obtain ⟨q', hq', e'⟩ := List.mem_iff_getElem.mp hp'
      have e' : ps[q']? = some p' := List.getElem?_eq_some_iff.mpr ⟨hq', e'⟩
      have hq : q' ≠ q := fun h => by
        rw [h] at e'
        rw [e'] at ep
        exact hne (Option.some.inj ep)
      rw [h]
      refine h2 _ (List.mem_cons_of_mem _ (List.mem_map.mpr ⟨(q', p'), List.mem_filter.mpr ⟨mem_atL.mpr ⟨e', ha'⟩, decide_eq_true hq⟩, rfl⟩))
  omega
theorem cnt_pos (M : Metric g S ps) (hok : ∀ p ∈ ps, 1 ≤ p.len) (ep : ps[q]? = some p) (ha : AtE p r) : 1 ≤ cnt g S r p := by
  have hp := List.mem_of_getElem? ep
  exact List.countP_pos_iff.mpr ⟨r, (at_S M hp ha).1, near_self M hok hp ha⟩
theorem rest_spec (M : Metric g S ps) (hok : ∀ p ∈ ps, 1 ≤ p.len) (hp16 : ps.length ≤ 16) : ∀ n, SelfOk g S ps R K n (m_rest_beyond n)
  | 0 => fun r q p μ h ep ha _ => by have := cnt_pos M hok ep ha; omega
  | n + 1 => fun r q p μ h ep ha hK => by
    have ih := rest_spec M hok hp16 n
    have st : startR 9 [houseD R ps, .ref K, .int r, .int q] = [some (houseD R ps), some (.ref K), some (.int r), some (.int q), none, none, none, none, none] := rfl
    rcases hK.at ep hp16 ha with ⟨n1, n2⟩ | n1
    · refine ⟨μ, run_is (m := b_rest_beyond (m_rest_beyond n)) ?_, hK, .refl⟩
      rw [rest_eq, st]
      refine (seq_skip (μ1 := μ) ?_).trans (ret_is ?_)
      · show (Res.bind (notInDD (kD (r, q)) (.ref K) μ) _) = _
        rw [n1]; rfl
      · show idxA (.ref K) (kD (r, q)) μ = _
        exact n2
    · have lK := hK.lt
      obtain ⟨b5, b6, b7, b8, μ2, c1, c2, c3, c4⟩ := rsF_spec (R := R) (ns := μ.length) (μ := μ ++ [.lst [.int 0]]) M hok hp16 ep ha ih h app_new (hK.keep (ex := []) Keep.app (by simp)) (by omega) (o5 := none) (o6 := none) (o7 := none) (o8 := none)
      have mx : maxLL [.ref μ.length] μ2 = .ok (.int (Rst g S r p)) μ2 := by
        have : intsAt (.ref μ.length) μ2 = some (0 :: rs g S r q (atL r 0 ps)) := by simp only [intsAt, c2, toInts_map]
        simp only [maxLL, this, rs_max M hok ep ha]
      obtain ⟨μ3, d1, d2, d3, d4⟩ := c3.put ep hp16 ha
      refine ⟨μ3, run_is (m := b_rest_beyond (m_rest_beyond n)) ?_, d2, ((Keep.trans Keep.app c4).trans (d3.mono (by simp))).mono fun i hi => by simp at hi ⊢; omega⟩
      rw [rest_eq, st]
      have T : rsT (m_rest_beyond n) [some (houseD R ps), some (.ref K), some (.int r), some (.int q), none, none, none, none, none] μ = .ok (.nx [some (houseD R ps), some (.ref K), some (.int r), some (.int q), some (.ref μ.length), b5, b6, b7, b8]) μ3 := by
        unfold rsT
        rw [seq_set (d := .ref μ.length) (μ1 := μ ++ [.lst [.int 0]]) rfl]
        refine (seq_run c1).trans ?_
        have sg : gSubM setDD (mVar 1) (mTup (mCons (mVar 2) (mCons (mVar 3) (mNil)))) (.int (Rst g S r p)) [some (houseD R ps), some (.ref K), some (.int r), some (.int q), some (.ref μ.length), b5, b6, b7, b8] μ2 = .ok [some (houseD R ps), some (.ref K), some (.int r), some (.int q), some (.ref μ.length), b5, b6, b7, b8] μ3 := by
          show pureE (setDD (.ref K) (kD (r, q)) (.int (Rst g S r p)) μ2) _ = _
          rw [d1]; rfl
        show onE (maxLL [.ref μ.length] μ2) _ _ = _
        rw [mx]
        show pureE (gSubM setDD (mVar 1) (mTup (mCons (mVar 2) (mCons (mVar 3) (mNil)))) (.int (Rst g S r p)) _ μ2) _ = _
        rw [sg]; rfl
      refine (seq_run ((if_t (μ1 := μ) ?_).trans T)).trans (ret_is ?_)
      · show (Res.bind (notInDD (kD (r, q)) (.ref K) μ) _) = _
        rw [n1]; rfl
      · show idxA (.ref K) (kD (r, q)) μ3 = _
        exact d4
end
end K43

/-! S56: places with numbers, sorted. -/
namespace K43
open PySem L2 RW
abbrev Arm := Pl × Int
def armD (w : Arm) : D := .tup [w.1.d, .int w.2]
def armE (w : Arm) : PyData := .tuple [penc w.1, .int w.2]
theorem arm_py (w : Arm) (μ : Mem) : D.py? 8 μ (armD w) = some (armE w) := by
  simp [armD, armE, D.py?, D.pys?, pl_py' w.1 5]
theorem arm_depth (w : Arm) : (armE w).depth ≤ 32 := by
  have := (pl_lay w.1).2
  simp only [armE, PyData.depth, PyData.depthAll]; omega
theorem arm_alike (x y : Arm) : PySem.W.alike (armE x) (armE y) = true := by simp [armE, PySem.W.alike, PySem.W.alikeAll, pl_alike]
theorem sorted_arms {μ : Mem} {n : Nat} {l : List Arm} (e : μ[n]? = some (.lst (l.map armD))) (hl : l.length ≤ 1000) : sortedA [.ref n] μ = .ok (.ref μ.length) (μ ++ [.lst ((sortE armE l).map armD)]) :=
  sorted_tup e (by omega) (fun x _ => ⟨arm_py x μ, arm_depth x, rfl⟩) fun x _ y _ => arm_alike x y
theorem arm_le {x y : Arm} (h : PySem.W.dataLe false armE x y = true) : PySem.W.dataLe false penc x.1 y.1 = true := by
  obtain ⟨x, n⟩ := x
  obtain ⟨y, m⟩ := y
  revert h
  simp only [PySem.W.dataLe, PySem.W.sortLe, cond_false, armE, PySem.W.keyToks, PySem.W.keyToksAll]
  intro h
  rw [Bool.not_eq_true'] at h ⊢
  rw [Bool.eq_false_iff] at h ⊢
  intro h2
  apply h
  clear h
  revert h2
  cases x <;> cases y <;> simp [penc, PySem.W.keyToks, PySem.W.keyToksAll, PyProof.Rows.lexLt, PyProof.Rows.itemLt]
  all_goals intro h; omega
theorem sortE_fst {l : List Arm} : (sortE armE l).map (·.1) = sortE penc (l.map (·.1)) := by
  have T := PySem.W.sortLe_total (PyProof.Rows.listOrd PyProof.Rows.itemOrd) false fun b => PySem.W.keyToks (armE b)
  have s1 : (sortE armE l).Pairwise fun a b => PySem.W.dataLe false armE a b = true := PySem.W.sort_pairwise T l
  have s2 : ((sortE armE l).map (·.1)).Pairwise fun a b => PySem.W.dataLe false penc a b = true := List.pairwise_map.mpr (s1.imp fun h => arm_le h)
  have e : sortE penc ((sortE armE l).map (·.1)) = (sortE armE l).map (·.1) := List.mergeSort_of_pairwise s2
  rw [← e]
  exact sortP_eq (sortE_perm.map _)
end K43

/-! S57: the program's arms_of. -/
namespace K43
open PySem L2 RW
noncomputable abbrev arB : MS := sSeq (sSet 8 (mB m_place_at (mCons (mVar 0) (mCons (mVar 4) (mCons (mBin addD (mVar 5) (mIfE (mTest (mBin (cmpI fun i j => decide (i < j)) (mVar 5) (mVar 6))) (mC (.int 1)) (mUn negD (mC (.int 1))))) (mNil))))))
    (sExpr (mMt isLst appendM (mVar 3) (mCons (mTup (mCons (mVar 8) (mCons (mBin addD (mB absL (mCons (mBin subD (mVar 6) (mVar 5)) (mNil))) (mB (m_rest_beyond 8) (mCons (mVar 0) (mCons (mVar 1) (mCons (mVar 7) (mCons (mVar 4) (mNil))))))) (mNil)))) (mNil))))
noncomputable abbrev arF : MS := sFor (iSeq (mB m_pipes_at (mCons (mVar 0) (mCons (mBin idxA (mVar 2) (mC (.int 0))) (mNil))))) (gTupM 4 (gConsM (gN 4) (gConsM (gN 5) (gConsM (gN 6) (gConsM (gN 7) (gNilM)))))) arB
noncomputable abbrev arX (s : MD) (d r : MD) : MS := sExpr (mMt isLst appendM (mVar 3) (mCons (mTup (mCons (mB m_place_at (mCons (mVar 0) (mCons (mVar 4) (mCons s (mNil))))) (mCons (mBin addD d (mB (m_rest_beyond 8) (mCons (mVar 0) (mCons (mVar 1) (mCons r (mCons (mVar 4) (mNil))))))) (mNil)))) (mNil)))
noncomputable def arP : MS := sSeq (sAsg (mVar 2) (gTupM 2 (gConsM (gN 4) (gConsM (gN 9) (gNilM)))))
    (sSeq (sAsg (mBin idxA (mBin idxA (mVar 0) (mC (.int 1))) (mVar 4)) (gTupM 5 (gConsM (gN 10) (gConsM (gN 11) (gConsM (gN 12) (gConsM (gN 13) (gConsM (gN 14) (gNilM))))))))
    (sSeq (arX (mBin subD (mVar 9) (mC (.int 1))) (mVar 9) (mVar 10)) (arX (mBin addD (mVar 9) (mC (.int 1))) (mBin subD (mVar 12) (mVar 9)) (mVar 11))))
theorem arms_eq : b_arms_of = sSeq (sSet 3 (mLst (mNil)))
    (sSeq (sIf (mTest (mBin eqD (mB lenL (mCons (mVar 2) (mNil))) (mC (.int 1)))) arF arP)
    (sRet (mB sortedA (mCons (mVar 3) (mNil))))) := rfl
section
variable {g : Int → Int → Int} {S : List Int} {ps : List Pipe} {μ : Mem} {K nf R : Nat} {r : Int}
def armR (g : Int → Int → Int) (S : List Int) (r : Int) (w : Nat × Pipe) : Arm := (nbx r w.1 w.2, w.2.len + Rst g S (oth w.2 r) w.2)
theorem arB_spec (M : Metric g S ps) (hok : ∀ p ∈ ps, 1 ≤ p.len) (hp16 : ps.length ≤ 16) (hS : S.length ≤ 8) {w : Nat × Pipe} (hw : ps[w.1]? = some w.2) (hwa : AtE w.2 r)
    {acc : List Arm} (en : μ[nf]? = some (.lst (acc.map armD))) (hl : acc.length ≤ 100) (hK : Kn g S ps μ K) (hne : nf ≠ K) {o2 o8 o9 o10 o11 o12 o13 o14 : Option D} :
    ∃ μ', arB [some (houseD R ps), some (.ref K), o2, some (.ref nf), some (.int w.1), some (.int (beg r w.2)), some (.int (fin r w.2)), some (.int (oth w.2 r)), o8, o9, o10, o11, o12, o13, o14] μ =
      .ok (.nx [some (houseD R ps), some (.ref K), o2, some (.ref nf), some (.int w.1), some (.int (beg r w.2)), some (.int (fin r w.2)), some (.int (oth w.2 r)), some (nbx r w.1 w.2).d, o9, o10, o11, o12, o13, o14]) μ' ∧
      μ'[nf]? = some (.lst ((acc ++ [armR g S r w]).map armD)) ∧ Kn g S ps μ' K ∧ Keep [K, nf] μ μ' := by
  have hpw := List.mem_of_getElem? hw
  have hlen := hok _ hpw
  obtain ⟨_, _, hao, _⟩ := at_S M hpw hwa
  obtain ⟨μ1, q1, k1, kk⟩ := rest_spec (K := K) (R := R) M hok hp16 8 (oth w.2 r) w.1 w.2 μ (Nat.le_trans List.countP_le_length hS) hw hao hK
  have en1 : μ1[nf]? = some (.lst (acc.map armD)) := kk.get en (by simp [hne])
  have ab : absL [.int (fin r w.2 - beg r w.2)] μ = .ok (.int w.2.len) μ := by
    show Res.ok (D.int (if fin r w.2 - beg r w.2 < 0 then -(fin r w.2 - beg r w.2) else fin r w.2 - beg r w.2)) μ = _
    rw [beg_fin hlen]
  have sb : subD (.int (fin r w.2)) (.int (beg r w.2)) μ = .ok (.int (fin r w.2 - beg r w.2)) μ := rfl
  have pl : ∀ {ρ : Rho}, ρ[0]? = some (some (houseD R ps)) → ρ[4]? = some (some (.int w.1)) → ρ[5]? = some (some (.int (beg r w.2))) → ρ[6]? = some (some (.int (fin r w.2))) → (mB m_place_at (mCons (mVar 0) (mCons (mVar 4) (mCons (mBin addD (mVar 5) (mIfE (mTest (mBin (cmpI fun i j => decide (i < j)) (mVar 5) (mVar 6))) (mC (.int 1)) (mUn negD (mC (.int 1))))) (mNil))))) ρ μ = .ok (nbx r w.1 w.2).d μ := fun {ρ} h0 h4 h5 h6 => by
    have ps1 : ∀ k, m_place_at [houseD R ps, .int w.1, .int k] μ = .ok (ln w.2 w.1 k).d μ := fun k => place_at_spec hw
    rcases (show w.2.a = r ∨ w.2.a ≠ r from Classical.em _) with h | h
    · have hb : beg r w.2 = 0 := by unfold beg; rw [if_pos h]
      have hf : fin r w.2 = w.2.len := by unfold fin; rw [if_pos h]
      have hx : nbx r w.1 w.2 = ln w.2 w.1 1 := by unfold nbx; rw [if_pos h]
      have lt : (0 : Int) < w.2.len := by omega
      rw [hb] at h5; rw [hf] at h6
      simp only [mB, mBin, mCons, mNil, mVar, mIfE, mTest, mC, h0, h4, h5, h6, Res.bind, cmpI, lt, decide_true, if_true, add_ok, ps1, hx, Int.zero_add]
    · have hb : beg r w.2 = w.2.len := by unfold beg; rw [if_neg h]
      have hf : fin r w.2 = 0 := by unfold fin; rw [if_neg h]
      have hx : nbx r w.1 w.2 = ln w.2 w.1 (w.2.len + -1) := by unfold nbx; rw [if_neg h]; rfl
      have lt : ¬ w.2.len < (0 : Int) := by omega
      rw [hb] at h5; rw [hf] at h6
      simp only [mB, mBin, mCons, mNil, mVar, mIfE, mTest, mC, mUn, negD, h0, h4, h5, h6, Res.bind, cmpI, lt, decide_false, Bool.false_eq_true, if_false, add_ok, ps1, hx]
  have ap : appendM (.ref nf) [armD (armR g S r w)] μ1 = .ok .non (μ1.set nf (.lst ((acc ++ [armR g S r w]).map armD))) := by
    have : (acc.map armD).length < sizeLine := by rw [List.length_map, sizeLine_eq]; omega
    simp only [appendM, en1, if_pos this, List.map_append, List.map_cons, List.map_nil]
  have il : isLst (.ref nf) μ = true := by simp only [isLst, en]
  refine ⟨μ1.set nf (.lst ((acc ++ [armR g S r w]).map armD)), ?_, set_at (at_lt en1), k1.keep (ex := [nf]) (Keep.set (by simp)) (by simp; exact fun h => hne h.symm), (kk.mono (by simp)).trans (Keep.set (by simp))⟩
  refine (seq_set (pl rfl rfl rfl rfl)).trans ?_
  have ap' : appendM (.ref nf) [.tup [(nbx r w.1 w.2).d, .int (w.2.len + Rst g S (oth w.2 r) w.2)]] μ1 = .ok .non (μ1.set nf (.lst ((acc ++ [armR g S r w]).map armD))) := ap
  simp only [sExpr, mMt, mCons, mNil, mVar, mB, mBin, mTup, List.set_cons_succ, List.set_cons_zero, List.getElem?_cons_succ, List.getElem?_cons_zero, Res.bind, il, if_true, onE, sb, ab, q1, add_ok, List.length_cons, List.length_nil, Nat.reduceAdd, Nat.reduceLeDiff, ap']
theorem arF_spec (M : Metric g S ps) (hok : ∀ p ∈ ps, 1 ≤ p.len) (hp16 : ps.length ≤ 16) (hS : S.length ≤ 8)
    (en : μ[nf]? = some (.lst [])) (hK : Kn g S ps μ K) (hne : nf ≠ K) {o4 o5 o6 o7 o8 o9 o10 o11 o12 o13 o14 : Option D} :
    ∃ (b4 b5 b6 b7 b8 : Option D) (μ' : Mem), arF [some (houseD R ps), some (.ref K), some (Pl.room r).d, some (.ref nf), o4, o5, o6, o7, o8, o9, o10, o11, o12, o13, o14] μ =
      .ok (.nx [some (houseD R ps), some (.ref K), some (Pl.room r).d, some (.ref nf), b4, b5, b6, b7, b8, o9, o10, o11, o12, o13, o14]) μ' ∧
      μ'[nf]? = some (.lst (((atL r 0 ps).map (armR g S r)).map armD)) ∧ Kn g S ps μ' K ∧ Keep [K, nf] μ μ' := by
  obtain ⟨m, μ1, q1, q2, q3, q4⟩ := pipes_at' (R := R) (x := r) (μ := μ) hp16
  have en1 : μ1[nf]? = some (.lst []) := q4.get en (by simp)
  have lK := hK.lt
  have ln := at_lt en
  have hlen := atL_len (x := r) (ps := ps)
  have i0 : idxA (Pl.room r).d (.int 0) μ = .ok (.int r) μ := ix_tup (by decide) rfl
  have loop := forL_ok (chk := fun μ' => μ'[m]? = some (.lst ((atL r 0 ps).map (paD r)))) (g := gTupM 4 (gConsM (gN 4) (gConsM (gN 5) (gConsM (gN 6) (gConsM (gN 7) (gNilM)))))) (body := arB) ((atL r 0 ps).map (paD r))
    (fun i ρ μ' => i ≤ (atL r 0 ps).length ∧ ∃ (o4 o5 o6 o7 o8 : Option D), ρ = [some (houseD R ps), some (.ref K), some (Pl.room r).d, some (.ref nf), o4, o5, o6, o7, o8, o9, o10, o11, o12, o13, o14] ∧ μ'[nf]? = some (.lst ((((atL r 0 ps).take i).map (armR g S r)).map armD)) ∧ Kn g S ps μ' K ∧ Keep [K, nf] μ1 μ') 0
    (ρ := [some (houseD R ps), some (.ref K), some (Pl.room r).d, some (.ref nf), o4, o5, o6, o7, o8, o9, o10, o11, o12, o13, o14]) (μ := μ1) ⟨Nat.zero_le _, o4, o5, o6, o7, o8, rfl, by simpa using en1, hK.keep q4 (by simp), .refl⟩ (fun _ _ _ ⟨_, _, _, _, _, _, _, _, _, k⟩ => k.get q3 (by simp; omega))
    (fun i d ρ μ' ed ⟨hi, o4, o5, o6, o7, o8, eρ, en, hK, k⟩ => by
      simp only [Nat.zero_add] at hi eρ en k ⊢
      subst eρ
      rw [List.getElem?_map] at ed
      obtain ⟨w, ew, rfl⟩ := Option.map_eq_some_iff.mp ed
      have hi2 := (List.getElem?_eq_some_iff.mp ew).1
      obtain ⟨w1, w2⟩ := mem_atL.mp (List.mem_of_getElem? ew)
      obtain ⟨μ2, c1, c2, c3, c4⟩ := arB_spec (R := R) (r := r) M hok hp16 hS w1 w2 (acc := ((atL r 0 ps).take i).map (armR g S r)) en (by rw [List.length_map, List.length_take]; omega) hK hne (o2 := some (Pl.room r).d) (o8 := o8) (o9 := o9) (o10 := o10) (o11 := o11) (o12 := o12) (o13 := o13) (o14 := o14)
      refine .mk (a := [some (houseD R ps), some (.ref K), some (Pl.room r).d, some (.ref nf), some (.int w.1), some (.int (beg r w.2)), some (.int (fin r w.2)), some (.int (oth w.2 r)), o8, o9, o10, o11, o12, o13, o14]) (μ := μ') rfl (.mk c1 ⟨_, .inl rfl, by omega, _, _, _, _, _, rfl, ?_, c3, k.trans c4⟩)
      rw [c2, List.take_add_one, ew]; simp)
  rw [List.length_map, Nat.zero_add] at loop
  obtain ⟨f, μ', w, ρ', rfl, _, o4, o5, o6, o7, o8, rfl, en, hK, k⟩ := loop
  rw [List.take_length] at en
  exact ⟨o4, o5, o6, o7, o8, μ', for_run (seq_lst (by simp [i0, q1]) q3) w, en, hK, (q4.mono (by simp)).trans k⟩
end
end K43

/-! S58: the program's arms_of, whole. -/
namespace K43
open PySem L2 RW
structure ArmsOk (g : Int → Int → Int) (S : List Int) (ps : List Pipe) (x : Pl) (l : List Arm) : Prop where
  fst : l.map (·.1) = sortE penc (nbr ps x)
  dir : ∀ w ∈ l, Dir g S ps x w.1 w.2
section
variable {g : Int → Int → Int} {S : List Int} {ps : List Pipe} {μ : Mem} {K nf R q : Nat} {p : Pipe} {x : Pl}
theorem nbs_eq {r : Int} : ∀ (l : List Pipe) (k : Nat), nbs r k l = (atL r k l).map fun w => nbx r w.1 w.2
  | [], _ => rfl
  | p :: l, k => by
    have h : nbOne r k p = (atOne r k p).map fun w => nbx r w.1 w.2 := by
      unfold nbOne atOne nbx
      by_cases h1 : p.a = r
      · simp [h1]
      · by_cases h2 : p.b = r <;> simp [h1, h2]
    simp only [nbs, atL, List.map_append, nbs_eq l (k + 1), h]
theorem arX_spec {s d rm : MD} {ρ : Rho} {t dd room : Int} (M : Metric g S ps) (hok : ∀ p ∈ ps, 1 ≤ p.len) (hp16 : ps.length ≤ 16) (hS : S.length ≤ 8) (ep : ps[q]? = some p) (ha : AtE p room)
    (h0 : ρ[0]? = some (some (houseD R ps))) (h1 : ρ[1]? = some (some (.ref K))) (h3 : ρ[3]? = some (some (.ref nf))) (h4 : ρ[4]? = some (some (.int q)))
    (es : s ρ μ = .ok (.int t) μ) (ed : d ρ μ = .ok (.int dd) μ) (er : rm ρ μ = .ok (.int room) μ)
    {acc : List Arm} (en : μ[nf]? = some (.lst (acc.map armD))) (hl : acc.length ≤ 100) (hK : Kn g S ps μ K) (hne : nf ≠ K) :
    ∃ μ', arX s d rm ρ μ = .ok (.nx ρ) μ' ∧ μ'[nf]? = some (.lst ((acc ++ [(ln p q t, dd + Rst g S room p)]).map armD)) ∧ Kn g S ps μ' K ∧ Keep [K, nf] μ μ' := by
  obtain ⟨μ1, q1, k1, kk⟩ := rest_spec (K := K) (R := R) M hok hp16 8 room q p μ (Nat.le_trans List.countP_le_length hS) ep ha hK
  have en1 : μ1[nf]? = some (.lst (acc.map armD)) := kk.get en (by simp [hne])
  have ps1 : m_place_at [houseD R ps, .int q, .int t] μ = .ok (ln p q t).d μ := place_at_spec ep
  have ap : appendM (.ref nf) [.tup [(ln p q t).d, .int (dd + Rst g S room p)]] μ1 = .ok .non (μ1.set nf (.lst ((acc ++ [(ln p q t, dd + Rst g S room p)]).map armD))) := by
    have : (acc.map armD).length < sizeLine := by rw [List.length_map, sizeLine_eq]; omega
    simp only [appendM, en1, if_pos this, List.map_append, List.map_cons, List.map_nil]; rfl
  have il : isLst (.ref nf) μ = true := by simp only [isLst, en]
  refine ⟨μ1.set nf (.lst ((acc ++ [(ln p q t, dd + Rst g S room p)]).map armD)), ?_, set_at (at_lt en1), k1.keep (ex := [nf]) (Keep.set (by simp)) (by simp; exact fun h => hne h.symm), (kk.mono (by simp)).trans (Keep.set (by simp))⟩
  simp only [sExpr, mMt, mCons, mNil, mVar, mB, mBin, mTup, h0, h1, h3, h4, es, ed, er, Res.bind, il, if_true, onE, ps1, q1, add_ok, List.length_cons, List.length_nil, Nat.reduceAdd, Nat.reduceLeDiff, ap]
theorem arP_spec {k : Int} (M : Metric g S ps) (hok : ∀ p ∈ ps, 1 ≤ p.len) (hp16 : ps.length ≤ 16) (hS : S.length ≤ 8) (ep : ps[q]? = some p)
    (en : μ[nf]? = some (.lst [])) (hK : Kn g S ps μ K) (hne : nf ≠ K) :
    ∃ (ρ' : Rho) (μ' : Mem), arP [some (houseD R ps), some (.ref K), some (Pl.on q k).d, some (.ref nf), none, none, none, none, none, none, none, none, none, none, none] μ = .ok (.nx ρ') μ' ∧ ρ'[3]? = some (some (.ref nf)) ∧
      μ'[nf]? = some (.lst ((([(ln p q (k - 1), k + Rst g S p.a p), (ln p q (k + 1), p.len - k + Rst g S p.b p)] : List Arm)).map armD)) ∧ Kn g S ps μ' K ∧ Keep [K, nf] μ μ' := by
  let ρ1 : Rho := [some (houseD R ps), some (.ref K), some (Pl.on q k).d, some (.ref nf), some (.int q), none, none, none, none, some (.int k), none, none, none, none, none]
  let ρ2 : Rho := [some (houseD R ps), some (.ref K), some (Pl.on q k).d, some (.ref nf), some (.int q), none, none, none, none, some (.int k), some (.int p.a), some (.int p.b), some (.int p.len), some (.tup (p.nar.map pairD)), some (.tup (p.fl.map pairD))]
  have i1 : idxA (houseD R ps) (.int 1) μ = .ok (.tup (ps.map Pipe.d)) μ := ix_tup (by decide) rfl
  have i2 : idxA (.tup (ps.map Pipe.d)) (.int (q : Int)) μ = .ok p.d μ := ix_tup (by omega) (by rw [Int.toNat_natCast, List.getElem?_map, ep]; rfl)
  obtain ⟨μ1, a1, a2, a3, a4⟩ := arX_spec (R := R) (nf := nf) (ρ := ρ2) (s := mBin subD (mVar 9) (mC (.int 1))) (d := mVar 9) (rm := mVar 10) (t := k - 1) (dd := k) (room := p.a) (acc := []) M hok hp16 hS ep (.inl rfl) rfl rfl rfl rfl rfl rfl rfl en (by simp) hK hne
  obtain ⟨μ2, b1, b2, b3, b4⟩ := arX_spec (R := R) (nf := nf) (ρ := ρ2) (s := mBin addD (mVar 9) (mC (.int 1))) (d := mBin subD (mVar 12) (mVar 9)) (rm := mVar 11) (t := k + 1) (dd := p.len - k) (room := p.b) M hok hp16 hS ep (.inr rfl) rfl rfl rfl rfl rfl rfl rfl a2 (by simp) a3 hne
  refine ⟨ρ2, μ2, ?_, rfl, b2, b3, a4.trans b4⟩
  unfold arP
  refine (seq_asg (d := (Pl.on q k).d) (μ1 := μ) (ρ2 := ρ1) (μ2 := μ) rfl rfl).trans ?_
  refine (seq_asg (d := p.d) (μ1 := μ) (ρ2 := ρ2) (μ2 := μ) (by simp [ρ1, i1, i2]) rfl).trans ?_
  exact (seq_run a1).trans b1
noncomputable def arC : MS := sIf (mTest (mBin eqD (mB lenL (mCons (mVar 2) (mNil))) (mC (.int 1)))) arF arP
theorem arC_room {r : Int} {n : Nat} : arC [some (houseD R ps), some (.ref K), some (Pl.room r).d, some (.ref n), none, none, none, none, none, none, none, none, none, none, none] μ = arF [some (houseD R ps), some (.ref K), some (Pl.room r).d, some (.ref n), none, none, none, none, none, none, none, none, none, none, none] μ := by
  unfold arC
  refine if_t (μ1 := μ) ?_
  have ll : lenL [(Pl.room r).d] μ = .ok (.int 1) μ := rfl
  simp only [mTest, mBin, mB, mCons, mVar, mNil, mC, List.getElem?_cons_succ, List.getElem?_cons_zero, Res.bind, ll, eqI, decide_true]
theorem arC_on {k : Int} {n : Nat} : arC [some (houseD R ps), some (.ref K), some (Pl.on q k).d, some (.ref n), none, none, none, none, none, none, none, none, none, none, none] μ = arP [some (houseD R ps), some (.ref K), some (Pl.on q k).d, some (.ref n), none, none, none, none, none, none, none, none, none, none, none] μ := by
  unfold arC
  refine if_f (μ1 := μ) ?_
  have ll : lenL [(Pl.on q k).d] μ = .ok (.int 2) μ := rfl
  have h2 : decide ((2 : Int) = 1) = false := by decide
  simp only [mTest, mBin, mB, mCons, mVar, mNil, mC, List.getElem?_cons_succ, List.getElem?_cons_zero, Res.bind, ll, eqI, h2]
theorem arms_of_spec (M : Metric g S ps) (hok : ∀ p ∈ ps, 1 ≤ p.len) (hp16 : ps.length ≤ 16) (hS : S.length ≤ 8) (hx : IsPl S ps x) (hK : Kn g S ps μ K) :
    ∃ (n : Nat) (l : List Arm) (μ' : Mem), m_arms_of [houseD R ps, .ref K, x.d] μ = .ok (.ref n) μ' ∧ μ'[n]? = some (.lst (l.map armD)) ∧ ArmsOk g S ps x l ∧ l.length ≤ 64 ∧ Kn g S ps μ' K ∧ Keep [K] μ μ' := by
  have lK := hK.lt
  have st : startR 15 [houseD R ps, .ref K, x.d] = [some (houseD R ps), some (.ref K), some x.d, none, none, none, none, none, none, none, none, none, none, none, none] := rfl
  have fin : ∀ (f : List Arm) (ρ' : Rho) (μ' : Mem), arC [some (houseD R ps), some (.ref K), some x.d, some (.ref μ.length), none, none, none, none, none, none, none, none, none, none, none] (μ ++ [.lst []]) = .ok (.nx ρ') μ' →
      ρ'[3]? = some (some (.ref μ.length)) → μ'[μ.length]? = some (.lst (f.map armD)) → f.map (·.1) = nbr ps x → (∀ w ∈ f, Dir g S ps x w.1 w.2) → Kn g S ps μ' K → Keep [K, μ.length] (μ ++ [.lst []]) μ' →
      ∃ (n : Nat) (l : List Arm) (μ' : Mem), m_arms_of [houseD R ps, .ref K, x.d] μ = .ok (.ref n) μ' ∧ μ'[n]? = some (.lst (l.map armD)) ∧ ArmsOk g S ps x l ∧ l.length ≤ 64 ∧ Kn g S ps μ' K ∧ Keep [K] μ μ' := fun f ρ' μ' e h3 en hf hd hK k => by
    have hl : f.length ≤ 64 := by
      have := nbr_len hp16 (x := x)
      rw [← hf, List.length_map] at this
      exact this
    have so := sorted_arms en (by omega)
    refine ⟨μ'.length, sortE armE f, μ' ++ [.lst ((sortE armE f).map armD)], run_is (m := b_arms_of) ?_, app_new, ⟨by rw [sortE_fst, hf], fun w hw => hd w (sortE_perm.mem_iff.mp hw)⟩, by rw [sortE_perm.length_eq]; exact hl, hK.keep (ex := []) Keep.app (by simp), ((Keep.trans Keep.app k).trans Keep.app).mono fun i hi => by simp at hi ⊢; omega⟩
    rw [arms_eq, st]
    refine (seq_set (d := .ref μ.length) (μ1 := μ ++ [.lst []]) rfl).trans ?_
    refine (seq_run e).trans (ret_is ?_)
    show (Res.bind (Res.bind (mVar 3 ρ' μ') _) _) = _
    simp only [mVar, h3, mCons, mNil, Res.bind, so]
  cases x with
  | room r =>
    obtain ⟨b4, b5, b6, b7, b8, μ', c1, c2, c3, c4⟩ := arF_spec (R := R) (r := r) (nf := μ.length) (μ := μ ++ [.lst []]) M hok hp16 hS app_new (hK.keep (ex := []) Keep.app (by simp)) (by omega) (o4 := none) (o5 := none) (o6 := none) (o7 := none) (o8 := none) (o9 := none) (o10 := none) (o11 := none) (o12 := none) (o13 := none) (o14 := none)
    refine fin _ _ μ' ((arC_room (R := R) (K := K)).trans c1) rfl c2 ?_ ?_ c3 c4
    · rw [List.map_map]
      exact (nbs_eq ps 0).symm
    · intro w hw
      obtain ⟨v, hv, rfl⟩ := List.mem_map.mp hw
      obtain ⟨v1, v2⟩ := mem_atL.mp hv
      exact dir_room M hok v1 v2
  | on q k =>
    obtain ⟨p, ep, h0, h1⟩ := hx
    have hl1 := hok _ (List.mem_of_getElem? ep)
    have hx' : ln p q k = .on q k := by unfold ln; rw [if_neg (by omega), if_neg (by omega)]
    obtain ⟨ρ', μ', c1, c2, c3, c4, c5⟩ := arP_spec (R := R) (k := k) (nf := μ.length) (μ := μ ++ [.lst []]) M hok hp16 hS ep app_new (hK.keep (ex := []) Keep.app (by simp)) (by omega)
    refine fin _ ρ' μ' ((arC_on (R := R) (K := K)).trans c1) c2 c3 ?_ ?_ c4 c5
    · show _ = (match ps[q]? with
        | some p => [ln p q (k - 1), ln p q (k + 1)]
        | none => [])
      rw [ep]; rfl
    · intro w hw
      rcases List.mem_cons.mp hw with rfl | hw
      · refine ⟨q, p, k - 1, ep, by omega, by omega, .inr ⟨?_, rfl, ?_⟩⟩
        · rw [← hx']; congr 1; omega
        · show k + Rst g S p.a p = _; omega
      · rcases List.mem_cons.mp hw with rfl | hw
        · exact ⟨q, p, k, ep, by omega, by omega, .inl ⟨hx'.symm, rfl, by show p.len - k + Rst g S p.b p = _; omega⟩⟩
        · cases hw
end
end K43

/-! S60: an arm has one depth. -/
namespace K43
open PySem L2 RW
section
variable {g : Int → Int → Int} {S : List Int} {ps : List Pipe} {x y z : Pl} {n m : Int}
theorem Dir.le (M : Metric g S ps) (hok : ∀ p ∈ ps, 1 ≤ p.len) : ∀ (N : Nat) {y x : Pl} {n m : Int}, n ≤ N → Dir g S ps y x n → Dir g S ps y x m → m ≤ n
  | 0, y, x, n, m, hN, h1, h2 => by have := h1.pos; omega
  | N + 1, y, x, n, m, hN, h1, h2 => by
    have p1 := h1.pos
    rcases (h2.next M hok).2 with h | ⟨z, c1, c2, c3⟩
    · omega
    · obtain ⟨k, d1, d2⟩ := (h1.next M hok).1 z c1 c2
      have := Dir.le M hok N (by omega) d1 c3
      omega
theorem Dir.one (M : Metric g S ps) (hok : ∀ p ∈ ps, 1 ≤ p.len) (h1 : Dir g S ps y x n) (h2 : Dir g S ps y x m) : n = m := by
  have a := Dir.le M hok n.toNat (by omega) h1 h2
  have b := Dir.le M hok m.toNat (by omega) h2 h1
  omega
theorem Dir.ex (h : E ps y x) : ∃ n, Dir g S ps y x n := by
  obtain ⟨q, p, k, e, h0, h1, ⟨h2, h3⟩ | ⟨h2, h3⟩⟩ := h
  · exact ⟨_, q, p, k, e, h0, h1, .inl ⟨h2, h3, rfl⟩⟩
  · exact ⟨_, q, p, k, e, h0, h1, .inr ⟨h2, h3, rfl⟩⟩
theorem arms_ex (M : Metric g S ps) (hok : ∀ p ∈ ps, 1 ≤ p.len) (hx : IsPl S ps x) : ∃ l, ArmsOk g S ps x l := by
  have key : ∀ l : List Pl, (∀ z ∈ l, z ∈ nbr ps x) → ∃ a : List Arm, a.map (·.1) = l ∧ ∀ w ∈ a, Dir g S ps x w.1 w.2 := fun l => by
    induction l with
    | nil => intro _; exact ⟨[], rfl, by simp⟩
    | cons z l ih =>
      intro h
      obtain ⟨a, h1, h2⟩ := ih fun z hz => h z (List.mem_cons_of_mem _ hz)
      obtain ⟨n, hn⟩ := Dir.ex (g := g) (S := S) ((mem_nbr M hok hx).mp (h z (by simp)))
      refine ⟨(z, n) :: a, by rw [List.map_cons, h1], fun w hw => ?_⟩
      rcases List.mem_cons.mp hw with rfl | hw
      · exact hn
      · exact h2 w hw
  obtain ⟨a, h1, h2⟩ := key (sortE penc (nbr ps x)) fun z hz => sortE_perm.mem_iff.mp hz
  exact ⟨a, h1, h2⟩
theorem arms_one (M : Metric g S ps) (hok : ∀ p ∈ ps, 1 ≤ p.len) {l l' : List Arm} (h : ArmsOk g S ps x l) (h' : ArmsOk g S ps x l') : l = l' := by
  have key : ∀ {l l' : List Arm}, l.map (·.1) = l'.map (·.1) → (∀ w ∈ l, Dir g S ps x w.1 w.2) → (∀ w ∈ l', Dir g S ps x w.1 w.2) → l = l' := fun {l} => by
    induction l with
    | nil => intro l' e _ _; cases l' with
      | nil => rfl
      | cons _ _ => simp at e
    | cons w l ih =>
      intro l' e d1 d2
      cases l' with
      | nil => simp at e
      | cons v l' =>
        rw [List.map_cons, List.map_cons] at e
        obtain ⟨e1, e2⟩ := List.cons.inj e
        have := ih e2 (fun w hw => d1 w (List.mem_cons_of_mem _ hw)) (fun w hw => d2 w (List.mem_cons_of_mem _ hw))
        have e3 : w.1 = v.1 := e1
        have a := d1 w (by simp)
        have b := d2 v (by simp)
        rw [e3] at a
        rw [this, show w = v from Prod.ext e3 (Dir.one M hok a b)]
  exact key (h.fst.trans h'.fst.symm) h.dir h'.dir
end
end K43

/-! S80: small houses; with a flap. -/
namespace K43
open PySem L2 RW
/-- a small house and its distances -/
structure Hs (g : Int → Int → Int) (S : List Int) (ps : List Pipe) (R : Nat) : Prop where
  M : Metric g S ps
  hok : ∀ p ∈ ps, 1 ≤ p.len
  h16 : ps.length ≤ 16
  hS : S.length ≤ 8
  rng : ∀ x : Int, x ∈ S ↔ 0 ≤ x ∧ x < R
  r2 : 2 ≤ R
  r16 : R ≤ 16
  sh : ∀ p ∈ ps, 1 ≤ p.len ∧ p.len ≤ 20
theorem call3 {f : Sem} {x y z : MD} {ρ : Rho} {μ μ1 : Mem} {p q r d : D} (h1 : x ρ μ = .ok p μ) (h2 : y ρ μ = .ok q μ) (h3 : z ρ μ = .ok r μ) (h : f [p, q, r] μ = .ok d μ1) : mB f (mCons x (mCons y (mCons z mNil))) ρ μ = .ok d μ1 := by
  simp only [mB, mCons, mNil, h1, h2, h3, Res.bind, h]
theorem call1e {f : Sem} {x : MD} {ρ : Rho} {μ μ1 : Mem} {p d : D} (h1 : x ρ μ = .ok p μ) (h : f [p] μ = .ok d μ1) : mB f (mCons x mNil) ρ μ = .ok d μ1 := by
  simp only [mB, mCons, mNil, h1, Res.bind, h]
theorem call2e {f : Sem} {x y : MD} {ρ : Rho} {μ μ1 : Mem} {p q d : D} (h1 : x ρ μ = .ok p μ) (h2 : y ρ μ = .ok q μ) (h : f [p, q] μ = .ok d μ1) : mB f (mCons x (mCons y mNil)) ρ μ = .ok d μ1 := by
  simp only [mB, mCons, mNil, h1, h2, Res.bind, h]
theorem bin_is {f : D → D → Mem → Res D} {x y : MD} {ρ : Rho} {μ μ1 μ2 μ3 : Mem} {p q d : D} (h1 : x ρ μ = .ok p μ1) (h2 : y ρ μ1 = .ok q μ2) (h : f p q μ2 = .ok d μ3) : mBin f x y ρ μ = .ok d μ3 := by
  simp only [mBin, h1, h2, Res.bind, h]
theorem for_is {it : MIt} {g : MG} {body : MS} {ρ : Rho} {μ μ1 μ' : Mem} {items : List D} {chk : Mem → Prop} {f : Fl} (h1 : it ρ μ = .ok (items, chk) μ1) (h2 : forL chk g body items ρ μ1 = .ok f μ') : sFor it g body ρ μ = .ok f μ' := by
  simp only [sFor, h1, onE, h2]
open Classical in
theorem Metric.swap {g : Int → Int → Int} {S : List Int} {ps : List Pipe} {q : Nat} {p p' : Pipe} (M : Metric g S ps) (e : ps[q]? = some p) (ha : p'.a = p.a) (hb : p'.b = p.b) (hl : p'.len = p.len) (hn : p' ∉ ps) : Metric g S (ps.set q p') := by
  let bk : Pipe → Pipe := fun x => if x = p' then p else x
  have hq := (List.getElem?_eq_some_iff.mp e).1
  have f : ∀ x, (bk x).a = x.a ∧ (bk x).b = x.b ∧ (bk x).len = x.len := fun x => by
    by_cases h : x = p'
    · subst h
      have : bk x = p := if_pos rfl
      rw [this]; exact ⟨ha.symm, hb.symm, hl.symm⟩
    · have : bk x = x := if_neg h
      rw [this]; exact ⟨rfl, rfl, rfl⟩
  have hm : (ps.set q p').map bk = ps := by
    rw [List.map_set]
    have h1 : ps.map bk = ps := by
      conv => rhs; rw [← List.map_id ps]
      exact List.map_congr_left fun x hx => if_neg fun h : x = p' => hn (by rw [← h]; exact hx)
    have h2 : bk p' = p := if_pos rfl
    rw [h1, h2]
    refine List.ext_getElem? fun i => ?_
    by_cases h : q = i
    · subst h; rw [List.getElem?_set_self hq, e]
    · rw [List.getElem?_set_ne h]
  have mem : ∀ x ∈ ps.set q p', bk x ∈ ps := fun x hx => by rw [← hm]; exact List.mem_map_of_mem hx
  have inj : ∀ x ∈ ps.set q p', ∀ y ∈ ps.set q p', bk x = bk y → x = y := fun x hx y hy h => by
    obtain ⟨i, hi, ei⟩ := List.mem_iff_getElem.mp hx
    obtain ⟨j, hj, ej⟩ := List.mem_iff_getElem.mp hy
    have hi' : i < ps.length := by simpa using hi
    have hj' : j < ps.length := by simpa using hj
    have gi : ps[i]? = some (bk x) := by
      conv => lhs; rw [← hm]
      rw [List.getElem?_map, List.getElem?_eq_getElem hi, ei]; rfl
    have gj : ps[j]? = some (bk y) := by
      conv => lhs; rw [← hm]
      rw [List.getElem?_map, List.getElem?_eq_getElem hj, ej]; rfl
    have : i = j := pipe_one M gi (by rw [gj, h])
    subst this
    rw [← ei, ← ej]
  have cls : ∀ r s x, Cls' g r s x ↔ Cls' g r s (bk x) := fun r s x => by
    obtain ⟨f1, f2, f3⟩ := f x
    unfold Cls'
    rw [f1, f2, f3]
  refine ⟨fun x hx => ?_, ?_, M.m0, M.ms, M.mn, fun r hr x hx => ?_, fun r hr s hs hne => ?_, fun r hr s hs x hx y hy c d => ?_, fun x hx y hy hne => ?_⟩
  · obtain ⟨f1, f2, f3⟩ := f x
    rw [← f1, ← f2]; exact M.ends _ (mem x hx)
  · have h := M.nd
    rw [← hm] at h
    exact (List.pairwise_map.mp h).imp fun h e => h (by rw [e])
  · obtain ⟨f1, f2, f3⟩ := f x
    rw [← f1, ← f2, ← f3]; exact M.mp r hr _ (mem x hx)
  · obtain ⟨y, hy, c⟩ := M.me r hr s hs hne
    rw [← hm] at hy
    obtain ⟨x, hx, rfl⟩ := List.mem_map.mp hy
    exact ⟨x, hx, (cls r s x).mpr c⟩
  · exact inj x hx y hy (M.mu r hr s hs _ (mem x hx) _ (mem y hy) ((cls r s x).mp c) ((cls r s y).mp d))
  · obtain ⟨f1, f2, _⟩ := f x
    obtain ⟨g1, g2, _⟩ := f y
    rw [← f1, ← f2, ← g1, ← g2]
    exact M.side _ (mem x hx) _ (mem y hy) fun h => hne (inj x hx y hy h)
theorem Hs.swap {g : Int → Int → Int} {S : List Int} {ps : List Pipe} {R q : Nat} {p p' : Pipe} (H : Hs g S ps R) (e : ps[q]? = some p) (ha : p'.a = p.a) (hb : p'.b = p.b) (hl : p'.len = p.len) (hn : p' ∉ ps) : Hs g S (ps.set q p') R := by
  have mem : ∀ x ∈ ps.set q p', x ∈ ps ∨ x = p' := fun x hx => List.mem_or_eq_of_mem_set hx
  have hp := List.mem_of_getElem? e
  refine ⟨H.M.swap e ha hb hl hn, fun x hx => ?_, by rw [List.length_set]; exact H.h16, H.hS, H.rng, H.r2, H.r16, fun x hx => ?_⟩
  · rcases mem x hx with h | rfl
    · exact H.hok x h
    · rw [hl]; exact H.hok p hp
  · rcases mem x hx with h | rfl
    · exact H.sh x h
    · rw [hl]; exact H.sh p hp
theorem House.hs {R : Nat} {ps : List Pipe} (h : House R ps) (r2 : 2 ≤ R) (r8 : R ≤ 8) (hl : ∀ p ∈ ps, p.len ≤ 20) : ∃ g S, Hs g S ps R := by
  obtain ⟨S, hp, ht⟩ := h.tree
  have ok1 : ∀ p ∈ ps, 1 ≤ p.len := fun p hp => (h.ok p hp).1
  obtain ⟨g, M⟩ := ht.metric ok1
  have := h.len
  have hS := hp.length_eq
  rw [upTo_len] at hS
  exact ⟨g, S, M, ok1, by omega, by omega, fun x => by rw [hp.mem_iff, mem_upTo], r2, by omega, fun p hp => ⟨ok1 p hp, hl p hp⟩⟩
section
variable {μ : Mem} {k c N R : Nat} {ps : List Pipe}
theorem set_cut {q : Nat} {p' : Pipe} (hq : q < ps.length) : (ps.map Pipe.d).take q ++ [p'.d] ++ (ps.map Pipe.d).drop (q + 1) = (ps.set q p').map Pipe.d := by
  rw [List.set_eq_take_append_cons_drop, if_pos hq, List.map_append, List.map_cons, List.map_take, List.map_drop]
  simp
theorem hung_spec (h : Dk μ k c N) (hN : N + 10 < 1000000) (hne : ps ≠ []) (h16 : ps.length ≤ 16) (hok : ∀ p ∈ ps, 1 ≤ p.len ∧ p.len ≤ 1000) :
    ∃ (q : Nat) (p : Pipe) (x s : Int) (μ' : Mem), m_law_hung [.ref k, houseD R ps] μ = .ok (houseD R (ps.set q { p with fl := [(x, s)] })) μ' ∧ ps[q]? = some p ∧ 0 ≤ x ∧ x < p.len ∧ (s = 1 ∨ s = -1) ∧ Dk μ' k c (N + 10) ∧ Keep [k, c] μ μ' := by
  have hl : 0 < ps.length := List.length_pos_iff.mpr hne
  have i1 : ∀ μ, idxA (houseD R ps) (.int 1) μ = .ok (.tup (ps.map Pipe.d)) μ := fun μ => ix_tup (by decide) rfl
  have ll : lenL [.tup (ps.map Pipe.d)] μ = .ok (.int (ps.length : Int)) μ := by
    show Res.ok (D.int ((ps.map Pipe.d).length : Int)) μ = _
    rw [List.length_map]
  obtain ⟨q', μ1, q1, a0, a1, s1, k1⟩ := next_spec (j := (ps.length : Int)) h (by omega) (by omega) (by omega)
  obtain ⟨q, rfl⟩ : ∃ q : Nat, q' = (q : Int) := ⟨q'.toNat, by omega⟩
  have hq : q < ps.length := by omega
  obtain ⟨p, ep⟩ : ∃ p, ps[q]? = some p := ⟨_, List.getElem?_eq_getElem hq⟩
  obtain ⟨l1, l2⟩ := hok p (List.mem_of_getElem? ep)
  obtain ⟨x, μ2, q2, b0, b1, s2, k2⟩ := next_spec (j := p.len) s1 (by omega) (by omega) (by omega)
  have s2' : Dk (μ2 ++ [Cell.lst [.int 1, .int (-1)]]) k c (N + 1 + 1) := s2.app
  obtain ⟨w, μ3, q3, c0, c1, s3, k3⟩ := next_spec (j := 2) s2' (by omega) (by decide) (by decide)
  have l0 := s2.lt
  have en : μ3[μ2.length]? = some (.lst [.int 1, .int (-1)]) := k3.get app_new (by simp; omega)
  obtain ⟨s, hs, ix⟩ : ∃ s : Int, (s = 1 ∨ s = -1) ∧ idxA (.ref μ2.length) (.int w) μ3 = .ok (.int s) μ3 := by
    rcases (show w = 0 ∨ w = 1 by omega) with rfl | rfl
    · exact ⟨1, .inl rfl, ix_lst en (by decide) rfl⟩
    · exact ⟨-1, .inr rfl, ix_lst en (by decide) rfl⟩
  refine ⟨q, p, x, s, μ3, run_is (m := b_law_hung) ?_, ep, b0, b1, hs, s3.mono (by omega), ((k1.trans k2).trans Keep.app).trans k3⟩
  have i2 : idxA (.tup (ps.map Pipe.d)) (.int (q : Int)) μ1 = .ok p.d μ1 := ix_tup (by omega) (by rw [Int.toNat_natCast, List.getElem?_map, ep]; rfl)
  rw [show startR 9 [D.ref k, houseD R ps] = [some (.ref k), some (houseD R ps), none, none, none, none, none, none, none] from rfl]
  unfold b_law_hung
  refine (seq_set (d := .int (q : Int)) (μ1 := μ1) (call2e rfl (call1e (bin_is rfl rfl (i1 μ)) ll) q1)).trans ?_
  refine (seq_asg (d := p.d) (μ1 := μ1) (ρ2 := [some (.ref k), some (houseD R ps), some (.int q), some (.int p.a), some (.int p.b), some (.int p.len), some (.tup (p.nar.map pairD)), some (.tup (p.fl.map pairD)), none]) (μ2 := μ1) (bin_is (bin_is rfl rfl (i1 μ1)) rfl i2) rfl).trans ?_
  let p' : Pipe := { p with fl := [(x, s)] }
  have t8 : ∀ {ρ : Rho}, ρ[0]? = some (some (.ref k)) → ρ[5]? = some (some (.int p.len)) → mTup (mCons (mB m_law_next (mCons (mVar 0) (mCons (mVar 5) (mNil)))) (mCons (mBin idxA (mLst (mCons (mC (.int 1)) (mCons (mUn negD (mC (.int 1))) (mNil)))) (mB m_law_next (mCons (mVar 0) (mCons (mC (.int 2)) (mNil))))) (mNil))) ρ μ1 = .ok (.tup [.int x, .int s]) μ3 := fun {ρ} h0 h5 => by
    simp only [mTup, mCons, mNil, mB, mBin, mVar, mC, mLst, mUn, negD, h0, h5, Res.bind, q2, q3, ix, List.length_cons, List.length_nil, Nat.reduceAdd, Nat.reduceLeDiff, if_true]
  refine (seq_set (d := p'.d) (μ1 := μ3) ?_).trans ?_
  · show mTup _ _ _ = _
    simp only [mTup, mCons, mNil, mVar, List.getElem?_cons_succ, List.getElem?_cons_zero, Res.bind]
    have := t8 (ρ := [some (.ref k), some (houseD R ps), some (.int q), some (.int p.a), some (.int p.b), some (.int p.len), some (.tup (p.nar.map pairD)), some (.tup (p.fl.map pairD)), none]) rfl rfl
    simp only [mTup, mCons, mNil, mVar, List.getElem?_cons_succ, List.getElem?_cons_zero, Res.bind] at this
    rw [this]; rfl
  · refine ret_is ?_
    have e0 : idxA (houseD R ps) (.int 0) μ3 = .ok (.int R) μ3 := ix_tup (by decide) rfl
    have e1 : slcD (.tup (ps.map Pipe.d)) none (some (q : Int)) μ3 = .ok (.tup ((ps.map Pipe.d).take q)) μ3 := by
      show Res.ok (D.tup (cutD (ps.map Pipe.d) none (some (q : Int)))) μ3 = _
      rw [cut_to]
    have e2 : slcD (.tup (ps.map Pipe.d)) (some ((q : Int) + 1)) none μ3 = .ok (.tup ((ps.map Pipe.d).drop (q + 1))) μ3 := by
      show Res.ok (D.tup (cutD (ps.map Pipe.d) (some ((q : Int) + 1)) none)) μ3 = _
      rw [show (q : Int) + 1 = ((q + 1 : Nat) : Int) by omega, cut_from]
    have z1 : ((ps.map Pipe.d).take q).length + [p'.d].length ≤ sizeLine := by rw [List.length_take, List.length_map, sizeLine_eq, List.length_cons, List.length_nil]; omega
    have a1 : addD (.tup ((ps.map Pipe.d).take q)) (.tup [p'.d]) μ3 = .ok (.tup ((ps.map Pipe.d).take q ++ [p'.d])) μ3 := by simp only [addD, if_pos z1]
    have z2 : ((ps.map Pipe.d).take q ++ [p'.d]).length + ((ps.map Pipe.d).drop (q + 1)).length ≤ sizeLine := by rw [List.length_append, List.length_take, List.length_map, List.length_drop, List.length_map, sizeLine_eq, List.length_cons, List.length_nil]; omega
    have a2 : addD (.tup ((ps.map Pipe.d).take q ++ [p'.d])) (.tup ((ps.map Pipe.d).drop (q + 1))) μ3 = .ok (.tup ((ps.set q p').map Pipe.d)) μ3 := by simp only [addD, if_pos z2, set_cut hq]
    have i13 := i1 μ3
    simp only [mTup, mCons, mNil, mBin, mSlc, oNone, oSome, mVar, mC, List.set_cons_succ, List.set_cons_zero, List.getElem?_cons_succ, List.getElem?_cons_zero, Res.bind, i13, e0, e1, add_ok, e2, List.length_cons, List.length_nil, Nat.reduceAdd, Nat.reduceLeDiff, if_true, a1, a2]
    rfl
end
end K43

/-! S81: the program's depth. -/
namespace K43
open PySem L2 RW
def prA (w : Arm) : D × D := (w.1.d, .int w.2)
theorem arm_pairs : ∀ {l : List Arm}, pairsT (l.map armD) = some (l.map prA)
  | [] => rfl
  | w :: l => by
    have ih := arm_pairs (l := l)
    show (if RW.isT w.1.d = true then (pairsT (l.map armD)).map fun r => (w.1.d, D.int w.2) :: r else none) = _
    rw [if_pos (Pl.isT w.1), ih]; rfl
theorem arm_no {z : Pl} : ∀ {l : List Arm}, z ∉ l.map (·.1) → dGet (l.map prA) z.d = none
  | [], _ => rfl
  | w :: l, h => by
    simp only [List.map_cons, List.mem_cons, not_or] at h
    simp only [List.map_cons, prA, dGet]
    rw [if_neg (fun q => h.1 (Pl.nk_inj.mp q).symm)]
    exact arm_no h.2
theorem arm_get {w : Arm} : ∀ {l : List Arm}, (l.map (·.1)).Nodup → w ∈ l → dGet (l.map prA) w.1.d = some (.int w.2)
  | v :: l, nd, h => by
    rw [List.map_cons] at nd
    obtain ⟨n1, n2⟩ := List.nodup_cons.mp nd
    simp only [List.map_cons, prA, dGet]
    rcases List.mem_cons.mp h with rfl | h
    · rw [if_pos rfl]
    · rw [if_neg (fun q => n1 (by rw [Pl.nk_inj.mp q]; exact List.mem_map_of_mem h))]
      exact arm_get n2 h
theorem arm_fold : ∀ {l a : List Arm}, ((a ++ l).map (·.1)).Nodup → (l.map prA).foldl (fun acc p => dPut acc p.1 p.2) (a.map prA) = (a ++ l).map prA
  | [], a, _ => by simp
  | w :: l, a, nd => by
    have hw : w.1 ∉ a.map (·.1) := fun q => by
      rw [List.map_append, List.nodup_append] at nd
      exact nd.2.2 w.1 q w.1 (by simp) rfl
    have hput : dPut (a.map prA) w.1.d (.int w.2) = (a ++ [w]).map prA := by
      unfold dPut dHas
      rw [arm_no hw]; simp [prA]
    show (l.map prA).foldl _ (dPut (a.map prA) w.1.d (.int w.2)) = _
    rw [hput, arm_fold (l := l) (a := a ++ [w]) (by simpa using nd)]; simp
section
variable {g : Int → Int → Int} {S : List Int} {ps : List Pipe} {μ : Mem} {R : Nat} {x z : Pl} {n : Int}
theorem depth_spec (M : Metric g S ps) (hok : ∀ p ∈ ps, 1 ≤ p.len) (hp16 : ps.length ≤ 16) (hS : S.length ≤ 8) (hx : IsPl S ps x) (Dn : Dir g S ps x z n) :
    ∃ μ', m_depth [houseD R ps, x.d, z.d] μ = .ok (.int n) μ' ∧ Keep [] μ μ' := by
  obtain ⟨m, l, μ1, q1, q2, A, q4, q5, q6⟩ := arms_of_spec (R := R) (K := μ.length) (μ := μ ++ [.tdic []]) M hok hp16 hS hx ⟨[], [], app_new, List.nodup_nil, .nil⟩
  have nd : (l.map (·.1)).Nodup := by
    rw [A.fst]
    exact sortE_perm.nodup_iff.mpr (nbr_nodup M hok hx)
  obtain ⟨w, hw, hz⟩ : ∃ w ∈ l, w.1 = z := by
    have h1 : z ∈ l.map (·.1) := by rw [A.fst]; exact sortE_perm.mem_iff.mpr ((mem_nbr M hok hx).mpr Dn.edge)
    obtain ⟨w, h2, h3⟩ := List.mem_map.mp h1
    exact ⟨w, h2, h3⟩
  have hn : w.2 = n := by
    have := A.dir w hw
    rw [hz] at this
    exact Dir.one M hok this Dn
  have dl : dictL [.ref m] μ1 = .ok (.ref μ1.length) (μ1 ++ [.tdic (l.map prA)]) := by
    have fp := arm_fold (l := l) (a := []) (by simpa using nd)
    simp only [List.map_nil, List.nil_append] at fp
    simp only [dictL, q2, arm_pairs, if_pos (show (l.map prA).length ≤ 100000 by rw [List.length_map]; omega), dicOf, fp]
  have e1 : (μ1 ++ [Cell.tdic (l.map prA)])[μ1.length]? = some (.tdic (l.map prA)) := app_new
  have ix : idxA (.ref μ1.length) z.d (μ1 ++ [Cell.tdic (l.map prA)]) = .ok (.int n) (μ1 ++ [Cell.tdic (l.map prA)]) := by
    have := arm_get nd hw
    rw [hz, hn] at this
    simp only [idxA, e1, idxDD, dictAt, if_pos (Pl.isT z), this]
  refine ⟨μ1 ++ [.tdic (l.map prA)], run_is (m := b_depth) ?_, ((Keep.trans Keep.app q6).trans Keep.app).mono fun i hi => .inr (by simp at hi; omega)⟩
  rw [show startR 3 [houseD R ps, x.d, z.d] = [some (houseD R ps), some x.d, some z.d] from rfl]
  unfold b_depth
  have c1 : mB m_arms_of (mCons (mVar 0) (mCons (mTdicNew) (mCons (mVar 1) (mNil)))) [some (houseD R ps), some x.d, some z.d] μ = .ok (.ref m) μ1 := by
    show (Res.bind (Res.ok [houseD R ps, .ref μ.length, x.d] (μ ++ [.tdic []])) _) = _
    exact q1
  refine ret_is (bin_is (p := .ref μ1.length) (μ1 := μ1 ++ [.tdic (l.map prA)]) ?_ rfl ix)
  simp only [mB, mCons, mNil] at c1 ⊢
  rw [c1]
  exact dl
end
end K43

/-! S82: the house with all lengths so many times as great. -/
namespace K43
open PySem L2 RW
def gp (T : Int) (p : Pipe) : Pipe := ⟨p.a, p.b, p.len * T, [], []⟩
section
variable {g : Int → Int → Int} {S : List Int} {ps : List Pipe} {T : Int} {p : Pipe} {r s : Int} {q : Nat} {x y : Pl} {n k : Int}
theorem mulT {a b : Int} (hT : 0 < T) : a * T = b * T ↔ a = b := ⟨fun h => Int.eq_of_mul_eq_mul_right (by omega) h, fun h => by rw [h]⟩
theorem mulTl {a b : Int} (hT : 0 < T) : a * T < b * T ↔ a < b := ⟨fun h => Int.lt_of_mul_lt_mul_right h (by omega), fun h => Int.mul_lt_mul_of_pos_right h hT⟩
theorem Metric.scale (M : Metric g S ps) (hok : ∀ p ∈ ps, 1 ≤ p.len) (hT : 0 < T) : Metric (fun a b => g a b * T) S (ps.map (gp T)) := by
  have mem : ∀ x ∈ ps.map (gp T), ∃ p ∈ ps, x = gp T p := fun x hx => let ⟨p, h1, h2⟩ := List.mem_map.mp hx; ⟨p, h1, h2.symm⟩
  have inj : ∀ p ∈ ps, ∀ p' ∈ ps, gp T p = gp T p' → p = p' := fun p hp p' hp' h => join_one M hok hp hp' (show (gp T p).a = (gp T p').a by rw [h]) (show (gp T p).b = (gp T p').b by rw [h])
  have cls : ∀ r s p, Cls' (fun a b => g a b * T) r s (gp T p) ↔ Cls' g r s p := fun r s p => by
    unfold Cls' gp
    simp only [← Int.add_mul, mulT hT]
  refine ⟨fun x hx => ?_, ?_, fun r hr => by rw [M.m0 r hr, Int.zero_mul], fun r hr s hs => by rw [M.ms r hr s hs], fun r hr s hs => Int.mul_nonneg (M.mn r hr s hs) (by omega), fun r hr x hx => ?_, fun r hr s hs hne => ?_, fun r hr s hs x hx y hy c d => ?_, fun x hx y hy hne => ?_⟩
  · obtain ⟨p, hp, rfl⟩ := mem x hx
    exact M.ends p hp
  · refine List.pairwise_map.mpr (List.pairwise_iff_forall_sublist.mpr fun {a b} hs e => ?_)
    exact List.pairwise_iff_forall_sublist.mp M.nd hs (inj a (hs.subset (by simp)) b (hs.subset (by simp)) e)
  · obtain ⟨p, hp, rfl⟩ := mem x hx
    rcases M.mp r hr p hp with h | h
    · left
      show g r p.b * T = g r p.a * T + p.len * T
      rw [h, Int.add_mul]
    · right
      show g r p.a * T = g r p.b * T + p.len * T
      rw [h, Int.add_mul]
  · obtain ⟨p, hp, c⟩ := M.me r hr s hs hne
    exact ⟨gp T p, List.mem_map_of_mem hp, (cls r s p).mpr c⟩
  · obtain ⟨p, hp, rfl⟩ := mem x hx
    obtain ⟨p', hp', rfl⟩ := mem y hy
    rw [M.mu r hr s hs p hp p' hp' ((cls r s p).mp c) ((cls r s p').mp d)]
  · obtain ⟨p, hp, rfl⟩ := mem x hx
    obtain ⟨p', hp', rfl⟩ := mem y hy
    show g p.a p'.a * T < g p.b p'.a * T ↔ g p.a p'.b * T < g p.b p'.b * T
    rw [mulTl hT, mulTl hT]
    exact M.side p hp p' hp' fun e => hne (by rw [e])
theorem mx_scale (hT : 0 < T) : ∀ l : List Int, mx (l.map (· * T)) = mx l * T
  | [] => by show (0 : Int) = 0 * T; omega
  | a :: l => by
    show max (a * T) (mx (l.map (· * T))) = max a (mx l) * T
    rw [mx_scale hT l]
    by_cases h : a ≤ mx l
    · rw [Int.max_eq_right h, Int.max_eq_right (Int.mul_le_mul_of_nonneg_right h (by omega))]
    · have h2 : mx l * T ≤ a * T := Int.mul_le_mul_of_nonneg_right (by omega) (by omega)
      rw [Int.max_eq_left h2, Int.max_eq_left (by omega)]
theorem rst_scale (hT : 0 < T) : Rst (fun a b => g a b * T) S r (gp T p) = Rst g S r p * T := by
  unfold Rst
  rw [← mx_scale hT, List.map_map]
  have e : near (fun a b => g a b * T) r (gp T p) = near g r p := by
    funext s
    unfold near gp oth
    simp only [← Int.add_mul, mulT hT]
  rw [e]; rfl
theorem great_get (e : ps[q]? = some p) : (ps.map (gp T))[q]? = some (gp T p) := by rw [List.getElem?_map, e]; rfl
/-- a place of the greater house -/
def ledP (T : Int) : Pl → Pl
  | .room r => .room r
  | .on q k => .on q (k * T)
theorem led_ln (hT : 0 < T) (hl : 1 ≤ p.len) (h0 : 0 ≤ k) (h1 : k ≤ p.len) : ledP T (ln p q k) = ln (gp T p) q (k * T) := by
  have hg : (gp T p).len = p.len * T := rfl
  unfold ln
  by_cases hk : k = 0
  · subst hk
    rw [if_pos rfl, if_pos (by omega)]; rfl
  · have h2 : k * T ≠ 0 := fun h => hk (by have := Int.mul_eq_zero.mp h; omega)
    rw [if_neg hk, if_neg h2, hg]
    by_cases hk2 : k = p.len
    · rw [if_pos hk2, if_pos (by rw [hk2])]; rfl
    · rw [if_neg hk2, if_neg (fun h => hk2 ((mulT hT).mp h))]; rfl
end
end K43

/-! S83: k43's law: the greater house, places of it, the place toward another one. -/
namespace K43
open PySem L2 RW
theorem greater_spec {ps : List Pipe} {R : Nat} {T : Int} {μ : Mem} (h16 : ps.length ≤ 16) (hT : T.natAbs < 18446744073709551616) : ∃ μ', m_law_greater [houseD R ps, .int T] μ = .ok (houseD R (ps.map (gp T))) μ' ∧ Keep [] μ μ' := by
  have i1 : ∀ μ, idxA (houseD R ps) (.int 1) μ = .ok (.tup (ps.map Pipe.d)) μ := fun μ => ix_tup (by decide) rfl
  have i0 : ∀ μ, idxA (houseD R ps) (.int 0) μ = .ok (.int R) μ := fun μ => ix_tup (by decide) rfl
  have key := compL_ok (chk := fun _ => True) (g := gN 2) (tt := mYes) (te := mTup (mCons (mBin idxA (mVar 2) (mC (.int 0))) (mCons (mBin idxA (mVar 2) (mC (.int 1))) (mCons (mBin mulD (mBin idxA (mVar 2) (mC (.int 2))) (mVar 1)) (mCons (mTup (mNil)) (mCons (mTup (mNil)) (mNil))))))) (ρ0 := [some (houseD R ps), some (.int T), none]) (ps.map Pipe.d)
    (fun i acc μ' => i ≤ ps.length ∧ acc = ((ps.take i).map (gp T)).map Pipe.d ∧ μ' = μ) 0 (acc := []) (μ := μ) ⟨Nat.zero_le _, rfl, rfl⟩ (fun _ _ _ _ => trivial) (fun i d acc μ' ed ⟨hi, ea, em⟩ => by
      simp only [Nat.zero_add] at hi ea em ⊢
      subst em
      rw [List.getElem?_map] at ed
      obtain ⟨p, ep, rfl⟩ := Option.map_eq_some_iff.mp ed
      have hi2 := (List.getElem?_eq_some_iff.mp ep).1
      have j0 : idxA p.d (.int 0) μ' = .ok (.int p.a) μ' := ix_tup (by decide) rfl
      have j1 : idxA p.d (.int 1) μ' = .ok (.int p.b) μ' := ix_tup (by decide) rfl
      have j2 : idxA p.d (.int 2) μ' = .ok (.int p.len) μ' := ix_tup (by decide) rfl
      have jm : mulD (.int p.len) (.int T) μ' = .ok (.int (p.len * T)) μ' := mul_ok (.inr hT)
      refine .mk (a := [some (houseD R ps), some (.int T), some p.d]) (μ := μ') rfl (.mk (a := true) (μ := μ') rfl ?_)
      rw [if_pos rfl]
      refine ⟨by rw [ea, List.length_map, List.length_map, List.length_take, sizeLine_eq]; omega, .mk (a := (gp T p).d) (μ := μ') ?_ ⟨by omega, ?_, rfl⟩⟩
      · simp only [mTup, mCons, mNil, mBin, mVar, mC, List.getElem?_cons_succ, List.getElem?_cons_zero, Res.bind, j0, j1, j2, jm, List.length_cons, List.length_nil, Nat.reduceAdd, Nat.reduceLeDiff, if_true]
        rfl
      · rw [List.take_add_one, ep, ea]; simp)
  rw [List.length_map, Nat.zero_add] at key
  obtain ⟨r, μ', e1, _, rfl, rfl⟩ := key
  rw [List.take_length] at e1
  have it : iSeq (mBin idxA (mVar 0) (mC (.int 1))) [some (houseD R ps), some (.int T), none] μ' = .ok (ps.map Pipe.d, fun _ => True) μ' := by
    simp only [iSeq, mBin, mVar, mC, List.getElem?_cons_zero, Res.bind, i1, itSeq]
  have cm := comp_is (own := [2]) it (show compL _ _ _ _ (wipeR [some (houseD R ps), some (.int T), none] [2]) _ [] μ' = _ from e1)
  have tl : tupleL [.ref μ'.length] (μ' ++ [.lst ((ps.map (gp T)).map Pipe.d)]) = .ok (.tup ((ps.map (gp T)).map Pipe.d)) (μ' ++ [.lst ((ps.map (gp T)).map Pipe.d)]) := by
    have e1 : (μ' ++ [Cell.lst ((ps.map (gp T)).map Pipe.d)])[μ'.length]? = some (.lst ((ps.map (gp T)).map Pipe.d)) := app_new
    simp only [tupleL, e1]
  refine ⟨μ' ++ [.lst ((ps.map (gp T)).map Pipe.d)], run_is (m := b_law_greater) ?_, Keep.app⟩
  rw [show startR 3 [houseD R ps, .int T] = [some (houseD R ps), some (.int T), none] from rfl]
  unfold b_law_greater
  refine ret_is ?_
  have b1 : mBin idxA (mVar 0) (mC (.int 0)) [some (houseD R ps), some (.int T), none] μ' = .ok (.int R) μ' := bin_is rfl rfl (i0 μ')
  have eh : houseD R (ps.map (gp T)) = .tup [.int R, .tup ((ps.map (gp T)).map Pipe.d)] := rfl
  rw [eh]
  show (Res.bind (mCons (mBin idxA (mVar 0) (mC (.int 0))) _ _ _) _) = _
  rw [mCons, b1, Res.bind, mCons]
  show Res.bind (Res.bind (Res.bind (Res.bind (mCons _ mNil _ _) _) _) _) _ = _
  rw [mCons, cm]
  show Res.bind (Res.bind (Res.bind (tupleL [.ref μ'.length] (μ' ++ [.lst ((ps.map (gp T)).map Pipe.d)])) _) _) _ = _
  rw [tl]
  rfl
theorem led_spec {T : Int} {x : Pl} {μ : Mem} (hT : T.natAbs < 18446744073709551616) : m_law_led [x.d, .int T] μ = .ok (ledP T x).d μ := by
  refine run_is (m := b_law_led) ?_
  rw [show startR 2 [x.d, .int T] = [some x.d, some (.int T)] from rfl]
  unfold b_law_led
  cases x with
  | room r =>
    have ll : lenL [(Pl.room r).d] μ = .ok (.int 1) μ := rfl
    refine seq_ret ((if_t (μ1 := μ) ?_).trans (ret_is rfl))
    simp only [mTest, mBin, mB, mCons, mNil, mVar, mC, List.getElem?_cons_zero, Res.bind, ll, eqI, decide_true]
  | on q k =>
    have ll : lenL [(Pl.on q k).d] μ = .ok (.int 2) μ := rfl
    have h2 : decide ((2 : Int) = 1) = false := by decide
    refine (seq_skip (μ1 := μ) ?_).trans (ret_is ?_)
    · simp only [mTest, mBin, mB, mCons, mNil, mVar, mC, List.getElem?_cons_zero, Res.bind, ll, eqI, h2]
    · have j0 : idxA (Pl.on q k).d (.int 0) μ = .ok (.int q) μ := ix_tup (by decide) rfl
      have j1 : idxA (Pl.on q k).d (.int 1) μ = .ok (.int k) μ := ix_tup (by decide) rfl
      have jm : mulD (.int k) (.int T) μ = .ok (.int (k * T)) μ := mul_ok (.inr hT)
      simp only [mTup, mCons, mNil, mBin, mVar, mC, List.getElem?_cons_succ, List.getElem?_cons_zero, Res.bind, j0, j1, jm, List.length_cons, List.length_nil, Nat.reduceAdd, Nat.reduceLeDiff, if_true]
      rfl
end K43

/-! S84: k43's law: toward another place. -/
namespace K43
open PySem L2 RW
noncomputable abbrev twA : MS := sRet (mTup (mCons (mBin idxA (mVar 1) (mC (.int 0))) (mCons (mBin addD (mBin idxA (mVar 1) (mC (.int 1))) (mBin idxA (mLst (mCons (mC (.int 1)) (mCons (mUn negD (mC (.int 1))) (mNil)))) (mB intL (mCons (mBin (cmpI fun i j => decide (i < j)) (mBin idxA (mVar 2) (mC (.int 1))) (mBin idxA (mVar 1) (mC (.int 1)))) (mNil))))) (mNil))))
noncomputable abbrev twB : MS := sSeq (sAsg (mSlc (mBin idxA (mBin idxA (mVar 0) (mC (.int 1))) (mBin idxA (mVar 1) (mC (.int 0)))) oNone (oSome (mC (.int 3)))) (gTupM 3 (gConsM (gN 3) (gConsM (gN 4) (gConsM (gN 5) (gNilM))))))
    (sSeq (sSet 6 (mBin addD (mBin idxA (mVar 1) (mC (.int 1))) (mBin idxA (mLst (mCons (mC (.int 1)) (mCons (mUn negD (mC (.int 1))) (mNil)))) (mB intL (mCons (mBin eqD (mVar 2) (mTup (mCons (mVar 3) (mNil)))) (mNil))))))
    (sRet (mB m_law_spot (mCons (mVar 0) (mCons (mBin idxA (mVar 1) (mC (.int 0))) (mCons (mVar 6) (mNil)))))))
noncomputable abbrev twI (x : MD) : MB := mTest (mBin inX x (mSlc (mBin idxA (mBin idxA (mVar 0) (mC (.int 1))) (mVar 8)) oNone (oSome (mC (.int 2)))))
noncomputable abbrev twC1 : MD := mComp (iRange1 (mCons (mB lenX (mCons (mBin idxA (mVar 0) (mC (.int 1))) (mNil))) (mNil))) (gN 8) (twI (mBin idxA (mVar 1) (mC (.int 0)))) (mVar 8) [8]
noncomputable abbrev twC2 : MD := mComp (iSeq (mVar 7)) (gN 8) (twI (mBin idxA (mVar 2) (mC (.int 0)))) (mVar 8) [8]
noncomputable def twT : MS := sSeq (sSet 5 (mBin idxA (mBin idxA (mBin idxA (mVar 0) (mC (.int 1))) (mBin idxA (mVar 7) (mC (.int 0)))) (mC (.int 2))))
    (sRet (mB m_law_spot (mCons (mVar 0) (mCons (mBin idxA (mVar 7) (mC (.int 0))) (mCons (mBin idxA (mLst (mCons (mBin subD (mVar 5) (mC (.int 1))) (mCons (mC (.int 1)) (mNil)))) (mB intL (mCons (mBin eqD (mBin idxA (mBin idxA (mBin idxA (mVar 0) (mC (.int 1))) (mBin idxA (mVar 7) (mC (.int 0)))) (mC (.int 0))) (mBin idxA (mVar 1) (mC (.int 0)))) (mNil)))) (mNil))))))
theorem toward_eq : b_law_toward = sSeq (sIf (mAnd (mTest (mBin eqD (mB lenX (mCons (mVar 1) (mNil))) (mC (.int 2)))) (mTest (mBin eqD (mB lenX (mCons (mVar 2) (mNil))) (mC (.int 2))))) twA (sNil))
    (sSeq (sIf (mTest (mBin eqD (mB lenX (mCons (mVar 1) (mNil))) (mC (.int 2)))) twB (sNil))
    (sSeq (sSet 7 twC1)
    (sSeq (sIf (mTest (mBin eqD (mB lenX (mCons (mVar 2) (mNil))) (mC (.int 2)))) (sSet 7 (mLst (mCons (mBin idxA (mVar 2) (mC (.int 0))) (mNil)))) (sSet 7 twC2))
    twT))) := rfl
theorem inAB {a b r : Int} {μ : Mem} : inX (.int r) (.tup [.int a, .int b]) μ = .ok (.bl (decide (a = r) || decide (b = r))) μ := by
  simp only [inX, rowI, flatI, flatsI, Option.bind, Option.map, inV, eqV, List.any_cons, List.any_nil, Bool.or_false]
  congr 2
theorem atL_snoc (x : Int) : ∀ (l : List Pipe) (k : Nat) (p : Pipe), atL x k (l ++ [p]) = atL x k l ++ atOne x (k + l.length) p
  | [], k, p => by simp [atL]
  | q :: l, k, p => by
    simp only [List.cons_append, atL, atL_snoc x l (k + 1) p, List.append_assoc, List.length_cons]
    rw [show k + 1 + l.length = k + (l.length + 1) by omega]
section
variable {g : Int → Int → Int} {S : List Int} {ps : List Pipe} {μ : Mem} {R q : Nat} {p : Pipe} {r t : Int}
theorem two_test {i : Nat} {ρ : Rho} {x : Pl} (h : ρ[i]? = some (some x.d)) : (mTest (mBin eqD (mB lenX (mCons (mVar i) (mNil))) (mC (.int 2)))) ρ μ = .ok (match x with | .room _ => false | .on _ _ => true) μ := by
  cases x with
  | room r =>
    have ll : lenX [(Pl.room r).d] μ = .ok (.int 1) μ := rfl
    have h2 : decide ((1 : Int) = 2) = false := by decide
    simp only [mTest, mBin, mB, mCons, mNil, mVar, mC, h, Res.bind, ll, eqI, h2]
  | on q k =>
    have ll : lenX [(Pl.on q k).d] μ = .ok (.int 2) μ := rfl
    simp only [mTest, mBin, mB, mCons, mNil, mVar, mC, h, Res.bind, ll, eqI, decide_true]
theorem tow_on_on {t t2 : Int} (hne : t ≠ t2) : ∃ μ', m_law_toward [houseD R ps, (Pl.on q t).d, (Pl.on q t2).d] μ = .ok (Pl.on q (if t2 < t then t - 1 else t + 1)).d μ' ∧ Keep [] μ μ' := by
  let ρ : Rho := [some (houseD R ps), some (Pl.on q t).d, some (Pl.on q t2).d, none, none, none, none, none, none]
  have t1 := two_test (μ := μ) (i := 1) (ρ := ρ) (x := .on q t) rfl
  have t2' := two_test (μ := μ) (i := 2) (ρ := ρ) (x := .on q t2) rfl
  have j0 : ∀ μ, idxA (Pl.on q t).d (.int 0) μ = .ok (.int q) μ := fun μ => ix_tup (by decide) rfl
  have j1 : ∀ μ, idxA (Pl.on q t).d (.int 1) μ = .ok (.int t) μ := fun μ => ix_tup (by decide) rfl
  have j2 : ∀ μ, idxA (Pl.on q t2).d (.int 1) μ = .ok (.int t2) μ := fun μ => ix_tup (by decide) rfl
  let μ1 : Mem := μ ++ [.lst [.int 1, .int (-1)]]
  have en : μ1[μ.length]? = some (.lst [.int 1, .int (-1)]) := app_new
  refine ⟨μ1, run_is (m := b_law_toward) ?_, Keep.app⟩
  rw [toward_eq, show startR 9 [houseD R ps, (Pl.on q t).d, (Pl.on q t2).d] = ρ from rfl]
  have ct : mAnd (mTest (mBin eqD (mB lenX (mCons (mVar 1) (mNil))) (mC (.int 2)))) (mTest (mBin eqD (mB lenX (mCons (mVar 2) (mNil))) (mC (.int 2)))) ρ μ = .ok true μ := by
    rw [mAnd, t1]; exact t2'
  refine seq_ret ((if_t ct).trans (ret_is ?_))
  by_cases h : t2 < t
  · have i1 : idxA (.ref μ.length) (.int 1) μ1 = .ok (.int (-1)) μ1 := ix_lst en (by decide) rfl
    rw [if_pos h]
    simp only [mTup, mCons, mNil, mBin, mB, mVar, mC, mLst, mUn, negD, ρ, List.getElem?_cons_succ, List.getElem?_cons_zero, Res.bind, j0, j1, j2, cmpI, decide_eq_true h, intL, if_true, List.length_cons, List.length_nil, Nat.reduceAdd, Nat.reduceLeDiff]
    show Res.bind (Res.bind (Res.bind (Res.bind (idxA (.ref μ.length) (.int 1) μ1) _) _) _) _ = _
    rw [i1]
    show Res.ok (D.tup [.int q, .int (t + -1)]) μ1 = _
    rfl
  · have i1 : idxA (.ref μ.length) (.int 0) μ1 = .ok (.int 1) μ1 := ix_lst en (by decide) rfl
    rw [if_neg h]
    simp only [mTup, mCons, mNil, mBin, mB, mVar, mC, mLst, mUn, negD, ρ, List.getElem?_cons_succ, List.getElem?_cons_zero, Res.bind, j0, j1, j2, cmpI, decide_eq_false h, intL, if_true, List.length_cons, List.length_nil, Nat.reduceAdd, Nat.reduceLeDiff, Bool.false_eq_true, if_false]
    show Res.bind (Res.bind (Res.bind (Res.bind (idxA (.ref μ.length) (.int 0) μ1) _) _) _) _ = _
    rw [i1]
    rfl
theorem tow_on_room (e : ps[q]? = some p) (hab : p.a < p.b) (hr : p.a = r ∨ p.b = r) : ∃ μ', m_law_toward [houseD R ps, (Pl.on q t).d, (Pl.room r).d] μ = .ok (ln p q (if p.a = r then t - 1 else t + 1)).d μ' ∧ Keep [] μ μ' := by
  let ρ : Rho := [some (houseD R ps), some (Pl.on q t).d, some (Pl.room r).d, none, none, none, none, none, none]
  have t1 := two_test (μ := μ) (i := 1) (ρ := ρ) (x := .on q t) rfl
  have t2' := two_test (μ := μ) (i := 2) (ρ := ρ) (x := .room r) rfl
  have j0 : ∀ μ, idxA (Pl.on q t).d (.int 0) μ = .ok (.int q) μ := fun μ => ix_tup (by decide) rfl
  have j1 : ∀ μ, idxA (Pl.on q t).d (.int 1) μ = .ok (.int t) μ := fun μ => ix_tup (by decide) rfl
  have i1 : ∀ μ, idxA (houseD R ps) (.int 1) μ = .ok (.tup (ps.map Pipe.d)) μ := fun μ => ix_tup (by decide) rfl
  have i2 : idxA (.tup (ps.map Pipe.d)) (.int (q : Int)) μ = .ok p.d μ := ix_tup (by omega) (by rw [Int.toNat_natCast, List.getElem?_map, e]; rfl)
  have sl : slcD p.d none (some 3) μ = .ok (.tup [.int p.a, .int p.b, .int p.len]) μ := rfl
  let μ1 : Mem := μ ++ [.lst [.int 1, .int (-1)]]
  have en : μ1[μ.length]? = some (.lst [.int 1, .int (-1)]) := app_new
  obtain ⟨at_, hat, hix⟩ : ∃ v : Int, (if p.a = r then t - 1 else t + 1) = t + v ∧ idxA (.ref μ.length) (.int (if (decide ((Pl.room r) = (Pl.room p.a))) = true then 1 else 0)) μ1 = .ok (.int v) μ1 := by
    by_cases h : p.a = r
    · refine ⟨-1, by rw [if_pos h]; omega, ?_⟩
      rw [h, decide_eq_true rfl, if_pos rfl]
      exact ix_lst en (by decide) rfl
    · refine ⟨1, by rw [if_neg h], ?_⟩
      rw [decide_eq_false (fun q => h (by injection q with q; exact q.symm)), if_neg (by simp)]
      exact ix_lst en (by decide) rfl
  obtain ⟨μ2, q2, k2⟩ := spot_spec (R := R) (k := t + at_) (μ := μ1) e
  refine ⟨μ2, run_is (m := b_law_toward) ?_, Keep.trans Keep.app k2⟩
  rw [toward_eq, show startR 9 [houseD R ps, (Pl.on q t).d, (Pl.room r).d] = ρ from rfl, hat]
  have ct : mAnd (mTest (mBin eqD (mB lenX (mCons (mVar 1) (mNil))) (mC (.int 2)))) (mTest (mBin eqD (mB lenX (mCons (mVar 2) (mNil))) (mC (.int 2)))) ρ μ = .ok false μ := by
    rw [mAnd, t1]; exact t2'
  refine (seq_skip ct).trans (seq_ret ((if_t t1).trans ?_))
  let ρ1 : Rho := [some (houseD R ps), some (Pl.on q t).d, some (Pl.room r).d, some (.int p.a), some (.int p.b), some (.int p.len), none, none, none]
  refine (seq_asg (d := .tup [.int p.a, .int p.b, .int p.len]) (μ1 := μ) (ρ2 := ρ1) (μ2 := μ) ?_ rfl).trans ?_
  · simp only [mSlc, mBin, mVar, mC, oNone, oSome, ρ, List.getElem?_cons_succ, List.getElem?_cons_zero, Res.bind, i1, j0, i2, sl]
  refine (seq_set (d := .int (t + at_)) (μ1 := μ1) ?_).trans (ret_is (call3 rfl (bin_is rfl rfl (j0 μ1)) rfl q2))
  have c1 : mB intL (mCons (mBin eqD (mVar 2) (mTup (mCons (mVar 3) (mNil)))) (mNil)) ρ1 μ1 = .ok (.int (if (decide ((Pl.room r) = (Pl.room p.a))) = true then 1 else 0)) μ1 := by
    have : mBin eqD (mVar 2) (mTup (mCons (mVar 3) (mNil))) ρ1 μ1 = .ok (.bl (decide ((Pl.room r) = (Pl.room p.a)))) μ1 := bin_is (p := (Pl.room r).d) (q := (Pl.room p.a).d) rfl rfl eqP
    simp only [mB, mCons, mNil, this, Res.bind, intL]
  refine bin_is (p := .int t) (q := .int at_) (bin_is rfl rfl (j1 μ)) (bin_is (p := .ref μ.length) (μ1 := μ1) rfl c1 hix) add_ok
end
end K43

/-! S85: k43's law: from a room toward another place. -/
namespace K43
open PySem L2 RW
theorem call3x {f : Sem} {x y z : MD} {ρ : Rho} {μ μ1 μ2 : Mem} {p q r d : D} (h1 : x ρ μ = .ok p μ) (h2 : y ρ μ = .ok q μ) (h3 : z ρ μ = .ok r μ1) (h : f [p, q, r] μ1 = .ok d μ2) : mB f (mCons x (mCons y (mCons z mNil))) ρ μ = .ok d μ2 := by
  simp only [mB, mCons, mNil, h1, h2, h3, Res.bind, h]
section
variable {g : Int → Int → Int} {S : List Int} {ps : List Pipe} {μ : Mem} {R q : Nat} {p : Pipe} {r t : Int}
theorem twI_is {x : MD} {ρ : Rho} {i : Nat} (e : ps[i]? = some p) (h0 : ρ[0]? = some (some (houseD R ps))) (h8 : ρ[8]? = some (some (.int i))) (hx : x ρ μ = .ok (.int r) μ) : twI x ρ μ = .ok (decide (p.a = r) || decide (p.b = r)) μ := by
  have i1 : ∀ μ, idxA (houseD R ps) (.int 1) μ = .ok (.tup (ps.map Pipe.d)) μ := fun μ => ix_tup (by decide) rfl
  have i2 : idxA (.tup (ps.map Pipe.d)) (.int (i : Int)) μ = .ok p.d μ := ix_tup (by omega) (by rw [Int.toNat_natCast, List.getElem?_map, e]; rfl)
  have sl : slcD p.d none (some 2) μ = .ok (.tup [.int p.a, .int p.b]) μ := rfl
  simp only [twI, mTest, mBin, mSlc, mVar, mC, oNone, oSome, h0, h8, hx, Res.bind, i1, i2, sl, inAB]
theorem twC1_spec {o2 o3 o4 o5 o6 o7 o8 : Option D} (h16 : ps.length ≤ 16) : twC1 [some (houseD R ps), some (Pl.room r).d, o2, o3, o4, o5, o6, o7, o8] μ = .ok (.ref μ.length) (μ ++ [.lst ((atL r 0 ps).map fun w => D.int w.1)]) := by
  have i1 : ∀ μ, idxA (houseD R ps) (.int 1) μ = .ok (.tup (ps.map Pipe.d)) μ := fun μ => ix_tup (by decide) rfl
  have key := compL_ok (chk := fun _ => True) (g := gN 8) (tt := twI (mBin idxA (mVar 1) (mC (.int 0)))) (te := mVar 8) (ρ0 := [some (houseD R ps), some (Pl.room r).d, o2, o3, o4, o5, o6, o7, none]) (rangeItems 0 ps.length)
    (fun i acc μ' => i ≤ ps.length ∧ acc = (atL r 0 (ps.take i)).map (fun w => D.int w.1) ∧ μ' = μ) 0 (acc := []) (μ := μ) ⟨Nat.zero_le _, rfl, rfl⟩ (fun _ _ _ _ => trivial) (fun i d acc μ' ed ⟨hi, ea, em⟩ => by
      simp only [Nat.zero_add] at hi ea em ⊢
      subst em
      obtain ⟨hi2, rfl⟩ := rng_get ed
      obtain ⟨p, ep⟩ : ∃ p, ps[i]? = some p := ⟨_, List.getElem?_eq_getElem hi2⟩
      have r0 : mBin idxA (mVar 1) (mC (.int 0)) [some (houseD R ps), some (Pl.room r).d, o2, o3, o4, o5, o6, o7, some (.int (i : Int))] μ' = .ok (.int r) μ' := bin_is rfl rfl (ix_tup (by decide) rfl)
      have tk : atL r 0 (ps.take (i + 1)) = atL r 0 (ps.take i) ++ atOne r i p := by
        rw [List.take_add_one, ep]
        show atL r 0 (ps.take i ++ [p]) = _
        rw [atL_snoc, List.length_take, Nat.min_eq_left (by omega), Nat.zero_add]
      refine .mk (a := [some (houseD R ps), some (Pl.room r).d, o2, o3, o4, o5, o6, o7, some (.int (i : Int))]) (μ := μ') rfl (.mk (μ := μ') (twI_is ep rfl rfl r0) ?_)
      rw [tk]
      by_cases h : p.a = r ∨ p.b = r
      · have e1 : (decide (p.a = r) || decide (p.b = r)) = true := by simpa using h
        have e2 : atOne r i p = [(i, p)] := by
          unfold atOne
          by_cases h1 : p.a = r
          · rw [if_pos h1]
          · rw [if_neg h1, if_pos (h.resolve_left h1)]
        rw [if_pos e1]
        refine ⟨?_, .mk (a := .int (i : Int)) (μ := μ') rfl ⟨by omega, ?_, rfl⟩⟩
        · have := atL_len (x := r) (ps := ps.take i)
          rw [List.length_take] at this
          rw [ea, List.length_map, sizeLine_eq]; omega
        · rw [ea, e2]; simp
      · have e1 : ¬ (decide (p.a = r) || decide (p.b = r)) = true := by simpa using h
        have e2 : atOne r i p = [] := by
          unfold atOne
          rw [if_neg (fun q => h (.inl q)), if_neg (fun q => h (.inr q))]
        rw [if_neg e1]
        exact ⟨by omega, by rw [ea, e2]; simp, rfl⟩)
  rw [rng_len, Nat.zero_add] at key
  obtain ⟨l, μ', e1, _, rfl, rfl⟩ := key
  rw [List.take_length] at e1
  have ll : lenX [.tup (ps.map Pipe.d)] μ' = .ok (.int (ps.length : Int)) μ' := by
    show Res.ok (D.int ((ps.map Pipe.d).length : Int)) μ' = _
    rw [List.length_map]
  exact comp_is (own := [8]) (ir1 (call1e (bin_is rfl rfl (i1 μ')) ll) (by omega)) (show compL _ _ _ _ (wipeR [some (houseD R ps), some (Pl.room r).d, o2, o3, o4, o5, o6, o7, o8] [8]) _ [] μ' = _ from e1)
theorem twC2_spec {o1 o3 o4 o5 o6 o8 : Option D} {m : Nat} (h16 : ps.length ≤ 16) {s : Int} (em : μ[m]? = some (.lst ((atL r 0 ps).map fun w => D.int w.1))) : twC2 [some (houseD R ps), o1, some (Pl.room s).d, o3, o4, o5, o6, some (.ref m), o8] μ = .ok (.ref μ.length) (μ ++ [.lst (((atL r 0 ps).filter fun w => decide (w.2.a = s) || decide (w.2.b = s)).map fun w => D.int w.1)]) := by
  have key := compL_ok (chk := fun μ' => μ'[m]? = some (.lst ((atL r 0 ps).map fun w => D.int w.1))) (g := gN 8) (tt := twI (mBin idxA (mVar 2) (mC (.int 0)))) (te := mVar 8) (ρ0 := [some (houseD R ps), o1, some (Pl.room s).d, o3, o4, o5, o6, some (.ref m), none]) ((atL r 0 ps).map fun w => D.int w.1)
    (fun i acc μ' => i ≤ (atL r 0 ps).length ∧ acc = (((atL r 0 ps).take i).filter fun w => decide (w.2.a = s) || decide (w.2.b = s)).map (fun w => D.int w.1) ∧ μ' = μ) 0 (acc := []) (μ := μ) ⟨Nat.zero_le _, rfl, rfl⟩ (fun _ _ _ ⟨_, _, e⟩ => e ▸ em) (fun i d acc μ' ed ⟨hi, ea, eμ⟩ => by
      simp only [Nat.zero_add] at hi ea eμ ⊢
      subst eμ
      rw [List.getElem?_map] at ed
      obtain ⟨w, ew, rfl⟩ := Option.map_eq_some_iff.mp ed
      have hi2 := (List.getElem?_eq_some_iff.mp ew).1
      obtain ⟨w1, w2⟩ := mem_atL.mp (List.mem_of_getElem? ew)
      have r0 : mBin idxA (mVar 2) (mC (.int 0)) [some (houseD R ps), o1, some (Pl.room s).d, o3, o4, o5, o6, some (.ref m), some (.int w.1)] μ' = .ok (.int s) μ' := bin_is rfl rfl (ix_tup (by decide) rfl)
      refine .mk (a := [some (houseD R ps), o1, some (Pl.room s).d, o3, o4, o5, o6, some (.ref m), some (.int w.1)]) (μ := μ') rfl (.mk (μ := μ') (twI_is w1 rfl rfl r0) ?_)
      rw [List.take_add_one, ew]
      by_cases h : (decide (w.2.a = s) || decide (w.2.b = s)) = true
      · rw [if_pos h]
        refine ⟨?_, .mk (a := .int w.1) (μ := μ') rfl ⟨by omega, ?_, rfl⟩⟩
        · have := atL_len (x := r) (ps := ps)
          have := List.length_filter_le (fun w : Nat × Pipe => decide (w.2.a = s) || decide (w.2.b = s)) ((atL r 0 ps).take i)
          rw [List.length_take] at this
          rw [ea, List.length_map, sizeLine_eq]; omega
        · rw [ea, List.filter_append]
          show _ = List.map _ (_ ++ [w].filter _)
          have : [w].filter (fun w : Nat × Pipe => decide (w.2.a = s) || decide (w.2.b = s)) = [w] := List.filter_cons_of_pos (p := fun w : Nat × Pipe => decide (w.2.a = s) || decide (w.2.b = s)) h
          rw [this]; simp
      · rw [if_neg h]
        refine ⟨by omega, ?_, rfl⟩
        rw [ea, List.filter_append]
        show _ = List.map _ (_ ++ [w].filter _)
        have : [w].filter (fun w : Nat × Pipe => decide (w.2.a = s) || decide (w.2.b = s)) = [] := List.filter_cons_of_neg (p := fun w : Nat × Pipe => decide (w.2.a = s) || decide (w.2.b = s)) h
        rw [this]; simp)
  rw [List.length_map, Nat.zero_add] at key
  obtain ⟨l, μ', e1, _, rfl, rfl⟩ := key
  rw [List.take_length] at e1
  exact comp_is (own := [8]) (seq_lst (n := m) rfl em) (show compL _ _ _ _ (wipeR [some (houseD R ps), o1, some (Pl.room s).d, o3, o4, o5, o6, some (.ref m), o8] [8]) _ [] μ' = _ from e1)
theorem twT_spec {o2 o3 o4 o5 o6 o8 : Option D} {m : Nat} {l : List D} (e : ps[q]? = some p) (em : μ[m]? = some (.lst (.int q :: l))) : ∃ μ', twT [some (houseD R ps), some (Pl.room r).d, o2, o3, o4, o5, o6, some (.ref m), o8] μ = .ok (.ret (nbx r q p).d) μ' ∧ Keep [] μ μ' := by
  have i1 : ∀ μ, idxA (houseD R ps) (.int 1) μ = .ok (.tup (ps.map Pipe.d)) μ := fun μ => ix_tup (by decide) rfl
  have i2 : ∀ μ, idxA (.tup (ps.map Pipe.d)) (.int (q : Int)) μ = .ok p.d μ := fun μ => ix_tup (by omega) (by rw [Int.toNat_natCast, List.getElem?_map, e]; rfl)
  let ρ : Rho := [some (houseD R ps), some (Pl.room r).d, o2, o3, o4, some (.int p.len), o6, some (.ref m), o8]
  have q0 : ∀ {μ' : Mem} {ρ : Rho}, ρ[7]? = some (some (.ref m)) → μ'[m]? = some (.lst (.int q :: l)) → mBin idxA (mVar 7) (mC (.int 0)) ρ μ' = .ok (.int q) μ' := fun {μ' ρ} h e => bin_is (by simp only [mVar, h]) rfl (ix_lst e (by decide) rfl)
  have pd : ∀ {μ' : Mem} {ρ : Rho}, ρ[0]? = some (some (houseD R ps)) → ρ[7]? = some (some (.ref m)) → μ'[m]? = some (.lst (.int q :: l)) → mBin idxA (mBin idxA (mVar 0) (mC (.int 1))) (mBin idxA (mVar 7) (mC (.int 0))) ρ μ' = .ok p.d μ' := fun {μ' ρ} h0 h e => bin_is (bin_is (by simp only [mVar, h0]) rfl (i1 μ')) (q0 h e) (i2 μ')
  let μ1 : Mem := μ ++ [.lst [.int (p.len - 1), .int 1]]
  have en : μ1[μ.length]? = some (.lst [.int (p.len - 1), .int 1]) := app_new
  have em1 : μ1[m]? = some (.lst (.int q :: l)) := app_at em
  have hk : ∃ v : Int, nbx r q p = ln p q v ∧ idxA (.ref μ.length) (.int (if (decide (p.a = r)) = true then 1 else 0)) μ1 = .ok (.int v) μ1 := by
    by_cases h : p.a = r
    · refine ⟨1, by unfold nbx; rw [if_pos h], ?_⟩
      rw [if_pos (by simp [h])]
      exact ix_lst en (by decide) rfl
    · refine ⟨p.len - 1, by unfold nbx; rw [if_neg h], ?_⟩
      rw [if_neg (by simp [h])]
      exact ix_lst en (by decide) rfl
  obtain ⟨v, hv, hix⟩ := hk
  obtain ⟨μ2, q2, k2⟩ := spot_spec (R := R) (k := v) (μ := μ1) e
  refine ⟨μ2, ?_, Keep.trans Keep.app k2⟩
  unfold twT
  refine (seq_set (d := .int p.len) (μ1 := μ) (bin_is (pd rfl rfl em) rfl (ix_tup (by decide) rfl))).trans ?_
  refine ret_is ?_
  rw [hv]
  have c0 : mBin eqD (mBin idxA (mBin idxA (mBin idxA (mVar 0) (mC (.int 1))) (mBin idxA (mVar 7) (mC (.int 0)))) (mC (.int 0))) (mBin idxA (mVar 1) (mC (.int 0))) ρ μ1 = .ok (.bl (decide (p.a = r))) μ1 :=
    bin_is (p := .int p.a) (q := .int r) (bin_is (pd rfl rfl em1) rfl (ix_tup (by decide) rfl)) (bin_is (p := (Pl.room r).d) rfl rfl (ix_tup (by decide) rfl)) eqI
  have c1 : mB intL (mCons (mBin eqD (mBin idxA (mBin idxA (mBin idxA (mVar 0) (mC (.int 1))) (mBin idxA (mVar 7) (mC (.int 0)))) (mC (.int 0))) (mBin idxA (mVar 1) (mC (.int 0)))) (mNil)) ρ μ1 = .ok (.int (if (decide (p.a = r)) = true then 1 else 0)) μ1 := by
    simp only [mB, mCons, mNil, c0, Res.bind, intL]
  have c2 : mBin idxA (mLst (mCons (mBin subD (mVar 5) (mC (.int 1))) (mCons (mC (.int 1)) (mNil)))) (mB intL (mCons (mBin eqD (mBin idxA (mBin idxA (mBin idxA (mVar 0) (mC (.int 1))) (mBin idxA (mVar 7) (mC (.int 0)))) (mC (.int 0))) (mBin idxA (mVar 1) (mC (.int 0)))) (mNil))) ρ μ = .ok (.int v) μ1 :=
    bin_is (p := .ref μ.length) (μ1 := μ1) rfl c1 hix
  have a1 := q0 (ρ := ρ) rfl em
  exact call3x rfl a1 c2 q2
end
end K43

/-! S86: k43's law: toward, whole. -/
namespace K43
open PySem L2 RW
section
variable {g : Int → Int → Int} {S : List Int} {ps : List Pipe} {μ : Mem} {R q : Nat} {p : Pipe} {r s t i j : Int} {x : Pl}
theorem tow_room {y : Pl} (h16 : ps.length ≤ 16) (e : ps[q]? = some p) (hy : ∀ (o5 o6 : Option D) (μ' : Mem), μ'[μ.length]? = some (.lst ((atL r 0 ps).map fun w => D.int w.1)) → ∃ (m : Nat) (l : List D) (μ2 : Mem), (sIf (mTest (mBin eqD (mB lenX (mCons (mVar 2) (mNil))) (mC (.int 2)))) (sSet 7 (mLst (mCons (mBin idxA (mVar 2) (mC (.int 0))) (mNil)))) (sSet 7 twC2)) [some (houseD R ps), some (Pl.room r).d, some y.d, none, none, none, none, some (.ref μ.length), none] μ' = .ok (.nx [some (houseD R ps), some (Pl.room r).d, some y.d, none, none, none, none, some (.ref m), none]) μ2 ∧ μ2[m]? = some (.lst (.int q :: l)) ∧ Keep [] μ' μ2) :
    ∃ μ', m_law_toward [houseD R ps, (Pl.room r).d, y.d] μ = .ok (nbx r q p).d μ' ∧ Keep [] μ μ' := by
  let ρ : Rho := [some (houseD R ps), some (Pl.room r).d, some y.d, none, none, none, none, none, none]
  have t1 := two_test (μ := μ) (i := 1) (ρ := ρ) (x := .room r) rfl
  let μ1 : Mem := μ ++ [.lst ((atL r 0 ps).map fun w => D.int w.1)]
  obtain ⟨m, l, μ2, q2, em, k2⟩ := hy none none μ1 app_new
  obtain ⟨μ3, q3, k3⟩ := twT_spec (R := R) (r := r) (o2 := some y.d) (o3 := none) (o4 := none) (o5 := none) (o6 := none) (o8 := none) e em
  refine ⟨μ3, run_is (m := b_law_toward) ?_, Keep.trans Keep.app (k2.trans k3)⟩
  rw [toward_eq, show startR 9 [houseD R ps, (Pl.room r).d, y.d] = ρ from rfl]
  have ct : mAnd (mTest (mBin eqD (mB lenX (mCons (mVar 1) (mNil))) (mC (.int 2)))) (mTest (mBin eqD (mB lenX (mCons (mVar 2) (mNil))) (mC (.int 2)))) ρ μ = .ok false μ := by
    rw [mAnd, t1]; rfl
  refine (seq_skip ct).trans ((seq_skip t1).trans ?_)
  refine (seq_set (twC1_spec h16)).trans ?_
  exact (seq_run q2).trans q3
theorem tow_room_on (h16 : ps.length ≤ 16) (e : ps[q]? = some p) : ∃ μ', m_law_toward [houseD R ps, (Pl.room r).d, (Pl.on q t).d] μ = .ok (nbx r q p).d μ' ∧ Keep [] μ μ' := by
  refine tow_room h16 e fun _ _ μ' _ => ⟨μ'.length, [], μ' ++ [.lst [.int q]], ?_, app_new, Keep.app⟩
  have t2 := two_test (μ := μ') (i := 2) (ρ := [some (houseD R ps), some (Pl.room r).d, some (Pl.on q t).d, none, none, none, none, some (.ref μ.length), none]) (x := .on q t) rfl
  refine (if_t t2).trans (set_is ?_)
  have j0 : mBin idxA (mVar 2) (mC (.int 0)) [some (houseD R ps), some (Pl.room r).d, some (Pl.on q t).d, none, none, none, none, some (.ref μ.length), none] μ' = .ok (.int q) μ' := bin_is rfl rfl (ix_tup (by decide) rfl)
  simp only [mLst, mCons, mNil, j0, Res.bind, List.length_cons, List.length_nil, Nat.reduceAdd, Nat.reduceLeDiff, if_true]
theorem tow_room_room (M : Metric g S ps) (hok : ∀ p ∈ ps, 1 ≤ p.len) (h16 : ps.length ≤ 16) (e : ps[q]? = some p) (ha : AtE p r) (hb : AtE p s) (hne : r ≠ s) : ∃ μ', m_law_toward [houseD R ps, (Pl.room r).d, (Pl.room s).d] μ = .ok (nbx r q p).d μ' ∧ Keep [] μ μ' := by
  refine tow_room h16 e fun _ _ μ' em => ?_
  have t2 := two_test (μ := μ') (i := 2) (ρ := [some (houseD R ps), some (Pl.room r).d, some (Pl.room s).d, none, none, none, none, some (.ref μ.length), none]) (x := .room s) rfl
  have c2 := twC2_spec (R := R) (o1 := some (Pl.room r).d) (o3 := none) (o4 := none) (o5 := none) (o6 := none) (o8 := none) (s := s) h16 em
  have all : ∀ w ∈ (atL r 0 ps).filter (fun w => decide (w.2.a = s) || decide (w.2.b = s)), w.1 = q := fun w hw => by
    obtain ⟨h1, h2⟩ := List.mem_filter.mp hw
    obtain ⟨w1, w2⟩ := mem_atL.mp h1
    have h2 : AtE w.2 s := by
      rcases Bool.or_eq_true_iff.mp h2 with h | h
      · exact .inl (of_decide_eq_true h)
      · exact .inr (of_decide_eq_true h)
    have hab := (M.ends p (List.mem_of_getElem? e)).2.2
    have hab' := (M.ends w.2 (List.mem_of_getElem? w1)).2.2
    have : w.2 = p := by
      refine join_one M hok (List.mem_of_getElem? w1) (List.mem_of_getElem? e) ?_ ?_ <;>
      rcases ha with h | h <;> rcases hb with h' | h' <;> rcases w2 with h3 | h3 <;> rcases h2 with h4 | h4 <;> omega
    rw [this] at w1
    exact pipe_one M w1 e
  have ne : ∃ w l, (atL r 0 ps).filter (fun w => decide (w.2.a = s) || decide (w.2.b = s)) = w :: l := by
    refine List.exists_cons_of_ne_nil fun h => ?_
    have : (q, p) ∈ (atL r 0 ps).filter (fun w => decide (w.2.a = s) || decide (w.2.b = s)) := List.mem_filter.mpr ⟨mem_atL.mpr ⟨e, ha⟩, by
      rcases hb with h | h <;> simp [h]⟩
    rw [h] at this
    cases this
  obtain ⟨w, l, el⟩ := ne
  have hw : w.1 = q := all w (by rw [el]; simp)
  refine ⟨μ'.length, l.map fun w => D.int w.1, _, (if_f t2).trans (set_is c2), ?_, Keep.app⟩
  rw [app_new, el, List.map_cons, hw]
/-- forward along a pipe -/
theorem tow_fwd (M : Metric g S ps) (hok : ∀ p ∈ ps, 1 ≤ p.len) (h16 : ps.length ≤ 16) (e : ps[q]? = some p) (h0 : 0 ≤ i) (h1 : i < j) (h2 : j ≤ p.len) : ∃ μ', m_law_toward [houseD R ps, (ln p q i).d, (ln p q j).d] μ = .ok (ln p q (i + 1)).d μ' ∧ Keep [] μ μ' := by
  have hab := (M.ends p (List.mem_of_getElem? e)).2.2
  rcases ln_cases p q i with ⟨a1, a2⟩ | ⟨a1, a2, a3⟩ | ⟨a1, a2, a3⟩
  · have hx : nbx p.a q p = ln p q (i + 1) := by unfold nbx; rw [if_pos rfl, a1]; rfl
    rcases ln_cases p q j with ⟨b1, b2⟩ | ⟨b1, b2, b3⟩ | ⟨b1, b2, b3⟩
    · omega
    · rw [a2, b3, ← hx]
      exact tow_room_room M hok h16 e (.inl rfl) (.inr rfl) (by omega)
    · rw [a2, b3, ← hx]
      exact tow_room_on h16 e
  · omega
  · rcases ln_cases p q j with ⟨b1, b2⟩ | ⟨b1, b2, b3⟩ | ⟨b1, b2, b3⟩
    · omega
    · rw [a3, b3]
      have := tow_on_room (R := R) (t := i) (r := p.b) (μ := μ) e hab (.inr rfl)
      rw [if_neg (by omega)] at this
      exact this
    · rw [a3, b3]
      have := tow_on_on (R := R) (ps := ps) (q := q) (μ := μ) (t := i) (t2 := j) (by omega)
      rw [if_neg (by omega)] at this
      have hl : ln p q (i + 1) = .on q (i + 1) := by unfold ln; rw [if_neg (by omega), if_neg (by omega)]
      rw [hl]
      exact this
/-- back along a pipe -/
theorem tow_bwd (M : Metric g S ps) (hok : ∀ p ∈ ps, 1 ≤ p.len) (h16 : ps.length ≤ 16) (e : ps[q]? = some p) (h0 : 0 ≤ i) (h1 : i < j) (h2 : j ≤ p.len) : ∃ μ', m_law_toward [houseD R ps, (ln p q j).d, (ln p q i).d] μ = .ok (ln p q (j - 1)).d μ' ∧ Keep [] μ μ' := by
  have hab := (M.ends p (List.mem_of_getElem? e)).2.2
  rcases ln_cases p q j with ⟨a1, a2⟩ | ⟨a1, a2, a3⟩ | ⟨a1, a2, a3⟩
  · omega
  · have hx : nbx p.b q p = ln p q (j - 1) := by unfold nbx; rw [if_neg (by omega), a2]
    rcases ln_cases p q i with ⟨b1, b2⟩ | ⟨b1, b2, b3⟩ | ⟨b1, b2, b3⟩
    · rw [a3, b2, ← hx]
      exact tow_room_room M hok h16 e (.inr rfl) (.inl rfl) (by omega)
    · omega
    · rw [a3, b3, ← hx]
      exact tow_room_on h16 e
  · rcases ln_cases p q i with ⟨b1, b2⟩ | ⟨b1, b2, b3⟩ | ⟨b1, b2, b3⟩
    · rw [a3, b2]
      have := tow_on_room (R := R) (t := j) (r := p.a) (μ := μ) e hab (.inl rfl)
      rw [if_pos rfl] at this
      exact this
    · omega
    · rw [a3, b3]
      have := tow_on_on (R := R) (ps := ps) (q := q) (μ := μ) (t := j) (t2 := i) (by omega)
      rw [if_pos (by omega)] at this
      have hl : ln p q (j - 1) = .on q (j - 1) := by unfold ln; rw [if_neg (by omega), if_neg (by omega)]
      rw [hl]
      exact this
/-- toward a place next to one in the lesser house: the arm there is so many times as deep -/
theorem great_dir {T n : Int} {y z : Pl} (M : Metric g S ps) (hok : ∀ p ∈ ps, 1 ≤ p.len) (h16 : ps.length ≤ 16) (hT : 0 < T) (Dn : Dir g S ps y z n) :
    ∃ (w : Pl), (∀ μ, ∃ μ', m_law_toward [houseD R (ps.map (gp T)), (ledP T y).d, (ledP T z).d] μ = .ok w.d μ' ∧ Keep [] μ μ') ∧ Dir (fun a b => g a b * T) S (ps.map (gp T)) (ledP T y) w (n * T) := by
  obtain ⟨q, p, k, e, h0, h1, h⟩ := Dn
  have hl := hok p (List.mem_of_getElem? e)
  have eg := great_get (T := T) e
  have MG := M.scale hok hT
  have hokG : ∀ x ∈ ps.map (gp T), 1 ≤ x.len := fun x hx => by
    obtain ⟨p', hp', rfl⟩ := List.mem_map.mp hx
    have := hok p' hp'
    exact Int.mul_pos (by omega) hT
  have h16G : (ps.map (gp T)).length ≤ 16 := by rw [List.length_map]; exact h16
  have m1 : k * T < (k + 1) * T := (mulTl hT).mpr (by omega)
  have m0 : 0 ≤ k * T := Int.mul_nonneg h0 (by omega)
  have m2 : (k + 1) * T ≤ p.len * T := Int.mul_le_mul_of_nonneg_right (by omega) (by omega)
  have gl : (gp T p).len = p.len * T := rfl
  rcases h with ⟨rfl, rfl, hn⟩ | ⟨rfl, rfl, hn⟩
  · rw [led_ln hT hl h0 (by omega), led_ln hT hl (by omega) (by omega)]
    refine ⟨ln (gp T p) q (k * T + 1), fun μ => tow_fwd MG hokG h16G eg m0 m1 m2, q, gp T p, k * T, eg, m0, by omega, .inl ⟨rfl, rfl, ?_⟩⟩
    have : (gp T p).b = p.b := rfl
    rw [this, rst_scale hT, hn, gl, Int.add_mul, Int.sub_mul]
  · rw [led_ln hT hl (by omega) (by omega), led_ln hT hl h0 (by omega)]
    refine ⟨ln (gp T p) q ((k + 1) * T - 1), fun μ => tow_bwd MG hokG h16G eg m0 m1 m2, q, gp T p, (k + 1) * T - 1, eg, by omega, by omega, .inr ⟨by rw [Int.sub_add_cancel], rfl, ?_⟩⟩
    have : (gp T p).a = p.a := rfl
    rw [this, rst_scale hT, hn, Int.add_mul, Int.sub_add_cancel]
end
end K43

/-! S87: k43's law: all places and all next to them. -/
namespace K43
open PySem L2 RW
noncomputable abbrev gwS (a b : MD) : MS := sIf (mNot (mTest (mB (m_law_same 8) (mCons a (mCons b (mNil)))))) (sRet (mC (.bl false))) (sNil)
noncomputable def gwX : MS := sSeq (sSet 9 (mB m_law_deep (mCons (mVar 4) (mCons (mVar 7) (mCons (mVar 8) (mNil))))))
    (sSeq (gwS (mB m_depth (mCons (mVar 3) (mCons (mVar 7) (mCons (mVar 8) (mNil))))) (mVar 9))
    (sSeq (sSet 10 (mB m_law_led (mCons (mVar 7) (mCons (mVar 5) (mNil)))))
    (sSeq (sSet 11 (mB m_law_toward (mCons (mVar 6) (mCons (mVar 10) (mCons (mB m_law_led (mCons (mVar 8) (mCons (mVar 5) (mNil)))) (mNil))))))
    (gwS (mB m_depth (mCons (mVar 6) (mCons (mVar 10) (mCons (mVar 11) (mNil))))) (mBin mulD (mVar 9) (mVar 5))))))
noncomputable def gwI : MS := sFor (iSeq (mBin idxA (mVar 4) (mVar 7))) (gN 8) gwX
noncomputable def gwK : MS := sFor (iKeysD (mVar 4)) (gN 7) gwI
section
variable {g : Int → Int → Int} {S : List Int} {ps : List Pipe} {μ : Mem} {F R : Nat} {x z : Pl} {T n : Int}
theorem led_pl (hT : 0 < T) (hx : IsPl S ps x) : IsPl S (ps.map (gp T)) (ledP T x) := by
  cases x with
  | room r => exact hx
  | on q k =>
    obtain ⟨p, e, h0, h1⟩ := hx
    exact ⟨gp T p, great_get e, Int.mul_pos h0 hT, (mulTl hT).mpr h1⟩
theorem gwS_is {a b : MD} {ρ : Rho} {μ1 μ2 : Mem} {i : Int} (ha : a ρ μ = .ok (.int i) μ1) (hb : b ρ μ1 = .ok (.int i) μ2) : gwS a b ρ μ = .ok (.nx ρ) μ2 := by
  refine (if_f (μ1 := μ2) ?_).trans rfl
  simp only [mNot, mTest, mB, mCons, mNil, ha, hb, Res.bind, same_int, Bool.not_true]
theorem gwX_spec (H : Hs g S ps R) (N : Nx μ F S ps) (hT : 0 < T) (hT2 : T.natAbs < 18446744073709551616) (hx : IsPl S ps x) (Dn : Dir g S ps x z n) {o0 o1 o2 o9 o10 o11 : Option D} :
    ∃ (b9 b10 b11 : Option D) (μ' : Mem), gwX [o0, o1, o2, some (houseD R ps), some (.ref F), some (.int T), some (houseD R (ps.map (gp T))), some x.d, some z.d, o9, o10, o11] μ = .ok (.nx [o0, o1, o2, some (houseD R ps), some (.ref F), some (.int T), some (houseD R (ps.map (gp T))), some x.d, some z.d, b9, b10, b11]) μ' ∧ Keep [] μ μ' := by
  obtain ⟨μ1, q1, k1⟩ := deep_spec H.M H.hok H.h16 N ((geo H.M H.hok).dist x hx) Dn
  obtain ⟨μ2, q2, k2⟩ := depth_spec (R := R) (μ := μ1) H.M H.hok H.h16 H.hS hx Dn
  obtain ⟨w, tw, DG⟩ := great_dir (R := R) H.M H.hok H.h16 hT Dn
  obtain ⟨μ3, q3, k3⟩ := tw μ2
  have hokG : ∀ x ∈ ps.map (gp T), 1 ≤ x.len := fun x hx => by
    obtain ⟨p', hp', rfl⟩ := List.mem_map.mp hx
    have := H.hok p' hp'
    exact Int.mul_pos (by omega) hT
  obtain ⟨μ4, q4, k4⟩ := depth_spec (R := R) (μ := μ3) (H.M.scale H.hok hT) hokG (by rw [List.length_map]; exact H.h16) H.hS (led_pl hT hx) DG
  have l1 : ∀ (x : Pl) (μ : Mem), m_law_led [x.d, .int T] μ = .ok (ledP T x).d μ := fun x μ => led_spec hT2
  refine ⟨some (.int n), some (ledP T x).d, some w.d, μ4, ?_, ((k1.trans k2).trans k3).trans k4⟩
  unfold gwX
  refine (seq_set (call3 rfl rfl rfl q1)).trans ?_
  refine (seq_run (gwS_is (call3 rfl rfl rfl q2) rfl)).trans ?_
  refine (seq_set (call2e rfl rfl (l1 x μ2))).trans ?_
  refine (seq_set (call3x (μ1 := μ2) rfl rfl (call2e rfl rfl (l1 z μ2)) q3)).trans ?_
  exact gwS_is (call3 rfl rfl rfl q4) (bin_is rfl rfl (mul_ok (.inr hT2)))
theorem gwI_spec (H : Hs g S ps R) (N : Nx μ F S ps) (hT : 0 < T) (hT2 : T.natAbs < 18446744073709551616) (hx : IsPl S ps x) {o0 o1 o2 o8 o9 o10 o11 : Option D} :
    ∃ (b8 b9 b10 b11 : Option D) (μ' : Mem), gwI [o0, o1, o2, some (houseD R ps), some (.ref F), some (.int T), some (houseD R (ps.map (gp T))), some x.d, o8, o9, o10, o11] μ = .ok (.nx [o0, o1, o2, some (houseD R ps), some (.ref F), some (.int T), some (houseD R (ps.map (gp T))), some x.d, b8, b9, b10, b11]) μ' ∧ Keep [] μ μ' := by
  obtain ⟨m, ix, em⟩ := N.get hx
  have loop := forL_ok (chk := fun μ' => μ'[m]? = some (.lst ((sortE penc (nbr ps x)).map Pl.d))) (g := gN 8) (body := gwX) ((sortE penc (nbr ps x)).map Pl.d)
    (fun i ρ' μ' => ∃ (b8 b9 b10 b11 : Option D), ρ' = [o0, o1, o2, some (houseD R ps), some (.ref F), some (.int T), some (houseD R (ps.map (gp T))), some x.d, b8, b9, b10, b11] ∧ Keep [] μ μ') 0
    (ρ := [o0, o1, o2, some (houseD R ps), some (.ref F), some (.int T), some (houseD R (ps.map (gp T))), some x.d, o8, o9, o10, o11]) (μ := μ) ⟨o8, o9, o10, o11, rfl, .refl⟩ (fun _ _ _ ⟨_, _, _, _, _, k⟩ => k.get em (by simp))
    (fun i d ρ' μ' edd ⟨b8, b9, b10, b11, eρ, kk⟩ => by
      subst eρ
      rw [List.getElem?_map] at edd
      obtain ⟨z, ez, rfl⟩ := Option.map_eq_some_iff.mp edd
      have hz := (mem_nbr H.M H.hok hx).mp (sortE_perm.mem_iff.mp (List.mem_of_getElem? ez))
      obtain ⟨n, Dn⟩ := Dir.ex (g := g) (S := S) hz
      obtain ⟨c9, c10, c11, μ2, q2, k2⟩ := gwX_spec H (N.keep kk) hT hT2 hx Dn (o0 := o0) (o1 := o1) (o2 := o2) (o9 := b9) (o10 := b10) (o11 := b11)
      exact .mk (a := [o0, o1, o2, some (houseD R ps), some (.ref F), some (.int T), some (houseD R (ps.map (gp T))), some x.d, some z.d, b9, b10, b11]) (μ := μ') rfl (.mk q2 ⟨_, .inl rfl, _, _, _, _, rfl, kk.trans k2⟩))
  obtain ⟨f, μ', w, ρ', rfl, b8, b9, b10, b11, rfl, kk⟩ := loop
  exact ⟨b8, b9, b10, b11, μ', for_run (seq_lst (n := m) (bin_is rfl rfl ix) em) w, kk⟩
theorem gwK_spec (H : Hs g S ps R) {l : List (D × D)} {keys : List Pl} (e : μ[F]? = some (.lck true l)) (nd : keys.Nodup) (hk : ∀ x, x ∈ keys ↔ IsPl S ps x) (h7 : keys.length ≤ 700) (P : Paired (Cellp μ F) l (keys.map fun x => (x, sortE penc (nbr ps x)))) (hT : 0 < T) (hT2 : T.natAbs < 18446744073709551616) {o0 o1 o2 o7 o8 o9 o10 o11 : Option D} :
    ∃ (b7 b8 b9 b10 b11 : Option D) (μ' : Mem), gwK [o0, o1, o2, some (houseD R ps), some (.ref F), some (.int T), some (houseD R (ps.map (gp T))), o7, o8, o9, o10, o11] μ = .ok (.nx [o0, o1, o2, some (houseD R ps), some (.ref F), some (.int T), some (houseD R (ps.map (gp T))), b7, b8, b9, b10, b11]) μ' ∧ Keep [] μ μ' := by
  have NX : Nx μ F S ps := ⟨l, keys, .inl e, nd, hk, h7, P⟩
  have loop := forL_ok (chk := fun μ' => μ'[F]? = some (.lck true l)) (g := gN 7) (body := gwI) (l.map (·.1))
    (fun i ρ' μ' => ∃ (b7 b8 b9 b10 b11 : Option D), ρ' = [o0, o1, o2, some (houseD R ps), some (.ref F), some (.int T), some (houseD R (ps.map (gp T))), b7, b8, b9, b10, b11] ∧ Keep [] μ μ') 0
    (ρ := [o0, o1, o2, some (houseD R ps), some (.ref F), some (.int T), some (houseD R (ps.map (gp T))), o7, o8, o9, o10, o11]) (μ := μ) ⟨o7, o8, o9, o10, o11, rfl, .refl⟩ (fun _ _ _ ⟨_, _, _, _, _, _, k⟩ => k.get e (by simp))
    (fun i d ρ' μ' edd ⟨b7, b8, b9, b10, b11, eρ, kk⟩ => by
      subst eρ
      rw [List.getElem?_map] at edd
      obtain ⟨z, ez, rfl⟩ := Option.map_eq_some_iff.mp edd
      obtain ⟨y, ey, h1, _⟩ := paired_at P ez
      rw [List.getElem?_map] at ey
      obtain ⟨x, ex, rfl⟩ := Option.map_eq_some_iff.mp ey
      have hx := (hk x).mp (List.mem_of_getElem? ex)
      obtain ⟨c8, c9, c10, c11, μ2, q2, k2⟩ := gwI_spec (μ := μ') (F := F) H (NX.keep kk) hT hT2 hx (o0 := o0) (o1 := o1) (o2 := o2) (o8 := b8) (o9 := b9) (o10 := b10) (o11 := b11)
      have h1 : z.1 = x.d := h1
      exact .mk (a := [o0, o1, o2, some (houseD R ps), some (.ref F), some (.int T), some (houseD R (ps.map (gp T))), some x.d, b8, b9, b10, b11]) (μ := μ') (by rw [h1]; rfl) (.mk q2 ⟨_, .inl rfl, _, _, _, _, _, rfl, kk.trans k2⟩))
  obtain ⟨f, μ', w, ρ', rfl, b7, b8, b9, b10, b11, rfl, kk⟩ := loop
  exact ⟨b7, b8, b9, b10, b11, μ', for_run (keys_is (n := F) rfl e) w, kk⟩
theorem sorted_dict {l : List (D × D)} {keys : List Pl} {f : Pl → List Pl} (e : μ[F]? = some (.tdic l)) (h7 : keys.length ≤ 700) (P : Paired (Cellp μ F) l (keys.map fun x => (x, f x))) : sortedX [.ref F] μ = .ok (.ref μ.length) (μ ++ [.lst ((sortE penc keys).map Pl.d)]) := by
  have hl : l.map (·.1) = keys.map Pl.d := by
    have key : ∀ {l : List (D × D)} {keys : List Pl}, Paired (Cellp μ F) l (keys.map fun x => (x, f x)) → l.map (·.1) = keys.map Pl.d := fun {l} => by
      induction l with
      | nil => intro keys P; cases keys with
        | nil => rfl
        | cons _ _ => cases P
      | cons a l ih =>
        intro keys P
        cases keys with
        | nil => cases P
        | cons x keys =>
          rw [List.map_cons] at P
          cases P with
          | cons h t =>
            have h1 : a.1 = x.d := h.1
            rw [List.map_cons, List.map_cons, ih t, h1]
    exact key P
  have ok : sortOk μ (keys.map Pl.d) = true := sortOk_tup (enc := penc) (by omega) (fun x _ => ⟨pl_py x μ, pl_depth x, pl_isTup x⟩) fun x _ y _ => pl_alike x y
  have sd : sortD μ (keys.map Pl.d) = (sortE penc keys).map Pl.d := sortD_map fun x _ => by unfold encD; rw [pl_py]; rfl
  simp only [sortedX, e, hl, ok, if_true, sd]
end
end K43

/-! S88: k43's law: one turn. -/
namespace K43
open PySem L2 RW
theorem lock_n {i n : Nat} {l : List (D × D)} {m : MS} {ρ ρ' : Rho} {μ μ' : Mem} (hρ : ρ[i]? = some (some (.ref n))) (e : μ[n]? = some (.tdic l)) (h : m ρ (μ.set n (.lck true l)) = .ok (.nx ρ') μ') : sLock i m ρ μ = .ok (.nx ρ') (μ'.set n (.tdic l)) := by
  have t : toLock i ρ μ = some (n, .tdic l, .lck true l) := by simp only [toLock, hρ, e, lockC, Option.map_some]
  simp only [sLock, t, h, Res.bind, openF]
noncomputable abbrev gwM : MD := mBin idxA (mLst (mCons (mC (.int 2)) (mCons (mC (.int 3)) (mCons (mC (.int 1000003)) (mCons (mBin mulD (mC (.int 2)) (mBin powD (mC (.int 10)) (mC (.int 11)))) (mNil)))))) (mB m_law_next (mCons (mVar 1) (mCons (mC (.int 4)) (mNil))))
noncomputable abbrev gwN : MD := mBin idxA (mB sortedX (mCons (mVar 4) (mNil))) (mB m_law_next (mCons (mVar 1) (mCons (mB lenX (mCons (mVar 4) (mNil))) (mNil))))
noncomputable abbrev gwZ : MD := mBin idxA (mBin idxA (mVar 4) (mVar 7)) (mC (.int 0))
noncomputable abbrev gwE : MS := sIf (mTest (mBin neD (mB m_depth (mCons (mVar 3) (mCons (mVar 7) (mCons gwZ (mNil))))) (mB m_law_deep (mCons (mVar 4) (mCons (mVar 7) (mCons gwZ (mNil))))))) (sRet (mC (.bl false))) (sNil)
noncomputable abbrev gwH : MS := sIf (mTest (mBin eqD (mB m_law_next (mCons (mVar 1) (mCons (mC (.int 3)) (mNil)))) (mC (.int 0)))) (sSet 3 (mB m_law_hung (mCons (mVar 1) (mCons (mVar 3) (mNil))))) (sNil)
noncomputable def gwR : MS := sSeq (sSet 4 (mB m_law_nexts (mCons (mVar 3) (mNil))))
    (sSeq (sSet 5 gwM) (sSeq (sSet 6 (mB m_law_greater (mCons (mVar 3) (mCons (mVar 5) (mNil)))))
    (sSeq (sLock 4 gwK) (sSeq (sSet 7 gwN) gwE))))
noncomputable def gwT : MS := sSeq (sSet 3 (mB m_law_house (mCons (mVar 1) (mCons (mC (.int 6)) (mCons (mC (.int 5)) (mNil)))))) (sSeq gwH gwR)
theorem law_eq : b_law = sSeq (sSet 1 (mB m_law_begin (mCons (mVar 0) (mNil))))
    (sSeq (sFor (iRange1 (mCons (mC (.int 3)) (mNil))) (gN 2) gwT) (sRet (mC (.bl true)))) := rfl
section
variable {g : Int → Int → Int} {S : List Int} {ps : List Pipe} {μ : Mem} {F R k c N : Nat} {x : Pl}
theorem nbr_ne (H : Hs g S ps R) (hx : IsPl S ps x) : ∃ z l, sortE penc (nbr ps x) = z :: l := by
  refine List.exists_cons_of_ne_nil fun e => ?_
  have hn : ∀ z, ¬ E ps x z := fun z hz => by
    have := (sortE_perm (enc := penc)).mem_iff.mpr ((mem_nbr H.M H.hok hx).mpr hz)
    rw [e] at this
    cases this
  have h0 : (0 : Int) ∈ S := (H.rng 0).mpr (by have := H.r2; omega)
  have h1 : (1 : Int) ∈ S := (H.rng 1).mpr (by have := H.r2; omega)
  have p0 : IsPl S ps (.room 0) := h0
  have p1 : IsPl S ps (.room 1) := h1
  by_cases hx0 : (Pl.room 0) = x
  · subst hx0
    obtain ⟨y, hy, _⟩ := ((geo H.M H.hok).dist (.room 1) p1).ex (.room 0) p0 (by simp)
    exact hn y hy
  · obtain ⟨y, hy, _⟩ := ((geo H.M H.hok).dist (.room 0) p0).ex x hx (fun h => hx0 h.symm)
    exact hn y hy
theorem gwM_spec (h : Dk μ k c N) (hN : N + 10 < 1000000) {ρ : Rho} (h1 : ρ[1]? = some (some (.ref k))) : ∃ (T : Int) (μ' : Mem), gwM ρ μ = .ok (.int T) μ' ∧ 0 < T ∧ T.natAbs < 18446744073709551616 ∧ Dk μ' k c (N + 1) ∧ Keep [k, c] μ μ' := by
  let ts : List D := [.int 2, .int 3, .int 1000003, .int 200000000000]
  have s0 : Dk (μ ++ [Cell.lst ts]) k c N := h.app
  obtain ⟨t, μ1, q1, t0, t1, s1, k1⟩ := next_spec (j := 4) s0 (by omega) (by decide) (by decide)
  have l0 := h.lt
  have e1 : μ1[μ.length]? = some (.lst ts) := k1.get app_new (by simp; omega)
  have tl : mLst (mCons (mC (.int 2)) (mCons (mC (.int 3)) (mCons (mC (.int 1000003)) (mCons (mBin mulD (mC (.int 2)) (mBin powD (mC (.int 10)) (mC (.int 11)))) (mNil))))) ρ μ = .ok (.ref μ.length) (μ ++ [Cell.lst ts]) := by
    have p11 : powD (.int 10) (.int 11) μ = .ok (.int 100000000000) μ := rfl
    have m11 : mulD (.int 2) (.int 100000000000) μ = .ok (.int 200000000000) μ := mul_ok (.inl (by decide))
    simp only [mLst, mCons, mNil, mBin, mC, p11, m11, Res.bind, List.length_cons, List.length_nil, Nat.reduceAdd, Nat.reduceLeDiff, if_true, ts]
  have n1 : mB m_law_next (mCons (mVar 1) (mCons (mC (.int 4)) (mNil))) ρ (μ ++ [Cell.lst ts]) = .ok (.int t) μ1 := call2e (by simp only [mVar, h1]) rfl q1
  have kk : Keep [k, c] μ μ1 := Keep.trans Keep.app k1
  rcases (show t = 0 ∨ t = 1 ∨ t = 2 ∨ t = 3 by omega) with rfl | rfl | rfl | rfl
  · exact ⟨2, μ1, bin_is tl n1 (ix_lst e1 (by decide) rfl), by decide, by decide, s1, kk⟩
  · exact ⟨3, μ1, bin_is tl n1 (ix_lst e1 (by decide) rfl), by decide, by decide, s1, kk⟩
  · exact ⟨1000003, μ1, bin_is tl n1 (ix_lst e1 (by decide) rfl), by decide, by decide, s1, kk⟩
  · exact ⟨200000000000, μ1, bin_is tl n1 (ix_lst e1 (by decide) rfl), by decide, by decide, s1, kk⟩
theorem adj_dk {μ' : Mem} (h : Dk μ k c N) (kk : Keep [k, c] μ μ') : ∀ {l : List (D × D)} {adj : List (Pl × List Pl)}, (∀ x ∈ adj, x.2 ≠ []) → Paired (Cellp μ F) l adj → Paired (Cellp μ' F) l adj
  | _, _, _, .nil => .nil
  | _ :: _, x :: _, hne, .cons hd t => by
    obtain ⟨c1, n, c2, c3, c4⟩ := hd
    refine .cons ⟨c1, n, c2, c3, kk.get c4 ?_⟩ (adj_dk h kk (fun x hx => hne x (List.mem_cons_of_mem _ hx)) t)
    obtain ⟨_, gs, w, t, d1, d2, _⟩ := h
    obtain ⟨y, ys, ey⟩ := List.exists_cons_of_ne_nil (hne x (by simp))
    rw [ey] at c4
    simp only [List.mem_cons, List.not_mem_nil, or_false, not_or]
    constructor
    · rintro rfl
      rw [c4] at d1
      have d1 := Cell.lst.inj (Option.some.inj d1)
      cases y <;> simp [Pl.d] at d1
    · rintro rfl
      rw [c4] at d2
      have d2 := Cell.lst.inj (Option.some.inj d2)
      cases gs with
      | nil => simp at d2
      | cons a gs => cases y <;> simp [Pl.d] at d2
theorem gwE_spec (H : Hs g S ps R) (NX : Nx μ F S ps) (hx : IsPl S ps x) {ρ : Rho} (h3 : ρ[3]? = some (some (houseD R ps))) (h4 : ρ[4]? = some (some (.ref F))) (h7 : ρ[7]? = some (some x.d)) : ∃ μ', gwE ρ μ = .ok (.nx ρ) μ' ∧ Keep [] μ μ' := by
  obtain ⟨z, l, ez⟩ := nbr_ne H hx
  have hz := (mem_nbr H.M H.hok hx).mp (sortE_perm.mem_iff.mp (show z ∈ sortE penc (nbr ps x) by rw [ez]; simp))
  obtain ⟨n, Dn⟩ := Dir.ex (g := g) (S := S) hz
  obtain ⟨μ1, q1, k1⟩ := depth_spec (R := R) (μ := μ) H.M H.hok H.h16 H.hS hx Dn
  obtain ⟨μ2, q2, k2⟩ := deep_spec H.M H.hok H.h16 (NX.keep k1) ((geo H.M H.hok).dist x hx) Dn
  have gz : ∀ μ', Keep [] μ μ' → gwZ ρ μ' = .ok z.d μ' := fun μ' kk => by
    obtain ⟨m, ix, em⟩ := (NX.keep kk).get hx
    rw [ez] at em
    exact bin_is (bin_is (μ1 := μ') (μ2 := μ') (p := .ref F) (q := x.d) (by simp only [mVar, h4]) (by simp only [mVar, h7]) ix) rfl (ix_lst em (by decide) rfl)
  have c1 : mB m_depth (mCons (mVar 3) (mCons (mVar 7) (mCons gwZ (mNil)))) ρ μ = .ok (.int n) μ1 := call3 (by simp only [mVar, h3]) (by simp only [mVar, h7]) (gz μ .refl) q1
  have c2 : mB m_law_deep (mCons (mVar 4) (mCons (mVar 7) (mCons gwZ (mNil)))) ρ μ1 = .ok (.int n) μ2 := call3 (by simp only [mVar, h4]) (by simp only [mVar, h7]) (gz μ1 k1) q2
  have c3 : mBin neD (mB m_depth (mCons (mVar 3) (mCons (mVar 7) (mCons gwZ (mNil))))) (mB m_law_deep (mCons (mVar 4) (mCons (mVar 7) (mCons gwZ (mNil))))) ρ μ = .ok (.bl false) μ2 := bin_is c1 c2 (by rw [neI]; simp)
  refine ⟨μ2, (if_f (μ1 := μ2) ?_).trans rfl, k1.trans k2⟩
  simp only [mTest, c3, Res.bind]
theorem gwR_spec (H : Hs g S ps R) (h : Dk μ k c N) (hN : N + 100 < 1000000) {o0 o2 o4 o5 o6 o7 o8 o9 o10 o11 : Option D} :
    ∃ (b4 b5 b6 b7 b8 b9 b10 b11 : Option D) (μ' : Mem), gwR [o0, some (.ref k), o2, some (houseD R ps), o4, o5, o6, o7, o8, o9, o10, o11] μ = .ok (.nx [o0, some (.ref k), o2, some (houseD R ps), b4, b5, b6, b7, b8, b9, b10, b11]) μ' ∧ Dk μ' k c (N + 10) := by
  obtain ⟨F, l, keys, μ1, q1, hF, e1, nd, hk, h7, P, k1⟩ := nexts_spec (μ := μ) (R := R) H.M H.rng H.r16 H.h16 H.sh
  have lk := h.lt
  have s1 := h.keep k1 (by simp) (by simp)
  obtain ⟨T, μ2, q2, hT, hT2, s2, k2⟩ := gwM_spec s1 (by omega) (ρ := [o0, some (.ref k), o2, some (houseD R ps), some (.ref F), o5, o6, o7, o8, o9, o10, o11]) rfl
  obtain ⟨μ3, q3, k3⟩ := greater_spec (R := R) (μ := μ2) H.h16 hT2
  have s3 := s2.keep k3 (by simp) (by simp)
  have k13 : Keep [k, c] μ1 μ3 := k2.trans (k3.mono (by simp))
  have hFk : F ≠ k := by omega
  have hFc : F ≠ c := by omega
  have hne : ∀ x ∈ keys.map (fun x => (x, sortE penc (nbr ps x))), x.2 ≠ [] := fun x hx => by
    obtain ⟨y, hy, rfl⟩ := List.mem_map.mp hx
    obtain ⟨z, l, e⟩ := nbr_ne H ((hk y).mp hy)
    show sortE penc (nbr ps y) ≠ []
    rw [e]; simp
  have e3 : μ3[F]? = some (.tdic l) := k13.get e1 (by simp [hFk, hFc])
  have P3 := adj_dk s1 k13 hne P
  let μL : Mem := μ3.set F (.lck true l)
  have eL : μL[F]? = some (.lck true l) := set_at (at_lt e3)
  have PL : Paired (Cellp μL F) l (keys.map fun x => (x, sortE penc (nbr ps x))) := adj_keep P3 (Keep.set (by simp))
  obtain ⟨b7, b8, b9, b10, b11, μ4, q4, k4⟩ := gwK_spec (μ := μL) (T := T) H eL nd hk h7 PL hT hT2 (o0 := o0) (o1 := some (.ref k)) (o2 := o2) (o7 := o7) (o8 := o8) (o9 := o9) (o10 := o10) (o11 := o11)
  let μ5 : Mem := μ4.set F (.tdic l)
  have z4 := k4.1
  have zL : μL.length = μ3.length := by simp [μL]
  have lF := at_lt e3
  have k35 : Keep [F] μ3 μ5 := (Keep.set (by simp)).trans ((k4.mono (by simp)).trans (Keep.set (by simp)))
  have e5 : μ5[F]? = some (.tdic l) := set_at (by omega)
  have P5 : Paired (Cellp μ5 F) l (keys.map fun x => (x, sortE penc (nbr ps x))) := adj_keep P3 k35
  have s5 : Dk μ5 k c (N + 1) := s3.keep k35 (by simp; omega) (by simp; omega)
  have so := sorted_dict e5 h7 P5
  let μ6 : Mem := μ5 ++ [.lst ((sortE penc keys).map Pl.d)]
  have s6 : Dk μ6 k c (N + 1) := s5.app
  have hll : l.length = keys.length := by rw [Paired.length P5, List.length_map]
  have e6 : μ6[F]? = some (.tdic l) := app_at e5
  have ll : lenX [.ref F] μ6 = .ok (.int (keys.length : Int)) μ6 := by
    simp only [lenX, e6, hll]
  have kpos : 0 < keys.length := by
    have : (Pl.room 0) ∈ keys := (hk _).mpr (show (0 : Int) ∈ S from (H.rng 0).mpr (by have := H.r2; omega))
    exact List.length_pos_of_mem this
  obtain ⟨v, μ7, q7, v0, v1, s7, k7⟩ := next_spec (j := (keys.length : Int)) s6 (by omega) (by omega) (by omega)
  have hsl : (sortE penc keys).length = keys.length := sortE_perm.length_eq
  obtain ⟨x, ex⟩ : ∃ x, (sortE penc keys)[v.toNat]? = some x := ⟨_, List.getElem?_eq_getElem (by omega)⟩
  have hx : IsPl S ps x := (hk x).mp (sortE_perm.mem_iff.mp (List.mem_of_getElem? ex))
  have l5 : k < μ5.length ∧ c < μ5.length := s5.lt
  have e7 : μ7[μ5.length]? = some (.lst ((sortE penc keys).map Pl.d)) := k7.get app_new (by simp; omega)
  have ix : idxA (.ref μ5.length) (.int v) μ7 = .ok x.d μ7 := ix_lst e7 v0 (by rw [List.getElem?_map, ex]; rfl)
  have P6 : Paired (Cellp μ6 F) l (keys.map fun x => (x, sortE penc (nbr ps x))) := adj_keep P5 Keep.app
  have P7 := adj_dk s6 k7 hne P6
  have NX : Nx μ7 F S ps := ⟨l, keys, .inr (k7.get e6 (by simp [hFk, hFc])), nd, hk, h7, P7⟩
  obtain ⟨μ8, q8, k8⟩ := gwE_spec H NX hx (ρ := [o0, some (.ref k), o2, some (houseD R ps), some (.ref F), some (.int T), some (houseD R (ps.map (gp T))), some x.d, b8, b9, b10, b11]) rfl rfl rfl
  refine ⟨some (.ref F), some (.int T), some (houseD R (ps.map (gp T))), some x.d, b8, b9, b10, b11, μ8, ?_, (s7.keep k8 (by simp) (by simp)).mono (by omega)⟩
  unfold gwR
  refine (seq_set (call1e rfl q1)).trans ?_
  refine (seq_set q2).trans ?_
  refine (seq_set (call2e rfl rfl q3)).trans ?_
  refine (seq_run (lock_n rfl e3 q4)).trans ?_
  refine (seq_set (d := x.d) (μ1 := μ7) ?_).trans q8
  exact bin_is (call1e rfl so) (call2e rfl (call1e rfl ll) q7) ix
theorem gwT_spec (h : Dk μ k c N) (hN : N + 2000 < 1000000) {o0 o2 o3 o4 o5 o6 o7 o8 o9 o10 o11 : Option D} :
    ∃ (b3 b4 b5 b6 b7 b8 b9 b10 b11 : Option D) (μ' : Mem), gwT [o0, some (.ref k), o2, o3, o4, o5, o6, o7, o8, o9, o10, o11] μ = .ok (.nx [o0, some (.ref k), o2, b3, b4, b5, b6, b7, b8, b9, b10, b11]) μ' ∧ Dk μ' k c (N + 1030) := by
  obtain ⟨R, ps, μ1, q1, Hh, r2, r6, hl, hfl, s1, k1⟩ := house_spec (top := 5) (most := 6) h (by omega) (by decide) (by decide) (by decide) (by decide)
  obtain ⟨g, S, H⟩ := Hh.hs r2 (by omega) (fun p hp => by have := hl p hp; omega)
  obtain ⟨x, μ2, q2, x0, x1, s2, k2⟩ := next_spec (j := 3) s1 (by omega) (by decide) (by decide)
  have fin : ∀ (ps' : List Pipe) (μ3 : Mem), Hs g S ps' R → gwH [o0, some (.ref k), o2, some (houseD R ps), o4, o5, o6, o7, o8, o9, o10, o11] μ1 = .ok (.nx [o0, some (.ref k), o2, some (houseD R ps'), o4, o5, o6, o7, o8, o9, o10, o11]) μ3 → Dk μ3 k c (N + 1020) →
      ∃ (b3 b4 b5 b6 b7 b8 b9 b10 b11 : Option D) (μ' : Mem), gwT [o0, some (.ref k), o2, o3, o4, o5, o6, o7, o8, o9, o10, o11] μ = .ok (.nx [o0, some (.ref k), o2, b3, b4, b5, b6, b7, b8, b9, b10, b11]) μ' ∧ Dk μ' k c (N + 1030) := fun ps' μ3 H' q3 s3 => by
    obtain ⟨b4, b5, b6, b7, b8, b9, b10, b11, μ4, q4, s4⟩ := gwR_spec (μ := μ3) H' s3 (by omega) (o0 := o0) (o2 := o2) (o4 := o4) (o5 := o5) (o6 := o6) (o7 := o7) (o8 := o8) (o9 := o9) (o10 := o10) (o11 := o11)
    refine ⟨some (houseD R ps'), b4, b5, b6, b7, b8, b9, b10, b11, μ4, ?_, s4.mono (by omega)⟩
    unfold gwT
    exact (seq_set (call3 rfl rfl rfl q1)).trans ((seq_run q3).trans q4)
  have nx : ∀ {ρ : Rho}, ρ[1]? = some (some (.ref k)) → (mTest (mBin eqD (mB m_law_next (mCons (mVar 1) (mCons (mC (.int 3)) (mNil)))) (mC (.int 0)))) ρ μ1 = .ok (decide (x = 0)) μ2 := fun {ρ} h1 => by
    simp only [mTest, mBin, mB, mCons, mNil, mVar, mC, h1, Res.bind, q2, eqI]
  by_cases hx : x = 0
  · have hne : ps ≠ [] := fun e => by have := Hh.len; rw [e] at this; simp at this; omega
    obtain ⟨q, p, y, s, μ3, q3, ep, y0, y1, hs, s3, k3⟩ := hung_spec (R := R) s2 (by omega) hne H.h16 (fun p hp => ⟨H.hok p hp, by have := hl p hp; omega⟩)
    refine fin _ μ3 (H.swap (p' := { p with fl := [(y, s)] }) ep rfl rfl rfl fun hm => ?_) ?_ (s3.mono (by omega))
    · have := hfl _ hm
      simp at this
    · have c1 := nx (ρ := [o0, some (.ref k), o2, some (houseD R ps), o4, o5, o6, o7, o8, o9, o10, o11]) rfl
      rw [hx] at c1
      exact (if_t c1).trans (set_is (call2e rfl rfl q3))
  · have c1 := nx (ρ := [o0, some (.ref k), o2, some (houseD R ps), o4, o5, o6, o7, o8, o9, o10, o11]) rfl
    rw [decide_eq_false hx] at c1
    exact fin ps μ2 H ((if_f c1).trans rfl) (s2.mono (by omega))
end
end K43

/-! k43: the law. -/
namespace K43
open PySem L2 RW
theorem math (ns : List Int) (hn : ns.length ≤ 63) : ∃ μ, m_law [.frl (ns.map D.int)] [] = .ok (.bl true) μ := by
  obtain ⟨k, c, μ1, q1, s1⟩ := begin_spec ns hn
  have loop := forL_ok (chk := fun _ => True) (g := gN 2) (body := gwT) (rangeItems 0 3)
    (fun i ρ μ' => i ≤ 3 ∧ ∃ o2 o3 o4 o5 o6 o7 o8 o9 o10 o11, ρ = [some (.frl (ns.map D.int)), some (.ref k), o2, o3, o4, o5, o6, o7, o8, o9, o10, o11] ∧ Dk μ' k c (1 + 1030 * i)) 0
    (ρ := [some (.frl (ns.map D.int)), some (.ref k), none, none, none, none, none, none, none, none, none, none]) (μ := μ1) ⟨by omega, none, none, none, none, none, none, none, none, none, none, rfl, s1.mono (by omega)⟩ (fun _ _ _ _ => trivial)
    (fun i d ρ μ' ed ⟨hi, o2, o3, o4, o5, o6, o7, o8, o9, o10, o11, eρ, s⟩ => by
      simp only [Nat.zero_add] at s hi ⊢
      subst eρ
      have hi2 := (Q.range_at ed).1
      obtain ⟨b3, b4, b5, b6, b7, b8, b9, b10, b11, μ2, q2, s2⟩ := gwT_spec s (by omega) (o0 := some (.frl (ns.map D.int))) (o2 := some d) (o3 := o3) (o4 := o4) (o5 := o5) (o6 := o6) (o7 := o7) (o8 := o8) (o9 := o9) (o10 := o10) (o11 := o11)
      exact .mk (a := [some (.frl (ns.map D.int)), some (.ref k), some d, o3, o4, o5, o6, o7, o8, o9, o10, o11]) (μ := μ') rfl (.mk q2 ⟨_, .inl rfl, by omega, _, _, _, _, _, _, _, _, _, _, rfl, s2.mono (by omega)⟩))
  obtain ⟨f, μ3, w, ρ', rfl, hi, o2, o3, o4, o5, o6, o7, o8, o9, o10, o11, rfl, s3⟩ := loop
  refine ⟨μ3, run_is ?_⟩
  rw [law_eq]
  refine (seq_set (d := .ref k) (μ1 := μ1) (call1e rfl q1)).trans ?_
  show sSeq _ _ [some (.frl (ns.map D.int)), some (.ref k), none, none, none, none, none, none, none, none, none, none] μ1 = _
  exact (seq_run (for_run (ir1 (n := 3) (e := mC (.int 3)) rfl (by decide)) w)).trans (ret_is rfl)
end K43

open PySem PySem.W PyProof.Rows
set_option maxRecDepth 100000 in
set_option maxHeartbeats 0 in
theorem PySem.Challenge.cw_ropewarren_k43_depths_by_going_holds : PySem.Challenge.rw_ropewarren_k43_depths_by_going.Holds := by
  w_on; o_law; k_head; (case hw => w_witness2)
  k_fill
  refine K43.walk (l := PySem.Challenge.rw_ropewarren_k43_depths_by_going) rfl rfl (fun w h Y => PySem.W.kIn_of Y) ?F
  case F =>
    intro w mg fa h KX G hmg
    refine' K43.all_mk KX G hmg ?a_law_begin ?l_law_begin ?c_law_begin ?k_law_begin ?a_law_next ?l_law_next ?c_law_next ?k_law_next ?a_law_house ?l_law_house ?c_law_house ?k_law_house ?a_law_spot ?l_law_spot ?c_law_spot ?k_law_spot ?a_law_nexts ?l_law_nexts ?c_law_nexts ?k_law_nexts ?a_law_greater ?l_law_greater ?c_law_greater ?k_law_greater ?a_law_hung ?l_law_hung ?c_law_hung ?k_law_hung ?a_pipes_at ?l_pipes_at ?c_pipes_at ?k_pipes_at ?a_place_at ?l_place_at ?c_place_at ?k_place_at ?a_rest_beyond ?l_rest_beyond ?c_rest_beyond ?k_rest_beyond ?a_arms_of ?l_arms_of ?c_arms_of ?k_arms_of ?a_depth ?l_depth ?c_depth ?k_depth ?a_law_deep ?l_law_deep ?c_law_deep ?k_law_deep ?a_law_led ?l_law_led ?c_law_led ?k_law_led ?a_law_toward ?l_law_toward ?c_law_toward ?k_law_toward ?a_law_same ?l_law_same ?c_law_same ?k_law_same ?a_law ?l_law ?c_law ?k_law ?z_abs ?z_bool ?z_dict ?z_enumerate ?z_int ?z_isinstance ?z_len ?z_max ?z_min ?z_range ?z_sorted ?z_str ?z_tuple ?z_zip K43.math
    (case a_law_begin => k_is)
    (case l_law_begin => k_is)
    (case c_law_begin => k_is)
    (case k_law_begin => k_is)
    (case a_law_next => k_is)
    (case l_law_next => k_is)
    (case c_law_next => k_is)
    (case k_law_next => k_is)
    (case a_law_house => k_is)
    (case l_law_house => k_is)
    (case c_law_house => k_is)
    (case k_law_house => k_is)
    (case a_law_spot => k_is)
    (case l_law_spot => k_is)
    (case c_law_spot => k_is)
    (case k_law_spot => k_is)
    (case a_law_nexts => k_is)
    (case l_law_nexts => k_is)
    (case c_law_nexts => k_is)
    (case k_law_nexts => k_is)
    (case a_law_greater => k_is)
    (case l_law_greater => k_is)
    (case c_law_greater => k_is)
    (case k_law_greater => k_is)
    (case a_law_hung => k_is)
    (case l_law_hung => k_is)
    (case c_law_hung => k_is)
    (case k_law_hung => k_is)
    (case a_pipes_at => k_is)
    (case l_pipes_at => k_is)
    (case c_pipes_at => k_is)
    (case k_pipes_at => k_is)
    (case a_place_at => k_is)
    (case l_place_at => k_is)
    (case c_place_at => k_is)
    (case k_place_at => k_is)
    (case a_rest_beyond => k_is)
    (case l_rest_beyond => k_is)
    (case c_rest_beyond => k_is)
    (case k_rest_beyond => k_is)
    (case a_arms_of => k_is)
    (case l_arms_of => k_is)
    (case c_arms_of => k_is)
    (case k_arms_of => k_is)
    (case a_depth => k_is)
    (case l_depth => k_is)
    (case c_depth => k_is)
    (case k_depth => k_is)
    (case a_law_deep => k_is)
    (case l_law_deep => k_is)
    (case c_law_deep => k_is)
    (case k_law_deep => k_is)
    (case a_law_led => k_is)
    (case l_law_led => k_is)
    (case c_law_led => k_is)
    (case k_law_led => k_is)
    (case a_law_toward => k_is)
    (case l_law_toward => k_is)
    (case c_law_toward => k_is)
    (case k_law_toward => k_is)
    (case a_law_same => k_is)
    (case l_law_same => k_is)
    (case c_law_same => k_is)
    (case k_law_same => k_is)
    (case a_law => k_is)
    (case l_law => k_is)
    (case c_law => k_is)
    (case k_law => k_is)
    (case z_abs => k_is)
    (case z_bool => k_is)
    (case z_dict => k_is)
    (case z_enumerate => k_is)
    (case z_int => k_is)
    (case z_isinstance => k_is)
    (case z_len => k_is)
    (case z_max => k_is)
    (case z_min => k_is)
    (case z_range => k_is)
    (case z_sorted => k_is)
    (case z_str => k_is)
    (case z_tuple => k_is)
    (case z_zip => k_is)
