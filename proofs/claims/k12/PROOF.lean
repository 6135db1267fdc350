import PyProof.Rows.All
import Wide.All
import OpenK.AllK
import Wide.FinOn
import HandS.Base
import HandS.Call
import HandS.List
import HandS.Comp
import HandS.Ends
import HandS.Exc
import HandS.TryOnly
import HandS.ExcOwn
import HandS.Words
import HandS.Strs
import KE.KeyNested
import PyProof.DictRoadsH
import PyProof.DictStraight
import HandS.TupAny
import HandS.Wide
import HandS.More
import HandS.WordsExc
import HandS.Dict
import KE.KDictDisplayH
import HandS.Iter
import KE.KDictWalk
import KE.GoesMore
import PyProof.EnumMake
import HandS.SetFor
import HandS.SortInts
import HandS.IsInst
import HandS.ForMost
import HandS.Style
import HandS.Rev
import HandS.Conv
import KE.SortData
import PyProof.ReprRoads
import PyProof.ReprBulk
import PyProof.CallFns
import HandS.RaiseMore
import PySem.Challenge.RW_ropewarren_k12_bits
set_option Elab.async false
set_option linter.all false
set_option maxRecDepth 100000
/-! SEa: values as data (tuples are values), an own memory of cells, and how both stand in HandS's abstract heap. -/
namespace RW
open PySem L2

inductive D where
  | non | bl (b : Bool) | int (i : Int) | str (s : Str) | tup (l : List D) | frl (l : List D) | ref (n : Nat) | fn (x : Str)
instance : Inhabited D := ⟨.non⟩
inductive Cell where
  | lst (l : List D) | dic (l : List (D × D)) | tdic (l : List (D × D)) | iset (l : List Int) | lck (t : Bool) (l : List (D × D)) | ins (c : Str) (fs : List (Str × D))
abbrev Mem := List Cell
abbrev Rho := List (Option D)
inductive Res (α : Type) where
  | ok (a : α) (m : Mem) | exc (c : Str) (fs : List D) (m : Mem) | stuck
@[simp] def Res.bind {α β : Type} (r : Res α) (k : α → Mem → Res β) : Res β := match r with
  | .ok a m => k a m
  | .exc c fs m => .exc c fs m
  | .stuck => .stuck
theorem Res.bind_assoc {α β γ : Type} (r : Res α) (k : α → Mem → Res β) (k' : β → Mem → Res γ) : (r.bind k).bind k' = r.bind fun a m => (k a m).bind k' := by
  cases r <;> rfl

/-! ### how data stand in the heap -/
/-- what stays through the whole law -/
structure Gd where
  P : Program
  w : World
  K : PySem.W.Frag
  mg : Str → Option Value
section
variable (G : Gd) (ι : List Addr) (H : Hp)
/-- at a stands a list that nobody changes -/
def FrL (a : Addr) (vs : List V) : Prop := (∃ o, H a = some (.frz o (.lst vs))) ∨
  ∃ (o : Obj) (its : Array Value) (n : Nat), G.K.lookup a = some o ∧ o.cls = .type "list" ∧ o.dict = none ∧ o.data = .seq its n ∧ its.size ≤ sizeLine ∧ Vals vs its.toList
theorem FrL.sq {a : Addr} {vs : List V} (h : FrL G H a vs) : SqL G.K H a vs := by
  rcases h with ⟨o, h⟩ | h
  · exact .inl (.inr ⟨o, h⟩)
  · exact .inr h
mutual
def Rep : D → V → Prop
  | .non, v => v = .non
  | .bl b, v => v = .bl b
  | .int i, v => v = .int i
  | .str s, v => v = .str s
  | .ref n, v => ∃ a, ι[n]? = some a ∧ v = .ref a
  | .fn x, v => ∃ a, G.mg x = some (.ref a) ∧ v = .ref a
  | .tup l, v => ∃ a vs, v = .ref a ∧ SqT G.K H a vs ∧ Reps l vs
  | .frl l, v => ∃ a vs, v = .ref a ∧ FrL G H a vs ∧ Reps l vs
def Reps : List D → List V → Prop
  | [], vs => vs = []
  | d :: l, vs => ∃ v r, vs = v :: r ∧ Rep d v ∧ Reps l r
end
end
section
variable {G : Gd} {ι : List Addr} {H : Hp}
theorem Reps.nil : Reps G ι H [] [] := by unfold Reps; rfl
theorem Reps.cons {d : D} {v : V} {l : List D} {r : List V} (h : Rep G ι H d v) (t : Reps G ι H l r) : Reps G ι H (d :: l) (v :: r) := by
  unfold Reps; exact ⟨v, r, rfl, h, t⟩
theorem Reps.nil_inv {vs : List V} (h : Reps G ι H [] vs) : vs = [] := by unfold Reps at h; exact h
theorem Reps.cons_inv {d : D} {l : List D} {vs : List V} (h : Reps G ι H (d :: l) vs) : ∃ v r, vs = v :: r ∧ Rep G ι H d v ∧ Reps G ι H l r := by
  unfold Reps at h; exact h
theorem Reps.length : ∀ {l : List D} {vs : List V}, Reps G ι H l vs → vs.length = l.length
  | [], _, h => by rw [h.nil_inv]; rfl
  | d :: l, _, h => by
    obtain ⟨v, r, rfl, _, t⟩ := h.cons_inv
    simp [Reps.length t]
theorem Reps.get : ∀ {l : List D} {vs : List V} {i : Nat} {d : D}, Reps G ι H l vs → l[i]? = some d → ∃ v, vs[i]? = some v ∧ Rep G ι H d v
  | [], _, _, _, _, e => by simp at e
  | d :: l, _, i, x, h, e => by
    obtain ⟨v, r, rfl, h1, t⟩ := h.cons_inv
    cases i with
    | zero => simp at e; subst e; exact ⟨v, rfl, h1⟩
    | succ i => simpa using Reps.get t (by simpa using e)
theorem Reps.get' {l : List D} {vs : List V} {i : Nat} {v : V} (h : Reps G ι H l vs) (e : vs[i]? = some v) : ∃ d, l[i]? = some d ∧ Rep G ι H d v := by
  have hl := h.length
  have hi : i < vs.length := (List.getElem?_eq_some_iff.mp e).1
  have e2 : l[i]? = some l[i] := List.getElem?_eq_getElem (by omega)
  obtain ⟨v', e3, r⟩ := h.get e2
  rw [e] at e3; cases e3
  exact ⟨_, e2, r⟩
theorem Reps.append : ∀ {l l' : List D} {vs vs' : List V}, Reps G ι H l vs → Reps G ι H l' vs' → Reps G ι H (l ++ l') (vs ++ vs')
  | [], _, _, _, h, h' => by rw [h.nil_inv]; exact h'
  | d :: l, _, _, _, h, h' => by
    obtain ⟨v, r, rfl, h1, t⟩ := h.cons_inv
    exact .cons h1 (Reps.append t h')
theorem Reps.set : ∀ {l : List D} {vs : List V} (i : Nat) {d : D} {v : V}, Reps G ι H l vs → Rep G ι H d v → Reps G ι H (l.set i d) (vs.set i v)
  | [], _, _, _, _, h, _ => by rw [h.nil_inv]; exact .nil
  | x :: l, _, 0, _, _, h, h' => by
    obtain ⟨v, r, rfl, h1, t⟩ := h.cons_inv
    exact .cons h' t
  | x :: l, _, i + 1, _, _, h, h' => by
    obtain ⟨v, r, rfl, h1, t⟩ := h.cons_inv
    exact .cons h1 (Reps.set i t h')
theorem Reps.take : ∀ {l : List D} {vs : List V} (n : Nat), Reps G ι H l vs → Reps G ι H (l.take n) (vs.take n)
  | _, _, 0, _ => by simp; exact .nil
  | [], _, n + 1, h => by rw [h.nil_inv]; simp; exact .nil
  | d :: l, _, n + 1, h => by
    obtain ⟨v, r, rfl, h1, t⟩ := h.cons_inv
    simp; exact .cons h1 (Reps.take n t)
theorem Reps.drop : ∀ {l : List D} {vs : List V} (n : Nat), Reps G ι H l vs → Reps G ι H (l.drop n) (vs.drop n)
  | _, _, 0, h => by simpa using h
  | [], _, n + 1, h => by rw [h.nil_inv]; simp; exact .nil
  | d :: l, _, n + 1, h => by
    obtain ⟨v, r, rfl, h1, t⟩ := h.cons_inv
    simp; exact Reps.drop n t
theorem Reps.reverse : ∀ {l : List D} {vs : List V}, Reps G ι H l vs → Reps G ι H l.reverse vs.reverse
  | [], _, h => by rw [h.nil_inv]; exact .nil
  | d :: l, _, h => by
    obtain ⟨v, r, rfl, h1, t⟩ := h.cons_inv
    rw [List.reverse_cons, List.reverse_cons]
    exact (Reps.reverse t).append (.cons h1 .nil)
theorem Reps.ints : ∀ {ns : List Int} {vs : List V}, Reps G ι H (ns.map D.int) vs → vs = ns.map V.int
  | [], _, h => h.nil_inv
  | n :: ns, _, h => by
    obtain ⟨v, r, rfl, h1, t⟩ := h.cons_inv
    unfold Rep at h1
    rw [h1, Reps.ints t]; rfl
theorem Reps.of_ints : ∀ (ns : List Int), Reps G ι H (ns.map D.int) (ns.map V.int)
  | [] => .nil
  | n :: ns => .cons (by unfold Rep; rfl) (Reps.of_ints ns)
theorem Reps.strs : ∀ {ns : List Str} {vs : List V}, Reps G ι H (ns.map D.str) vs → vs = ns.map V.str
  | [], _, h => h.nil_inv
  | n :: ns, _, h => by
    obtain ⟨v, r, rfl, h1, t⟩ := h.cons_inv
    unfold Rep at h1
    rw [h1, Reps.strs t]; rfl
theorem Reps.of_strs : ∀ (ns : List Str), Reps G ι H (ns.map D.str) (ns.map V.str)
  | [] => .nil
  | n :: ns => .cons (by unfold Rep; rfl) (Reps.of_strs ns)
theorem Reps.bls : ∀ {ns : List Bool} {vs : List V}, Reps G ι H (ns.map D.bl) vs → vs = ns.map V.bl
  | [], _, h => h.nil_inv
  | n :: ns, _, h => by
    obtain ⟨v, r, rfl, h1, t⟩ := h.cons_inv
    unfold Rep at h1
    rw [h1, Reps.bls t]; rfl
end

/-- what stays: the tuples, the locked lists; places of cells -/
structure Ext (ι : List Addr) (H : Hp) (ι' : List Addr) (H' : Hp) : Prop where
  pre : ι <+: ι'
  tup : ∀ a xs, H a = some (.tup xs) → H' a = some (.tup xs)
  frz : ∀ a o u, H a = some (.frz o u) → (∃ xs, u = .lst xs ∨ u = .tup xs) → H' a = some (.frz o u)
section
variable {G : Gd} {ι ι' : List Addr} {H H' : Hp}
theorem prefix_get {ι ι' : List Addr} (p : ι <+: ι') {n : Nat} {a : Addr} (h : ι[n]? = some a) : ι'[n]? = some a := by
  obtain ⟨t, rfl⟩ := p
  rw [List.getElem?_append_left (List.getElem?_eq_some_iff.mp h).1]; exact h
mutual
theorem Rep.ext (x : Ext ι H ι' H') : ∀ {d : D} {v : V}, Rep G ι H d v → Rep G ι' H' d v
  | .non, _, h => by unfold Rep at h ⊢; exact h
  | .bl _, _, h => by unfold Rep at h ⊢; exact h
  | .int _, _, h => by unfold Rep at h ⊢; exact h
  | .str _, _, h => by unfold Rep at h ⊢; exact h
  | .fn _, _, h => by unfold Rep at h ⊢; exact h
  | .ref n, _, h => by
    unfold Rep at h ⊢
    obtain ⟨a, h1, h2⟩ := h
    exact ⟨a, prefix_get x.pre h1, h2⟩
  | .tup l, _, h => by
    unfold Rep at h ⊢
    obtain ⟨a, vs, h1, h2, h3⟩ := h
    refine ⟨a, vs, h1, ?_, Reps.ext x h3⟩
    rcases h2 with (h2 | ⟨o, h2⟩) | h2
    · exact .inl (.inl (x.tup _ _ h2))
    · exact .inl (.inr ⟨o, x.frz _ _ _ h2 ⟨_, .inr rfl⟩⟩)
    · exact .inr h2
  | .frl l, _, h => by
    unfold Rep at h ⊢
    obtain ⟨a, vs, h1, h2, h3⟩ := h
    refine ⟨a, vs, h1, ?_, Reps.ext x h3⟩
    rcases h2 with ⟨o, h2⟩ | h2
    · exact .inl ⟨o, x.frz _ _ _ h2 ⟨_, .inl rfl⟩⟩
    · exact .inr h2
theorem Reps.ext (x : Ext ι H ι' H') : ∀ {l : List D} {vs : List V}, Reps G ι H l vs → Reps G ι' H' l vs
  | [], _, h => by rw [h.nil_inv]; exact .nil
  | d :: l, _, h => by
    obtain ⟨v, r, rfl, h1, t⟩ := h.cons_inv
    exact .cons (Rep.ext x h1) (Reps.ext x t)
end
end

/-! ### cells -/
/-- keys of a plain dict: ints and texts -/
def D.key? : D → Option Key
  | .int i => some (.inl i)
  | .str s => some (.inr s)
  | _ => none
section
variable (G : Gd) (ι : List Addr) (H : Hp)
abbrev RepP : (D × D) → (Key × V) → Prop := fun p q => p.1.key? = some q.1 ∧ Rep G ι H p.2 q.2
abbrev RepF : (Str × D) → (Str × V) → Prop := fun p q => p.1 = q.1 ∧ Rep G ι H p.2 q.2
/-- the dict object at a, its keys nested tuples -/
def tdPhi (a : Addr) (xs : List (NestedKey × Addr × Value)) : Heap → Prop := fun h => ∃ o es ep, h.get? a = some o ∧ o.ExactDict ∧ o.data = .dict es ep ∧ es.toList = xs.map (entryOfKey (nestedKind G.P G.w))
mutual
def D.nk? : D → Option NestedKey
  | .non => some .none
  | .bl b => some (.num (if b = true then 1 else 0))
  | .int i => some (.num i)
  | .str s => some (.text s)
  | .tup l => (D.nks? l).map NestedKey.tup
  | _ => none
def D.nks? : List D → Option (List NestedKey)
  | [] => some []
  | d :: l => match D.nk? d, D.nks? l with
    | some k, some r => some (k :: r)
    | _, _ => none
end
abbrev RepT : (D × D) → (NestedKey × Addr × Value) → Prop := fun p x => p.1.nk? = some x.1 ∧ x.1.depth ≤ 8 ∧ Rep G ι H p.1 (.ref x.2.1) ∧ ∃ v, Rep G ι H p.2 v ∧ RelV v x.2.2
def CellOk (a : Addr) : Cell → Prop
  | .lst l => ∃ vs, H a = some (.lst vs) ∧ Reps G ι H l vs
  | .dic l => ∃ kvs, H a = some (.dK kvs) ∧ Paired (RepP G ι H) l kvs
  | .tdic l => ∃ xs, H a = some (.ext (tdPhi G a xs)) ∧ Paired (RepT G ι H) l xs ∧ (xs.map (·.1)).Nodup ∧ xs.length ≤ sizeLine ∧ (a == sysModules) = false
  | .iset l => H a = some (SetO G.w a (fun i => decide (i ∈ l)) l.length) ∧ l.Pairwise (· < ·)
  | .lck false l => ∃ od kvs, H a = some (.frz od (.dK kvs)) ∧ Paired (RepP G ι H) l kvs
  | .lck true l => ∃ od xs, H a = some (.frz od (.ext (tdPhi G a xs))) ∧ Paired (RepT G ι H) l xs ∧ (xs.map (·.1)).Nodup ∧ xs.length ≤ sizeLine ∧ (a == sysModules) = false
  | .ins c fs => ∃ C dx gs, G.mg c = some (.ref C) ∧ H a = some (.ins C dx gs) ∧ Paired (RepF G ι H) fs gs
structure Rel (μ : Mem) : Prop where
  len : ι.length = μ.length
  nd : ι.Nodup
  cell : ∀ (i : Nat) (c : Cell) (a : Addr), μ[i]? = some c → ι[i]? = some a → CellOk G ι H a c
/-- the environment -/
structure EnvOk (ρ : Rho) (σ : St) : Prop where
  len : ρ.length = σ.length
  at_ : ∀ (i : Nat) (d : D), ρ[i]? = some (some d) → ∃ v, σ[i]? = some (some v) ∧ Rep G ι H d v
end
end RW

/-! SEb: what grows; mirrors of expressions and statements; the judgements. -/
namespace RW
open PySem L2
def gOf (X : Cx) : Gd := ⟨X.prog, X.w, X.K, X.mg⟩

structure Grow (ι : List Addr) (H : Hp) (ι' : List Addr) (H' : Hp) : Prop where
  pre : ι <+: ι'
  keep : ∀ a o, H a = some o → a ∉ ι → H' a = some o
  new : ∀ a ∈ ι', a ∈ ι ∨ H a = none
  lock : ∀ a o u, H a = some (.frz o u) → H' a = some (.frz o u)
section
variable {G : Gd} {ι ι' ι2 : List Addr} {H H' H2 : Hp} {μ μ' : Mem} {ρ : Rho} {σ : St}
theorem Grow.refl : Grow ι H ι H := ⟨List.prefix_refl _, fun _ _ h _ => h, fun _ h => .inl h, fun _ _ _ h => h⟩
theorem Grow.trans (a : Grow ι H ι' H') (b : Grow ι' H' ι2 H2) : Grow ι H ι2 H2 := by
  refine ⟨a.pre.trans b.pre, fun x o h n => ?_, fun x h => ?_, fun x o u h => b.lock x o u (a.lock x o u h)⟩
  · refine b.keep x o (a.keep x o h n) fun z => ?_
    rcases a.new x z with z | z
    · exact n z
    · rw [h] at z; cases z
  · rcases b.new x h with z | z
    · exact a.new x z
    · by_cases n : x ∈ ι
      · exact .inl n
      · refine .inr ?_
        cases q : H x with
        | none => rfl
        | some o => rw [a.keep x o q n] at z; cases z
theorem mem_at {x : Addr} (h : x ∈ ι) : ∃ i : Nat, ι[i]? = some x := List.mem_iff_getElem?.mp h
theorem Rel.at_mem (r : Rel G ι H μ) {x : Addr} (h : x ∈ ι) : ∃ (i : Nat) (c : Cell), ι[i]? = some x ∧ μ[i]? = some c ∧ CellOk G ι H x c := by
  obtain ⟨i, e⟩ := mem_at h
  have hi : i < μ.length := by rw [← r.len]; exact (List.getElem?_eq_some_iff.mp e).1
  exact ⟨i, μ[i], e, List.getElem?_eq_getElem hi, r.cell i _ x (List.getElem?_eq_getElem hi) e⟩
/-- no tuple, no locked thing among the cells -/
theorem CellOk.some {x : Addr} {c : Cell} (h : CellOk G ι H x c) : ∃ o, H x = some o ∧ (∀ xs, o ≠ .tup xs) ∧ (∀ a xs, o ≠ .frz a (.lst xs)) ∧ (∀ a xs, o ≠ .frz a (.tup xs)) ∧ (∀ y, o ≠ .own y) := by
  cases c with
  | lst l => obtain ⟨vs, h, _⟩ := h; exact ⟨_, h, fun _ e => (nomatch e), fun _ _ e => (nomatch e), fun _ _ e => (nomatch e), fun _ e => (nomatch e)⟩
  | dic l => obtain ⟨vs, h, _⟩ := h; exact ⟨_, h, fun _ e => (nomatch e), fun _ _ e => (nomatch e), fun _ _ e => (nomatch e), fun _ e => (nomatch e)⟩
  | tdic l => obtain ⟨vs, h, _⟩ := h; exact ⟨_, h, fun _ e => (nomatch e), fun _ _ e => (nomatch e), fun _ _ e => (nomatch e), fun _ e => (nomatch e)⟩
  | iset l => obtain ⟨h, _⟩ := h; exact ⟨_, h, fun _ e => (nomatch e), fun _ _ e => (nomatch e), fun _ _ e => (nomatch e), fun _ e => (nomatch e)⟩
  | lck t l =>
    cases t with
    | false => obtain ⟨_, vs, h, _⟩ := h; exact ⟨_, h, fun _ e => (nomatch e), fun _ _ e => (nomatch e), fun _ _ e => (nomatch e), fun _ e => (nomatch e)⟩
    | true => obtain ⟨_, vs, h, _⟩ := h; exact ⟨_, h, fun _ e => (nomatch e), fun _ _ e => (nomatch e), fun _ _ e => (nomatch e), fun _ e => (nomatch e)⟩
  | ins c fs => obtain ⟨_, _, _, _, h, _⟩ := h; exact ⟨_, h, fun _ e => (nomatch e), fun _ _ e => (nomatch e), fun _ _ e => (nomatch e), fun _ e => (nomatch e)⟩
theorem Rel.notTup (r : Rel G ι H μ) {x : Addr} {xs : List V} (h : H x = some (.tup xs)) : x ∉ ι := fun hm => by
  obtain ⟨i, c, _, _, z⟩ := r.at_mem hm
  obtain ⟨o, e, n, _⟩ := z.some
  rw [h] at e; cases e; exact n _ rfl
theorem Rel.notFrz (r : Rel G ι H μ) {x : Addr} {o : Obj} {u : HO} (h : H x = some (.frz o u)) (hu : ∃ xs, u = .lst xs ∨ u = .tup xs) : x ∉ ι := fun hm => by
  obtain ⟨i, c, _, _, z⟩ := r.at_mem hm
  obtain ⟨o, e, _, n, n2, _⟩ := z.some
  obtain ⟨xs, rfl | rfl⟩ := hu
  · rw [h] at e; cases e; exact n _ _ rfl
  · rw [h] at e; cases e; exact n2 _ _ rfl
theorem Rel.notOwn (r : Rel G ι H μ) {x y : Addr} (h : H x = some (.own y)) : x ∉ ι := fun hm => by
  obtain ⟨i, c, _, _, z⟩ := r.at_mem hm
  obtain ⟨o, e, _, _, _, n⟩ := z.some
  rw [h] at e; cases e; exact n _ rfl
theorem Rel.notNone (r : Rel G ι H μ) {x : Addr} (h : H x = none) : x ∉ ι := fun hm => by
  obtain ⟨i, c, _, _, z⟩ := r.at_mem hm
  obtain ⟨o, e, _⟩ := z.some
  rw [h] at e; cases e
theorem Grow.ext (g : Grow ι H ι' H') (r : Rel G ι H μ) : Ext ι H ι' H' :=
  ⟨g.pre, fun _ _ h => g.keep _ _ h (r.notTup h), fun _ _ _ h q => g.keep _ _ h (r.notFrz h q)⟩
theorem EnvOk.ext (e : EnvOk G ι H ρ σ) (x : Ext ι H ι' H') : EnvOk G ι' H' ρ σ :=
  ⟨e.len, fun i d h => let ⟨v, h1, h2⟩ := e.at_ i d h; ⟨v, h1, h2.ext x⟩⟩
theorem EnvOk.set (e : EnvOk G ι H ρ σ) (i : Nat) {d : D} {v : V} (r : Rep G ι H d v) : EnvOk G ι H (ρ.set i (some d)) (σ.set i (some v)) := by
  refine ⟨by simp [e.len], fun j x h => ?_⟩
  by_cases hj : i = j
  · subst hj
    by_cases hi : i < ρ.length
    · rw [List.getElem?_set_self hi] at h
      cases h
      exact ⟨v, List.getElem?_set_self (by rw [← e.len]; exact hi), r⟩
    · rw [List.getElem?_eq_none (by simpa using hi)] at h; cases h
  · rw [List.getElem?_set_ne hj] at h
    rw [List.getElem?_set_ne hj]
    exact e.at_ j x h

/-! ### new things, things changed -/
theorem Paired.imp' {α β : Type} {F F' : α → β → Prop} : ∀ {l₁ : List α} {l₂ : List β}, Paired F l₁ l₂ → (∀ a b, F a b → F' a b) → Paired F' l₁ l₂
  | _, _, .nil, _ => .nil
  | _, _, .cons r t, f => .cons (f _ _ r) (Paired.imp' t f)
/-- a cell not touched stays a cell -/
theorem CellOk.ext {x : Addr} {c : Cell} (h : CellOk G ι H x c) (e : Ext ι H ι' H') (s : H' x = H x) : CellOk G ι' H' x c := by
  cases c with
  | lst l => obtain ⟨vs, h, r⟩ := h; exact ⟨vs, s.trans h, r.ext e⟩
  | dic l => obtain ⟨vs, h, r⟩ := h; exact ⟨vs, s.trans h, Paired.imp' r fun _ _ z => ⟨z.1, z.2.ext e⟩⟩
  | tdic l =>
    obtain ⟨vs, h, r, q⟩ := h
    exact ⟨vs, s.trans h, Paired.imp' r fun _ _ z => ⟨z.1, z.2.1, z.2.2.1.ext e, let ⟨v, z1, z2⟩ := z.2.2.2; ⟨v, z1.ext e, z2⟩⟩, q⟩
  | iset l => exact ⟨s.trans h.1, h.2⟩
  | lck t l =>
    cases t with
    | false => obtain ⟨od, vs, h, r⟩ := h; exact ⟨od, vs, s.trans h, Paired.imp' r fun _ _ z => ⟨z.1, z.2.ext e⟩⟩
    | true =>
      obtain ⟨od, vs, h, r, q⟩ := h
      exact ⟨od, vs, s.trans h, Paired.imp' r fun _ _ z => ⟨z.1, z.2.1, z.2.2.1.ext e, let ⟨v, z1, z2⟩ := z.2.2.2; ⟨v, z1.ext e, z2⟩⟩, q⟩
  | ins c fs => obtain ⟨C, dx, gs, h1, h2, h3⟩ := h; exact ⟨C, dx, gs, h1, s.trans h2, Paired.imp' h3 fun _ _ z => ⟨z.1, z.2.ext e⟩⟩
/-- a thing laid that is no cell -/
theorem grow_laid {p : Addr} {o : HO} (r : Rel G ι H μ) (h : H p = none) : Grow ι H ι (upd H p o) ∧ Rel G ι (upd H p o) μ := by
  have g : Grow ι H ι (upd H p o) := ⟨List.prefix_refl _, fun a u e _ => by rw [upd_ne (ne_of_none e h)]; exact e, fun _ z => .inl z, fun a o u e => by rw [upd_ne (ne_of_none e h)]; exact e⟩
  refine ⟨g, r.len, r.nd, fun i c a h1 h2 => ?_⟩
  have z := r.cell i c a h1 h2
  obtain ⟨u, e, _⟩ := z.some
  exact z.ext (g.ext r) (upd_ne (ne_of_none e h))
theorem nodup_snoc {p : Addr} (nd : ι.Nodup) (h : p ∉ ι) : (ι ++ [p]).Nodup := by
  rw [List.nodup_append]
  exact ⟨nd, by simp, fun a ha b hb e => by simp at hb; subst hb; subst e; exact h ha⟩
/-- what is tracked already becomes a cell -/
theorem grow_adopt {p : Addr} {c : Cell} (r : Rel G ι H μ) (hn : p ∉ ι) (new : CellOk G (ι ++ [p]) H p c) : Rel G (ι ++ [p]) H (μ ++ [c]) := by
  have x : Ext ι H (ι ++ [p]) H := ⟨List.prefix_append _ _, fun _ _ h => h, fun _ _ _ h _ => h⟩
  refine ⟨by simp [r.len], nodup_snoc r.nd hn, fun i d a h1 h2 => ?_⟩
  by_cases hi : i < μ.length
  · rw [List.getElem?_append_left hi] at h1
    rw [List.getElem?_append_left (by rw [r.len]; exact hi)] at h2
    exact (r.cell i d a h1 h2).ext x rfl
  · by_cases he : i = μ.length
    · subst he
      have e1 : (μ ++ [c])[μ.length]? = some c := by simp
      have e2 : (ι ++ [p])[μ.length]? = some p := by rw [← r.len]; simp
      rw [e1] at h1; rw [e2] at h2
      cases h1; cases h2
      exact new
    · rw [List.getElem?_eq_none (by simp; omega)] at h1; cases h1
theorem grow_cell {p : Addr} {o : HO} {c : Cell} (r : Rel G ι H μ) (h : H p = none) (new : Ext ι H (ι ++ [p]) (upd H p o) → CellOk G (ι ++ [p]) (upd H p o) p c) : Grow ι H (ι ++ [p]) (upd H p o) ∧ Rel G (ι ++ [p]) (upd H p o) (μ ++ [c]) := by
  obtain ⟨g, r'⟩ := grow_laid (o := o) r h
  have x : Ext ι H (ι ++ [p]) (upd H p o) := ⟨List.prefix_append _ _, (g.ext r).tup, (g.ext r).frz⟩
  have hn := r.notNone h
  refine ⟨⟨List.prefix_append _ _, g.keep, fun a ha => ?_, g.lock⟩, grow_adopt r' hn (new x)⟩
  rcases List.mem_append.mp ha with z | z
  · exact .inl z
  · simp at z; subst z; exact .inr h
/-- a cell changed -/
theorem grow_set {n : Nat} {p : Addr} {o : HO} {c : Cell} (r : Rel G ι H μ) (hp : ι[n]? = some p) (nf : ∀ a u, H p ≠ some (.frz a u)) (new : Ext ι H ι (upd H p o) → CellOk G ι (upd H p o) p c) : Grow ι H ι (upd H p o) ∧ Rel G ι (upd H p o) (μ.set n c) := by
  have hm : p ∈ ι := List.mem_of_getElem? hp
  have g : Grow ι H ι (upd H p o) := ⟨List.prefix_refl _, fun a u e na => by rw [upd_ne (fun z => na (by rw [z]; exact hm))]; exact e, fun _ z => .inl z, fun a o u e => by rw [upd_ne (fun z => nf o u (by rw [← z]; exact e))]; exact e⟩
  refine ⟨g, by simp [r.len], r.nd, fun i d a h1 h2 => ?_⟩
  have hn : n < μ.length := by rw [← r.len]; exact (List.getElem?_eq_some_iff.mp hp).1
  by_cases hi : n = i
  · subst hi
    rw [List.getElem?_set_self hn] at h1
    rw [hp] at h2
    cases h1; cases h2
    exact new (g.ext r)
  · rw [List.getElem?_set_ne hi] at h1
    have ne : a ≠ p := by
      rintro rfl
      have hn' : n < ι.length := (List.getElem?_eq_some_iff.mp hp).1
      have hi' : i < ι.length := (List.getElem?_eq_some_iff.mp h2).1
      have e1 : ι[n] = a := (List.getElem?_eq_some_iff.mp hp).2
      have e2 : ι[i] = a := (List.getElem?_eq_some_iff.mp h2).2
      exact hi ((List.getElem_inj r.nd).mp (e1.trans e2.symm))
    exact (r.cell i d a h1 h2).ext (g.ext r) (upd_ne ne)
theorem rep_new {p : Addr} {r : Rel G ι H μ} : Rep G (ι ++ [p]) H' (.ref μ.length) (.ref p) := by
  unfold Rep
  exact ⟨p, by rw [← r.len]; simp, rfl⟩
end

/-! ### mirrors -/
abbrev MD := Rho → Mem → Res D
abbrev MB := Rho → Mem → Res Bool
abbrev ML := Rho → Mem → Res (List D)
inductive Fl where
  | nx (ρ : Rho) | brk (ρ : Rho) | cnt (ρ : Rho) | ret (d : D) | exc (c : Str) (fs : List D) (ρ : Rho)
abbrev MS := Rho → Mem → Res Fl

section
variable (G : Gd) (ι : List Addr) (H : Hp)
/-- an exception as it lies -/
def ExcIs (c : Str) (fs : List D) (cls : Value) (dx : Option Addr) : Prop :=
  ∃ C, G.mg c = some (.ref C) ∧ cls = .ref C ∧ fs = [] ∧ dx = none
def XPost (W : WX) (σ : St) (c : Str) (fs : List D) (μ' : Mem) : Prop :=
  ∀ ι' H' cls dx, Grow ι H ι' H' → Rel G ι' H' μ' → ExcIs G c fs cls dx → W cls dx σ H'
def Post {α : Type} (W : WX) (σ : St) (r : Res α) (k : List Addr → Hp → Mem → α → Prop) : Prop := match r with
  | .ok a μ' => ∀ ι' H', Grow ι H ι' H' → Rel G ι' H' μ' → k ι' H' μ' a
  | .exc c fs μ' => XPost G ι H W σ c fs μ'
  | .stuck => False
end
section
variable {G : Gd} {ι ι' : List Addr} {H H' : Hp} {W : WX} {σ : St} {μ : Mem} {α β : Type}
theorem Post.imp {r : Res α} {k k' : List Addr → Hp → Mem → α → Prop} (h : Post G ι H W σ r k) (f : ∀ ι' H' μ' a, Grow ι H ι' H' → Rel G ι' H' μ' → k ι' H' μ' a → k' ι' H' μ' a) : Post G ι H W σ r k' := by
  cases r with
  | ok a m => exact fun ι' H' g r => f _ _ _ _ g r (h ι' H' g r)
  | exc c fs m => exact h
  | stuck => exact h
theorem Post.grow {r : Res α} {k : List Addr → Hp → Mem → α → Prop} (h : Post G ι H W σ r k) (g : Grow ι H ι' H') : Post G ι' H' W σ r k := by
  cases r with
  | ok a m => exact fun ι2 H2 g2 r => h ι2 H2 (g.trans g2) r
  | exc c fs m => exact fun ι2 H2 cls dx g2 r e => h ι2 H2 cls dx (g.trans g2) r e
  | stuck => exact h
theorem Post.bind {r : Res α} {f : α → Mem → Res β} {k : List Addr → Hp → Mem → β → Prop} (h : Post G ι H W σ (r.bind f) k) :
    Post G ι H W σ r fun ι' H' μ' a => Grow ι H ι' H' ∧ Rel G ι' H' μ' ∧ Post G ι' H' W σ (f a μ') k := by
  cases r with
  | ok a m => exact fun ι' H' g r => ⟨g, r, Post.grow h g⟩
  | exc c fs m => exact h
  | stuck => exact h
end

section
variable (G : Gd) (W : WX)
def tE (m : MD) : TE := fun σ H Q => ∃ ρ μ ι, EnvOk G ι H ρ σ ∧ Rel G ι H μ ∧ Post G ι H W σ (m ρ μ) fun ι' H' _ d => ∀ v, Rep G ι' H' d v → Q v H'
def tB (m : MB) : TT := fun σ H Q => ∃ ρ μ ι, EnvOk G ι H ρ σ ∧ Rel G ι H μ ∧ Post G ι H W σ (m ρ μ) fun ι' H' _ b => Q b H'
def tL (m : ML) : TA := fun σ H Q => ∃ ρ μ ι, EnvOk G ι H ρ σ ∧ Rel G ι H μ ∧ Post G ι H W σ (m ρ μ) fun ι' H' _ ds => ∀ vs, Reps G ι' H' ds vs → Q vs H'
/-- a statement's end -/
def FlK (D : Ends) : List Addr → Hp → Mem → Fl → Prop := fun ι' H' _ f => match f with
  | .nx ρ' => ∀ σ', EnvOk G ι' H' ρ' σ' → D.nx σ' H'
  | .brk ρ' => ∀ σ', EnvOk G ι' H' ρ' σ' → D.bk σ' H'
  | .cnt ρ' => ∀ σ', EnvOk G ι' H' ρ' σ' → D.ct σ' H'
  | .ret d => ∀ v, Rep G ι' H' d v → D.rt v H'
  | .exc c fs ρ' => ∀ σ' cls dx, EnvOk G ι' H' ρ' σ' → ExcIs G c fs cls dx → W cls dx σ' H'
end
section
variable (G : Gd) (ι : List Addr) (H : Hp)
def PostS (r : Res Fl) (k : List Addr → Hp → Mem → Fl → Prop) : Prop := match r with
  | .ok f μ' => ∀ ι' H', Grow ι H ι' H' → Rel G ι' H' μ' → k ι' H' μ' f
  | _ => False
def tS (W : WX) (m : MS) : TS := fun D σ H => ∃ ρ μ ι, EnvOk G ι H ρ σ ∧ Rel G ι H μ ∧ PostS G ι H (m ρ μ) (FlK G W D)
end
section
variable {G : Gd} {ι ι' : List Addr} {H H' : Hp} {W : WX} {σ : St} {ρ : Rho} {α : Type}
theorem PostS.grow {r : Res Fl} {k : List Addr → Hp → Mem → Fl → Prop} (h : PostS G ι H r k) (g : Grow ι H ι' H') : PostS G ι' H' r k := by
  cases r with
  | ok a m => exact fun ι2 H2 g2 r => h ι2 H2 (g.trans g2) r
  | exc c fs m => exact h
  | stuck => exact h
/-- an expression within a statement -/
@[simp] def onE (r : Res α) (ρ : Rho) (k : α → Mem → Res Fl) : Res Fl := match r with
  | .ok a m => k a m
  | .exc c fs m => .ok (.exc c fs ρ) m
  | .stuck => .stuck
theorem PostS.onE {D : Ends} {r : Res α} {k : α → Mem → Res Fl} (h : PostS G ι H (onE r ρ k) (FlK G W D)) (e : EnvOk G ι H ρ σ) (rel : ∃ μ, Rel G ι H μ) :
    Post G ι H W σ r fun ι' H' μ' a => Grow ι H ι' H' ∧ Rel G ι' H' μ' ∧ EnvOk G ι' H' ρ σ ∧ PostS G ι' H' (k a μ') (FlK G W D) := by
  obtain ⟨μ, rel⟩ := rel
  cases r with
  | ok a m => exact fun ι' H' g r => ⟨g, r, e.ext (g.ext rel), PostS.grow h g⟩
  | exc c fs m => exact fun ι' H' cls dx g r x => h ι' H' g r σ cls dx (e.ext (g.ext rel)) x
  | stuck => exact h
end
end RW

/-! SEc: expressions. -/
namespace RW
open PySem L2
abbrev SE (X : Cx) (W : WX) (e : Expr) (m : MD) : Prop := PE X e (tE (gOf X) W m)
abbrev ST (X : Cx) (W : WX) (e : Expr) (m : MB) : Prop := PT X e (tB (gOf X) W m)
abbrev SW (X : Cx) (W : WX) (e : Expr) (m : MB) : Prop := PW X e (tB (gOf X) W m)
abbrev SA (X : Cx) (W : WX) (es : List Expr) (m : ML) : Prop := PA X es (tL (gOf X) W m)
theorem PE.mono {X : Cx} {e : Expr} {t t' : TE} (h : PE X e t) (f : ∀ σ H Q, t' σ H Q → t σ H Q) : PE X e t' := ⟨fun pins s σ H Q I w => h.run pins s σ H Q I (f σ H Q w)⟩
theorem PT.mono {X : Cx} {e : Expr} {t t' : TT} (h : PT X e t) (f : ∀ σ H Q, t' σ H Q → t σ H Q) : PT X e t' := ⟨fun pins s σ H Q I w => h.run pins s σ H Q I (f σ H Q w)⟩
theorem PW.mono {X : Cx} {e : Expr} {t t' : TT} (h : PW X e t) (f : ∀ σ H Q, t' σ H Q → t σ H Q) : PW X e t' := ⟨fun wh pins s σ H Q I w => h.run wh pins s σ H Q I (f σ H Q w)⟩
theorem PA.mono {X : Cx} {e : List Expr} {t t' : TA} (h : PA X e t) (f : ∀ σ H Q, t' σ H Q → t σ H Q) : PA X e t' := ⟨fun ps pins s σ H Q I w => h.run ps pins s σ H Q I (f σ H Q w)⟩
theorem PS.mono {X : Cx} {e : Stmt} {t t' : TS} (h : PS X e t) (f : ∀ D σ H, t' D σ H → t D σ H) : PS X e t' := ⟨fun pins s σ H D I w => h.run pins s σ H D I (f D σ H w)⟩
theorem PSs.mono {X : Cx} {e : List Stmt} {t t' : TS} (h : PSs X e t) (f : ∀ D σ H, t' D σ H → t D σ H) : PSs X e t' := ⟨fun pins s σ H D I w => h.run pins s σ H D I (f D σ H w)⟩

/-! ### mirrors -/
@[simp] def mVar (i : Nat) : MD := fun ρ μ => match ρ[i]? with
  | some (some d) => .ok d μ
  | _ => .stuck
@[simp] def mC (d : D) : MD := fun _ μ => .ok d μ
@[simp] def mBin (f : D → D → Mem → Res D) (a b : MD) : MD := fun ρ μ => (a ρ μ).bind fun x μ1 => (b ρ μ1).bind fun y μ2 => f x y μ2
@[simp] def mUn (f : D → Mem → Res D) (a : MD) : MD := fun ρ μ => (a ρ μ).bind fun x μ1 => f x μ1
@[simp] def mTest (a : MD) : MB := fun ρ μ => (a ρ μ).bind fun x μ1 => match x with
  | .bl b => .ok b μ1
  | _ => .stuck
@[simp] def mAnd (a b : MB) : MB := fun ρ μ => (a ρ μ).bind fun x μ1 => if x = true then b ρ μ1 else .ok false μ1
@[simp] def mOr (a b : MB) : MB := fun ρ μ => (a ρ μ).bind fun x μ1 => if x = true then .ok true μ1 else b ρ μ1
@[simp] def mNot (a : MB) : MB := fun ρ μ => (a ρ μ).bind fun x μ1 => .ok (!x) μ1
@[simp] def mAndV (a b : MD) : MD := fun ρ μ => (a ρ μ).bind fun x μ1 => match x with
  | .bl c => if c = true then b ρ μ1 else .ok (.bl false) μ1
  | _ => .stuck
@[simp] def mOrV (a b : MD) : MD := fun ρ μ => (a ρ μ).bind fun x μ1 => match x with
  | .bl c => if c = true then .ok (.bl true) μ1 else b ρ μ1
  | _ => .stuck
@[simp] def mNotV (a : MD) : MD := fun ρ μ => (a ρ μ).bind fun x μ1 => match x with
  | .bl c => .ok (.bl (!c)) μ1
  | _ => .stuck
@[simp] def mIfE (c : MB) (a b : MD) : MD := fun ρ μ => (c ρ μ).bind fun x μ1 => if x = true then a ρ μ1 else b ρ μ1
@[simp] def mNil : ML := fun _ μ => .ok [] μ
@[simp] def mCons (a : MD) (r : ML) : ML := fun ρ μ => (a ρ μ).bind fun x μ1 => (r ρ μ1).bind fun xs μ2 => .ok (x :: xs) μ2
@[simp] def mTup (a : ML) : MD := fun ρ μ => (a ρ μ).bind fun xs μ1 => if xs.length ≤ 1000 then .ok (.tup xs) μ1 else .stuck
@[simp] def mLst (a : ML) : MD := fun ρ μ => (a ρ μ).bind fun xs μ1 => if xs.length ≤ 1000 then .ok (.ref μ1.length) (μ1 ++ [.lst xs]) else .stuck

section
variable {X : Cx} {W : WX} {a b c e : Expr} {ma mb mc : MD} {pos : Pos}
theorem se_var (i : Nat) {x : Str} (hN : X.N[i]? = some x) (hv : Vis X.env.scope x) (hd : (x == ("__debug__" : Str)) = false := by decide) (hcd : (x == ("__classdict__" : Str)) = false := by decide) : SE X W (.Name x pos) (mVar i) :=
  PE.mono (pe_var hN hv hd hcd) fun σ H Q ⟨ρ, μ, ι, env, rel, h⟩ => by
    simp only [mVar] at h
    cases e : ρ[i]? with
    | none => rw [e] at h; exact h.elim
    | some o =>
      rw [e] at h
      cases o with
      | none => exact h.elim
      | some d =>
        obtain ⟨v, h1, h2⟩ := env.at_ i d e
        exact ⟨v, h1, h ι H .refl rel v h2⟩
theorem se_c {d : D} {v : V} (h : PE X e (tC v)) (hr : ∀ ι H, Rep (gOf X) ι H d v) : SE X W e (mC d) :=
  PE.mono h fun σ H Q ⟨ρ, μ, ι, env, rel, h⟩ => h ι H .refl rel v (hr ι H)
theorem se_int {i : Int} {j} : SE X W (.Constant (.int i) j pos) (mC (.int i)) := se_c pe_int fun _ _ => by unfold Rep; rfl
theorem se_bl {b : Bool} {j} : SE X W (.Constant (.bool b) j pos) (mC (.bl b)) := se_c pe_bl fun _ _ => by unfold Rep; rfl
theorem se_non {j} : SE X W (.Constant .none j pos) (mC .non) := se_c pe_non fun _ _ => by unfold Rep; rfl
theorem se_str {x : Str} {j} : SE X W (.Constant (.str x) j pos) (mC (.str x)) := se_c pe_str fun _ _ => by unfold Rep; rfl
/-- a module's whole number -/
theorem se_globI {x : Str} {i : Int} {t : Tok} (hg : Gl X x) (hm : X.mg x = some (.int i t)) (hd : (x == ("__debug__" : Str)) = false := by decide) : SE X W (.Name x pos) (mC (.int i)) :=
  se_c (v := .int i) (pe_glob hg hm ⟨t, rfl⟩ hd) fun _ _ => by unfold Rep; rfl
theorem se_globS {x : Str} {i : Str} {t : Tok} (hg : Gl X x) (hm : X.mg x = some (.str i t)) (hd : (x == ("__debug__" : Str)) = false := by decide) : SE X W (.Name x pos) (mC (.str i)) :=
  se_c (v := .str i) (pe_glob hg hm ⟨t, rfl⟩ hd) fun _ _ => by unfold Rep; rfl
/-- a def as a value -/
theorem se_globF {x : Str} {f : Addr} (hg : Gl X x) (hm : X.mg x = some (.ref f)) (hd : (x == ("__debug__" : Str)) = false := by decide) : SE X W (.Name x pos) (mC (.fn x)) :=
  se_c (v := .ref f) (pe_glob hg hm rfl hd) fun _ _ => by unfold Rep; exact ⟨f, hm, rfl⟩

/-- what a rule by values asks, from its mirror -/
def Snd2 (G : Gd) (r : R2) (f : D → D → Mem → Res D) : Prop := ∀ (ι : List Addr) (H : Hp) (μ : Mem) (x y : D) (v u : V) (W : WX) (σ : St) (Q : VK), Rel G ι H μ → Rep G ι H x v → Rep G ι H y u →
  Post G ι H W σ (f x y μ) (fun ι' H' _ d => ∀ v, Rep G ι' H' d v → Q v H') → r v u H Q
def Snd1 (G : Gd) (r : V → Hp → VK → Prop) (f : D → Mem → Res D) : Prop := ∀ (ι : List Addr) (H : Hp) (μ : Mem) (x : D) (v : V) (W : WX) (σ : St) (Q : VK), Rel G ι H μ → Rep G ι H x v →
  Post G ι H W σ (f x μ) (fun ι' H' _ d => ∀ v, Rep G ι' H' d v → Q v H') → r v H Q
theorem bin_red {r : R2} {f : D → D → Mem → Res D} (hf : Snd2 (gOf X) r f) {σ : St} {H : Hp} {Q : VK} (h : tE (gOf X) W (mBin f ma mb) σ H Q) : tOp r (tE (gOf X) W ma) (tE (gOf X) W mb) σ H Q := by
  obtain ⟨ρ, μ, ι, env, rel, h⟩ := h
  refine ⟨ρ, μ, ι, env, rel, (Post.bind h).imp fun ι1 H1 μ1 x _ _ ⟨g1, r1, h1⟩ v rv => ?_⟩
  refine ⟨ρ, μ1, ι1, env.ext (g1.ext rel), r1, (Post.bind h1).imp fun ι2 H2 μ2 y _ _ ⟨g2, r2, h2⟩ u ru => ?_⟩
  exact hf ι2 H2 μ2 x y v u W σ Q r2 (rv.ext (g2.ext r1)) ru h2
theorem se_op {op : Operator} {r : R2} {f : D → D → Mem → Res D} (ho : OpR X (binaryOp op) r) (hf : Snd2 (gOf X) r f) (ha : SE X W a ma) (hb : SE X W b mb) : SE X W (.BinOp a op b pos) (mBin f ma mb) :=
  PE.mono (pe_op ho ha hb) fun σ H Q h => bin_red hf h
theorem se_cmp {op : CmpOp} {r : R2} {f : D → D → Mem → Res D} (ho : OpR X (compareOp op) r) (hf : Snd2 (gOf X) r f) (ha : SE X W a ma) (hb : SE X W b mb) (hm : behindInMarks op b = false) : SE X W (.Compare a [op] [b] pos) (mBin f ma mb) :=
  PE.mono (pe_cmpR ho ha hb hm) fun σ H Q h => bin_red hf h
theorem se_un {op : UnaryOp} {r : V → Hp → VK → Prop} {f : D → Mem → Res D} (ho : UnR X (unaryOp op) r) (hf : Snd1 (gOf X) r f) (ha : SE X W a ma) : SE X W (.UnaryOp op a pos) (mUn f ma) :=
  PE.mono (pe_un ho ha) fun σ H Q ⟨ρ, μ, ι, env, rel, h⟩ =>
    ⟨ρ, μ, ι, env, rel, (Post.bind h).imp fun ι1 H1 μ1 x _ _ ⟨g1, r1, h1⟩ v rv => hf ι1 H1 μ1 x v W σ Q r1 rv h1⟩
theorem test_red {t : TE} (m : MD) (ht : ∀ σ H Q, tE (gOf X) W m σ H Q → t σ H Q) {σ : St} {H : Hp} {Q : Bool → Hp → Prop} (h : tB (gOf X) W (mTest m) σ H Q) : t σ H fun x H' => ∃ k, x = .bl k ∧ Q k H' := by
  obtain ⟨ρ, μ, ι, env, rel, h⟩ := h
  refine ht _ _ _ ⟨ρ, μ, ι, env, rel, (Post.bind h).imp fun ι1 H1 μ1 x _ _ ⟨g1, r1, h1⟩ v rv => ?_⟩
  cases x with
  | bl k => unfold Rep at rv; exact ⟨k, rv, h1 ι1 H1 .refl r1⟩
  | _ => exact h1.elim
/-- a comparison as a test -/
theorem st_cmp {op : CmpOp} {r : R2} {f : D → D → Mem → Res D} (ho : OpR X (compareOp op) r) (hf : Snd2 (gOf X) r f) (ha : SE X W a ma) (hb : SE X W b mb) (hm : behindInMarks op b = false) : ST X W (.Compare a [op] [b] pos) (mTest (mBin f ma mb)) :=
  PT.mono (pt_cmpR ho ha hb hm) fun σ H Q h => test_red (mBin f ma mb) (fun σ H Q h => bin_red hf h) h
/-- an expression whose value is a truth, as a test -/
theorem st_val (h : SE X W e ma) (he : ∀ whole, isTrue e X.env whole = (do let v ← whole; standAt e.pos; holding [v] (truthy v)) := by intro _; rfl) : ST X W e (mTest ma) :=
  PT.mono (pt_val h he) fun σ H Q h => test_red ma (fun _ _ _ h => h) h
variable {ta tb : MB} {rest : List Expr}
theorem sw_and1 (ha : ST X W a ta) : SW X W (.BoolOp .And [a] pos) ta := pw_and1 ha
theorem sw_or1 (ha : ST X W a ta) : SW X W (.BoolOp .Or [a] pos) ta := pw_or1 ha
theorem sw_and (ha : ST X W a ta) (hb : SW X W (.BoolOp .And (b :: rest) pos) tb) : SW X W (.BoolOp .And (a :: b :: rest) pos) (mAnd ta tb) :=
  PW.mono (pw_and ha hb) fun σ H Q ⟨ρ, μ, ι, env, rel, h⟩ =>
    ⟨ρ, μ, ι, env, rel, (Post.bind h).imp fun ι1 H1 μ1 x _ _ ⟨g1, r1, h1⟩ => by
      cases x with
      | true => exact iteT ⟨ρ, μ1, ι1, env.ext (g1.ext rel), r1, h1⟩
      | false => exact iteF (h1 ι1 H1 .refl r1)⟩
theorem sw_or (ha : ST X W a ta) (hb : SW X W (.BoolOp .Or (b :: rest) pos) tb) : SW X W (.BoolOp .Or (a :: b :: rest) pos) (mOr ta tb) :=
  PW.mono (pw_or ha hb) fun σ H Q ⟨ρ, μ, ι, env, rel, h⟩ =>
    ⟨ρ, μ, ι, env, rel, (Post.bind h).imp fun ι1 H1 μ1 x _ _ ⟨g1, r1, h1⟩ => by
      cases x with
      | true => exact iteT (h1 ι1 H1 .refl r1)
      | false => exact iteF ⟨ρ, μ1, ι1, env.ext (g1.ext rel), r1, h1⟩⟩
theorem st_not (ha : ST X W a ta) : ST X W (.UnaryOp .Not a pos) (mNot ta) :=
  PT.mono (pt_not ha) fun σ H Q ⟨ρ, μ, ι, env, rel, h⟩ =>
    ⟨ρ, μ, ι, env, rel, (Post.bind h).imp fun ι1 H1 μ1 x _ _ ⟨g1, r1, h1⟩ => h1 ι1 H1 .refl r1⟩
/-- .. as values -/
theorem se_one {op} (h : SE X W a ma) : SE X W (.BoolOp op [a] pos) ma := pe_one h
theorem se_and (ha : SE X W a ma) (hb : SE X W (.BoolOp .And (b :: rest) pos) mb) : SE X W (.BoolOp .And (a :: b :: rest) pos) (mAndV ma mb) :=
  PE.mono (pe_and ha hb) fun σ H Q ⟨ρ, μ, ι, env, rel, h⟩ =>
    ⟨ρ, μ, ι, env, rel, (Post.bind h).imp fun ι1 H1 μ1 x _ _ ⟨g1, r1, h1⟩ v rv => by
      cases x with
      | bl c =>
        unfold Rep at rv
        refine ⟨c, rv, ?_⟩
        cases c with
        | true => exact iteT ⟨ρ, μ1, ι1, env.ext (g1.ext rel), r1, h1⟩
        | false => exact iteF (h1 ι1 H1 .refl r1 _ (by unfold Rep; rfl))
      | _ => exact h1.elim⟩
theorem se_or (ha : SE X W a ma) (hb : SE X W (.BoolOp .Or (b :: rest) pos) mb) : SE X W (.BoolOp .Or (a :: b :: rest) pos) (mOrV ma mb) :=
  PE.mono (pe_or ha hb) fun σ H Q ⟨ρ, μ, ι, env, rel, h⟩ =>
    ⟨ρ, μ, ι, env, rel, (Post.bind h).imp fun ι1 H1 μ1 x _ _ ⟨g1, r1, h1⟩ v rv => by
      cases x with
      | bl c =>
        unfold Rep at rv
        refine ⟨c, rv, ?_⟩
        cases c with
        | true => exact iteT (h1 ι1 H1 .refl r1 _ (by unfold Rep; rfl))
        | false => exact iteF ⟨ρ, μ1, ι1, env.ext (g1.ext rel), r1, h1⟩
      | _ => exact h1.elim⟩
theorem se_not (ha : SE X W a ma) : SE X W (.UnaryOp .Not a pos) (mNotV ma) :=
  PE.mono (pe_not ha) fun σ H Q ⟨ρ, μ, ι, env, rel, h⟩ =>
    ⟨ρ, μ, ι, env, rel, (Post.bind h).imp fun ι1 H1 μ1 x _ _ ⟨g1, r1, h1⟩ v rv => by
      cases x with
      | bl c => unfold Rep at rv; exact ⟨c, rv, h1 ι1 H1 .refl r1 _ (by unfold Rep; rfl)⟩
      | _ => exact h1.elim⟩
theorem se_ifE {tc : MB} (hc : ST X W c tc) (ha : SE X W a ma) (hb : SE X W b mb) : SE X W (.IfExp c a b pos) (mIfE tc ma mb) :=
  PE.mono (pe_ifExp hc ha hb) fun σ H Q ⟨ρ, μ, ι, env, rel, h⟩ =>
    ⟨ρ, μ, ι, env, rel, (Post.bind h).imp fun ι1 H1 μ1 x _ _ ⟨g1, r1, h1⟩ => by
      cases x with
      | true => exact iteT ⟨ρ, μ1, ι1, env.ext (g1.ext rel), r1, h1⟩
      | false => exact iteF ⟨ρ, μ1, ι1, env.ext (g1.ext rel), r1, h1⟩⟩
/-! argument lists, displays -/
variable {es : List Expr} {me : MD} {ms : ML}
theorem sa_nil : SA X W [] mNil := PA.mono pa_nil fun σ H Q ⟨ρ, μ, ι, env, rel, h⟩ => h ι H .refl rel [] .nil
theorem sa_cons (ha : SE X W e me) (hr : SA X W es ms) (hs : starEach (e :: es) X.env = (false, eval e X.env) :: starEach es X.env := by rfl) : SA X W (e :: es) (mCons me ms) :=
  PA.mono (pa_cons ha hr hs) fun σ H Q ⟨ρ, μ, ι, env, rel, h⟩ => by
    refine ⟨ρ, μ, ι, env, rel, (Post.bind h).imp fun ι1 H1 μ1 x _ _ ⟨g1, r1, h1⟩ v rv => ?_⟩
    refine ⟨ρ, μ1, ι1, env.ext (g1.ext rel), r1, (Post.bind h1).imp fun ι2 H2 μ2 xs _ _ ⟨g2, r2, h2⟩ vs rvs => ?_⟩
    exact h2 ι2 H2 .refl r2 (v :: vs) (.cons (rv.ext (g2.ext r1)) rvs)
theorem le_line {n : Nat} (h : n ≤ 1000) : n ≤ sizeLine := Nat.le_of_lt (small1000 h)
theorem se_tup {k} (h : SA X W es ms) : SE X W (.Tuple es k pos) (mTup ms) :=
  PE.mono (pe_tup h) fun σ H Q ⟨ρ, μ, ι, env, rel, h⟩ => by
    refine ⟨ρ, μ, ι, env, rel, (Post.bind h).imp fun ι1 H1 μ1 xs _ _ ⟨g1, r1, h1⟩ vs rv => ?_⟩
    split at h1
    · rename_i hl
      refine ⟨by rw [rv.length]; exact le_line hl, fun p hp => ?_⟩
      obtain ⟨g2, r2⟩ := grow_laid (o := .tup vs) r1 hp
      refine h1 ι1 _ g2 r2 (.ref p) ?_
      unfold Rep
      exact ⟨p, vs, rfl, .of upd_same, rv.ext (g2.ext r1)⟩
    · exact h1.elim
theorem se_lst (h : SA X W es ms) : SE X W (.List es pos) (mLst ms) :=
  PE.mono (pe_lst h) fun σ H Q ⟨ρ, μ, ι, env, rel, h⟩ => by
    refine ⟨ρ, μ, ι, env, rel, (Post.bind h).imp fun ι1 H1 μ1 xs _ _ ⟨g1, r1, h1⟩ vs rv => ?_⟩
    split at h1
    · rename_i hl
      refine ⟨by rw [rv.length]; exact le_line hl, fun p hp => ?_⟩
      obtain ⟨g2, r2⟩ := grow_cell (o := .lst vs) (c := .lst xs) r1 hp fun x => ⟨vs, upd_same, rv.ext x⟩
      exact h1 _ _ g2 r2 (.ref p) (rep_new (r := r1))
    · exact h1.elim
end
end RW

/-! SEd: operators. -/
namespace RW
open PySem L2
open Classical in
section
noncomputable def addD : D → D → Mem → Res D
  | .int i, .int j, μ => .ok (.int (i + j)) μ
  | .str x, .str y, μ => if x.length + y.length ≤ sizeLine then .ok (.str (x ++ y)) μ else .stuck
  | .tup a, .tup b, μ => if a.length + b.length ≤ sizeLine then .ok (.tup (a ++ b)) μ else .stuck
  | .ref n, .ref m, μ => match μ[n]?, μ[m]? with
    | some (.lst a), some (.lst b) => if a.length + b.length ≤ sizeLine then .ok (.ref μ.length) (μ ++ [.lst (a ++ b)]) else .stuck
    | _, _ => .stuck
  | _, _, _ => .stuck
end
def subD : D → D → Mem → Res D
  | .int i, .int j, μ => .ok (.int (i - j)) μ
  | _, _, _ => .stuck
def mulD : D → D → Mem → Res D
  | .int i, .int j, μ => if i.natAbs < 18446744073709551616 ∨ j.natAbs < 18446744073709551616 then .ok (.int (i * j)) μ else .stuck
  | .ref n, .int k, μ => match μ[n]? with
    | some (.lst a) => if -(2 ^ 63) ≤ k ∧ k < 2 ^ 63 ∧ a.length * k.toNat ≤ sizeLine then .ok (.ref μ.length) (μ ++ [.lst (List.replicate k.toNat a).flatten]) else .stuck
    | _ => .stuck
  | _, _, _ => .stuck
def fdivD : D → D → Mem → Res D
  | .int i, .int j, μ => if 0 < j ∧ j < 18446744073709551616 then .ok (.int (i / j)) μ else .stuck
  | _, _, _ => .stuck
def modD : D → D → Mem → Res D
  | .int i, .int j, μ => if 0 < j then .ok (.int (i % j)) μ else .stuck
  | _, _, _ => .stuck
def powD : D → D → Mem → Res D
  | .int i, .int j, μ => if 0 ≤ j ∧ j ≤ 1000 ∧ i.natAbs < 18446744073709551616 then .ok (.int (i ^ j.toNat)) μ else .stuck
  | _, _, _ => .stuck
def negD : D → Mem → Res D
  | .int i, μ => .ok (.int (-i)) μ
  | _, _ => .stuck
def cmpI (p : Int → Int → Bool) : D → D → Mem → Res D
  | .int i, .int j, μ => .ok (.bl (p i j)) μ
  | _, _, _ => .stuck
def isNonD : D → Bool
  | .non => true
  | _ => false
def isD : D → D → Mem → Res D
  | x, .non, μ => .ok (.bl (isNonD x)) μ
  | _, _, _ => .stuck
def isNotD : D → D → Mem → Res D
  | x, .non, μ => .ok (.bl (!isNonD x)) μ
  | _, _, _ => .stuck

section
variable {G : Gd} {ι : List Addr} {H : Hp}
theorem Rep.int {i : Int} {v : V} (h : Rep G ι H (.int i) v) : v = .int i := by unfold Rep at h; exact h
theorem Rep.str {i : Str} {v : V} (h : Rep G ι H (.str i) v) : v = .str i := by unfold Rep at h; exact h
theorem Rep.bl {i : Bool} {v : V} (h : Rep G ι H (.bl i) v) : v = .bl i := by unfold Rep at h; exact h
theorem Rep.non {v : V} (h : Rep G ι H .non v) : v = .non := by unfold Rep at h; exact h
theorem Rep.tup {l : List D} {v : V} (h : Rep G ι H (.tup l) v) : ∃ a vs, v = .ref a ∧ SqT G.K H a vs ∧ Reps G ι H l vs := by unfold Rep at h; exact h
theorem Rep.frl {l : List D} {v : V} (h : Rep G ι H (.frl l) v) : ∃ a vs, v = .ref a ∧ FrL G H a vs ∧ Reps G ι H l vs := by unfold Rep at h; exact h
theorem Rep.ref {n : Nat} {v : V} (h : Rep G ι H (.ref n) v) : ∃ a, ι[n]? = some a ∧ v = .ref a := by unfold Rep at h; exact h
theorem rep_int (i : Int) : Rep G ι H (.int i) (.int i) := by unfold Rep; rfl
theorem rep_str (i : Str) : Rep G ι H (.str i) (.str i) := by unfold Rep; rfl
theorem rep_bl (i : Bool) : Rep G ι H (.bl i) (.bl i) := by unfold Rep; rfl
theorem rep_non : Rep G ι H .non .non := by unfold Rep; rfl
theorem rep_tup {l : List D} {a : Addr} {vs : List V} (h : SqT G.K H a vs) (r : Reps G ι H l vs) : Rep G ι H (.tup l) (.ref a) := by unfold Rep; exact ⟨a, vs, rfl, h, r⟩
theorem rep_ref {n : Nat} {a : Addr} (h : ι[n]? = some a) : Rep G ι H (.ref n) (.ref a) := by unfold Rep; exact ⟨a, h, rfl⟩
/-- a list cell at an address -/
theorem Rel.lst {μ : Mem} (r : Rel G ι H μ) {n : Nat} {l : List D} {v : V} (h : μ[n]? = some (.lst l)) (hv : Rep G ι H (.ref n) v) : ∃ a vs, v = .ref a ∧ ι[n]? = some a ∧ H a = some (.lst vs) ∧ Reps G ι H l vs := by
  obtain ⟨a, h1, rfl⟩ := hv.ref
  obtain ⟨vs, h2, h3⟩ := r.cell n _ a h h1
  exact ⟨a, vs, rfl, h1, h2, h3⟩
/-- a new list -/
theorem new_lst {μ : Mem} {W : WX} {σ : St} {l : List D} {vs : List V} {Q : VK} (r : Rel G ι H μ) (h : Reps G ι H l vs)
    (k : Post G ι H W σ (.ok (D.ref μ.length) (μ ++ [.lst l])) fun ι' H' _ d => ∀ v, Rep G ι' H' d v → Q v H') : ∀ p, H p = none → Q (.ref p) (upd H p (.lst vs)) := fun p hp => by
  obtain ⟨g2, r2⟩ := grow_cell (o := .lst vs) (c := .lst l) r hp fun x => ⟨vs, upd_same, h.ext x⟩
  exact k _ _ g2 r2 (.ref p) (rep_new (r := r))
theorem new_tup {μ : Mem} {W : WX} {σ : St} {l : List D} {vs : List V} {Q : VK} (r : Rel G ι H μ) (h : Reps G ι H l vs)
    (k : Post G ι H W σ (.ok (D.tup l) μ) fun ι' H' _ d => ∀ v, Rep G ι' H' d v → Q v H') : ∀ p, H p = none → Q (.ref p) (upd H p (.tup vs)) := fun p hp => by
  obtain ⟨g2, r2⟩ := grow_laid (o := .tup vs) r hp
  exact k _ _ g2 r2 (.ref p) (rep_tup (.of upd_same) (h.ext (g2.ext r)))
end

theorem snd_int {G : Gd} {g : Int → Int → Int} {f : D → D → Mem → Res D} (hf : ∀ x y μ, f x y μ = match x, y with
  | .int i, .int j => .ok (.int (g i j)) μ
  | _, _ => .stuck) : Snd2 G (rI0 fun i j => .int (g i j)) f := fun ι H μ x y v u W σ Q r rx ry h => by
  rw [hf] at h
  cases x <;> cases y <;> first | exact h.elim | skip
  exact ⟨_, _, rx.int, ry.int, h ι H .refl r _ (rep_int _)⟩
theorem snd_sub {G : Gd} : Snd2 G (rI0 fun i j => .int (i - j)) subD := snd_int fun x y μ => by cases x <;> cases y <;> rfl
theorem snd_cmpI {G : Gd} {p : Int → Int → Bool} : Snd2 G (rI0 fun i j => .bl (p i j)) (cmpI p) := fun ι H μ x y v u W σ Q r rx ry h => by
  cases x <;> cases y <;> first | exact h.elim | skip
  exact ⟨_, _, rx.int, ry.int, h ι H .refl r _ (rep_bl _)⟩
theorem snd_mod {G : Gd} : Snd2 G (rI (fun _ j => 0 < j) fun i j => .int (i % j)) modD := fun ι H μ x y v u W σ Q r rx ry h => by
  cases x <;> cases y <;> first | exact h.elim | skip
  rename_i i j
  simp only [modD] at h
  split at h
  · rename_i hc
    exact ⟨_, _, rx.int, ry.int, hc, h ι H .refl r _ (rep_int _)⟩
  · exact h.elim
theorem snd_fdiv {G : Gd} : Snd2 G (rI CDivW fun i j => .int (i / j)) fdivD := fun ι H μ x y v u W σ Q r rx ry h => by
  cases x <;> cases y <;> first | exact h.elim | skip
  rename_i i j
  simp only [fdivD] at h
  split at h
  · rename_i hc
    exact ⟨_, _, rx.int, ry.int, wide_div (b := 64) hc.1 (by omega) (by decide) (by decide), h ι H .refl r _ (rep_int _)⟩
  · exact h.elim
theorem snd_pow {G : Gd} : Snd2 G (rI CPow fun i j => .int (i ^ j.toNat)) powD := fun ι H μ x y v u W σ Q r rx ry h => by
  cases x <;> cases y <;> first | exact h.elim | skip
  rename_i i j
  simp only [powD] at h
  split at h
  · rename_i hc
    exact ⟨_, _, rx.int, ry.int, ⟨hc.1, by omega, by omega⟩, h ι H .refl r _ (rep_int _)⟩
  · exact h.elim
def rMulA : R2 := fun x y H Q => rI CMul (fun i j => .int (i * j)) x y H Q ∨ rRep x y H Q
theorem op_mulA {X : Cx} : OpR X (binaryOp .Mult) rMulA := op_mul.or op_rep
theorem Reps.rep {G : Gd} {ι : List Addr} {H : Hp} {l : List D} {vs : List V} (h : Reps G ι H l vs) : ∀ k : Nat, Reps G ι H (List.replicate k l).flatten (List.replicate k vs).flatten
  | 0 => .nil
  | k + 1 => by rw [List.replicate_succ, List.replicate_succ, List.flatten_cons, List.flatten_cons]; exact h.append (Reps.rep h k)
theorem snd_mul {G : Gd} : Snd2 G rMulA mulD := fun ι H μ x y v u W σ Q r rx ry h => by
  cases x <;> cases y <;> first | exact h.elim | skip
  · rename_i i j
    simp only [mulD] at h
    split at h
    · rename_i hc
      refine .inl ⟨_, _, rx.int, ry.int, ?_, h ι H .refl r _ (rep_int _)⟩
      rcases hc with hc | hc
      · exact .inl (by omega)
      · exact .inr (by omega)
    · exact h.elim
  · rename_i n k
    simp only [mulD] at h
    split at h
    · rename_i a e
      split at h
      · rename_i hc
        obtain ⟨p, vs, rfl, h1, h2, h3⟩ := r.lst e rx
        refine .inr ⟨p, k, vs, rfl, ry.int, h2, hc.1, hc.2.1, by rw [h3.length]; exact hc.2.2, ?_⟩
        exact new_lst r (h3.rep k.toNat) h
      · exact h.elim
    · exact h.elim
def rAddA (K : PySem.W.Frag) : R2 := fun x y H Q => rI0 (fun i j => .int (i + j)) x y H Q ∨ (∃ i j, x = .str i ∧ y = .str j ∧ i.length + j.length ≤ sizeLine ∧ Q (.str (i ++ j)) H) ∨ rCatA K x y H Q ∨ rCat x y H Q
theorem op_addA {X : Cx} : OpR X (binaryOp .Add) (rAddA X.K) := op_add.or (op_add_str.or (op_catA.or op_cat))
theorem snd_add {G : Gd} : Snd2 G (rAddA G.K) addD := fun ι H μ x y v u W σ Q r rx ry h => by
  cases x <;> cases y <;> first | exact h.elim | skip
  · exact .inl ⟨_, _, rx.int, ry.int, h ι H .refl r _ (rep_int _)⟩
  · simp only [addD] at h
    split at h
    · rename_i hc
      exact .inr (.inl ⟨_, _, rx.str, ry.str, hc, h ι H .refl r _ (rep_str _)⟩)
    · exact h.elim
  · simp only [addD] at h
    split at h
    · rename_i l l' hc
      obtain ⟨a, vs, rfl, h1, h2⟩ := rx.tup
      obtain ⟨b, ws, rfl, h3, h4⟩ := ry.tup
      refine .inr (.inr (.inl ⟨a, b, vs, ws, rfl, rfl, h1, h3, by rw [h2.length, h4.length]; exact hc, fun e => ?_, fun e1 e2 => ?_, fun _ _ => new_tup r (h2.append h4) h⟩))
      · subst e
        have e := h2.length
        cases l with
        | nil => exact h ι H .refl r _ ry
        | cons _ _ => simp at e
      · subst e2
        have e := h4.length
        cases l' with
        | nil => exact h ι H .refl r _ (by rw [List.append_nil]; exact rx)
        | cons _ _ => simp at e
    · exact h.elim
  · simp only [addD] at h
    split at h
    · rename_i a b e1 e2
      split at h
      · rename_i hc
        obtain ⟨p, vs, rfl, h1, h2, h3⟩ := r.lst e1 rx
        obtain ⟨q, ws, rfl, h4, h5, h6⟩ := r.lst e2 ry
        exact .inr (.inr (.inr ⟨p, q, vs, ws, rfl, rfl, h2, h5, by rw [h3.length, h6.length]; exact hc, new_lst r (h3.append h6) h⟩))
      · exact h.elim
    · exact h.elim
theorem snd_neg {G : Gd} : Snd1 G (rU fun i => .int (-i)) negD := fun ι H μ x v W σ Q r rx h => by
  cases x <;> first | exact h.elim | skip
  exact ⟨_, rx.int, h ι H .refl r _ (rep_int _)⟩
theorem isNon_of {G : Gd} {ι : List Addr} {H : Hp} {x : D} {v : V} (h : Rep G ι H x v) : decide (v = .non) = isNonD x := by
  cases x with
  | non => rw [h.non]; rfl
  | bl b => rw [h.bl]; rfl
  | int b => rw [h.int]; rfl
  | str b => rw [h.str]; rfl
  | tup l => obtain ⟨a, _, rfl, _⟩ := h.tup; rfl
  | frl l => obtain ⟨a, _, rfl, _⟩ := h.frl; rfl
  | ref l => obtain ⟨a, _, rfl⟩ := h.ref; rfl
  | fn l => unfold Rep at h; obtain ⟨a, _, rfl⟩ := h; rfl
theorem snd_is {G : Gd} : Snd2 G (fun x y H Q => y = .non ∧ Q (.bl (decide (x = .non))) H) isD := fun ι H μ x y v u W σ Q r rx ry h => by
  cases y <;> first | (simp only [isD] at h; exact h.elim) | (exact h.elim) | skip
  exact ⟨ry.non, by rw [isNon_of rx]; exact h ι H .refl r _ (rep_bl _)⟩
theorem snd_isNot {G : Gd} : Snd2 G (fun x y H Q => y = .non ∧ Q (.bl (!decide (x = .non))) H) isNotD := fun ι H μ x y v u W σ Q r rx ry h => by
  cases y <;> first | (simp only [isNotD] at h; exact h.elim) | (exact h.elim) | skip
  exact ⟨ry.non, by rw [isNon_of rx]; exact h ι H .refl r _ (rep_bl _)⟩

/-! ### == -/
mutual
/-- data, no deeper than so many, lists within read -/
def D.py? : Nat → Mem → D → Option PyData
  | _, _, .non => some .none
  | _, _, .bl b => some (.bool b)
  | _, _, .int i => some (.int i)
  | _, _, .str s => some (.str s)
  | n + 1, μ, .tup l => (D.pys? n μ l).map PyData.tuple
  | n + 1, μ, .frl l => (D.pys? n μ l).map PyData.list
  | n + 1, μ, .ref m => match μ[m]? with
    | some (.lst l) => (D.pys? n μ l).map PyData.list
    | _ => none
  | _, _, _ => none
def D.pys? : Nat → Mem → List D → Option (List PyData)
  | _, _, [] => some []
  | n, μ, d :: l => match D.py? n μ d, D.pys? n μ l with
    | some k, some r => some (k :: r)
    | _, _ => none
end
end RW

/-! SEe: ==, subscripts, slices. -/
namespace RW
open PySem L2
def eqD (x y : D) (μ : Mem) : Res D := match D.py? 8 μ x, D.py? 8 μ y with
  | some p, some q => if (SeqAt.shaped p && SeqAt.shaped q) = true then .ok (.bl (PyData.eqv p q)) μ else .stuck
  | _, _ => .stuck
def neD (x y : D) (μ : Mem) : Res D := match D.py? 8 μ x, D.py? 8 μ y with
  | some p, some q => if (SeqAt.shaped p && SeqAt.shaped q) = true then .ok (.bl (!PyData.eqv p q)) μ else .stuck
  | _, _ => .stuck
section
variable {G : Gd} {ι : List Addr} {H : Hp} {μ : Mem}
mutual
theorem dp_of (r : Rel G ι H μ) : ∀ (n : Nat) (d : D) (v : V) (p : PyData), Rep G ι H d v → D.py? n μ d = some p → Dp G.K H v p
  | n, .non, v, p, h, e => by unfold D.py? at e; cases e; rw [h.non]; exact .non
  | n, .bl b, v, p, h, e => by unfold D.py? at e; cases e; rw [h.bl]; exact .bl b
  | n, .int b, v, p, h, e => by unfold D.py? at e; cases e; rw [h.int]; exact .int b
  | n, .str b, v, p, h, e => by unfold D.py? at e; cases e; rw [h.str]; exact .str b
  | n + 1, .tup l, v, p, h, e => by
    unfold D.py? at e
    obtain ⟨q, e1, rfl⟩ := Option.map_eq_some_iff.mp e
    obtain ⟨a, vs, rfl, h1, h2⟩ := h.tup
    exact .tup h1 (dps_of r n l vs q h2 e1)
  | n + 1, .frl l, v, p, h, e => by
    unfold D.py? at e
    obtain ⟨q, e1, rfl⟩ := Option.map_eq_some_iff.mp e
    obtain ⟨a, vs, rfl, h1, h2⟩ := h.frl
    exact .lst (FrL.sq _ _ h1) (dps_of r n l vs q h2 e1)
  | n + 1, .ref m, v, p, h, e => by
    unfold D.py? at e
    split at e
    · rename_i l em
      obtain ⟨q, e1, rfl⟩ := Option.map_eq_some_iff.mp e
      obtain ⟨a, vs, rfl, h1, h2, h3⟩ := r.lst em h
      exact .lst (.of h2) (dps_of r n l vs q h3 e1)
    · cases e
  | _, .fn _, _, _, _, e => by unfold D.py? at e; cases e
  | 0, .tup _, _, _, _, e => by unfold D.py? at e; cases e
  | 0, .frl _, _, _, _, e => by unfold D.py? at e; cases e
  | 0, .ref _, _, _, _, e => by unfold D.py? at e; cases e
theorem dps_of (r : Rel G ι H μ) : ∀ (n : Nat) (l : List D) (vs : List V) (p : List PyData), Reps G ι H l vs → D.pys? n μ l = some p → DpAll G.K H vs p
  | n, [], vs, p, h, e => by unfold D.pys? at e; cases e; rw [h.nil_inv]; exact .nil
  | n, d :: l, vs, p, h, e => by
    unfold D.pys? at e
    obtain ⟨v, w, rfl, h1, h2⟩ := h.cons_inv
    split at e
    · rename_i k q e1 e2
      cases e
      exact .cons (dp_of r n d v k h1 e1) (dps_of r n l w q h2 e2)
    · cases e
end
end
theorem snd_eq {G : Gd} : Snd2 G (rEqD G.K) eqD := fun ι H μ x y v u W σ Q r rx ry h => by
  unfold eqD at h
  split at h
  · rename_i p q e1 e2
    split at h
    · rename_i hs
      rw [Bool.and_eq_true] at hs
      exact ⟨p, q, dp_of r _ _ _ _ rx e1, dp_of r _ _ _ _ ry e2, hs.1, hs.2, h ι H .refl r _ (rep_bl _)⟩
    · exact h.elim
  · exact h.elim
theorem snd_ne {G : Gd} : Snd2 G (rNeD G.K) neD := fun ι H μ x y v u W σ Q r rx ry h => by
  unfold neD at h
  split at h
  · rename_i p q e1 e2
    split at h
    · rename_i hs
      rw [Bool.and_eq_true] at hs
      exact ⟨p, q, dp_of r _ _ _ _ rx e1, dp_of r _ _ _ _ ry e2, hs.1, hs.2, h ι H .refl r _ (rep_bl _)⟩
    · exact h.elim
  · exact h.elim

/-! ### a[b] of lists, tuples, texts -/
def idxD : D → D → Mem → Res D
  | .tup l, .int i, μ => match atI l i with
    | some d => .ok d μ
    | none => .stuck
  | .frl l, .int i, μ => match atI l i with
    | some d => .ok d μ
    | none => .stuck
  | .ref n, .int i, μ => match μ[n]? with
    | some (.lst l) => (match atI l i with
      | some d => .ok d μ
      | none => .stuck)
    | _ => .stuck
  | .str z, .int i, μ => if z.length ≤ sizeLine then (match atI z.cps.toList i with
      | some c => .ok (.str ⟨#[c]⟩) μ
      | none => .stuck) else .stuck
  | _, _, _ => .stuck
theorem Reps.atI {G : Gd} {ι : List Addr} {H : Hp} {l : List D} {vs : List V} {i : Int} {d : D} (h : Reps G ι H l vs) (e : L2.atI l i = some d) : ∃ v, L2.atI vs i = some v ∧ Rep G ι H d v := by
  unfold L2.atI at e ⊢
  rw [h.length]
  obtain ⟨j, e1, e2⟩ := Option.bind_eq_some_iff.mp e
  obtain ⟨v, e3, r⟩ := h.get e2
  exact ⟨v, Option.bind_eq_some_iff.mpr ⟨j, e1, e3⟩, r⟩
theorem snd_idx {G : Gd} : Snd2 G (rIx G.K) idxD := fun ι H μ x y v u W σ Q r rx ry h => by
  cases x <;> cases y <;> first | exact h.elim | skip
  · rename_i z i
    simp only [idxD] at h
    split at h
    · rename_i hl
      split at h
      · rename_i c e
        exact .inr (.inr ⟨z, i, c, rx.str, ry.int, hl, e, h ι H .refl r _ (rep_str _)⟩)
      · exact h.elim
    · exact h.elim
  · rename_i l i
    simp only [idxD] at h
    split at h
    · rename_i d e
      obtain ⟨a, vs, rfl, h1, h2⟩ := rx.tup
      obtain ⟨w, e1, r1⟩ := h2.atI e
      exact .inr (.inl ⟨a, vs, i, w, rfl, ry.int, h1, e1, h ι H .refl r _ r1⟩)
    · exact h.elim
  · rename_i l i
    simp only [idxD] at h
    split at h
    · rename_i d e
      obtain ⟨a, vs, rfl, h1, h2⟩ := rx.frl
      obtain ⟨w, e1, r1⟩ := h2.atI e
      exact .inl ⟨a, vs, i, w, rfl, ry.int, FrL.sq _ _ h1, e1, h ι H .refl r _ r1⟩
    · exact h.elim
  · rename_i n i
    simp only [idxD] at h
    split at h
    · rename_i l em
      split at h
      · rename_i d e
        obtain ⟨a, vs, rfl, h1, h2, h3⟩ := r.lst em rx
        obtain ⟨w, e1, r1⟩ := h3.atI e
        exact .inl ⟨a, vs, i, w, rfl, ry.int, .of h2, e1, h ι H .refl r _ r1⟩
      · exact h.elim
    · exact h.elim
section
variable {X : Cx} {W : WX} {a b : Expr} {ma mb : MD} {pos p2 : Pos}
theorem se_idx (ha : SE X W a ma) (hb : SE X W b mb) (hs : PlainIx b := by exact fun _ _ => rfl) : SE X W (.Subscript a b pos) (mBin idxD ma mb) :=
  PE.mono (pe_ix ix_seq ha hb hs) fun σ H Q h => bin_red snd_idx h

/-! ### slices -/
abbrev MO := Rho → Mem → Res (Option Int)
@[simp] def oNone : MO := fun _ μ => .ok none μ
@[simp] def oSome (m : MD) : MO := fun ρ μ => (m ρ μ).bind fun x μ1 => match x with
  | .int i => .ok (some i) μ1
  | _ => .stuck
def tO (G : Gd) (W : WX) (m : MO) : TO := fun σ H Q => ∃ ρ μ ι, EnvOk G ι H ρ σ ∧ Rel G ι H μ ∧ Post G ι H W σ (m ρ μ) fun ι' H' _ o => Q o H'
theorem PO.mono {X : Cx} {e : Option Expr} {t t' : TO} (h : PO X e t) (f : ∀ σ H Q, t' σ H Q → t σ H Q) : PO X e t' := ⟨fun pins s σ H Q I w => h.run pins s σ H Q I (f σ H Q w)⟩
theorem so_none : PO X none (tO (gOf X) W oNone) := PO.mono po_none fun σ H Q ⟨ρ, μ, ι, env, rel, h⟩ => h ι H .refl rel
theorem so_some (h : SE X W a ma) : PO X (some a) (tO (gOf X) W (oSome ma)) := PO.mono (po_some h) fun σ H Q ⟨ρ, μ, ι, env, rel, h⟩ =>
  ⟨ρ, μ, ι, env, rel, (Post.bind h).imp fun ι1 H1 μ1 x _ _ ⟨g1, r1, h1⟩ v rv => by
    cases x with
    | int i => exact ⟨i, rv.int, h1 ι1 H1 .refl r1⟩
    | _ => exact h1.elim⟩
def cutD (l : List D) (lo hi : Option Int) : List D := (l.drop (HT.sIx l.length 0 lo)).take (HT.sIx l.length l.length hi - HT.sIx l.length 0 lo)
def slcD (x : D) (lo hi : Option Int) (μ : Mem) : Res D := match x with
  | .tup l => .ok (.tup (cutD l lo hi)) μ
  | .frl l => .ok (.ref μ.length) (μ ++ [.lst (cutD l lo hi)])
  | .ref n => (match μ[n]? with
    | some (.lst l) => .ok (.ref μ.length) (μ ++ [.lst (cutD l lo hi)])
    | _ => .stuck)
  | _ => .stuck
@[simp] def mSlc (a : MD) (lo hi : MO) : MD := fun ρ μ => (a ρ μ).bind fun x μ1 => (lo ρ μ1).bind fun l μ2 => (hi ρ μ2).bind fun u μ3 => slcD x l u μ3
def rSlAll (K : PySem.W.Frag) : V → Option Int → Option Int → Hp → VK → Prop := fun x lo hi H Q => rSlA K x lo hi H Q ∨ rSlL K x lo hi H Q
theorem Reps.cut {G : Gd} {ι : List Addr} {H : Hp} {l : List D} {vs : List V} (h : Reps G ι H l vs) (lo hi : Option Int) : Reps G ι H (cutD l lo hi) (cutV vs lo hi) := by
  unfold cutD cutV
  rw [h.length]
  exact (h.drop _).take _
theorem cutD_whole {l : List D} {lo hi : Option Int} (h : HT.sIx l.length 0 lo = 0 ∧ HT.sIx l.length l.length hi = l.length) : cutD l lo hi = l := by
  unfold cutD
  rw [h.1, h.2]; simp
theorem se_slc {lo hi : Option Expr} {ml mh : MO} (ha : SE X W a ma) (hl : PO X lo (tO (gOf X) W ml)) (hh : PO X hi (tO (gOf X) W mh)) : SE X W (.Subscript a (.Slice lo hi none p2) pos) (mSlc ma ml mh) :=
  PE.mono (pe_slice (SlR.or sl_tupA sl_list) ha hl hh) fun σ H Q ⟨ρ, μ, ι, env, rel, h⟩ => by
    refine ⟨ρ, μ, ι, env, rel, (Post.bind h).imp fun ι1 H1 μ1 x _ _ ⟨g1, r1, h1⟩ v rv => ?_⟩
    refine ⟨ρ, μ1, ι1, env.ext (g1.ext rel), r1, (Post.bind h1).imp fun ι2 H2 μ2 l _ _ ⟨g2, r2, h2⟩ => ?_⟩
    refine ⟨ρ, μ2, ι2, (env.ext (g1.ext rel)).ext (g2.ext r1), r2, (Post.bind h2).imp fun ι3 H3 μ3 u _ _ ⟨g3, r3, h3⟩ => ?_⟩
    have rv := (rv.ext (g2.ext r1)).ext (g3.ext r2)
    cases x with
    | tup t =>
      obtain ⟨a, vs, rfl, q1, q2⟩ := rv.tup
      refine .inl ⟨a, vs, rfl, q1, fun hw => ?_, fun _ => new_tup r3 (q2.cut l u) h3⟩
      rw [q2.length] at hw
      exact h3 ι3 H3 .refl r3 _ (by rw [cutD_whole hw]; exact rv)
    | frl t =>
      obtain ⟨a, vs, rfl, q1, q2⟩ := rv.frl
      exact .inr ⟨a, vs, rfl, FrL.sq _ _ q1, new_lst r3 (q2.cut l u) h3⟩
    | ref n =>
      simp only [slcD] at h3
      split at h3
      · rename_i t em
        obtain ⟨a, vs, rfl, q0, q1, q2⟩ := r3.lst em rv
        exact .inr ⟨a, vs, rfl, .of q1, new_lst r3 (q2.cut l u) h3⟩
      · exact h3.elim
    | _ => exact h3.elim
end

/-! ### built-in functions -/
section
variable {X : Cx} {W : WX} {x : Str} {p pos : Pos} {e : Expr} {es : List Expr} {ms : ML} {id T : String}
@[simp] def mB (f : List D → Mem → Res D) (a : ML) : MD := fun ρ μ => (a ρ μ).bind fun xs μ1 => f xs μ1
def SndL (G : Gd) (r : List V → Hp → VK → Prop) (f : List D → Mem → Res D) : Prop := ∀ (ι : List Addr) (H : Hp) (μ : Mem) (xs : List D) (vs : List V) (W : WX) (σ : St) (Q : VK), Rel G ι H μ → Reps G ι H xs vs →
  Post G ι H W σ (f xs μ) (fun ι' H' _ d => ∀ v, Rep G ι' H' d v → Q v H') → r vs H Q
theorem cb_red {r : List V → Hp → VK → Prop} {f : List D → Mem → Res D} (hf : SndL (gOf X) r f) {σ : St} {H : Hp} {Q : VK} (h : tE (gOf X) W (mB f ms) σ H Q) : tCB r (tL (gOf X) W ms) σ H Q := by
  obtain ⟨ρ, μ, ι, env, rel, h⟩ := h
  exact ⟨ρ, μ, ι, env, rel, (Post.bind h).imp fun ι1 H1 μ1 xs _ _ ⟨g1, r1, h1⟩ vs rvs => hf ι1 H1 μ1 xs vs W σ Q r1 rvs h1⟩
theorem se_B {r : List V → Hp → VK → Prop} {f : List D → Mem → Res D} (hc : CallR X (.builtin id) r) (hf : SndL (gOf X) r f) (hg : Gl X x) (hm : X.mg x = none) (hv : bootBuiltins x = some (.builtin id)) (ha : SA X W (e :: es) ms) (hn : x ≠ "__name__" := by decide) (hdb : (x == ("__debug__" : Str)) = false := by decide)
    (he : starEach (e :: es) X.env = (false, eval e X.env) :: starEach es X.env := by rfl) (hpl : (backTo pos (starEach es X.env)).any (·.1) = false := by rfl) : SE X W (.Call (.Name x p) (e :: es) [] pos) (mB f ms) :=
  PE.mono (pe_callB hc hg hm hv ha hn hdb he hpl) fun σ H Q h => cb_red hf h
theorem se_T {r : List V → Hp → VK → Prop} {f : List D → Mem → Res D} (hc : CallR X (.type T) r) (hf : SndL (gOf X) r f) (hg : Gl X x) (hm : X.mg x = none) (hv : bootBuiltins x = some (.type T)) (ha : SA X W (e :: es) ms) (hn : x ≠ "__name__" := by decide) (hdb : (x == ("__debug__" : Str)) = false := by decide)
    (he : starEach (e :: es) X.env = (false, eval e X.env) :: starEach es X.env := by rfl) (hpl : (backTo pos (starEach es X.env)).any (·.1) = false := by rfl) : SE X W (.Call (.Name x p) (e :: es) [] pos) (mB f ms) :=
  PE.mono (pe_callTy hc hg hm hv ha hn hdb he hpl) fun σ H Q h => cb_red hf h
end
theorem Reps.one {G : Gd} {ι : List Addr} {H : Hp} {x : D} {vs : List V} (h : Reps G ι H [x] vs) : ∃ v, vs = [v] ∧ Rep G ι H x v := by
  obtain ⟨v, r, rfl, h1, h2⟩ := h.cons_inv
  rw [h2.nil_inv]; exact ⟨v, rfl, h1⟩
theorem Reps.two {G : Gd} {ι : List Addr} {H : Hp} {x y : D} {vs : List V} (h : Reps G ι H [x, y] vs) : ∃ v w, vs = [v, w] ∧ Rep G ι H x v ∧ Rep G ι H y w := by
  obtain ⟨v, r, rfl, h1, h2⟩ := h.cons_inv
  obtain ⟨w, rfl, h3⟩ := h2.one
  exact ⟨v, w, rfl, h1, h3⟩
def absL : List D → Mem → Res D
  | [.int i], μ => .ok (.int (if i < 0 then -i else i)) μ
  | _, _ => .stuck
def lenL : List D → Mem → Res D
  | [.tup l], μ => .ok (.int l.length) μ
  | [.frl l], μ => .ok (.int l.length) μ
  | [.ref n], μ => (match μ[n]? with
    | some (.lst l) => .ok (.int l.length) μ
    | _ => .stuck)
  | [.str z], μ => if z.length ≤ sizeLine then .ok (.int z.length) μ else .stuck
  | _, _ => .stuck
def min2L : List D → Mem → Res D
  | [.int i, .int j], μ => .ok (.int (if j < i then j else i)) μ
  | _, _ => .stuck
def max2L : List D → Mem → Res D
  | [.int i, .int j], μ => .ok (.int (if j > i then j else i)) μ
  | _, _ => .stuck
def intL : List D → Mem → Res D
  | [.int i], μ => .ok (.int i) μ
  | [.bl k], μ => .ok (.int (if k then 1 else 0)) μ
  | _, _ => .stuck
def tupleL : List D → Mem → Res D
  | [.tup l], μ => .ok (.tup l) μ
  | [.frl l], μ => .ok (.tup l) μ
  | [.ref n], μ => (match μ[n]? with
    | some (.lst l) => .ok (.tup l) μ
    | _ => .stuck)
  | _, _ => .stuck
def listL : List D → Mem → Res D
  | [.tup l], μ => .ok (.ref μ.length) (μ ++ [.lst l])
  | [.frl l], μ => .ok (.ref μ.length) (μ ++ [.lst l])
  | [.ref n], μ => (match μ[n]? with
    | some (.lst l) => .ok (.ref μ.length) (μ ++ [.lst l])
    | _ => .stuck)
  | _, _ => .stuck
theorem snd_abs {G : Gd} : SndL G (fun xs H Q => ∃ i, xs = [.int i] ∧ Q (.int (if i < 0 then -i else i)) H) absL := fun ι H μ xs vs W σ Q r rxs h => by
  unfold absL at h
  split at h
  · obtain ⟨v, rfl, rv⟩ := rxs.one
    exact ⟨_, by rw [rv.int], h ι H .refl r _ (rep_int _)⟩
  · exact h.elim
theorem snd_min2 {G : Gd} : SndL G (fun xs H Q => ∃ i j, xs = [.int i, .int j] ∧ Q (.int (if j < i then j else i)) H) min2L := fun ι H μ xs vs W σ Q r rxs h => by
  unfold min2L at h
  split at h
  · obtain ⟨v, w, rfl, rv, rw'⟩ := rxs.two
    exact ⟨_, _, by rw [rv.int, rw'.int], h ι H .refl r _ (rep_int _)⟩
  · exact h.elim
theorem snd_max2 {G : Gd} : SndL G (fun xs H Q => ∃ i j, xs = [.int i, .int j] ∧ Q (.int (if j > i then j else i)) H) max2L := fun ι H μ xs vs W σ Q r rxs h => by
  unfold max2L at h
  split at h
  · obtain ⟨v, w, rfl, rv, rw'⟩ := rxs.two
    exact ⟨_, _, by rw [rv.int, rw'.int], h ι H .refl r _ (rep_int _)⟩
  · exact h.elim
theorem snd_intL {G : Gd} : SndL G (fun xs H Q => (∃ i, xs = [.int i] ∧ Q (.int i) H) ∨ ∃ k, xs = [.bl k] ∧ Q (.int (if k then 1 else 0)) H) intL := fun ι H μ xs vs W σ Q r rxs h => by
  unfold intL at h
  split at h
  · obtain ⟨v, rfl, rv⟩ := rxs.one
    exact .inl ⟨_, by rw [rv.int], h ι H .refl r _ (rep_int _)⟩
  · obtain ⟨v, rfl, rv⟩ := rxs.one
    exact .inr ⟨_, by rw [rv.bl], h ι H .refl r _ (rep_int _)⟩
  · exact h.elim
def rLenA (K : PySem.W.Frag) : List V → Hp → VK → Prop := fun xs H Q => (∃ p ys, xs = [.ref p] ∧ (SqL K H p ys ∨ SqT K H p ys) ∧ Q (.int ys.length) H) ∨ (∃ z, xs = [.str z] ∧ z.length ≤ sizeLine ∧ Q (.int z.length) H)
theorem call_lenA {X : Cx} : CallR X (.builtin "len") (rLenA X.K) := call_len_seq.or call_len_str
theorem snd_len {G : Gd} : SndL G (rLenA G.K) lenL := fun ι H μ xs vs W σ Q r rxs h => by
  unfold lenL at h
  split at h
  · obtain ⟨v, rfl, rv⟩ := rxs.one
    obtain ⟨a, vs, rfl, h1, h2⟩ := rv.tup
    exact .inl ⟨a, vs, rfl, .inr h1, by rw [h2.length]; exact h ι H .refl r _ (rep_int _)⟩
  · obtain ⟨v, rfl, rv⟩ := rxs.one
    obtain ⟨a, vs, rfl, h1, h2⟩ := rv.frl
    exact .inl ⟨a, vs, rfl, .inl (FrL.sq _ _ h1), by rw [h2.length]; exact h ι H .refl r _ (rep_int _)⟩
  · obtain ⟨v, rfl, rv⟩ := rxs.one
    split at h
    · rename_i l em
      obtain ⟨a, vs, rfl, h0, h1, h2⟩ := r.lst em rv
      exact .inl ⟨a, vs, rfl, .inl (.of h1), by rw [h2.length]; exact h ι H .refl r _ (rep_int _)⟩
    · exact h.elim
  · obtain ⟨v, rfl, rv⟩ := rxs.one
    split at h
    · rename_i hl
      exact .inr ⟨_, by rw [rv.str], hl, h ι H .refl r _ (rep_int _)⟩
    · exact h.elim
  · exact h.elim
theorem snd_tupleL {G : Gd} : SndL G (fun xs H Q => ∃ p ys, xs = [.ref p] ∧ ((SqL G.K H p ys ∧ ∀ l, H l = none → Q (.ref l) (upd H l (.tup ys))) ∨ (SqT G.K H p ys ∧ Q (.ref p) H))) tupleL := fun ι H μ xs vs W σ Q r rxs h => by
  unfold tupleL at h
  split at h
  · obtain ⟨v, rfl, rv⟩ := rxs.one
    obtain ⟨a, vs, rfl, h1, h2⟩ := id rv.tup
    exact ⟨a, vs, rfl, .inr ⟨h1, h ι H .refl r _ rv⟩⟩
  · obtain ⟨v, rfl, rv⟩ := rxs.one
    obtain ⟨a, vs, rfl, h1, h2⟩ := rv.frl
    exact ⟨a, vs, rfl, .inl ⟨FrL.sq _ _ h1, new_tup r h2 h⟩⟩
  · obtain ⟨v, rfl, rv⟩ := rxs.one
    split at h
    · rename_i l em
      obtain ⟨a, vs, rfl, h0, h1, h2⟩ := r.lst em rv
      exact ⟨a, vs, rfl, .inl ⟨.of h1, new_tup r h2 h⟩⟩
    · exact h.elim
  · exact h.elim
theorem snd_listL {G : Gd} : SndL G (fun xs H Q => ∃ p ys, xs = [.ref p] ∧ (SqL G.K H p ys ∨ SqT G.K H p ys) ∧ ∀ l, H l = none → Q (.ref l) (upd H l (.lst ys))) listL := fun ι H μ xs vs W σ Q r rxs h => by
  unfold listL at h
  split at h
  · obtain ⟨v, rfl, rv⟩ := rxs.one
    obtain ⟨a, vs, rfl, h1, h2⟩ := id rv.tup
    exact ⟨a, vs, rfl, .inr h1, new_lst r h2 h⟩
  · obtain ⟨v, rfl, rv⟩ := rxs.one
    obtain ⟨a, vs, rfl, h1, h2⟩ := rv.frl
    exact ⟨a, vs, rfl, .inl (FrL.sq _ _ h1), new_lst r h2 h⟩
  · obtain ⟨v, rfl, rv⟩ := rxs.one
    split at h
    · rename_i l em
      obtain ⟨a, vs, rfl, h0, h1, h2⟩ := r.lst em rv
      exact ⟨a, vs, rfl, .inl (.of h1), new_lst r h2 h⟩
    · exact h.elim
  · exact h.elim
end RW

/-! SEf: statements, loops. -/
namespace RW
open PySem L2
abbrev SS (X : Cx) (W : WX) (st : Stmt) (m : MS) : Prop := PS X st (tS (gOf X) W m)
abbrev SSs (X : Cx) (W : WX) (st : List Stmt) (m : MS) : Prop := PSs X st (tS (gOf X) W m)
abbrev MG := D → Rho → Mem → Res Rho
abbrev MIt := Rho → Mem → Res (List D × (Mem → Prop))
@[simp] def sNil : MS := fun ρ μ => .ok (.nx ρ) μ
@[simp] def sNever : MS := fun ρ μ => .stuck
@[simp] def sBrk : MS := fun ρ μ => .ok (.brk ρ) μ
@[simp] def sCnt : MS := fun ρ μ => .ok (.cnt ρ) μ
@[simp] def thenS (b : MS) : Fl → Mem → Res Fl
  | .nx ρ', μ => b ρ' μ
  | f, μ => .ok f μ
@[simp] def sSeq (a b : MS) : MS := fun ρ μ => (a ρ μ).bind (thenS b)
@[simp] def sIf (c : MB) (a b : MS) : MS := fun ρ μ => onE (c ρ μ) ρ fun t μ1 => if t = true then a ρ μ1 else b ρ μ1
@[simp] def sExpr (e : MD) : MS := fun ρ μ => onE (e ρ μ) ρ fun _ μ1 => .ok (.nx ρ) μ1
@[simp] def sRet (e : MD) : MS := fun ρ μ => onE (e ρ μ) ρ fun d μ1 => .ok (.ret d) μ1
@[simp] def sRetN : MS := fun ρ μ => .ok (.ret .non) μ
@[simp] def sSet (i : Nat) (e : MD) : MS := fun ρ μ => onE (e ρ μ) ρ fun d μ1 => .ok (.nx (ρ.set i (some d))) μ1
/-- no exception here -/
@[simp] def pureE {α β : Type} (r : Res α) (k : α → Mem → Res β) : Res β := match r with
  | .ok a m => k a m
  | _ => .stuck
@[simp] def sAsg (e : MD) (g : MG) : MS := fun ρ μ => onE (e ρ μ) ρ fun d μ1 => pureE (g d ρ μ1) fun ρ' μ2 => .ok (.nx ρ') μ2
@[simp] def sAug (i : Nat) (f : D → D → Mem → Res D) (e : MD) : MS := fun ρ μ => onE (mVar i ρ μ) ρ fun x μ1 => onE (e ρ μ1) ρ fun y μ2 => pureE (f x y μ2) fun z μ3 => .ok (.nx (ρ.set i (some z))) μ3
@[simp] def endL (k : MS) : Fl → Mem → Res Fl
  | .nx ρ, μ => k ρ μ
  | .cnt ρ, μ => k ρ μ
  | .brk ρ, μ => .ok (.nx ρ) μ
  | f, μ => .ok f μ
open Classical in
noncomputable def forL (chk : Mem → Prop) (g : MG) (body : MS) : List D → MS
  | [], ρ, μ => if chk μ then .ok (.nx ρ) μ else .stuck
  | d :: ds, ρ, μ => if chk μ then pureE (g d ρ μ) fun ρ1 μ1 => (body ρ1 μ1).bind (endL (forL chk g body ds)) else .stuck
@[simp] noncomputable def sFor (it : MIt) (g : MG) (body : MS) : MS := fun ρ μ => onE (it ρ μ) ρ fun p μ1 => forL p.2 g body p.1 ρ μ1
def whileL (c : MB) (body : MS) : Nat → MS
  | 0, _, _ => .stuck
  | n + 1, ρ, μ => onE (c ρ μ) ρ fun b μ1 => if b = true then (body ρ μ1).bind (endL (whileL c body n)) else .ok (.nx ρ) μ1

section
variable {G : Gd} {ι ι' : List Addr} {H H' : Hp} {W : WX} {σ : St} {ρ : Rho} {α : Type}
theorem PostS.bind {r : Res Fl} {f : Fl → Mem → Res Fl} {k : List Addr → Hp → Mem → Fl → Prop} (h : PostS G ι H (r.bind f) k) :
    PostS G ι H r fun ι' H' μ' a => Grow ι H ι' H' ∧ Rel G ι' H' μ' ∧ PostS G ι' H' (f a μ') k := by
  cases r with
  | ok a m => exact fun ι' H' g r => ⟨g, r, PostS.grow h g⟩
  | exc c fs m => exact h
  | stuck => exact h
theorem PostS.imp {r : Res Fl} {k k' : List Addr → Hp → Mem → Fl → Prop} (h : PostS G ι H r k) (f : ∀ ι' H' μ' a, Grow ι H ι' H' → Rel G ι' H' μ' → k ι' H' μ' a → k' ι' H' μ' a) : PostS G ι H r k' := by
  cases r with
  | ok a m => exact fun ι' H' g r => f _ _ _ _ g r (h ι' H' g r)
  | exc c fs m => exact h
  | stuck => exact h
/-- a step that may not raise -/
theorem PostS.pureE {D : Ends} {r : Res α} {k : α → Mem → Res Fl} (h : PostS G ι H (pureE r k) (FlK G W D)) :
    Post G ι H W σ r fun ι' H' μ' a => Grow ι H ι' H' ∧ Rel G ι' H' μ' ∧ PostS G ι' H' (k a μ') (FlK G W D) := by
  cases r with
  | ok a m => exact fun ι' H' g r => ⟨g, r, PostS.grow h g⟩
  | exc c fs m => exact h.elim
  | stuck => exact h.elim
end

section
variable {X : Cx} {W : WX} {st : Stmt} {rest : List Stmt} {m m' : MS} {e c : Expr} {me : MD} {pos : Pos}
theorem sss_nil : SSs X W [] sNil := PSs.mono pss_nil fun D σ H ⟨ρ, μ, ι, env, rel, h⟩ => h ι H .refl rel σ env
theorem sss_one (h : SS X W st m) : SSs X W [st] m := pss_one h
theorem sss_cons (h1 : SS X W st m) (h2 : SSs X W rest m') : SSs X W (st :: rest) (sSeq m m') :=
  PSs.mono (pss_cons h1 h2) fun D σ H ⟨ρ, μ, ι, env, rel, h⟩ => by
    refine ⟨ρ, μ, ι, env, rel, (PostS.bind h).imp fun ι1 H1 μ1 f _ _ ⟨g1, r1, h1⟩ => ?_⟩
    cases f with
    | nx ρ' => exact fun σ' env' => ⟨ρ', μ1, ι1, env', r1, h1⟩
    | brk ρ' => exact h1 ι1 H1 .refl r1
    | cnt ρ' => exact h1 ι1 H1 .refl r1
    | ret d => exact h1 ι1 H1 .refl r1
    | exc c fs ρ' => exact h1 ι1 H1 .refl r1
theorem ss_pass : SS X W (.Pass pos) sNil := PS.mono ps_pass fun D σ H ⟨ρ, μ, ι, env, rel, h⟩ => h ι H .refl rel σ env
theorem ss_brk : SS X W (.Break pos) sBrk := PS.mono ps_break fun D σ H ⟨ρ, μ, ι, env, rel, h⟩ => h ι H .refl rel σ env
theorem ss_cnt : SS X W (.Continue pos) sCnt := PS.mono ps_continue fun D σ H ⟨ρ, μ, ι, env, rel, h⟩ => h ι H .refl rel σ env
theorem ss_retN : SS X W (.Return none pos) sRetN := PS.mono ps_retN fun D σ H ⟨ρ, μ, ι, env, rel, h⟩ => h ι H .refl rel _ rep_non
theorem ss_expr (he : SE X W e me) (hs : swapsWith e none pos.line X.env = pure false := by rfl) : SS X W (.Expr e pos) (sExpr me) :=
  PS.mono (ps_expr he hs) fun D σ H ⟨ρ, μ, ι, env, rel, h⟩ =>
    ⟨ρ, μ, ι, env, rel, (PostS.onE h env ⟨μ, rel⟩).imp fun ι1 H1 μ1 d _ _ ⟨g1, r1, env1, h1⟩ v rv => h1 ι1 H1 .refl r1 σ env1⟩
theorem ss_ret (he : SE X W e me) : SS X W (.Return (some e) pos) (sRet me) :=
  PS.mono (ps_ret he) fun D σ H ⟨ρ, μ, ι, env, rel, h⟩ =>
    ⟨ρ, μ, ι, env, rel, (PostS.onE h env ⟨μ, rel⟩).imp fun ι1 H1 μ1 d _ _ ⟨g1, r1, env1, h1⟩ v rv => h1 ι1 H1 .refl r1 v rv⟩
theorem ss_if {a b : List Stmt} {mc : MB} (hc : ST X W c mc) (ha : SSs X W a m) (hb : SSs X W b m') : SS X W (.If c a b pos) (sIf mc m m') :=
  PS.mono (ps_if hc ha hb) fun D σ H ⟨ρ, μ, ι, env, rel, h⟩ => by
    refine ⟨ρ, μ, ι, env, rel, (PostS.onE h env ⟨μ, rel⟩).imp fun ι1 H1 μ1 t _ _ ⟨g1, r1, env1, h1⟩ => ?_⟩
    cases t with
    | true => exact iteT ⟨ρ, μ1, ι1, env1, r1, h1⟩
    | false => exact iteF ⟨ρ, μ1, ι1, env1, r1, h1⟩
theorem ss_set {i : Nat} {x : Str} {pos' : Pos} (hN : X.N.Nodup) (hi : X.N[i]? = some x) (hx : Loc X.env.scope x) (he : SE X W e me) (hs : swapsWith e (some (.Name x pos')) pos.line X.env = pure false := by rfl) (hf : X.fn x = true ∨ X.env.scope.names.lookup x = some .local := by first | exact .inl rfl | exact .inr rfl | assumption) :
    SS X W (.Assign [.Name x pos'] e pos) (sSet i me) :=
  PS.mono (ps_set hN hi hx he hs hf) fun D σ H ⟨ρ, μ, ι, env, rel, h⟩ =>
    ⟨ρ, μ, ι, env, rel, (PostS.onE h env ⟨μ, rel⟩).imp fun ι1 H1 μ1 d _ _ ⟨g1, r1, env1, h1⟩ v rv => h1 ι1 H1 .refl r1 _ (env1.set i rv)⟩
end

/-! ### targets -/
def tG (G : Gd) (W : WX) (g : MG) : TG := fun v σ H Q => ∃ d ρ μ ι, Rep G ι H d v ∧ EnvOk G ι H ρ σ ∧ Rel G ι H μ ∧ Post G ι H W σ (g d ρ μ) fun ι' H' _ ρ' => ∀ σ', EnvOk G ι' H' ρ' σ' → Q σ' H'
abbrev MGs := List D → Rho → Mem → Res Rho
def tGs (G : Gd) (W : WX) (g : MGs) : TGs := fun vs σ H Q => ∃ ds ρ μ ι, Reps G ι H ds vs ∧ EnvOk G ι H ρ σ ∧ Rel G ι H μ ∧ Post G ι H W σ (g ds ρ μ) fun ι' H' _ ρ' => ∀ σ', EnvOk G ι' H' ρ' σ' → Q σ' H'
@[simp] def gN (i : Nat) : MG := fun d ρ μ => .ok (ρ.set i (some d)) μ
@[simp] def gNilM : MGs := fun ds ρ μ => match ds with
  | [] => .ok ρ μ
  | _ => .stuck
/-- where an exception in a target would do, nothing is promised -/
@[simp] def gConsM (a : MG) (r : MGs) : MGs := fun ds ρ μ => match ds with
  | [] => .stuck
  | d :: l => pureE (a d ρ μ) fun ρ1 μ1 => pureE (r l ρ1 μ1) fun ρ2 μ2 => .ok ρ2 μ2
@[simp] def gTupM (n : Nat) (r : MGs) : MG := fun d ρ μ => match d with
  | .tup l => if l.length = n then r l ρ μ else .stuck
  | .ref k => (match μ[k]? with
    | some (.lst l) => if l.length = n then r l ρ μ else .stuck
    | _ => .stuck)
  | _ => .stuck
theorem PG.or {X : Cx} {e : Expr} {t t' : TG} (h : PG X e t) (h' : PG X e t') : PG X e fun v σ H Q => t v σ H Q ∨ t' v σ H Q := ⟨fun pins s σ H v u Q I r w => w.elim (h.run pins s σ H v u Q I r) (h'.run pins s σ H v u Q I r)⟩
theorem PG.mono {X : Cx} {e : Expr} {t t' : TG} (h : PG X e t) (f : ∀ v σ H Q, t' v σ H Q → t v σ H Q) : PG X e t' := ⟨fun pins s σ H v u Q I r w => h.run pins s σ H v u Q I r (f v σ H Q w)⟩
theorem PGs.mono {X : Cx} {e : List Expr} {t t' : TGs} (h : PGs X e t) (f : ∀ v σ H Q, t' v σ H Q → t v σ H Q) : PGs X e t' := ⟨fun pins s σ H v u Q I r w => h.run pins s σ H v u Q I r (f v σ H Q w)⟩
abbrev SG (X : Cx) (W : WX) (e : Expr) (g : MG) : Prop := PG X e (tG (gOf X) W g)
abbrev SGs (X : Cx) (W : WX) (e : List Expr) (g : MGs) : Prop := PGs X e (tGs (gOf X) W g)
section
variable {G : Gd} {ι ι' : List Addr} {H H' : Hp} {W : WX} {σ : St} {α β : Type}
theorem Post.pureE {r : Res α} {k : α → Mem → Res β} {kk : List Addr → Hp → Mem → β → Prop} (W' : WX) (σ' : St) (h : Post G ι H W σ (RW.pureE r k) kk) :
    Post G ι H W' σ' r fun ι' H' μ' a => Grow ι H ι' H' ∧ Rel G ι' H' μ' ∧ Post G ι' H' W σ (k a μ') kk := by
  cases r with
  | ok a m => exact fun ι' H' g r => ⟨g, r, Post.grow h g⟩
  | exc c fs m => exact h.elim
  | stuck => exact h.elim
end
section
variable {X : Cx} {W : WX} {pos : Pos} {e o i : Expr} {es : List Expr} {me mo mi : MD}
theorem sg_name {j : Nat} {x : Str} (hN : X.N.Nodup) (hi : X.N[j]? = some x) (hx : Loc X.env.scope x) (hf : X.fn x = true ∨ X.env.scope.names.lookup x = some .local := by first | exact .inl rfl | exact .inr rfl | assumption) : SG X W (.Name x pos) (gN j) :=
  PG.mono (pg_name hN hi hx hf) fun v σ H Q ⟨d, ρ, μ, ι, rv, env, rel, h⟩ => h ι H .refl rel _ (env.set j rv)
theorem sgs_nil : SGs X W [] gNilM := PGs.mono pgs_nil fun vs σ H Q ⟨ds, ρ, μ, ι, rv, env, rel, h⟩ => by
  cases ds with
  | nil => exact ⟨rv.nil_inv, h ι H .refl rel σ env⟩
  | cons _ _ => exact h.elim
theorem sgs_cons {g : MG} {gs : MGs} (h1 : SG X W e g) (h2 : SGs X W es gs) (hs : (assignEach (e :: es) X.env).map (·.2) = assign e X.env :: (assignEach es X.env).map (·.2) := by rfl) : SGs X W (e :: es) (gConsM g gs) :=
  PGs.mono (pgs_cons h1 h2 hs) fun vs σ H Q ⟨ds, ρ, μ, ι, rv, env, rel, h⟩ => by
    cases ds with
    | nil => exact h.elim
    | cons d l =>
      obtain ⟨v, r, rfl, h3, h4⟩ := rv.cons_inv
      refine ⟨v, r, rfl, d, ρ, μ, ι, h3, env, rel, (Post.pureE W σ h).imp fun ι1 H1 μ1 ρ1 _ _ ⟨g1, r1, h1⟩ σ1 env1 => ?_⟩
      exact ⟨l, ρ1, μ1, ι1, h4.ext (g1.ext rel), env1, r1, (Post.pureE W σ1 h1).imp fun ι2 H2 μ2 ρ2 _ _ ⟨g2, r2, h2⟩ σ2 env2 => h2 ι2 H2 .refl r2 σ2 env2⟩
theorem sg_tup {k n : Nat} {gs : MGs} (hc : X.calm = true) (h : SGs X W es gs) (hn : (assignEach es X.env).length = n := by rfl) (hst : (assignEach es X.env).findIdx? (·.1) = none := by rfl) : SG X W (.Tuple es k pos) (gTupM n gs) :=
  PG.mono (PG.or (pg_tup hc h hn hst) (pg_lst hc h hn hst)) fun v σ H Q ⟨d, ρ, μ, ι, rv, env, rel, h⟩ => by
    cases d with
    | tup l =>
      simp only [gTupM] at h
      split at h
      · rename_i hl
        obtain ⟨a, vs, rfl, h1, h2⟩ := rv.tup
        exact .inl ⟨a, vs, rfl, h1, h2.length.trans hl, l, ρ, μ, ι, h2, env, rel, h⟩
      · exact h.elim
    | ref m =>
      simp only [gTupM] at h
      split at h
      · rename_i l em
        split at h
        · rename_i hl
          obtain ⟨a, vs, rfl, h0, h1, h2⟩ := rel.lst em rv
          exact .inr ⟨a, vs, rfl, .of h1, h2.length.trans hl, l, ρ, μ, ι, h2, env, rel, h⟩
        · exact h.elim
      · exact h.elim
    | _ => exact h.elim
/-! a store at a place -/
def SndSet (G : Gd) (r : TSet) (f : D → D → D → Mem → Res Unit) : Prop := ∀ (ι : List Addr) (H : Hp) (μ : Mem) (o i x : D) (ov iv v : V) (W : WX) (σ : St) (Q : Hp → Prop), Rel G ι H μ → Rep G ι H o ov → Rep G ι H i iv → Rep G ι H x v →
  Post G ι H W σ (f o i x μ) (fun ι' H' _ _ => Q H') → r ov iv v H Q
@[simp] def gSubM (f : D → D → D → Mem → Res Unit) (o i : MD) : MG := fun d ρ μ => (o ρ μ).bind fun x μ1 => (i ρ μ1).bind fun y μ2 => pureE (f x y d μ2) fun _ μ3 => .ok ρ μ3
theorem sg_sub {t : TSet} {f : D → D → D → Mem → Res Unit} (ho : SE X W o mo) (hi : SE X W i mi) (hs : PSet X t) (hf : SndSet (gOf X) t f)
    (ha : ∀ v, assign (.Subscript o i pos) X.env v = (do
      let ov ← holding [v] (eval o X.env)
      let iv ← holding [v, ov] (eval i X.env)
      standAt pos
      holding [v, ov, iv] (setItem ov iv v)
      release [v, ov, iv] []) := by intro _; rfl) : SG X W (.Subscript o i pos) (gSubM f mo mi) :=
  PG.mono (pg_sub ho hi hs ha) fun v σ H Q ⟨d, ρ, μ, ι, rv, env, rel, h⟩ => by
    refine ⟨ρ, μ, ι, env, rel, (Post.bind h).imp fun ι1 H1 μ1 x _ _ ⟨g1, r1, h1⟩ ov rov => ?_⟩
    have env1 := env.ext (g1.ext rel)
    refine ⟨ρ, μ1, ι1, env1, r1, (Post.bind h1).imp fun ι2 H2 μ2 y _ _ ⟨g2, r2, h2⟩ iv riv => ?_⟩
    have env2 := env1.ext (g2.ext r1)
    exact hf ι2 H2 μ2 x y d ov iv v W σ _ r2 (rov.ext (g2.ext r1)) riv ((rv.ext (g1.ext rel)).ext (g2.ext r1)) ((Post.pureE W σ h2).imp fun ι3 H3 μ3 _ _ _ ⟨g3, r3, h3⟩ => h3 ι3 H3 .refl r3 σ (env2.ext (g3.ext r2)))
def setLD : D → D → D → Mem → Res Unit
  | .ref n, .int k, d, μ => (match μ[n]? with
    | some (.lst l) => (match ixN l.length k with
      | some j => .ok () (μ.set n (.lst (l.set j d)))
      | none => .stuck)
    | _ => .stuck)
  | _, _, _, _ => .stuck
theorem snd_setL {G : Gd} : SndSet G rSetL setLD := fun ι H μ o i x ov iv v W σ Q r ro ri rx h => by
  cases o <;> first | exact h.elim | skip
  cases i <;> first | exact h.elim | skip
  simp only [setLD] at h
  split at h
  · rename_i l em
    split at h
    · rename_i j ej
      obtain ⟨a, vs, rfl, h0, h1, h2⟩ := r.lst em ro
      refine ⟨a, vs, _, j, rfl, ri.int, h1, by rw [h2.length]; exact ej, ?_⟩
      obtain ⟨g2, r2⟩ := grow_set (o := .lst (vs.set j v)) (c := .lst (l.set j x)) r h0 (fun _ _ e => by rw [h1] at e; cases e) fun e => ⟨_, upd_same, (h2.set j rx).ext e⟩
      exact h ι _ g2 r2
    · exact h.elim
  · exact h.elim
theorem ss_asg {tg : Expr} {g : MG} (he : SE X W e me) (hg : SG X W tg g) (hs : swapsWithSole [tg] e pos.line X.env = pure false := by rfl) (hw : swappedStores [tg] e X.env = pure none := by rfl)
    (h1 : (assignEach [tg] X.env).map (·.2) = [assign tg X.env] := by rfl) : SS X W (.Assign [tg] e pos) (sAsg me g) :=
  PS.mono (ps_asg he hg hs hw h1) fun D σ H ⟨ρ, μ, ι, env, rel, h⟩ =>
    ⟨ρ, μ, ι, env, rel, (PostS.onE h env ⟨μ, rel⟩).imp fun ι1 H1 μ1 d _ _ ⟨g1, r1, env1, h1⟩ v rv =>
      ⟨d, ρ, μ1, ι1, rv, env1, r1, (PostS.pureE (W := W) (σ := σ) h1).imp fun ι2 H2 μ2 ρ2 _ _ ⟨g2, r2, h2⟩ σ2 env2 => h2 ι2 H2 .refl r2 σ2 env2⟩⟩
def SndIp (G : Gd) (r : TIp) (f : D → D → Mem → Res D) : Prop := Snd2 G r f
theorem ss_aug {j : Nat} {x : Str} {op : Operator} {ti : TIp} {f : D → D → Mem → Res D} {pos' : Pos} (hN : X.N.Nodup) (hi : X.N[j]? = some x) (hx : Loc X.env.scope x) (he : SE X W e me) (ho : PIp X op ti) (hf : Snd2 (gOf X) ti f) (hfn : X.fn x = true ∨ X.env.scope.names.lookup x = some .local := by first | exact .inl rfl | exact .inr rfl | assumption) :
    SS X W (.AugAssign (.Name x pos') op e pos) (sAug j f me) :=
  PS.mono (ps_aug hN hi hx he ho hfn) fun D σ H ⟨ρ, μ, ι, env, rel, h⟩ => by
    have h := PostS.onE h env ⟨μ, rel⟩
    simp only [mVar] at h
    cases eq : ρ[j]? with
    | none => rw [eq] at h; exact h.elim
    | some od =>
      rw [eq] at h
      cases od with
      | none => exact h.elim
      | some d =>
        obtain ⟨v, h1, h2⟩ := env.at_ j d eq
        obtain ⟨_, _, _, h3⟩ := h ι H .refl rel
        refine ⟨v, h1, ρ, μ, ι, env, rel, (PostS.onE h3 env ⟨μ, rel⟩).imp fun ι1 H1 μ1 y _ _ ⟨g1, r1, env1, h4⟩ u ru => ?_⟩
        exact hf ι1 H1 μ1 d y v u W σ _ r1 (h2.ext (g1.ext rel)) ru ((PostS.pureE h4).imp fun ι2 H2 μ2 z _ _ ⟨g2, r2, h5⟩ w rw' => h5 ι2 H2 .refl r2 _ ((env1.ext (g2.ext r1)).set j rw'))
theorem pip_of {op : Operator} {r : R2} (ho : OpR X (inplaceOp op) r) : PIp X op r := fun pins s σ H x y v u Q I r1 r2 h => augR ho I r1 r2 h
end

/-! ### what is walked -/
structure ItOk (G : Gd) (ι0 : List Addr) (H0 : Hp) (J : It) (items : List D) (chk : Mem → Prop) : Prop where
  go : ∀ (i : Nat) (d : D) (ι : List Addr) (H : Hp) (μ : Mem), items[i]? = some d → Grow ι0 H0 ι H → Rel G ι H μ → chk μ → J.go i H
  yld : ∀ (i : Nat) (d : D) (ι : List Addr) (H : Hp) (μ : Mem) (x : V) (H' : Hp), items[i]? = some d → Grow ι0 H0 ι H → Rel G ι H μ → chk μ → J.yld i H x H' → Grow ι H ι H' ∧ Rel G ι H' μ ∧ Rep G ι H' d x
  stop : ∀ (ι : List Addr) (H : Hp) (μ : Mem), Grow ι0 H0 ι H → Rel G ι H μ → chk μ → J.stop items.length H
def tI (G : Gd) (W : WX) (m : MIt) : TI := fun σ H R => ∃ ρ μ ι, EnvOk G ι H ρ σ ∧ Rel G ι H μ ∧ Post G ι H W σ (m ρ μ) fun ι' H' _ p => ∀ J, ItOk G ι' H' J p.1 p.2 → R J H'
abbrev SI (X : Cx) (W : WX) (tg iter : Expr) (m : MIt) : Prop := PI X tg iter (tI (gOf X) W m)
theorem PI.mono {X : Cx} {tg e : Expr} {t t' : TI} (h : PI X tg e t) (f : ∀ σ H Q, t' σ H Q → t σ H Q) : PI X tg e t' := ⟨fun pins s σ H Q I w => h.run pins s σ H Q I (f σ H Q w)⟩
theorem PI.or {X : Cx} {tg e : Expr} {t t' : TI} (h : PI X tg e t) (h' : PI X tg e t') : PI X tg e fun σ H R => t σ H R ∨ t' σ H R := ⟨fun pins s σ H Q I w => w.elim (h.run pins s σ H Q I) (h'.run pins s σ H Q I)⟩
def itSeq : D → Mem → Res (List D × (Mem → Prop))
  | .tup l, μ => .ok (l, fun _ => True) μ
  | .frl l, μ => .ok (l, fun _ => True) μ
  | .ref n, μ => (match μ[n]? with
    | some (.lst l) => .ok (l, fun μ' => μ'[n]? = some (.lst l)) μ
    | _ => .stuck)
  | _, _ => .stuck
@[simp] def iSeq (a : MD) : MIt := fun ρ μ => (a ρ μ).bind fun x μ1 => itSeq x μ1
section
variable {G : Gd} {ι : List Addr} {H : Hp} {μ : Mem}
theorem it_tup {a : Addr} {l : List D} {vs : List V} (rel : Rel G ι H μ) (h1 : SqT G.K H a vs) (h2 : Reps G ι H l vs) : ItOk G ι H (Itt G.K a) l (fun _ => True) where
  go := fun i d ι' H' μ' e g r _ => by
    have x := g.ext rel
    obtain ⟨v, e1, _⟩ := h2.get e
    refine ⟨vs, v, ?_, e1⟩
    rcases h1 with (h1 | ⟨o, h1⟩) | h1
    · exact .inl (.inl (x.tup _ _ h1))
    · exact .inl (.inr ⟨o, x.frz _ _ _ h1 ⟨_, by first | exact .inl rfl | exact .inr rfl⟩⟩)
    · exact .inr h1
  yld := fun i d ι' H' μ' v H2 e g r _ ⟨e1, e2⟩ => by
    subst e1
    have x := g.ext rel
    have sq : SqT G.K H2 a vs := by
      rcases h1 with (h1 | ⟨o, h1⟩) | h1
      · exact .inl (.inl (x.tup _ _ h1))
      · exact .inl (.inr ⟨o, x.frz _ _ _ h1 ⟨_, by first | exact .inl rfl | exact .inr rfl⟩⟩)
      · exact .inr h1
    obtain ⟨v', e3, r3⟩ := h2.get e
    rw [e2 vs sq] at e3; cases e3
    exact ⟨.refl, r, r3.ext x⟩
  stop := fun ι' H' μ' g r _ => by
    have x := g.ext rel
    refine ⟨vs, ?_, by rw [h2.length]; exact Nat.le_refl _⟩
    rcases h1 with (h1 | ⟨o, h1⟩) | h1
    · exact .inl (.inl (x.tup _ _ h1))
    · exact .inl (.inr ⟨o, x.frz _ _ _ h1 ⟨_, by first | exact .inl rfl | exact .inr rfl⟩⟩)
    · exact .inr h1
theorem it_frl {a : Addr} {l : List D} {vs : List V} (rel : Rel G ι H μ) (h1 : FrL G H a vs) (h2 : Reps G ι H l vs) : ItOk G ι H (Itl G.K a) l (fun _ => True) := by
  have key : ∀ {ι' : List Addr} {H' : Hp}, Grow ι H ι' H' → SqL G.K H' a vs := fun {ι' H'} g => by
    have x := g.ext rel
    rcases h1 with ⟨o, h1⟩ | h1
    · exact .inl (.inr ⟨o, x.frz _ _ _ h1 ⟨_, by first | exact .inl rfl | exact .inr rfl⟩⟩)
    · exact .inr h1
  refine ⟨fun i d ι' H' μ' e g r _ => ?_, fun i d ι' H' μ' v H2 e g r _ ⟨e1, e2⟩ => ?_, fun ι' H' μ' g r _ => ⟨vs, key g, by rw [h2.length]; exact Nat.le_refl _⟩⟩
  · obtain ⟨v, e1, _⟩ := h2.get e
    exact ⟨vs, v, key g, e1⟩
  · subst e1
    obtain ⟨v', e3, r3⟩ := h2.get e
    rw [e2 vs (key g)] at e3; cases e3
    exact ⟨.refl, r, r3.ext (g.ext rel)⟩
theorem it_lst {a : Addr} {n : Nat} {l : List D} (hn : ι[n]? = some a) : ItOk G ι H (Itl G.K a) l (fun μ' => μ'[n]? = some (.lst l)) := by
  have key : ∀ {ι' : List Addr} {H' : Hp} {μ' : Mem}, Grow ι H ι' H' → Rel G ι' H' μ' → μ'[n]? = some (.lst l) → ∃ vs, SqL G.K H' a vs ∧ Reps G ι' H' l vs := fun {ι' H' μ'} g r e => by
    obtain ⟨vs, h1, h2⟩ := r.cell n _ a e (prefix_get g.pre hn)
    exact ⟨vs, .of h1, h2⟩
  refine ⟨fun i d ι' H' μ' e g r c => ?_, fun i d ι' H' μ' v H2 e g r c ⟨e1, e2⟩ => ?_, fun ι' H' μ' g r c => ?_⟩
  · obtain ⟨vs, h1, h2⟩ := key g r c
    obtain ⟨v, e1, _⟩ := h2.get e
    exact ⟨vs, v, h1, e1⟩
  · subst e1
    obtain ⟨vs, h1, h2⟩ := key g r c
    obtain ⟨v', e3, r3⟩ := h2.get e
    rw [e2 vs h1] at e3; cases e3
    exact ⟨.refl, r, r3⟩
  · obtain ⟨vs, h1, h2⟩ := key g r c
    exact ⟨vs, h1, by rw [h2.length]; exact Nat.le_refl _⟩
end
section
variable {X : Cx} {W : WX} {tg e : Expr} {me : MD} {pos p : Pos}
theorem si_seq (he : SE X W e me) : SI X W tg e (iSeq me) :=
  PI.mono (PI.or (pi_tup he) (pi_list he)) fun σ H R ⟨ρ, μ, ι, env, rel, h⟩ => by
    have h := Post.bind h
    cases hm : me ρ μ with
    | stuck => rw [hm] at h; exact h.elim
    | exc c fs m => exact .inl ⟨ρ, μ, ι, env, rel, by rw [hm] at h ⊢; exact h⟩
    | ok d μ1 =>
      rw [hm] at h
      by_cases ht : ∃ l, d = .tup l
      · obtain ⟨l, rfl⟩ := ht
        refine .inl ⟨ρ, μ, ι, env, rel, ?_⟩
        rw [hm]
        intro ι1 H1 g1 r1 v rv
        obtain ⟨a, vs, rfl, h1, h2⟩ := rv.tup
        obtain ⟨_, _, h3⟩ := h ι1 H1 g1 r1
        exact ⟨a, rfl, ⟨vs, h1⟩, h3 ι1 H1 .refl r1 _ (it_tup r1 h1 h2)⟩
      · refine .inr ⟨ρ, μ, ι, env, rel, ?_⟩
        rw [hm]
        intro ι1 H1 g1 r1 v rv
        obtain ⟨_, _, h3⟩ := h ι1 H1 g1 r1
        cases d with
        | tup l => exact (ht ⟨l, rfl⟩).elim
        | frl l =>
          obtain ⟨a, vs, rfl, h1, h2⟩ := rv.frl
          exact ⟨a, rfl, ⟨vs, FrL.sq _ _ h1⟩, h3 ι1 H1 .refl r1 _ (it_frl r1 h1 h2)⟩
        | ref n =>
          simp only [itSeq] at h3
          split at h3
          · rename_i l em
            obtain ⟨a, vs, rfl, h0, h1, h2⟩ := r1.lst em rv
            exact ⟨a, rfl, ⟨vs, .of h1⟩, h3 ι1 H1 .refl r1 _ (it_lst h0)⟩
          · exact h3.elim
        | _ => exact h3.elim
/-! range -/
def rangeItems (lo : Int) (n : Nat) : List D := (List.range n).map fun (i : Nat) => D.int (lo + (i : Int))
def range1 : List D → Mem → Res (List D × (Mem → Prop))
  | [.int j], μ => if -4611686018427387904 ≤ j ∧ j < 4611686018427387904 then .ok (rangeItems 0 j.toNat, fun _ => True) μ else .stuck
  | _, _ => .stuck
def range2 : List D → Mem → Res (List D × (Mem → Prop))
  | [.int i, .int j], μ => if -4611686018427387904 ≤ i ∧ i < 4611686018427387904 ∧ -4611686018427387904 ≤ j ∧ j < 4611686018427387904 then .ok (rangeItems i (j - i).toNat, fun _ => True) μ else .stuck
  | _, _ => .stuck
@[simp] def iRange1 (a : ML) : MIt := fun ρ μ => (a ρ μ).bind fun xs μ1 => range1 xs μ1
@[simp] def iRange2 (a : ML) : MIt := fun ρ μ => (a ρ μ).bind fun xs μ1 => range2 xs μ1
theorem it_range {G : Gd} {ι : List Addr} {H : Hp} (lo : Int) (n : Nat) : ItOk G ι H (Itr lo n) (rangeItems lo n) (fun _ => True) := by
  have key : ∀ {i : Nat} {d : D}, (rangeItems lo n)[i]? = some d → i < n ∧ d = .int (lo + (i : Int)) := fun {i d} e => by
    unfold rangeItems at e
    rw [List.getElem?_map] at e
    obtain ⟨k, e1, rfl⟩ := Option.map_eq_some_iff.mp e
    obtain ⟨h1, h2⟩ := List.getElem?_eq_some_iff.mp e1
    simp at h1 h2
    subst h2
    exact ⟨h1, rfl⟩
  refine ⟨fun i d ι' H' μ' e g r _ => (key e).1, fun i d ι' H' μ' v H2 e g r _ ⟨e1, e2⟩ => ?_, fun ι' H' μ' g r _ => ?_⟩
  · subst e1; subst e2
    obtain ⟨_, rfl⟩ := key e
    exact ⟨.refl, r, rep_int _⟩
  · show n ≤ (rangeItems lo n).length
    unfold rangeItems; simp
theorem si_range1 {a : Expr} {ms : ML} (hg : Gl X "range") (hm : X.mg "range" = none) (ha : SA X W [a] ms) (hs : starEach [a] X.env = [(false, eval a X.env)] := by rfl) : SI X W tg (.Call (.Name "range" p) [a] [] pos) (iRange1 ms) :=
  PI.mono (pi_range1 hg hm ha hs) fun σ H R ⟨ρ, μ, ι, env, rel, h⟩ =>
    ⟨ρ, μ, ι, env, rel, (Post.bind h).imp fun ι1 H1 μ1 xs _ _ ⟨g1, r1, h1⟩ vs rvs => by
      unfold range1 at h1
      split at h1
      · split at h1
        · rename_i hc
          obtain ⟨v, rfl, rv⟩ := rvs.one
          exact ⟨_, by rw [rv.int], by omega, by omega, h1 ι1 H1 .refl r1 _ (it_range 0 _)⟩
        · exact h1.elim
      · exact h1.elim⟩
theorem si_range2 {a b : Expr} {ms : ML} (hg : Gl X "range") (hm : X.mg "range" = none) (ha : SA X W [a, b] ms) (hs : starEach [a, b] X.env = [(false, eval a X.env), (false, eval b X.env)] := by rfl) (hs2 : starEach [b] X.env = [(false, eval b X.env)] := by rfl) : SI X W tg (.Call (.Name "range" p) [a, b] [] pos) (iRange2 ms) :=
  PI.mono (pi_range2 hg hm ha hs hs2) fun σ H R ⟨ρ, μ, ι, env, rel, h⟩ =>
    ⟨ρ, μ, ι, env, rel, (Post.bind h).imp fun ι1 H1 μ1 xs _ _ ⟨g1, r1, h1⟩ vs rvs => by
      unfold range2 at h1
      split at h1
      · split at h1
        · rename_i hc
          obtain ⟨v, w, rfl, rv, rw'⟩ := rvs.two
          exact ⟨_, _, by rw [rv.int, rw'.int], by omega, h1 ι1 H1 .refl r1 _ (it_range _ _)⟩
        · exact h1.elim
      · exact h1.elim⟩
end

/-! ### loops -/
section
variable {X : Cx} {W : WX} {tg iter c : Expr} {body : List Stmt} {pos : Pos} {mi : MIt} {g : MG} {m : MS} {mc : MB}
theorem ss_for (hp : PassesOwn (model X.prog X.w) X.A X.env X.xe) (hc : X.calm = true) (hi : SI X W tg iter mi) (hg : SG X W tg g) (hb : SSs X W body m)
    (hs : ∀ x, foldedSetIterable iter X.env x = pure x := by intro _; rfl) : SS X W (.For tg iter body [] pos) (sFor mi g m) :=
  PS.mono (ps_for hp hc hi hg hb hs) fun D σ H ⟨ρ, μ, ι, env, rel, h⟩ => by
    refine ⟨ρ, μ, ι, env, rel, (PostS.onE h env ⟨μ, rel⟩).imp fun ι1 H1 μ1 p _ _ ⟨g1, r1, env1, h1⟩ J ok => ?_⟩
    obtain ⟨items, chk⟩ := p
    refine ⟨fun i n σ' H' => n + i = items.length ∧ ∃ ρ' μ' ι', Grow ι1 H1 ι' H' ∧ EnvOk (gOf X) ι' H' ρ' σ' ∧ Rel (gOf X) ι' H' μ' ∧ PostS (gOf X) ι' H' (forL chk g m (items.drop i) ρ' μ') (FlK (gOf X) W D),
      ⟨items.length, rfl, ρ, μ1, ι1, .refl, env1, r1, h1⟩, ?_⟩
    rintro i n σ' H' ⟨hn, ρ', μ', ι', gr, env', rel', h'⟩
    by_cases hi : i < items.length
    · have e : items.drop i = items[i] :: items.drop (i + 1) := List.drop_eq_getElem_cons hi
      have ei : items[i]? = some items[i] := List.getElem?_eq_getElem hi
      rw [e] at h'
      simp only [forL] at h'
      split at h'
      · rename_i hk
        refine .inr ⟨ok.go i _ ι' H' μ' ei gr rel' hk, fun σ2 H2 => ∃ ρ2 μ2 ι2, Grow ι1 H1 ι2 H2 ∧ EnvOk (gOf X) ι2 H2 ρ2 σ2 ∧ Rel (gOf X) ι2 H2 μ2 ∧ PostS (gOf X) ι2 H2 (forL chk g m (items.drop (i + 1)) ρ2 μ2) (FlK (gOf X) W D),
          fun σ2 H2 ⟨ρ2, μ2, ι2, q⟩ => ⟨n - 1, by omega, by omega, ρ2, μ2, ι2, q⟩, fun x H2 y => ?_⟩
        obtain ⟨g2, r2, rx⟩ := ok.yld i _ ι' H' μ' x H2 ei gr rel' hk y
        have env2 := env'.ext (g2.ext rel')
        refine ⟨_, ρ', μ', ι', rx, env2, r2, (PostS.pureE (PostS.grow h' g2)).imp fun ι3 H3 μ3 ρ3 _ _ ⟨g3, r3, h3⟩ σ3 env3 => ?_⟩
        refine ⟨ρ3, μ3, ι3, env3, r3, (PostS.bind h3).imp fun ι4 H4 μ4 f _ _ ⟨g4, r4, h4⟩ => ?_⟩
        have gr4 := ((gr.trans g2).trans g3).trans g4
        cases f with
        | nx ρ4 => exact fun σ4 env4 => ⟨ρ4, μ4, ι4, gr4, env4, r4, h4⟩
        | cnt ρ4 => exact fun σ4 env4 => ⟨ρ4, μ4, ι4, gr4, env4, r4, h4⟩
        | brk ρ4 => exact h4 ι4 H4 .refl r4
        | ret d => exact h4 ι4 H4 .refl r4
        | exc c fs ρ4 => exact h4 ι4 H4 .refl r4
      · exact h'.elim
    · have e : items.drop i = [] := List.drop_eq_nil_of_le (by omega)
      rw [e] at h'
      simp only [forL] at h'
      split at h'
      · rename_i hk
        have ei : i = items.length := by omega
        subst ei
        exact .inl ⟨ok.stop ι' H' μ' gr rel' hk, h' ι' H' .refl rel' σ' env'⟩
      · exact h'.elim
theorem ss_while (n : Nat) (hp : PassesOwn (model X.prog X.w) X.A X.env X.xe) (hc : ST X W c mc) (hb : SSs X W body m) : SS X W (.While c body [] pos) (whileL mc m n) :=
  PS.mono (ps_while hp hc hb) fun D σ H ⟨ρ, μ, ι, env, rel, h⟩ => by
    refine ⟨fun k σ' H' => ∃ ρ' μ' ι', EnvOk (gOf X) ι' H' ρ' σ' ∧ Rel (gOf X) ι' H' μ' ∧ PostS (gOf X) ι' H' (whileL mc m k ρ' μ') (FlK (gOf X) W D), ⟨n, ρ, μ, ι, env, rel, h⟩, ?_⟩
    rintro k σ' H' ⟨ρ', μ', ι', env', rel', h'⟩
    cases k with
    | zero => exact h'.elim
    | succ k =>
      simp only [whileL] at h'
      refine ⟨ρ', μ', ι', env', rel', (PostS.onE h' env' ⟨μ', rel'⟩).imp fun ι1 H1 μ1 b _ _ ⟨g1, r1, env1, h1⟩ => ?_⟩
      cases b with
      | false => exact iteF (h1 ι1 H1 .refl r1 σ' env1)
      | true =>
        refine iteT ⟨fun σ2 H2 => ∃ ρ2 μ2 ι2, EnvOk (gOf X) ι2 H2 ρ2 σ2 ∧ Rel (gOf X) ι2 H2 μ2 ∧ PostS (gOf X) ι2 H2 (whileL mc m k ρ2 μ2) (FlK (gOf X) W D), fun σ2 H2 q => ⟨k, Nat.lt_succ_self k, q⟩, ?_⟩
        refine ⟨ρ', μ1, ι1, env1, r1, (PostS.bind h1).imp fun ι4 H4 μ4 f _ _ ⟨g4, r4, h4⟩ => ?_⟩
        cases f with
        | nx ρ4 => exact fun σ4 env4 => ⟨ρ4, μ4, ι4, env4, r4, h4⟩
        | cnt ρ4 => exact fun σ4 env4 => ⟨ρ4, μ4, ι4, env4, r4, h4⟩
        | brk ρ4 => exact h4 ι4 H4 .refl r4
        | ret d => exact h4 ι4 H4 .refl r4
        | exc c fs ρ4 => exact h4 ι4 H4 .refl r4
end
end RW

/-! SEg: comprehensions, own defs, classes. -/
namespace RW
open PySem L2
/-! ### list comprehensions -/
def tGv (G : Gd) (W : WX) (vs : List Nat) (g : MG) : TG := fun v σ H Q => ∃ d ρ μ ι, Rep G ι H d v ∧ EnvOk G ι H ρ σ ∧ Rel G ι H μ ∧ Post G ι H W σ (g d ρ μ) fun ι' H' _ ρ' => ∀ σ', EnvOk G ι' H' ρ' σ' → wipe σ' vs = wipe σ vs → Q σ' H'
def tGsv (G : Gd) (W : WX) (is : List Nat) (g : MGs) : TGs := fun vs σ H Q => ∃ ds ρ μ ι, Reps G ι H ds vs ∧ EnvOk G ι H ρ σ ∧ Rel G ι H μ ∧ Post G ι H W σ (g ds ρ μ) fun ι' H' _ ρ' => ∀ σ', EnvOk G ι' H' ρ' σ' → wipe σ' is = wipe σ is → Q σ' H'
abbrev SGv (X : Cx) (W : WX) (vs : List Nat) (e : Expr) (g : MG) : Prop := PG X e (tGv (gOf X) W vs g)
abbrev SGsv (X : Cx) (W : WX) (vs : List Nat) (e : List Expr) (g : MGs) : Prop := PGs X e (tGsv (gOf X) W vs g)
theorem wipe_set {σ : St} {j : Nat} {o : Option V} : ∀ {vs : List Nat}, j ∈ vs → wipe (σ.set j o) vs = wipe σ vs
  | v :: vs, h => by
    unfold wipe
    by_cases hm : j ∈ vs
    · rw [wipe_set hm]
    · have e : j = v := by
        rcases List.mem_cons.mp h with e | e
        · exact e
        · exact absurd e hm
      subst e
      have : wipe (σ.set j o) vs = (wipe σ vs).set j o := by
        clear h
        induction vs with
        | nil => rfl
        | cons w ws ih =>
          simp only [List.mem_cons, not_or] at hm
          unfold wipe
          rw [ih hm.2, List.set_comm _ _ (Ne.symm hm.1)]
      rw [this, List.set_set]
section
variable {X : Cx} {W : WX} {vs : List Nat} {pos : Pos} {e : Expr} {es : List Expr}
theorem sgv_name {j : Nat} {x : Str} (hN : X.N.Nodup) (hi : X.N[j]? = some x) (hx : Loc X.env.scope x) (hj : j ∈ vs) (hf : X.fn x = true ∨ X.env.scope.names.lookup x = some .local := by first | exact .inl rfl | exact .inr rfl | assumption) : SGv X W vs (.Name x pos) (gN j) :=
  PG.mono (pg_name hN hi hx hf) fun v σ H Q ⟨d, ρ, μ, ι, rv, env, rel, h⟩ => h ι H .refl rel _ (env.set j rv) (wipe_set hj)
theorem sgsv_nil : SGsv X W vs [] gNilM := PGs.mono pgs_nil fun vs σ H Q ⟨ds, ρ, μ, ι, rv, env, rel, h⟩ => by
  cases ds with
  | nil => exact ⟨rv.nil_inv, h ι H .refl rel σ env rfl⟩
  | cons _ _ => exact h.elim
theorem sgsv_cons {g : MG} {gs : MGs} (h1 : SGv X W vs e g) (h2 : SGsv X W vs es gs) (hs : (assignEach (e :: es) X.env).map (·.2) = assign e X.env :: (assignEach es X.env).map (·.2) := by rfl) : SGsv X W vs (e :: es) (gConsM g gs) :=
  PGs.mono (pgs_cons h1 h2 hs) fun vs σ H Q ⟨ds, ρ, μ, ι, rv, env, rel, h⟩ => by
    cases ds with
    | nil => exact h.elim
    | cons d l =>
      obtain ⟨v, r, rfl, h3, h4⟩ := rv.cons_inv
      refine ⟨v, r, rfl, d, ρ, μ, ι, h3, env, rel, (Post.pureE W σ h).imp fun ι1 H1 μ1 ρ1 _ _ ⟨g1, r1, h1⟩ σ1 env1 w1 => ?_⟩
      exact ⟨l, ρ1, μ1, ι1, h4.ext (g1.ext rel), env1, r1, (Post.pureE W σ1 h1).imp fun ι2 H2 μ2 ρ2 _ _ ⟨g2, r2, h2⟩ σ2 env2 w2 => h2 ι2 H2 .refl r2 σ2 env2 (w2.trans w1)⟩
theorem sgv_tup {k n : Nat} {gs : MGs} (hc : X.calm = true) (h : SGsv X W vs es gs) (hn : (assignEach es X.env).length = n := by rfl) (hst : (assignEach es X.env).findIdx? (·.1) = none := by rfl) : SGv X W vs (.Tuple es k pos) (gTupM n gs) :=
  PG.mono (PG.or (pg_tup hc h hn hst) (pg_lst hc h hn hst)) fun v σ H Q ⟨d, ρ, μ, ι, rv, env, rel, h⟩ => by
    cases d with
    | tup l =>
      simp only [gTupM] at h
      split at h
      · rename_i hl
        obtain ⟨a, vs, rfl, h1, h2⟩ := rv.tup
        exact .inl ⟨a, vs, rfl, h1, h2.length.trans hl, l, ρ, μ, ι, h2, env, rel, h⟩
      · exact h.elim
    | ref m =>
      simp only [gTupM] at h
      split at h
      · rename_i l em
        split at h
        · rename_i hl
          obtain ⟨a, vs, rfl, h0, h1, h2⟩ := rel.lst em rv
          exact .inr ⟨a, vs, rfl, .of h1, h2.length.trans hl, l, ρ, μ, ι, h2, env, rel, h⟩
        · exact h.elim
      · exact h.elim
    | _ => exact h.elim
end
theorem wipe_at {σ : St} {i : Nat} : ∀ {vs : List Nat}, (L2.wipe σ vs)[i]? = if i ∈ vs then (σ[i]?).map (fun _ => none) else σ[i]?
  | [] => by simp [L2.wipe]
  | v :: vs => by
    unfold L2.wipe
    by_cases h : v = i
    · subst h
      rw [List.getElem?_set_self']
      have e : ((L2.wipe σ vs)[v]?).isSome = (σ[v]?).isSome := by
        rw [wipe_at]; split <;> simp
      simp only [List.mem_cons, true_or, if_true]
      cases h1 : (L2.wipe σ vs)[v]? <;> cases h2 : σ[v]? <;> simp_all
    · rw [List.getElem?_set_ne h, wipe_at]
      have : (i ∈ v :: vs) ↔ i ∈ vs := by simp [Ne.symm h]
      simp only [this]
theorem wipe_idem {σ : St} {vs : List Nat} : L2.wipe (L2.wipe σ vs) vs = L2.wipe σ vs := by
  refine List.ext_getElem? fun i => ?_
  rw [wipe_at, wipe_at]
  split
  · cases σ[i]? <;> rfl
  · rfl
def wipeR (ρ : Rho) : List Nat → Rho
  | [] => ρ
  | v :: vs => (wipeR ρ vs).set v none
open Classical in
noncomputable def compL (chk : Mem → Prop) (g : MG) (tt : MB) (te : MD) (ρ0 : Rho) : List D → List D → Mem → Res (List D)
  | [], acc, μ => if chk μ then .ok acc μ else .stuck
  | d :: ds, acc, μ => if chk μ then pureE (g d ρ0 μ) fun ρ1 μ1 => pureE (tt ρ1 μ1) fun b μ2 => if b = true then
      (pureE (te ρ1 μ2) fun y μ3 => if acc.length < sizeLine then compL chk g tt te ρ0 ds (acc ++ [y]) μ3 else .stuck) else compL chk g tt te ρ0 ds acc μ2 else .stuck
@[simp] noncomputable def mComp (it : MIt) (g : MG) (tt : MB) (te : MD) (own : List Nat) : MD := fun ρ μ => (it ρ μ).bind fun p μ1 => (compL p.2 g tt te (wipeR ρ own) p.1 [] μ1).bind fun l μ2 => .ok (.ref μ2.length) (μ2 ++ [.lst l])
@[simp] def mYes : MB := fun _ μ => .ok true μ
abbrev W0 : WX := fun _ _ _ _ => False
theorem EnvOk.wipe {G : Gd} {ι : List Addr} {H : Hp} {ρ : Rho} {σ : St} (e : EnvOk G ι H ρ σ) : ∀ vs, EnvOk G ι H (wipeR ρ vs) (L2.wipe σ vs)
  | [] => e
  | v :: vs => by
    have ih := EnvOk.wipe e vs
    unfold wipeR L2.wipe
    refine ⟨by simp [ih.len], fun i d h => ?_⟩
    by_cases hi : v = i
    · subst hi
      by_cases hl : v < (wipeR ρ vs).length
      · rw [List.getElem?_set_self hl] at h; cases h
      · rw [List.getElem?_eq_none (by simpa using hl)] at h; cases h
    · rw [List.getElem?_set_ne hi] at h ⊢
      exact ih.at_ i d h
theorem Post.step {G : Gd} {ι ι' : List Addr} {H H' : Hp} {W W' : WX} {σ σ' : St} {α β : Type} {r : Res α} {k : α → Mem → Res β} {kk : List Addr → Hp → Mem → β → Prop} (h : Post G ι H W σ (RW.pureE r k) kk) :
    Post G ι' H' W' σ' r fun ι2 H2 μ2 a => Grow ι' H' ι2 H2 ∧ Rel G ι2 H2 μ2 ∧ Post G ι H W σ (k a μ2) kk := by
  cases r with
  | ok a m => exact fun ι2 H2 g r => ⟨g, r, h⟩
  | exc c fs m => exact h.elim
  | stuck => exact h.elim
section
variable {X : Cx} {W : WX}
theorem lc_red {wi : TI} {g : MG} {tt : MB} {te : MD} {mi : MIt} {vs : List Nat} (hwi : ∀ σ H R, tI (gOf X) W mi σ H R → wi σ H R) {σ : St} {H : Hp} {Q : VK}
    (h : tE (gOf X) W (mComp mi g tt te vs) σ H Q) : tLc wi (tGv (gOf X) W0 vs g) (tB (gOf X) W0 tt) (tE (gOf X) W0 te) vs σ H Q := by
  obtain ⟨ρ, μ, ι, env, rel, h⟩ := h
  refine hwi _ _ _ ⟨ρ, μ, ι, env, rel, (Post.bind h).imp fun ι1 H1 μ1 p _ _ ⟨g1, r1, h1⟩ J ok => ?_⟩
  obtain ⟨items, chk⟩ := p
  intro dd hD
  obtain ⟨gD, rD⟩ := grow_laid (o := .lst []) r1 hD
  have env1 := env.ext (g1.ext rel)
  -- what is wanted at the end, from the place where the walk begins
  refine ⟨fun i m H' => m + i = items.length ∧ ∃ μ' ι' acc ws, Grow ι1 H1 ι' H' ∧ Rel (gOf X) ι' H' μ' ∧ H' dd = some (.lst ws) ∧ dd ∉ ι' ∧ Reps (gOf X) ι' H' acc ws ∧
    Post (gOf X) ι1 H1 W σ ((compL chk g tt te (wipeR ρ vs) (items.drop i) acc μ').bind fun l μ2 => .ok (RW.D.ref μ2.length) (μ2 ++ [Cell.lst l])) fun ι' H' _ d => ∀ v, Rep (gOf X) ι' H' d v → Q v H',
    ⟨items.length, rfl, μ1, ι1, [], [], gD, rD, upd_same, r1.notNone hD, .nil, h1⟩, ?_⟩
  rintro i m H' ⟨hm, μ', ι', acc, ws, grB, rel', hHD, hDn, ra, h'⟩
  by_cases hi : i < items.length
  · have e : items.drop i = items[i] :: items.drop (i + 1) := List.drop_eq_getElem_cons hi
    have ei : items[i]? = some items[i] := List.getElem?_eq_getElem hi
    rw [e] at h'
    simp only [compL] at h'
    split at h'
    · rename_i hk
      refine .inr ⟨ok.go i _ ι' H' μ' ei grB rel' hk, fun H2 => ∃ μ2 ι2 acc ws, Grow ι1 H1 ι2 H2 ∧ Rel (gOf X) ι2 H2 μ2 ∧ H2 dd = some (.lst ws) ∧ dd ∉ ι2 ∧ Reps (gOf X) ι2 H2 acc ws ∧
        Post (gOf X) ι1 H1 W σ ((compL chk g tt te (wipeR ρ vs) (items.drop (i + 1)) acc μ2).bind fun l μ2 => .ok (RW.D.ref μ2.length) (μ2 ++ [Cell.lst l])) fun ι' H' _ d => ∀ v, Rep (gOf X) ι' H' d v → Q v H',
        fun H2 q => ⟨m - 1, by omega, by omega, q⟩, fun x H2 y => ?_⟩
      obtain ⟨g2, r2, rx⟩ := ok.yld i _ ι' H' μ' x H2 ei grB rel' hk y
      have env2 : EnvOk (gOf X) ι' H2 (wipeR ρ vs) (L2.wipe σ vs) := ((env1.ext (grB.ext r1)).ext (g2.ext rel')).wipe vs
      -- the list in hand stands through steps
      have stand : ∀ {ιa ιb : List Addr} {Ha Hb : Hp} {ws : List V}, Grow ιa Ha ιb Hb → Ha dd = some (.lst ws) → dd ∉ ιa → Hb dd = some (.lst ws) ∧ dd ∉ ιb := fun {ιa ιb Ha Hb ws} gg e n =>
        ⟨gg.keep _ _ e n, fun z => (gg.new dd z).elim n fun z => by rw [e] at z; cases z⟩
      have h'' : Post (gOf X) ι1 H1 W σ (RW.pureE (g items[i] (wipeR ρ vs) μ') fun ρ1 μ1 => ((RW.pureE (tt ρ1 μ1) fun b μ2 => if b = true then
          (RW.pureE (te ρ1 μ2) fun y μ3 => if acc.length < sizeLine then compL chk g tt te (wipeR ρ vs) (items.drop (i + 1)) (acc ++ [y]) μ3 else .stuck) else compL chk g tt te (wipeR ρ vs) (items.drop (i + 1)) acc μ2).bind fun l μ2 => .ok (RW.D.ref μ2.length) (μ2 ++ [Cell.lst l])))
          fun ι' H' _ d => ∀ v, Rep (gOf X) ι' H' d v → Q v H' := by
        cases hg : g items[i] (wipeR ρ vs) μ' with
        | ok a m => rw [hg] at h'; exact h'
        | exc c fs m => rw [hg] at h'; exact h'.elim
        | stuck => rw [hg] at h'; exact h'.elim
      refine ⟨_, wipeR ρ vs, μ', ι', rx, env2, r2, (Post.step (ι' := ι') (H' := H2) (W' := W0) (σ' := L2.wipe σ vs) h'').imp fun ι3 H3 μ3 ρ3 _ _ ⟨g3, r3, h3⟩ σ3 env3 w3 => ⟨w3.trans wipe_idem, ?_⟩⟩
      have h3' : Post (gOf X) ι1 H1 W σ (RW.pureE (tt ρ3 μ3) fun b μ2 => ((if b = true then
          (RW.pureE (te ρ3 μ2) fun y μ3 => if acc.length < sizeLine then compL chk g tt te (wipeR ρ vs) (items.drop (i + 1)) (acc ++ [y]) μ3 else .stuck) else compL chk g tt te (wipeR ρ vs) (items.drop (i + 1)) acc μ2 : Res (List RW.D)).bind fun l μ2 => .ok (RW.D.ref μ2.length) (μ2 ++ [Cell.lst l])))
          fun ι' H' _ d => ∀ v, Rep (gOf X) ι' H' d v → Q v H' := by
        cases hg : tt ρ3 μ3 with
        | ok a m => rw [hg] at h3; exact h3
        | exc c fs m => rw [hg] at h3; exact h3.elim
        | stuck => rw [hg] at h3; exact h3.elim
      refine ⟨ρ3, μ3, ι3, env3, r3, (Post.step (ι' := ι3) (H' := H3) (W' := W0) (σ' := σ3) h3').imp fun ι4 H4 μ4 b _ _ ⟨g4, r4, h4⟩ => ?_⟩
      have gA := ((grB.trans g2).trans g3).trans g4
      obtain ⟨d2, n2⟩ := stand g2 hHD hDn
      obtain ⟨d3, n3⟩ := stand g3 d2 n2
      obtain ⟨d4, n4⟩ := stand g4 d3 n3
      have ra4 := ((ra.ext (g2.ext rel')).ext (g3.ext r2)).ext (g4.ext r3)
      cases b with
      | false => exact iteF ⟨μ4, ι4, acc, ws, gA, r4, d4, n4, ra4, h4⟩
      | true =>
        refine iteT ?_
        have h4' : Post (gOf X) ι1 H1 W σ (RW.pureE (te ρ3 μ4) fun y μ3 => ((if acc.length < sizeLine then compL chk g tt te (wipeR ρ vs) (items.drop (i + 1)) (acc ++ [y]) μ3 else .stuck : Res (List RW.D)).bind fun l μ2 => .ok (RW.D.ref μ2.length) (μ2 ++ [Cell.lst l])))
            fun ι' H' _ d => ∀ v, Rep (gOf X) ι' H' d v → Q v H' := by
          cases hg : te ρ3 μ4 with
          | ok a m => rw [hg] at h4; exact h4
          | exc c fs m => rw [hg] at h4; exact h4.elim
          | stuck => rw [hg] at h4; exact h4.elim
        refine ⟨ρ3, μ4, ι4, env3.ext (g4.ext r3), r4, (Post.step (ι' := ι4) (H' := H4) (W' := W0) (σ' := σ3) h4').imp fun ι5 H5 μ5 y' _ _ ⟨g5, r5, h5⟩ v rv => ?_⟩
        obtain ⟨d5, n5⟩ := stand g5 d4 n4
        split at h5
        · rename_i hsz
          have ra5 := ra4.ext (g5.ext r4)
          refine ⟨ws, d5, by rw [ra5.length]; exact hsz, μ5, ι5, acc ++ [y'], ws ++ [v], ?_⟩
          have ex : Ext ι5 H5 ι5 (upd H5 dd (.lst (ws ++ [v]))) := ⟨List.prefix_refl _, fun a xs z => by rw [upd_ne (fun q => by rw [q, d5] at z; cases z)]; exact z, fun a o u z _ => by rw [upd_ne (fun q => by rw [q, d5] at z; cases z)]; exact z⟩
          have r6 : Rel (gOf X) ι5 (upd H5 dd (.lst (ws ++ [v]))) μ5 := ⟨r5.len, r5.nd, fun j c a e1 e2 => (r5.cell j c a e1 e2).ext ex (upd_ne fun q => n5 (q ▸ List.mem_of_getElem? e2))⟩
          have gA5 := gA.trans g5
          refine ⟨⟨gA5.pre, fun a o z na => ?_, gA5.new, fun a o u z => by rw [upd_ne (fun q => by rw [q, hD] at z; cases z)]; exact gA5.lock a o u z⟩, r6, upd_same, n5, (ra5.append (.cons rv .nil)).ext ex, h5⟩
          rw [upd_ne (fun q => by rw [q, hD] at z; cases z)]; exact gA5.keep a o z na
        · exact h5.elim
    · exact h'.elim
  · have e : items.drop i = [] := List.drop_eq_nil_of_le (by omega)
    rw [e] at h'
    simp only [compL] at h'
    split at h'
    · rename_i hk
      have ei : i = items.length := by omega
      subst ei
      refine .inl ⟨ok.stop ι' H' μ' grB rel' hk, ?_⟩
      have rA := grow_adopt (c := .lst acc) rel' hDn ⟨ws, hHD, ra.ext ⟨List.prefix_append _ _, fun _ _ z => z, fun _ _ _ z _ => z⟩⟩
      refine h' (ι' ++ [dd]) H' ⟨grB.pre.trans (List.prefix_append _ _), grB.keep, fun a ha => ?_, grB.lock⟩ rA (.ref dd) (rep_new (r := rel'))
      rcases List.mem_append.mp ha with z | z
      · exact grB.new a z
      · simp at z; subst z; exact .inr hD
    · exact h'.elim
end
end RW

/-! SEgr: room in which no repr is under way, and what stands on it: defs, calls, classes, the law's head. -/
namespace RW
open PySem PySem.Spec L2
open PyProof.Rows hiding St

structure RoomG (k : Nat) (A : Around) : Prop extends Room k A where
  gd : A.guards = some []
theorem RoomG.le {j k : Nat} {A : Around} (r : RoomG k A) (h : j ≤ k) : RoomG j A := ⟨r.toRoom.mono h, r.gd⟩
theorem RoomG.down {k : Nat} {A : Around} (r : RoomG (k + 1) A) (n : Env) : RoomG k (A.deeper n) := ⟨r.toRoom.deeper n, r.gd⟩
theorem RoomG.born {k : Nat} {A : Around} (r : RoomG (k + 1) A) (C : Addr) (xs : List Value) : RoomG k (A.under (.builtin "type.__call__" ⟨.ref C :: xs, []⟩)) :=
  ⟨r.toRoom.make C xs [], by
    have h := r.gd
    show pushGuards (Code.builtin "type.__call__" ⟨.ref C :: xs, []⟩).guards A.guards = some []
    rw [h]; rfl⟩

/-- what a def promises where no repr is under way -/
structure FnG (P : Program) (w : World) (K : PySem.W.Frag) (mg : Str → Option Value) (base : Heap) (Z : CXT) (k : Nat) (g : Addr) (d : FuncData) (ns : List Str) (pr : Sp) : Prop where
  many : ∀ xs M R T, pr xs M R T → xs.length = ns.length
  goes : ∀ (A : Around) (fr : List Env) (c : Shared) (M : Hp) (al : Args) (ws : List Value) (xs : List V) (R : VK) (T : XK), RoomG k A → Env0 P w K mg base A fr c M → BindsTo c d al (ns.zip ws) → Vals xs ws → pr xs M R T →
    codeAny (model P w) A (.call (.ref g) al) (CR Z fr P w M c R T) c
section
variable {P : Program} {w : World} {K : PySem.W.Frag} {mg : Str → Option Value} {base : Heap} {Z : CXT} {j k : Nat} {g : Addr} {d : FuncData} {ns : List Str} {pr pr' : Sp}
theorem FnG.le (F : FnG P w K mg base Z j g d ns pr) (h : j ≤ k) : FnG P w K mg base Z k g d ns pr := ⟨F.many, fun A fr c M al ws xs R T r => F.goes A fr c M al ws xs R T (r.le h)⟩
theorem FnG.less (F : FnG P w K mg base Z k g d ns pr) (h : ∀ xs M R T, pr' xs M R T → pr xs M R T) : FnG P w K mg base Z k g d ns pr' :=
  ⟨fun xs M R T q => F.many xs M R T (h xs M R T q), fun A fr c M al ws xs R T r e b v q => F.goes A fr c M al ws xs R T r e b v (h xs M R T q)⟩
/-- the def by its body -/
theorem fnG_of {nm qu : Str} {pa : Arguments} {bo : List Stmt} {sco : Scope} {v1 v2 v3 v4 v5 v6 v7 : Value} {u1 u2 : Option Addr} {sl : Array (Option Value)} {L : List Str}
    (h1 : K.lookup g = some ⟨v7, u2, .func (PySem.W.fnOf nm qu pa bo sco v1 v2 v3 v4 u1 v5 v6), sl⟩) (h2 : PySem.W.codeIn K v5 qu = true) (S : FnScope L ns sco) (hn : ∀ xs M R T, pr xs M R T → xs.length = ns.length)
    (hb : ∀ (A : Around) (fr : List Env) (c : Shared) (M : Hp) (xs : List V) (R : VK) (T : XK), RoomG k (A.deeper (envOfC qu sco c.heap.objs.size g v5)) → pr xs M R T →
      ∃ t, PSs (cxOf Z P w K mg base L qu sco g v5 A fr c M T) bo t ∧ t { nx := fun _ N => R .non N, rt := R } (start L xs) M) :
    FnG P w K mg base Z (k + 1) g (PySem.W.fnOf nm qu pa bo sco v1 v2 v3 v4 u1 v5 v6) ns pr := by
  constructor
  · exact hn
  · intro A fr c M al ws xs R T r e b v q
    have kin : K.In c.heap := e.mod.kin.keeps fun i o z => (e.bs i o z).1
    have nol : c.heap.NoLimit := e.mod.nolimit.keeps fun i o z => (e.bs i o z).1
    have where_ : ∀ z ∈ ns.zip ws, sco.names.lookup z.1 = some .local ∨ (sco.names.lookup z.1 = some .cell ∧ ((cellsFrom (c.heap.objs.size + 1) sco.names []).lookup z.1).isSome = true) := by
      rintro ⟨n, x⟩ hz
      exact (S.par n (List.of_mem_zip hz).1).imp id fun q => ⟨q, PySem.W.cellsFrom_some _ _ _ (.inl q)⟩
    apply codeAny_call_function r.toRoom.depth (kin _ _ h1) rfl S.co S.gen rfl (PySem.W.codeRec_of kin h2)
    apply b
    apply wpAny_newFunctionEnv_cells S.kind where_
    rintro env rfl c1 x
    refine ⟨nol.keeps x.toInCall.keep, codeAny_func ?_⟩
    obtain ⟨t, ht, tq⟩ := hb A fr c M xs R T (r.down _) q
    have J0 := inv_start (CX := Z) (E := T) S r.toRoom.hd e (hn _ _ _ _ q) v x
    apply wpAny_mono (ht.run [] c1 (start L xs) M _ J0 tq) _ fun _ _ z => z
    rintro (_ | _ | _ | u) c2 hs
    · obtain ⟨τ, N, J, z⟩ := hs
      exact ⟨.non, N, J.os, J.bare, J.base, J.hok, rfl, z⟩
    · exact hs.elim fun _ z => z.elim fun _ z => z.2.elim
    · exact hs.elim fun _ z => z.elim fun _ z => z.2.elim
    · obtain ⟨x, τ, N, J, rx, z⟩ := hs
      exact ⟨x, N, J.os, J.bare, J.base, J.hok, rx, z⟩
theorem okG {x qual : Str} {st : Stmt} {L : List Str} (F : L2.Fun K x qual st g d) (S : FnScope L ns (defScope st)) (hn : ∀ xs M R T, pr xs M R T → xs.length = ns.length)
    (hb : ∀ (cd : Value) (A : Around) (fr : List Env) (c : Shared) (M : Hp) (xs : List V) (R : VK) (T : XK), RoomG k (A.deeper (envOfC qual (defScope st) c.heap.objs.size g cd)) → pr xs M R T →
      ∃ t, PSs (cxOf Z P w K mg base L qual (defScope st) g cd A fr c M T) (defBody st) t ∧ t { nx := fun _ N => R .non N, rt := R } (start L xs) M) : FnG P w K mg base Z (k + 1) g d ns pr := by
  obtain ⟨_, _, _, _, _, _, cd, _, _, rfl, h1, h2⟩ := F.ex
  exact fnG_of h1 h2 S hn fun A fr c M xs R T => hb cd A fr c M xs R T
end
section
variable {X : Cx} {Z : CXT} {k : Nat} {f C g : Addr} {d : FuncData} {ns : List Str} {pr : Sp} {x : Str} {p pos : Pos} {e : Expr} {es : List Expr} {t : TA}
/-- how a call ends -/
theorem end_of {pins : List (Addr × Obj)} {τ : St} {M : Hp} {c c' : Shared} {R : VK} {T : XK} {r : Result} (I : Inv X pins τ M c) (hx : ∀ v, Z X.stack M c T v c' → X.xe v c') (h : CR Z X.stack X.prog X.w M c R T r c') :
    match (motive := Result → Prop) r with
    | .ok (.ret u) => EP X pins τ R u c'
    | .ok _ => False
    | .error v => X.xe v c' := by
  rcases r with v | fl
  · exact hx v h
  · cases fl <;> first | exact h.elim | exact I.after h
theorem goG {pins : List (Addr × Obj)} {τ : St} {M : Hp} {c : Shared} {R : VK} {ws : List Value} {xs : List V} {T : St → XK} (F : FnG X.prog X.w X.K X.mg X.base Z k f d ns pr) (hr : RoomG k X.A) (hb : Binds X.K d ns []) (hx : PassesAt Z X τ (T τ)) (I : Inv X pins τ M c)
    (v : Vals xs ws) (h : pr xs M R (T τ)) : wpAny (model X.prog X.w) X.A (call (.ref f) ws) (EP X pins τ R) X.xe c := by
  have b := hb c ws I.kIn (by simp [← v.length, F.many _ _ _ _ h])
  simp only [List.append_nil] at b
  apply wpAny_call
  apply codeAny_mono (F.goes X.A X.stack c M ⟨ws, []⟩ ws xs R (T τ) hr I.env0 b v h)
  intro r c' q
  have z := end_of I (fun v q => hx pins M c v c' I q) q
  rcases r with _ | fl
  · exact z
  · cases fl <;> first | exact z | exact z.elim
theorem callG {T : St → XK} (F : FnG X.prog X.w X.K X.mg X.base Z k f d ns pr) (hr : RoomG k X.A) (hg : Gl X x) (hm : X.mg x = some (.ref f)) (hk : PySem.W.keepIn X.K (.ref f) = true) (hb : Binds X.K d ns []) (hx : ∀ τ, PassesAt Z X τ (T τ)) (ha : PA X (e :: es) t)
    (hdb : (x == ("__debug__" : Str)) = false) (he : starEach (e :: es) X.env = (false, eval e X.env) :: starEach es X.env) (hpl : (backTo pos (starEach es X.env)).any (·.1) = false) : PE X (.Call (.Name x p) (e :: es) [] pos) (tCallS pr T t) := by
  constructor
  intro pins c τ M R I h
  apply wpAny_Call_Name_kw (ld_glob I hg hm _ hdb)
  apply PySem.W.callWith_K (h₀ := X.base) I.ok.mod.kin hk _ he hpl
  apply thn (ha.run pos pins c τ M _ I h)
  rintro ws c1 ⟨xs, M1, I1, v, q⟩
  exact ⟨I1.kIn, goG F hr hb (hx τ) I1 v q⟩
theorem bornG {pins : List (Addr × Obj)} {τ : St} {M : Hp} {c : Shared} {R : VK} {ws : List Value} {xs : List V} {T : XK} (B : Mk X.K C g) (F : FnG X.prog X.w X.K X.mg X.base Z k g d ns pr) (hr : RoomG (k + 1) X.A) (hb : Binds X.K d ns []) (hx : Passes Z X T) (I : Inv X pins τ M c) (v : Vals xs ws)
    (h : ∀ y dy, M y = none → M dy = none → dy ≠ y → pr (.ref y :: xs) (upd (upd M dy (.own y)) y (.ins C dy [])) (fun u N => u = .non ∧ R (.ref y) N) T) :
    wpAny (model X.prog X.w) X.A (call (.ref C) ws) (EP X pins τ R) X.xe c := by
  have I2 := Inv.made (C := C) I
  have above : ∀ n, c.heap.objs.size ≤ n → M n = none := fun n => I.hok.fresh
  have q := h _ _ (above _ (Nat.le_succ _)) (above _ (Nat.le_refl _)) (Nat.ne_of_lt (Nat.lt_succ_self _))
  have v2 : Vals (V.ref (c.heap.objs.size + 1) :: xs) (Value.ref (c.heap.objs.size + 1) :: ws) := .cons rfl v
  have b := hb _ (Value.ref (c.heap.objs.size + 1) :: ws) I2.kIn (by rw [List.append_nil, ← v2.length]; exact F.many _ _ _ _ q)
  rw [List.append_nil] at b
  have go := F.goes _ X.stack _ _ ⟨Value.ref (c.heap.objs.size + 1) :: ws, []⟩ (Value.ref (c.heap.objs.size + 1) :: ws) _ _ T (hr.born C ws) (I2.env0.make C ws []) b v2 q
  apply wpAny_call
  apply make_map (f := g) I.kIn B.makes B.init (beq_iff_eq.mp B.fn)
  apply codeAny_mono go
  intro r c' q'
  have z := end_of I2 (fun u q => hx pins τ _ _ u c' I2 q) q'
  rcases r with _ | fl
  · exact z
  · cases fl <;> first | exact z.elim | skip
    obtain ⟨u, N, I3, ru, rfl, q3⟩ := z
    exact ⟨ru, V.ref (c.heap.objs.size + 1), N, I3, rfl, q3⟩
theorem makeG {T : XK} (B : Mk X.K C g) (F : FnG X.prog X.w X.K X.mg X.base Z k g d ns pr) (hr : RoomG (k + 1) X.A) (hg : Gl X x) (hm : X.mg x = some (.ref C)) (hb : Binds X.K d ns []) (hx : Passes Z X T) (ha : PA X (e :: es) t) (hdb : (x == ("__debug__" : Str)) = false)
    (he : starEach (e :: es) X.env = (false, eval e X.env) :: starEach es X.env) (hpl : (backTo pos (starEach es X.env)).any (·.1) = false) : PE X (.Call (.Name x p) (e :: es) [] pos) (tMake C pr [] T t) := by
  constructor
  intro pins c τ M R I h
  apply wpAny_Call_Name_kw (ld_glob I hg hm _ hdb)
  apply PySem.W.callWith_K (h₀ := X.base) I.ok.mod.kin B.kp _ he hpl
  apply thn (ha.run pos pins c τ M _ I h)
  rintro ws c1 ⟨xs, M1, I1, v, q⟩
  refine ⟨I1.kIn, bornG B F hr hb hx I1 v fun y dy h1 h2 h3 => ?_⟩
  have q := q y dy h1 h2 h3
  rw [List.append_nil] at q
  exact q
end
end RW

/-! SEgt: the head of a law that stands on guarded room. -/
namespace RW
open PySem PySem.Spec L2
open PyProof.Rows hiding St
section
variable {P : Program} {w : World} {K : PySem.W.Frag} {mg mb : Str → Option Value} {Z : CXT} {k : Nat} {g a : Addr} {d : FuncData} {x : Str} {pr : Sp} {c : Shared} {ws : List Value} {ns : List Int}
abbrev told (c : Shared) (r : Result) (c' : Shared) : Prop := r = .ok (.ret (.bool true)) ∧ OldK c.heap c'.heap ∧ c'.os = c.os ∧ AllBare c'.gens
/-- the call at a heap of which at most the script is known -/
theorem head_at (kin : K.In c.heap) (hns : c.heap.Ns mainGlobals mg) (hb : c.heap.Ns builtinsNs mb) (hbb : ∀ x : Str, x ≠ "__name__" → mb x = bootBuiltins x) (nol : c.heap.NoLimit) (hg : c.gens = #[])
    (hr : RoomG k callerA) (F : ∀ base : Heap, K.In base → base.Ns mainGlobals mg → FnG P w K mg base Z k g d [x] pr) (bi : ∀ (c : Shared) (u : Value), BindsTo c d ⟨[u], []⟩ [(x, u)])
    (hZ : ∀ M v c', Z [] M c (fun _ _ _ => False) v c' → False) (M : Hp) (hO : Only M) (lists : ∀ b o, c.heap.get? b = some o → M b ≠ none → K.lookup b = none ∧ ∀ es n, o.data ≠ .dict es n)
    (hok : HOk P w M c.heap) (hp : pr [.ref a] M (fun v _ => v = .bl true) fun _ _ _ => False) : codeAny (model P w) callerA (.call (.ref g) ⟨[.ref a], []⟩) (told c) c := by
  have plain : ∀ {b : Addr} {m : Str → Option Value}, c.heap.Ns b m → (hidT c.heap M).Ns b m := by
    rintro b m ⟨o, es, n, h1, h2, h3⟩
    have free : M b = none := Classical.byContradiction fun z => (lists b o h1 z).2 es n h2
    exact ⟨o, es, n, hidT_get h1 free, h2, h3⟩
  have kb : K.In (hidT c.heap M) := fun b o h => hidT_get (kin b o h) (Classical.byContradiction fun z => by
    have := (lists b o (kin b o h) z).1
    rw [h] at this
    cases this)
  obtain ⟨ml, n1, n2⟩ := nol
  have md : Mod K mg (hidT c.heap M) := ⟨kb, plain hns, ⟨mb, plain hb, hbb⟩, ⟨ml, plain n1, n2⟩⟩
  have en : Env0 P w K mg (hidT c.heap M) callerA [] c M :=
    ⟨rfl, md, fun _ _ z => of_hidT z, Nat.le_of_eq (hidT_size _ _), trivial, fun _ z => absurd (show _ ∈ ([] : List Addr) from z) List.not_mem_nil, hok, .of_eq hg⟩
  apply codeAny_mono ((F _ kb (plain hns)).goes callerA [] c M ⟨[.ref a], []⟩ [.ref a] [.ref a] _ _ hr en (bi c (.ref a)) (.cons rfl .nil) hp)
  rintro (v | fl) c' q
  · exact (hZ M v c' q).elim
  cases fl <;> first | exact q.elim | skip
  obtain ⟨v, N, e1, e2, un, ok2, rv, rfl⟩ := q
  cases (show _ = Value.bool true from rv)
  refine ⟨rfl, OldK.of_keep fun b o h => ?_, e1, e2⟩
  rcases hO b with z | ⟨ob, ys, z⟩
  · exact un.keep b o h z (fun y => absurd (show b ∈ ([] : List Addr) from y) List.not_mem_nil) List.not_mem_nil
  · have t1 := (hok b _ z).1
    rw [h] at t1
    cases t1
    exact (ok2 b _ (un.frzs b _ _ z)).1
theorem headG (kin : K.In c.heap) (hns : c.heap.Ns mainGlobals mg) (hb : c.heap.Ns builtinsNs mb) (hbb : ∀ x : Str, x ≠ "__name__" → mb x = bootBuiltins x) (nol : c.heap.NoLimit) (hg : c.gens = #[])
    (ha : c.heap.get? a = some { cls := .type "list", data := .seq ws.toArray }) (hi : IntsAre ws ns) (hl : ns.length ≤ sizeLine) (hr : RoomG k callerA)
    (F : ∀ base : Heap, K.In base → base.Ns mainGlobals mg → FnG P w K mg base Z k g d [x] pr) (bi : ∀ (c : Shared) (u : Value), BindsTo c d ⟨[u], []⟩ [(x, u)])
    (hp : ∀ M : Hp, Only M → SqL K M a (ns.map V.int) → pr [.ref a] M (fun v _ => v = .bl true) fun _ _ _ => False) (hZ : ∀ M v c', Z [] M c (fun _ _ _ => False) v c' → False) :
    codeAny (model P w) callerA (.call (.ref g) ⟨[.ref a], []⟩) (told c) c := by
  have vals := vals_ints hi
  by_cases hk : K.lookup a = none
  · let M : Hp := fun b => if b = a then some (.frz { cls := .type "list", data := .seq ws.toArray } (.lst (ns.map V.int))) else none
    have at_ : ∀ {b u}, M b = some u → b = a ∧ u = .frz { cls := .type "list", data := .seq ws.toArray } (.lst (ns.map V.int)) := by
      intro b u h
      simp only [M] at h
      split at h
      · exact ⟨‹_›, (Option.some.inj h).symm⟩
      · cases h
    have hO : Only M := fun b => by
      cases h : M b with
      | none => exact .inl rfl
      | some u => exact .inr ⟨_, _, congrArg some (at_ h).2⟩
    refine head_at kin hns hb hbb nol hg hr F bi hZ M hO (fun b o h z => ?_) (fun b u h => ?_) (hp M hO (.inl (.inr ⟨{ cls := .type "list", data := .seq ws.toArray }, if_pos rfl⟩)))
    · obtain ⟨u, hu⟩ := Option.ne_none_iff_exists'.mp z
      obtain ⟨rfl, -⟩ := at_ hu
      rw [ha] at h
      cases h
      exact ⟨hk, fun _ _ z => by cases z⟩
    · obtain ⟨rfl, rfl⟩ := at_ h
      exact ⟨ha, by simpa using hl, ws, _, vals, ha⟩
  · obtain ⟨o, hk⟩ := Option.ne_none_iff_exists'.mp hk
    have h := kin a o hk
    rw [ha] at h
    cases h
    have hO : Only (fun _ => none) := fun _ => .inl rfl
    exact head_at kin hns hb hbb nol hg hr F bi hZ _ hO (fun _ _ _ z => absurd rfl z) (fun _ _ z => by cases z) (hp _ hO (.inr ⟨_, ws.toArray, _, hk, rfl, rfl, rfl, by rw [List.size_toArray, hi.length]; exact hl, by simpa using vals⟩))
end
theorem walkG {l : PySem.W.OpenLaw} {n k : Nat} {q : Program} {lo : List Str} {XP : (Str → Option Value) → Heap → Prop} {YP : World → Heap → Prop} {d : DefRec} {K : Params → PySem.W.Frag} {Z : World → CXT} {pr : World → Sp} {x : Str}
    (hn : l.most = some n) (hs : n ≤ sizeLine) (hdf : d.params.defaults = []) (hr : RoomG k callerA) (hY : ∀ (w : World) (h : Heap), YP w h → (K w.params).In h)
    (F : ∀ (w : World) (mg : Str → Option Value) (g : Addr) (h : Heap), (K w.params).In h → h.Ns mainGlobals mg → mg d.name = some (.ref g) → ∃ f : FuncData, (∀ (c : Shared) (u : Value), BindsTo c f ⟨[u], []⟩ [(x, u)]) ∧
      ∀ base : Heap, (K w.params).In base → base.Ns mainGlobals mg → FnG l.prog w (K w.params) mg base (Z w) k g f [x] (pr w))
    (hp : ∀ (w : World) (M : Hp) (a : Addr) (ns : List Int), ns.length ≤ n → Only M → SqL (K w.params) M a (ns.map V.int) → pr w [.ref a] M (fun v _ => v = .bl true) fun _ _ _ => False)
    (hZ : ∀ (w : World) (M : Hp) (c : Shared) (v : Value) (c' : Shared), Z w [] M c (fun _ _ _ => False) v c' → False) : PySem.W.WalkO q lo XP YP l.row.toRowW d [] (fun f vs => PySem.call f vs) := by
  apply Att.attach_call hn hdf
  intro w s₀ s₁ mg mb fa o pm cd doc a vs ns G Y ho hd hcd hmg hobj hints hlen hg
  obtain ⟨f, bi, hF⟩ := F w mg fa _ (hY w _ Y) G.T.g hmg
  exact headG (hY w _ Y) G.T.g G.T.b G.T.builtins G.T.nolimit hg hobj hints (Nat.le_trans hlen hs) hr hF bi (fun M h1 h2 => hp w M a ns hlen h1 h2) fun M v c' => hZ w M s₁ v c'
end RW

/-! SEh: comprehensions as rules, own defs, classes, methods of lists. -/
namespace RW
open PySem L2
open PyProof.Rows (envOfC)
section
variable {X : Cx} {W : WX}
theorem sts_nil : PTs X [] (tB (gOf X) W mYes) := ⟨fun pins s σ H Q I ⟨ρ, μ, ι, env, rel, h⟩ => pts_nil.run pins s σ H Q I (h ι H .refl rel)⟩
theorem sts_one {c : Expr} {m : MB} (h : ST X W c m) : PTs X [c] (tB (gOf X) W m) := pts_one h
theorem se_lc {elt tg iter : Expr} {ifs : List Expr} {scope : Scope} {own : List (Str × Nat)} {pos : Pos} {mi : MIt} {g : MG} {tt : MB} {te : MD} (hc : X.calm = true) (hN : X.N.Nodup) (hi : SI X W tg iter mi) (ok : BlkOk X.N X.env.scope scope own)
    (hg : ∀ (s : Shared) (H : Hp) (C : Addr) (cl : List (Str × Addr)) (fp : List Addr), SGv (X.blk s H scope (compEnvC scope cl C X.env) fp) W0 (own.map (·.2)) tg g)
    (ht : ∀ (s : Shared) (H : Hp) (C : Addr) (cl : List (Str × Addr)) (fp : List Addr), PTs (X.blk s H scope (compEnvC scope cl C X.env) fp) ifs (tB (gOf X) W0 tt))
    (he : ∀ (s : Shared) (H : Hp) (C : Addr) (cl : List (Str × Addr)) (fp : List Addr), SE (X.blk s H scope (compEnvC scope cl C X.env) fp) W0 elt te) (hs : ∀ x, foldedSetIterable iter X.env x = pure x := by intro _; rfl) :
    SE X W (.ListComp elt [⟨tg, iter, ifs, 0⟩] scope pos) (mComp mi g tt te (own.map (·.2))) :=
  PE.mono (pe_lc hc hN hi ok hg ht he hs) fun σ H Q h => lc_red (fun _ _ _ z => z) h
theorem ss_setLc {i : Nat} {y : Str} {py : Pos} {elt tg iter : Expr} {ifs : List Expr} {scope : Scope} {own : List (Str × Nat)} {pos spos : Pos} {mi : MIt} {g : MG} {tt : MB} {te : MD} (hc : X.calm = true) (hN : X.N.Nodup) (hy : X.N[i]? = some y) (hyl : X.env.scope.names.lookup y = some .local)
    (hsw : swapsWith (.ListComp elt [⟨tg, iter, ifs, 0⟩] scope pos) (some (.Name y py)) spos.line X.env = pure true) (hi : SI X W tg iter mi) (ok : BlkOk X.N X.env.scope scope own)
    (hg : ∀ (s : Shared) (H : Hp) (C : Addr) (cl : List (Str × Addr)) (fp : List Addr), SGv (X.blk s H scope (compEnvC scope cl C X.env) fp) W0 (own.map (·.2)) tg g)
    (ht : ∀ (s : Shared) (H : Hp) (C : Addr) (cl : List (Str × Addr)) (fp : List Addr), PTs (X.blk s H scope (compEnvC scope cl C X.env) fp) ifs (tB (gOf X) W0 tt))
    (he : ∀ (s : Shared) (H : Hp) (C : Addr) (cl : List (Str × Addr)) (fp : List Addr), SE (X.blk s H scope (compEnvC scope cl C X.env) fp) W0 elt te) (hs : ∀ x, foldedSetIterable iter X.env x = pure x := by intro _; rfl) :
    SS X W (.Assign [.Name y py] (.ListComp elt [⟨tg, iter, ifs, 0⟩] scope pos) spos) (sSet i (mComp mi g tt te (own.map (·.2)))) :=
  PS.mono (ps_setLc (g := tGv (gOf X) W0 (own.map fun x : Str × Nat => x.2) g) (te := tE (gOf X) W0 te) hc hN hy hyl hsw hi ok hg ht he hs) fun D σ H ⟨ρ, μ, ι, env, rel, h⟩ => by
    refine lc_red (W := W) (X := X) (mi := mi) (g := g) (tt := tt) (te := te) (fun _ _ _ z => z) ⟨ρ, μ, ι, env, rel, ?_⟩
    exact (PostS.onE h env ⟨μ, rel⟩).imp fun ι1 H1 μ1 d _ _ ⟨g1, r1, env1, h1⟩ v rv => h1 ι1 H1 .refl r1 _ (env1.set i rv)
end

/-! ### own defs -/
abbrev Sem := List D → Mem → Res D
def spM (G : Gd) (n : Nat) (sem : Sem) : Sp := fun vs H Q E => ∃ ds μ ι, Reps G ι H ds vs ∧ ds.length = n ∧ Rel G ι H μ ∧ Post G ι H (fun cls dx _ H' => E cls dx H') [] (sem ds μ) fun ι' H' _ d => ∀ v, Rep G ι' H' d v → Q v H'
theorem Post.re {G : Gd} {ι : List Addr} {H : Hp} {W W' : WX} {σ σ' : St} {α : Type} {r : Res α} {k : List Addr → Hp → Mem → α → Prop} (h : Post G ι H W σ r k) (f : ∀ c d H, W c d σ H → W' c d σ' H) : Post G ι H W' σ' r k := by
  cases r with
  | ok a m => exact h
  | exc c fs m => exact fun ι' H' cls dx g r e => f _ _ _ (h ι' H' cls dx g r e)
  | stuck => exact h
def startR (n : Nat) (ds : List D) : Rho := ds.map some ++ List.replicate (n - ds.length) none
@[simp] def endB : Fl → Mem → Res D
  | .nx _, μ => .ok .non μ
  | .ret d, μ => .ok d μ
  | .exc c fs _, μ => .exc c fs μ
  | _, _ => .stuck
def runB (n : Nat) (m : MS) : Sem := fun ds μ => pureE (m (startR n ds) μ) endB
theorem env_start {G : Gd} {ι : List Addr} {H : Hp} {N : List Str} {ds : List D} {vs : List V} (h : Reps G ι H ds vs) : EnvOk G ι H (startR N.length ds) (L2.start N vs) := by
  unfold startR L2.start
  refine ⟨by simp [h.length], fun i d e => ?_⟩
  by_cases hi : i < ds.length
  · rw [List.getElem?_append_left (by simpa using hi), List.getElem?_map] at e
    obtain ⟨x, e1, e2⟩ := Option.map_eq_some_iff.mp e
    cases e2
    obtain ⟨v, e3, r⟩ := h.get e1
    refine ⟨v, ?_, r⟩
    rw [List.getElem?_append_left (by simpa [h.length] using hi), List.getElem?_map, e3]; rfl
  · rw [List.getElem?_append_right (by simpa using hi), List.getElem?_replicate] at e
    split at e <;> cases e
/-- what a caller has of a def -/
def Fn (G : Gd) (base : Heap) (x : Str) (k n : Nat) (sem : Sem) : Prop := ∃ (f : Addr) (fd : FuncData) (ps : List Str),
  G.mg x = some (.ref f) ∧ PySem.W.keepIn G.K (.ref f) = true ∧ Binds G.K fd ps [] ∧ FnG G.P G.w G.K G.mg base (L2.CX G.P G.w) k f fd ps (spM G n sem)
theorem spM_len {G : Gd} {n : Nat} {sem : Sem} {vs : List V} {H : Hp} {Q : VK} {E : XK} (h : spM G n sem vs H Q E) : vs.length = n := by
  obtain ⟨ds, μ, ι, h1, h2, _⟩ := h
  rw [h1.length, h2]
section
variable {P : Program} {w : World} {K : PySem.W.Frag} {mg : Str → Option Value} {base : Heap}
theorem fn_ok {x qual : Str} {st : Stmt} {f : Addr} {fd : FuncData} {N ps : List Str} {k : Nat} {m : MS} (F : L2.Fun K x qual st f fd) (S : FnScope N ps (defScope st))
    (hb : ∀ (cdv : Value) (A : Around) (outer : List Env) (s : Shared) (H : Hp) (E : XK), RoomG k (A.deeper (envOfC qual (defScope st) s.heap.objs.size f cdv)) →
      SSs (cxOf (L2.CX P w) P w K mg base N qual (defScope st) f cdv A outer s H E) (fun cls dx _ H' => E cls dx H') (defBody st) m) :
    FnG P w K mg base (L2.CX P w) (k + 1) f fd ps (spM ⟨P, w, K, mg⟩ ps.length (runB N.length m)) := by
  refine okG F S (fun vs H Q E h => spM_len h) fun cdv A outer s H vs Q E hr ⟨ds, μ, ι, h1, h2, h3, h4⟩ => ⟨_, hb cdv A outer s H E hr, ?_⟩
  refine ⟨startR N.length ds, μ, ι, env_start h1, h3, ?_⟩
  unfold runB at h4
  cases hm : m (startR N.length ds) μ with
  | stuck => rw [hm] at h4; exact h4.elim
  | exc c fs m' => rw [hm] at h4; exact h4.elim
  | ok fl μ' =>
    rw [hm] at h4
    intro ι' H' g r
    cases fl with
    | nx ρ' => exact fun σ' env' => h4 ι' H' g r _ rep_non
    | brk ρ' => exact h4.elim
    | cnt ρ' => exact h4.elim
    | ret d => exact fun v rv => h4 ι' H' g r v rv
    | exc c fs ρ' => exact fun σ' cls dx env' ex => h4 ι' H' cls dx g r ex
end
section
variable {X : Cx} {W : WX} {k n : Nat} {sem : Sem} {x : Str} {p pos : Pos} {e : Expr} {es : List Expr} {ms : ML}
theorem se_call {j : Nat} (F : Fn (gOf X) X.base x j n sem) (hr : RoomG k X.A) (hj : j ≤ k) (hg : Gl X x) (tk : Takes X W) (ha : SA X W (e :: es) ms) (hn : ∀ ρ μ ds μ', ms ρ μ = .ok ds μ' → ds.length = n)
    (hdb : (x == ("__debug__" : Str)) = false := by decide) (he : starEach (e :: es) X.env = (false, eval e X.env) :: starEach es X.env := by rfl) (hpl : (backTo pos (starEach es X.env)).any (·.1) = false := by rfl) :
    SE X W (.Call (.Name x p) (e :: es) [] pos) (mB sem ms) := by
  obtain ⟨f, fd, ps, hm, hk, hb, F⟩ := F
  refine PE.mono (callG F (hr.le hj) hg hm hk hb (T := WE W) (fun σ => passAt tk σ) ha hdb he hpl) fun σ H Q ⟨ρ, μ, ι, env, rel, h⟩ => ?_
  refine ⟨ρ, μ, ι, env, rel, ?_⟩
  have h := Post.bind h
  cases hm : ms ρ μ with
  | stuck => rw [hm] at h; exact h.elim
  | exc c fs m => rw [hm] at h; exact h
  | ok ds μ1 =>
    rw [hm] at h
    intro ι1 H1 g1 r1 vs rvs
    obtain ⟨_, _, h1⟩ := h ι1 H1 g1 r1
    exact ⟨ds, μ1, ι1, rvs, hn ρ μ ds μ1 hm, r1, h1.re fun c d H z => z⟩
end
theorem mCons_len {a : MD} {r : ML} {n : Nat} (h : ∀ ρ μ ds μ', r ρ μ = .ok ds μ' → ds.length = n) : ∀ ρ μ ds μ', mCons a r ρ μ = .ok ds μ' → ds.length = n + 1 := fun ρ μ ds μ' e => by
  simp only [mCons] at e
  cases h1 : a ρ μ with
  | ok x m =>
    rw [h1] at e
    simp only [Res.bind] at e
    cases h2 : r ρ m with
    | ok xs m2 =>
      rw [h2] at e
      simp only [Res.bind, Res.ok.injEq] at e
      rw [← e.1, List.length_cons, h _ _ _ _ h2]
    | exc c fs m2 => rw [h2] at e; cases e
    | stuck => rw [h2] at e; cases e
  | exc c fs m2 => rw [h1] at e; cases e
  | stuck => rw [h1] at e; cases e
theorem mNil_len : ∀ ρ μ ds μ', mNil ρ μ = .ok ds μ' → ds.length = 0 := fun ρ μ ds μ' e => by
  simp only [mNil, Res.ok.injEq] at e
  rw [← e.1]; rfl

/-! ### classes -/
def Cl (G : Gd) (c : Str) (C : Addr) : Prop := G.mg c = some (.ref C) ∧ Cls G.K C
def putD (f : Str) (v : D) : List (Str × D) → List (Str × D)
  | [] => [(f, v)]
  | (g, x) :: r => if g = f then (g, v) :: r else (g, x) :: putD f v r
def fldD (c f : Str) : D → Mem → Res D
  | .ref n, μ => (match μ[n]? with
    | some (.ins c' fs) => if c' = c then (match fs.lookup f with
      | some d => .ok d μ
      | none => .stuck) else .stuck
    | _ => .stuck)
  | _, _ => .stuck
def setFD (c f : Str) : D → D → Mem → Res Unit
  | .ref n, v, μ => (match μ[n]? with
    | some (.ins c' fs) => if c' = c ∧ fs.length < 1000 then .ok () (μ.set n (.ins c (putD f v fs))) else .stuck
    | _ => .stuck)
  | _, _, _ => .stuck
@[simp] def sFldM (c f : Str) (o v : MD) : MS := fun ρ μ => onE (v ρ μ) ρ fun y μ1 => onE (o ρ μ1) ρ fun x μ2 => pureE (setFD c f x y μ2) fun _ μ3 => .ok (.nx ρ) μ3
@[simp] def mMake (c : Str) (sem : Sem) (a : ML) : MD := fun ρ μ => (a ρ μ).bind fun ds μ1 => (sem (.ref μ1.length :: ds) (μ1 ++ [.ins c []])).bind fun d μ2 => match d with
  | .non => .ok (.ref μ1.length) μ2
  | _ => .stuck
section
variable {G : Gd} {ι : List Addr} {H : Hp}
theorem repF_lookup {f : Str} {d : D} : ∀ {fs : List (Str × D)} {gs : List (Str × V)}, Paired (RepF G ι H) fs gs → fs.lookup f = some d → ∃ v, gs.lookup f = some v ∧ Rep G ι H d v
  | _, _, .nil, e => by simp at e
  | (g, x) :: r, (g', y) :: r', .cons ⟨h1, h2⟩ t, e => by
    have h1 : g = g' := h1
    subst h1
    rw [List.lookup_cons] at e ⊢
    split at e
    · cases e; exact ⟨y, rfl, h2⟩
    · exact repF_lookup t e
theorem repF_put {f : Str} {d : D} {v : V} (h : Rep G ι H d v) : ∀ {fs : List (Str × D)} {gs : List (Str × V)}, Paired (RepF G ι H) fs gs → Paired (RepF G ι H) (putD f d fs) (putF f v gs)
  | _, _, .nil => .cons ⟨rfl, h⟩ .nil
  | (g, x) :: r, (g', y) :: r', .cons ⟨h1, h2⟩ t => by
    have h1 : g = g' := h1
    subst h1
    unfold putD putF
    split
    · exact .cons ⟨rfl, h⟩ t
    · exact .cons ⟨rfl, h2⟩ (repF_put h t)
theorem Rel.ins {μ : Mem} (r : Rel G ι H μ) {n : Nat} {c : Str} {fs : List (Str × D)} {v : V} (h : μ[n]? = some (.ins c fs)) (hv : Rep G ι H (.ref n) v) :
    ∃ a C dx gs, v = .ref a ∧ ι[n]? = some a ∧ G.mg c = some (.ref C) ∧ H a = some (.ins C dx gs) ∧ Paired (RepF G ι H) fs gs := by
  obtain ⟨a, h1, rfl⟩ := hv.ref
  obtain ⟨C, dx, gs, h2, h3, h4⟩ := r.cell n _ a h h1
  exact ⟨a, C, dx, gs, rfl, h1, h2, h3, h4⟩
end
section
variable {X : Cx} {W : WX} {e o value : Expr} {me mo mv : MD} {c f : Str} {pos pos' : Pos} {C : Addr}
theorem se_fld (hc : Cl (gOf X) c C) (hn : NoAttr X.K C f) (he : SE X W e me) (hb : attributeBase e f X.env (eval e X.env) = eval e X.env := by rfl) : SE X W (.Attribute e f pos) (mUn (fldD c f) me) :=
  PE.mono (pe_fld he hb) fun σ H Q ⟨ρ, μ, ι, env, rel, h⟩ =>
    ⟨ρ, μ, ι, env, rel, (Post.bind h).imp fun ι1 H1 μ1 x _ _ ⟨g1, r1, h1⟩ v rv => by
      cases x <;> first | exact h1.elim | skip
      simp only [fldD] at h1
      split at h1
      · rename_i c' fs em
        split at h1
        · rename_i hcc
          subst hcc
          split at h1
          · rename_i d el
            obtain ⟨a, C', dx, gs, rfl, q1, q2, q3, q4⟩ := r1.ins em rv
            obtain rfl : C' = C := by
              have := q2.symm.trans hc.1
              cases this; rfl
            obtain ⟨u, e1, ru⟩ := repF_lookup q4 el
            exact ⟨a, C', dx, gs, u, rfl, q3, hc.2, hn, e1, h1 ι1 H1 .refl r1 u ru⟩
          · exact h1.elim
        · exact h1.elim
      · exact h1.elim⟩
theorem ss_fld (hc : Cl (gOf X) c C) (hn : NoAttr X.K C f) (ha : SE X W o mo) (hv : SE X W value mv) (hs : swapsWith value (some (.Attribute o f pos')) pos.line X.env = pure false := by rfl) : SS X W (.Assign [.Attribute o f pos'] value pos) (sFldM c f mo mv) :=
  PS.mono (ps_fld ha hv hs) fun D σ H ⟨ρ, μ, ι, env, rel, h⟩ => by
    refine ⟨ρ, μ, ι, env, rel, (PostS.onE h env ⟨μ, rel⟩).imp fun ι1 H1 μ1 y _ _ ⟨g1, r1, env1, h1⟩ u ru => ?_⟩
    refine ⟨ρ, μ1, ι1, env1, r1, (PostS.onE h1 env1 ⟨μ1, r1⟩).imp fun ι2 H2 μ2 x _ _ ⟨g2, r2, env2, h2⟩ v rv => ?_⟩
    have h2 := PostS.pureE (W := W) (σ := σ) h2
    have ru := ru.ext (g2.ext r1)
    cases x <;> first | exact h2.elim | skip
    simp only [setFD] at h2
    split at h2
    · rename_i c' fs em
      split at h2
      · rename_i hcc
        obtain ⟨hcc, hl⟩ := hcc
        subst hcc
        obtain ⟨a, C', dx, gs, rfl, q1, q2, q3, q4⟩ := r2.ins em rv
        obtain rfl : C' = C := by
          have := q2.symm.trans hc.1
          cases this; rfl
        have hlen : fs.length = gs.length := Paired.length q4
        refine ⟨a, C', dx, gs, rfl, q3, hc.2, hn, by omega, ?_⟩
        obtain ⟨g3, r3⟩ := grow_set (o := .ins C' dx (putF f u gs)) (c := .ins c' (putD f y fs)) r2 q1 (fun _ _ e => by rw [q3] at e; cases e) fun ex => ⟨C', dx, _, q2, upd_same, Paired.imp' (repF_put ru q4) fun _ _ z => ⟨z.1, z.2.ext ex⟩⟩
        obtain ⟨_, _, h3⟩ := h2 ι2 _ g3 r3
        exact h3 ι2 _ .refl r3 σ (env2.ext (g3.ext r2))
      · exact h2.elim
    · exact h2.elim
/-- C(..) -/
theorem se_make {k j n : Nat} {sem : Sem} {x : Str} {f : Addr} {fd : FuncData} {ps : List Str} {p : Pos} {es : List Expr} {ms : ML} (M : Mk X.K C f) (F : FnG X.prog X.w X.K X.mg X.base (L2.CX X.prog X.w) j f fd ps (spM (gOf X) (n + 1) sem)) (hr : RoomG k X.A) (hj : j + 1 ≤ k) (hg : Gl X x) (hm : X.mg x = some (.ref C))
    (hb : Binds X.K fd ps []) (hns : ∀ ds μ, (∃ d m, sem ds μ = .ok d m) ∨ sem ds μ = .stuck) (ha : SA X W (e :: es) ms) (hn : ∀ ρ μ ds μ', ms ρ μ = .ok ds μ' → ds.length = n) (hdb : (x == ("__debug__" : Str)) = false := by decide) (he : starEach (e :: es) X.env = (false, eval e X.env) :: starEach es X.env := by rfl)
    (hpl : (backTo pos (starEach es X.env)).any (·.1) = false := by rfl) : SE X W (.Call (.Name x p) (e :: es) [] pos) (mMake x sem ms) :=
  PE.mono (makeG (T := E0) M F (hr.le hj) hg hm hb passL ha hdb he hpl) fun σ H Q ⟨ρ, μ, ι, env, rel, h⟩ => by
    refine ⟨ρ, μ, ι, env, rel, ?_⟩
    have h := Post.bind h
    cases hms : ms ρ μ with
    | stuck => rw [hms] at h; exact h.elim
    | exc c fs m => rw [hms] at h; exact h
    | ok ds μ1 =>
      rw [hms] at h
      intro ι1 H1 g1 r1 vs rvs x' dx hx hdx hne
      obtain ⟨_, _, h1⟩ := h ι1 H1 g1 r1
      obtain ⟨g2, r2⟩ := grow_laid (o := .own x') r1 hdx
      have hx2 : upd H1 dx (.own x') x' = none := by rw [upd_ne hne.symm]; exact hx
      obtain ⟨g3, r3⟩ := grow_cell (o := .ins C dx []) (c := .ins x []) r2 hx2 fun ex => ⟨C, dx, [], hm, upd_same, .nil⟩
      have g := g2.trans g3
      refine ⟨.ref μ1.length :: ds, μ1 ++ [.ins x []], ι1 ++ [x'], ?_, by rw [List.length_cons, hn ρ μ ds μ1 hms], r3, ?_⟩
      · rw [List.append_nil]
        exact .cons (rep_new (r := r1)) (rvs.ext (g.ext r1))
      · have h1 := Post.bind h1
        rcases hns (.ref μ1.length :: ds) (μ1 ++ [.ins x []]) with ⟨d, m, e⟩ | e
        · rw [e] at h1 ⊢
          intro ι4 H4 g4 r4 v rv
          obtain ⟨_, _, h5⟩ := h1 ι4 H4 (g.trans g4) r4
          cases d <;> first | exact h5.elim | skip
          refine ⟨rv.non, h5 ι4 H4 .refl r4 _ ?_⟩
          refine rep_ref (prefix_get g4.pre ?_)
          rw [← r1.len]; simp
        · rw [e] at h1; exact h1.elim
end

/-! ### methods of lists -/
def SndM (G : Gd) (r : V → List V → Hp → VK → Prop) (f : D → List D → Mem → Res D) : Prop := ∀ (ι : List Addr) (H : Hp) (μ : Mem) (x : D) (xs : List D) (v : V) (vs : List V) (W : WX) (σ : St) (Q : VK), Rel G ι H μ → Rep G ι H x v → Reps G ι H xs vs →
  Post G ι H W σ (f x xs μ) (fun ι' H' _ d => ∀ v, Rep G ι' H' d v → Q v H') → r v vs H Q
def SndTy (G : Gd) (T : String) (ty : D → Mem → Bool) : Prop := ∀ (ι : List Addr) (H : Hp) (μ : Mem) (x : D) (v : V), Rel G ι H μ → Rep G ι H x v → ty x μ = true → tyV G.K T v H
@[simp] def mMt (ty : D → Mem → Bool) (f : D → List D → Mem → Res D) (o : MD) (a : ML) : MD := fun ρ μ => (o ρ μ).bind fun x μ1 => if ty x μ1 = true then (a ρ μ1).bind fun xs μ2 => f x xs μ2 else .stuck
@[simp] def mMt0 (ty : D → Mem → Bool) (f : D → List D → Mem → Res D) (o : MD) : MD := fun ρ μ => (o ρ μ).bind fun x μ1 => if ty x μ1 = true then f x [] μ1 else .stuck
section
variable {X : Cx} {W : WX} {o e : Expr} {es : List Expr} {mo : MD} {ms : ML} {name : Str} {apos cpos : Pos} {T id : String} {r : V → List V → Hp → VK → Prop} {f : D → List D → Mem → Res D} {ty : D → Mem → Bool}
theorem se_mt0 (pa : PlainAttrs T) (slot : Slot T name id) (hty : typeOf (.builtin id) = pure (.type "method_descriptor")) (hm : MtR X id r) (hT : SndTy (gOf X) T ty) (hf : SndM (gOf X) r f) (ho : SE X W o mo)
    (hbase : attributeBase o name X.env (eval o X.env) = eval o X.env := by rfl) (hline : (apos.endLine == cpos.line) = true := by rfl) : SE X W (.Call (.Attribute o name apos) [] [] cpos) (mMt0 ty f mo) :=
  PE.mono (pe_bm0 pa slot hty hm ho hbase hline) fun σ H Q ⟨ρ, μ, ι, env, rel, h⟩ =>
    ⟨ρ, μ, ι, env, rel, (Post.bind h).imp fun ι1 H1 μ1 x _ _ ⟨g1, r1, h1⟩ v rv => by
      split at h1
      · rename_i ht
        exact ⟨hT _ _ _ _ _ r1 rv ht, hf _ _ _ _ _ _ _ _ _ _ r1 rv .nil h1⟩
      · exact h1.elim⟩
theorem se_mt (pa : PlainAttrs T) (slot : Slot T name id) (hty : typeOf (.builtin id) = pure (.type "method_descriptor")) (hm : MtR X id r) (hT : SndTy (gOf X) T ty) (hf : SndM (gOf X) r f) (ho : SE X W o mo) (ha : SA X W (e :: es) ms)
    (hbase : attributeBase o name X.env (eval o X.env) = eval o X.env := by rfl)
    (hfew : ((backTo cpos (starEach (e :: es) X.env)).all (fun x => !x.1) && (backToKw cpos (keywordEach [] X.env)).all (fun x => x.1.isSome)
      && decide ((e :: es).length + ([] : List Keyword).length + (if ([] : List Keyword).isEmpty then 0 else 1) < 30)) = true := by rfl)
    (hline : (apos.endLine == cpos.line) = true := by rfl) (hs : starEach (e :: es) X.env = (false, eval e X.env) :: starEach es X.env := by rfl) (hplain : (backTo cpos (starEach es X.env)).any (·.1) = false := by rfl) :
    SE X W (.Call (.Attribute o name apos) (e :: es) [] cpos) (mMt ty f mo ms) :=
  PE.mono (pe_bm pa slot hty hm ho ha hbase hfew hline hs hplain) fun σ H Q ⟨ρ, μ, ι, env, rel, h⟩ =>
    ⟨ρ, μ, ι, env, rel, (Post.bind h).imp fun ι1 H1 μ1 x _ _ ⟨g1, r1, h1⟩ v rv => by
      split at h1
      · rename_i ht
        refine ⟨hT _ _ _ _ _ r1 rv ht, ρ, μ1, ι1, env.ext (g1.ext rel), r1, (Post.bind h1).imp fun ι2 H2 μ2 xs _ _ ⟨g2, r2, h2⟩ vs rvs => ?_⟩
        exact hf _ _ _ _ _ _ _ _ _ _ r2 (rv.ext (g2.ext r1)) rvs h2
      · exact h1.elim⟩
end
def isLst : D → Mem → Bool
  | .ref n, μ => (match μ[n]? with
    | some (.lst _) => true
    | _ => false)
  | _, _ => false
theorem ty_list {G : Gd} : SndTy G "list" isLst := fun ι H μ x v r rx h => by
  cases x <;> first | (simp [isLst] at h; done) | skip
  simp only [isLst] at h
  split at h
  · rename_i l em
    obtain ⟨a, vs, rfl, h0, h1, h2⟩ := r.lst em rx
    exact .inl ⟨rfl, vs, .of h1⟩
  · cases h
def appendM : D → List D → Mem → Res D
  | .ref n, [y], μ => (match μ[n]? with
    | some (.lst l) => if l.length < sizeLine then .ok .non (μ.set n (.lst (l ++ [y]))) else .stuck
    | _ => .stuck)
  | _, _, _ => .stuck
def extendM : D → List D → Mem → Res D
  | .ref n, [.ref m], μ => (match μ[n]?, μ[m]? with
    | some (.lst l), some (.lst k) => if l.length + k.length ≤ sizeLine then .ok .non (μ.set n (.lst (l ++ k))) else .stuck
    | _, _ => .stuck)
  | _, _, _ => .stuck
def insertM : D → List D → Mem → Res D
  | .ref n, [.int i, y], μ => (match μ[n]? with
    | some (.lst l) => if l.length < sizeLine ∧ 0 ≤ i ∧ i < 2 ^ 63 then .ok .non (μ.set n (.lst (l.take i.toNat ++ [y] ++ l.drop i.toNat))) else .stuck
    | _ => .stuck)
  | _, _, _ => .stuck
def popM : D → List D → Mem → Res D
  | .ref n, [], μ => (match μ[n]? with
    | some (.lst l) => (match l.getLast? with
      | some y => .ok y (μ.set n (.lst l.dropLast))
      | none => .stuck)
    | _ => .stuck)
  | _, _, _ => .stuck
/-- the list at a is another one -/
theorem set_lst {G : Gd} {ι : List Addr} {H : Hp} {μ : Mem} {n : Nat} {a : Addr} {l : List D} {vs : List V} (r : Rel G ι H μ) (h0 : ι[n]? = some a) (hl : ∃ ws, H a = some (.lst ws)) (h : Reps G ι H l vs) : Grow ι H ι (upd H a (.lst vs)) ∧ Rel G ι (upd H a (.lst vs)) (μ.set n (.lst l)) :=
  grow_set (o := .lst vs) (c := .lst l) r h0 (fun _ _ e => by obtain ⟨_, q⟩ := hl; rw [q] at e; cases e) fun e => ⟨vs, upd_same, h.ext e⟩
theorem snd_append {G : Gd} : SndM G rAppend appendM := fun ι H μ x xs v vs W σ Q r rx rxs h => by
  unfold appendM at h
  split at h
  · split at h
    · rename_i l em
      split at h
      · rename_i hl
        obtain ⟨a, ws, rfl, h0, h1, h2⟩ := r.lst em rx
        obtain ⟨u, rfl, ru⟩ := rxs.one
        obtain ⟨g2, r2⟩ := set_lst r h0 ⟨_, h1⟩ (h2.append (.cons ru .nil))
        exact ⟨a, ws, u, rfl, rfl, h1, by rw [h2.length]; exact hl, h ι _ g2 r2 _ rep_non⟩
      · exact h.elim
    · exact h.elim
  · exact h.elim
theorem snd_extend {G : Gd} : SndM G rExtend extendM := fun ι H μ x xs v vs W σ Q r rx rxs h => by
  unfold extendM at h
  split at h
  · split at h
    · rename_i l k em ek
      split at h
      · rename_i hl
        obtain ⟨a, ws, rfl, h0, h1, h2⟩ := r.lst em rx
        obtain ⟨u, rfl, ru⟩ := rxs.one
        obtain ⟨b, zs, rfl, h3, h4, h5⟩ := r.lst ek ru
        obtain ⟨g2, r2⟩ := set_lst r h0 ⟨_, h1⟩ (h2.append h5)
        exact ⟨a, b, ws, zs, rfl, rfl, h1, h4, by rw [h2.length, h5.length]; exact hl, h ι _ g2 r2 _ rep_non⟩
      · exact h.elim
    · exact h.elim
  · exact h.elim
theorem snd_insert {G : Gd} : SndM G (fun x vs H Q => ∃ (l : Addr) (xs : List V) (i : Int) (y : V), x = .ref l ∧ vs = [.int i, y] ∧ H l = some (.lst xs) ∧ xs.length < sizeLine ∧ 0 ≤ i ∧ i < 2 ^ 63 ∧
    Q .non (upd H l (.lst (xs.take i.toNat ++ [y] ++ xs.drop i.toNat)))) insertM := fun ι H μ x xs v vs W σ Q r rx rxs h => by
  unfold insertM at h
  split at h
  · split at h
    · rename_i l em
      split at h
      · rename_i hl
        obtain ⟨a, ws, rfl, h0, h1, h2⟩ := r.lst em rx
        obtain ⟨u, u2, rfl, ru, ru2⟩ := rxs.two
        obtain ⟨g2, r2⟩ := set_lst r h0 ⟨_, h1⟩ (((h2.take _).append (.cons ru2 .nil)).append (h2.drop _))
        exact ⟨a, ws, _, u2, rfl, by rw [ru.int], h1, by rw [h2.length]; exact hl.1, hl.2.1, hl.2.2, h ι _ g2 r2 _ rep_non⟩
      · exact h.elim
    · exact h.elim
  · exact h.elim
theorem snd_pop {G : Gd} : SndM G rPop popM := fun ι H μ x xs v vs W σ Q r rx rxs h => by
  unfold popM at h
  split at h
  · split at h
    · rename_i l em
      split at h
      · rename_i y ey
        obtain ⟨a, ws, rfl, h0, h1, h2⟩ := r.lst em rx
        obtain ⟨u, e1, ru⟩ := h2.get (i := l.length - 1) (by rw [← List.getLast?_eq_getElem?]; exact ey)
        have h3 : Reps G ι H l.dropLast ws.dropLast := by
          rw [List.dropLast_eq_take, List.dropLast_eq_take, h2.length]; exact h2.take _
        obtain ⟨g2, r2⟩ := set_lst r h0 ⟨_, h1⟩ h3
        exact ⟨a, ws, u, rfl, rxs.nil_inv, h1, by rw [h2.length]; exact e1, h ι _ g2 r2 _ (ru.ext (g2.ext r))⟩
      · exact h.elim
    · exact h.elim
  · exact h.elim
end RW

/-! SEi: dicts. -/
namespace RW
open PySem L2
/-! ### by keys -/
def dGet : List (D × D) → D → Option D
  | [], _ => none
  | (a, d) :: r, k => if a.nk? = k.nk? then some d else dGet r k
def dHas (l : List (D × D)) (k : D) : Bool := (dGet l k).isSome
def dRep (k v : D) : List (D × D) → List (D × D)
  | [] => []
  | (a, d) :: r => (if a.nk? = k.nk? then (a, v) else (a, d)) :: dRep k v r
def dPut (l : List (D × D)) (k v : D) : List (D × D) := if dHas l k = true then dRep k v l else l ++ [(k, v)]
/-- a key that a plain dict may have, one that a dict of tuples may -/
def isK (k : D) : Bool := k.key?.isSome
def isT : D → Bool
  | .tup l => match D.nk? (.tup l) with
    | some n => decide (n.depth ≤ 8)
    | none => false
  | _ => false
def Key.nk : Key → NestedKey
  | .inl i => .num i
  | .inr s => .text s
theorem Key.nk_inj {a b : Key} : Key.nk a = Key.nk b ↔ a = b := by
  cases a <;> cases b <;> simp [Key.nk]
theorem key_nk {d : D} {k : Key} (h : d.key? = some k) : d.nk? = some (Key.nk k) := by
  cases d <;> simp [D.key?] at h <;> subst h <;> simp [D.nk?, Key.nk]
section
variable {G : Gd} {ι ι' : List Addr} {H H' : Hp}
theorem key_rep {d : D} {k : Key} {v : V} (h : d.key? = some k) (r : Rep G ι H d v) : v = kV k := by
  cases d <;> simp [D.key?] at h <;> subst h
  · exact r.int
  · exact r.str
theorem dGet_K {k : D} {kk : Key} (hk : k.key? = some kk) : ∀ {l : List (D × D)} {kvs : List (Key × V)}, Paired (RepP G ι H) l kvs →
    (dGet l k = none ∧ valV kvs kk = none) ∨ ∃ d v, dGet l k = some d ∧ valV kvs kk = some v ∧ Rep G ι H d v
  | _, _, .nil => .inl ⟨rfl, rfl⟩
  | (a, d) :: r, (q, v) :: r', .cons ⟨h1, h2⟩ t => by
    have e1 : a.nk? = some (Key.nk q) := key_nk h1
    have e2 := key_nk hk
    by_cases hq : q = kk
    · exact .inr ⟨d, v, by simp [dGet, e1, e2, hq], valV_pos hq, h2⟩
    · have hne : ¬ (a.nk? = k.nk?) := by rw [e1, e2]; simp [Key.nk_inj, hq]
      rcases dGet_K hk t with ⟨x, y⟩ | ⟨d', v', x, y, z⟩
      · exact .inl ⟨by simp [dGet, hne, x], by rw [valV_neg hq]; exact y⟩
      · exact .inr ⟨d', v', by simp [dGet, hne, x], by rw [valV_neg hq]; exact y, z⟩
theorem dRep_K {k x : D} {kk : Key} {u : V} (hk : k.key? = some kk) (rx : Rep G ι H x u) : ∀ {l : List (D × D)} {kvs : List (Key × V)}, Paired (RepP G ι H) l kvs →
    Paired (RepP G ι H) (dRep k x l) (kvs.map fun kv => if kv.1 = kk then (kv.1, u) else kv)
  | _, _, .nil => .nil
  | (a, d) :: r, (q, v) :: r', .cons ⟨h1, h2⟩ t => by
    have e1 : a.nk? = some (Key.nk q) := key_nk h1
    have e2 := key_nk hk
    have ih := dRep_K hk rx t
    unfold dRep
    rw [List.map_cons]
    by_cases hq : q = kk
    · have he : a.nk? = k.nk? := by rw [e1, e2, hq]
      rw [if_pos he]
      have : (if (q, v).1 = kk then ((q, v).1, u) else (q, v)) = (q, u) := if_pos hq
      rw [this]
      exact .cons ⟨h1, rx⟩ ih
    · have hne : ¬ (a.nk? = k.nk?) := by rw [e1, e2]; simp [Key.nk_inj, hq]
      rw [if_neg hne]
      have : (if (q, v).1 = kk then ((q, v).1, u) else (q, v)) = (q, v) := if_neg hq
      rw [this]
      exact .cons ⟨h1, h2⟩ ih
theorem Paired.snoc {α β : Type} {F : α → β → Prop} : ∀ {l : List α} {l' : List β} {a : α} {b : β}, Paired F l l' → F a b → Paired F (l ++ [a]) (l' ++ [b])
  | _, _, _, _, .nil, h => .cons h .nil
  | _, _, _, _, .cons r t, h => .cons r (Paired.snoc t h)
theorem dPut_K {k x : D} {kk : Key} {u : V} (hk : k.key? = some kk) (rx : Rep G ι H x u) {l : List (D × D)} {kvs : List (Key × V)} (p : Paired (RepP G ι H) l kvs) : Paired (RepP G ι H) (dPut l k x) (putK kvs kk u) := by
  unfold dPut putK
  rw [valV_any kk kvs]
  unfold dHas
  rcases dGet_K hk p with ⟨e1, e2⟩ | ⟨d, v, e1, e2, _⟩
  · rw [e1, e2]; exact Paired.snoc p ⟨hk, rx⟩
  · rw [e1, e2]; exact dRep_K hk rx p
/-! nested keys -/
theorem dGet_T {k : D} {kk : NestedKey} (hk : k.nk? = some kk) : ∀ {l : List (D × D)} {xs : List (NestedKey × Addr × Value)}, Paired (RepT G ι H) l xs →
    (dGet l k = none ∧ atKey xs kk = none) ∨ ∃ d p v, dGet l k = some d ∧ atKey xs kk = some p ∧ Rep G ι H d v ∧ RelV v p.2
  | _, _, .nil => .inl ⟨rfl, rfl⟩
  | (a, d) :: r, (q, b, w) :: r', .cons ⟨h1, h2, h3, v, h4, h5⟩ t => by
    by_cases hq : q = kk
    · exact .inr ⟨d, (b, w), v, by simp [dGet, show a.nk? = some q from h1, hk, hq], by simp [atKey, hq], h4, h5⟩
    · have hne : ¬ (a.nk? = k.nk?) := by rw [show a.nk? = some q from h1, hk]; simp [hq]
      rcases dGet_T hk t with ⟨x, y⟩ | ⟨d', p, v', x, y, z⟩
      · refine .inl ⟨by simp [dGet, hne, x], ?_⟩
        unfold atKey at y ⊢
        rw [List.find?_cons_of_neg (by simpa using hq)]; exact y
      · refine .inr ⟨d', p, v', by simp [dGet, hne, x], ?_, z⟩
        unfold atKey at y ⊢
        rw [List.find?_cons_of_neg (by simpa using hq)]; exact y
theorem dRep_T {k x : D} {kk : NestedKey} {u : V} {w : Value} (hk : k.nk? = some kk) (rx : Rep G ι H x u) (rw' : RelV u w) : ∀ {l : List (D × D)} {xs : List (NestedKey × Addr × Value)}, Paired (RepT G ι H) l xs →
    Paired (RepT G ι H) (dRep k x l) (xs.map (putAt kk w))
  | _, _, .nil => .nil
  | (a, d) :: r, (q, b, z) :: r', .cons ⟨h1, h2, h3, v, h4, h5⟩ t => by
    have ih := dRep_T hk rx rw' t
    unfold dRep
    rw [List.map_cons]
    unfold putAt
    by_cases hq : q = kk
    · rw [if_pos (show a.nk? = k.nk? by rw [show a.nk? = some q from h1, hk, hq]), if_pos (show (q, b, z).1 = kk from hq)]
      exact .cons ⟨h1, h2, h3, u, rx, rw'⟩ ih
    · rw [if_neg (show ¬ a.nk? = k.nk? by rw [show a.nk? = some q from h1, hk]; simp [hq]), if_neg (show ¬ (q, b, z).1 = kk from hq)]
      exact .cons ⟨h1, h2, h3, v, h4, h5⟩ ih
theorem dPut_T {k x : D} {kk : NestedKey} {t : Addr} {u : V} {w : Value} (hk : k.nk? = some kk) (hd : kk.depth ≤ 8) (rk : Rep G ι H k (.ref t)) (rx : Rep G ι H x u) (rw' : RelV u w) {l : List (D × D)} {xs : List (NestedKey × Addr × Value)} (p : Paired (RepT G ι H) l xs) :
    Paired (RepT G ι H) (dPut l k x) (storedH xs kk t w) := by
  unfold dPut storedH dHas
  rcases dGet_T hk p with ⟨e1, e2⟩ | ⟨d, v, _, e1, e2, _⟩
  · rw [e1, e2]; exact Paired.snoc p ⟨hk, hd, rk, u, rx, rw'⟩
  · rw [e1, e2]; exact dRep_T hk rx rw' p
end

/-! ### in the heap itself -/
section
variable {X : Cx} {pins : List (Addr × Obj)} {σ : St} {H : Hp} {s : Shared} {ι : List Addr}
mutual
theorem nest_of (I : Inv X pins σ H s) : ∀ (d : D) (k : NestedKey) (v : V) (u : Value), D.nk? d = some k → Rep (gOf X) ι H d v → RelV v u → NestedIs s.heap k u
  | .non, k, v, u, e, r, ru => by unfold D.nk? at e; cases e; cases r.non; cases ru; exact .none
  | .bl b, k, v, u, e, r, ru => by unfold D.nk? at e; cases e; cases r.bl; cases ru; exact .bool rfl
  | .int i, k, v, u, e, r, ru => by unfold D.nk? at e; cases e; cases r.int; obtain ⟨t, rfl⟩ := ru; exact .int i t
  | .str i, k, v, u, e, r, ru => by unfold D.nk? at e; cases e; cases r.str; obtain ⟨t, rfl⟩ := ru; exact .text i t
  | .tup l, k, v, u, e, r, ru => by
    unfold D.nk? at e
    obtain ⟨ks, e1, rfl⟩ := Option.map_eq_some_iff.mp e
    obtain ⟨a, vs, rfl, h1, h2⟩ := r.tup
    cases ru
    obtain ⟨its, rv, ⟨o, ho, hc, n, hd⟩, _⟩ := I.tuple h1
    exact .tup ho hc hd (nests_of I l ks vs its e1 h2 rv)
  | .frl _, _, _, _, e, _, _ => by unfold D.nk? at e; cases e
  | .ref _, _, _, _, e, _, _ => by unfold D.nk? at e; cases e
  | .fn _, _, _, _, e, _, _ => by unfold D.nk? at e; cases e
theorem nests_of (I : Inv X pins σ H s) : ∀ (l : List D) (ks : List NestedKey) (vs : List V) (us : List Value), D.nks? l = some ks → Reps (gOf X) ι H l vs → Vals vs us → NestedAll s.heap ks us
  | [], ks, vs, us, e, r, ru => by unfold D.nks? at e; cases e; rw [r.nil_inv] at ru; cases ru; exact .nil
  | d :: l, ks, vs, us, e, r, ru => by
    unfold D.nks? at e
    obtain ⟨v, w, rfl, h1, h2⟩ := r.cons_inv
    split at e
    · rename_i k q e1 e2
      cases e
      cases ru with
      | cons ra rb => exact .cons (nest_of I d k v _ e1 h1 ra) (nests_of I l q w _ e2 h2 rb)
    · cases e
end
/-- the dict of tuples at a, as it lies -/
def TdIs (G : Gd) (ι : List Addr) (H : Hp) (a : Addr) (l : List (D × D)) (xs : List (NestedKey × Addr × Value)) : Prop :=
  Rd H a (.ext (tdPhi G a xs)) ∧ Paired (RepT G ι H) l xs ∧ (xs.map (·.1)).Nodup ∧ xs.length ≤ sizeLine ∧ (a == sysModules) = false
theorem TdIs.dictOf {a : Addr} {l : List (D × D)} {xs : List (NestedKey × Addr × Value)} (t : TdIs (gOf X) ι H a l xs) (I : Inv X pins σ H s) : s.heap.DictOfH (nestedKind X.prog X.w) a xs := by
  obtain ⟨h1, h2, h3, _⟩ := t
  obtain ⟨⟨o, es, ep, e1, e2, e3, e4⟩, _⟩ := h1.ok I.hok
  refine ⟨o, es, ep, e1, e2, e3, e4, ?_, h3⟩
  have key : ∀ {l : List (D × D)} {xs : List (NestedKey × Addr × Value)}, Paired (RepT (gOf X) ι H) l xs → ∀ x ∈ xs, (nestedKind X.prog X.w).is s.heap x.1 x.2.1 := by
    intro l xs p
    induction p with
    | nil => exact fun x hx => nomatch hx
    | cons h t ih =>
      intro x hx
      rcases List.mem_cons.mp hx with e | hx
      · subst e; exact ⟨nest_of I _ _ _ _ h.1 h.2.2.1 rfl, h.2.1⟩
      · exact ih x hx
  exact key h2
theorem td_obj {P : Program} {w : World} {H' : Hp} {h' : Heap} {G : Gd} {a : Addr} {xs : List (NestedKey × Addr × Value)} (d : h'.DictOfH (nestedKind G.P G.w) a xs) : ObjOk P w H' h' a (.ext (tdPhi G a xs)) := by
  obtain ⟨o, es, ep, e1, e2, e3, e4, _⟩ := d
  exact ⟨⟨o, es, ep, e1, e2, e3, e4⟩, ⟨o, e1⟩, fun h1 h2 ⟨o, es, ep, e1, e2⟩ k => ⟨o, es, ep, k _ e1, e2⟩⟩
end

/-! ### by values: both kinds of dict -/
/-- the dict at a holds r at the key y -/
@[reducible] def AtIs (xs : List (NestedKey × Addr × Value)) (kk : NestedKey) (r : Option V) : Prop := match r with
  | none => atKey xs kk = none
  | some v => ∃ p, atKey xs kk = some p ∧ RelV v p.2
def DIs (G : Gd) (H : Hp) (a : Addr) (y : V) (r : Option V) : Prop := DGet H a y r ∨
  ∃ ι l xs k kk t, TdIs G ι H a l xs ∧ Rep G ι H k (.ref t) ∧ y = .ref t ∧ D.nk? k = some kk ∧ kk.depth ≤ 8 ∧ AtIs xs kk r
section
variable {X : Cx} {pins : List (Addr × Obj)} {σ : St} {H : Hp} {s : Shared} {a : Addr} {y v : V} {u : Value} {o : Option V}
theorem di_typeIs (I : Inv X pins σ H s) (g : DIs (gOf X) H a y o) : s.TypeIs (.ref a) "dict" := by
  rcases g with g | ⟨ι, l, xs, k, kk, t, h, _⟩
  · exact dict_typeIs I g
  · exact (h.dictOf I).typeIs
theorem di_getItem {Q : Value → Shared → Prop} (hu : X.A.units + 64 < cLine) (I : Inv X pins σ H s) (g : DIs (gOf X) H a y (some v)) (ry : RelV y u) (h : ∀ w' s', Inv X pins σ H s' → RelV v w' → Q w' s') :
    wpAny (model X.prog X.w) X.A (getItem (.ref a) u) Q X.xe s := by
  rcases g with g | ⟨ι, l, xs, k, kk, t, hd, rk, ey, hk, hk8, p, hp, rp⟩
  · exact d_getItem (by omega) I g ry h
  · subst ey
    cases (show u = Value.ref t from ry)
    refine wpAny_getItem_heap (knd := nestedKind X.prog X.w) (by show X.A.units + 1 + 8 < cLine; omega) ⟨nest_of I k kk _ _ hk rk rfl, hk8⟩ (hd.dictOf I) hp ?_
    exact h p.2 _ (I.tok _) rp
theorem di_in {Q : Value → Shared → Prop} (hu : X.A.units + 64 < cLine) (I : Inv X pins σ H s) (g : DIs (gOf X) H a y o) (ry : RelV y u) (h : ∀ s', Inv X pins σ H s' → Q (.bool o.isSome) s') :
    wpAny (model X.prog X.w) X.A (compareOp .In u (.ref a)) Q X.xe s := by
  rcases g with g | ⟨ι, l, xs, k, kk, t, hd, rk, ey, hk, hk8, hp⟩
  · exact d_in (by omega) I g ry h
  · subst ey
    cases (show u = Value.ref t from ry)
    refine wpAny_in_heap (knd := nestedKind X.prog X.w) (by show X.A.units + 1 + 8 < cLine; omega) ⟨nest_of I k kk _ _ hk rk rfl, hk8⟩ hd.2.2.2.2 (hd.dictOf I) ?_
    have e : (atKey xs kk).isSome = o.isSome := by
      cases o with
      | none => rw [show atKey xs kk = none from hp]; rfl
      | some v => obtain ⟨p, e, _⟩ := hp; rw [e]; rfl
    rw [e]
    exact h _ (I.tok _)
theorem di_notIn {Q : Value → Shared → Prop} (hu : X.A.units + 64 < cLine) (I : Inv X pins σ H s) (g : DIs (gOf X) H a y o) (ry : RelV y u) (h : ∀ s', Inv X pins σ H s' → Q (.bool (!o.isSome)) s') :
    wpAny (model X.prog X.w) X.A (compareOp .NotIn u (.ref a)) Q X.xe s := by
  rcases g with g | ⟨ι, l, xs, k, kk, t, hd, rk, ey, hk, hk8, hp⟩
  · exact d_notIn (by omega) I g ry h
  · subst ey
    cases (show u = Value.ref t from ry)
    refine PyProof.Rows.wpAny_notIn_heap (knd := nestedKind X.prog X.w) (by show X.A.units + 1 + 8 < cLine; omega) ⟨nest_of I k kk _ _ hk rk rfl, hk8⟩ hd.2.2.2.2 (hd.dictOf I) ?_
    have e : (atKey xs kk).isSome = o.isSome := by
      cases o with
      | none => rw [show atKey xs kk = none from hp]; rfl
      | some v => obtain ⟨p, e, _⟩ := hp; rw [e]; rfl
    rw [e]
    exact h _ (I.tok _)
end
def rInD (G : Gd) : R2 := fun x y H Q => ∃ a o, y = .ref a ∧ DIs G H a x o ∧ Q (.bl o.isSome) H
def rNotInD (G : Gd) : R2 := fun x y H Q => ∃ a o, y = .ref a ∧ DIs G H a x o ∧ Q (.bl (!o.isSome)) H
def rIxD (G : Gd) : R2 := fun x y H Q => ∃ a v, x = .ref a ∧ DIs G H a y (some v) ∧ Q v H
section
variable {X : Cx}
theorem op_inD (hu : X.A.units + 64 < cLine) : OpR X (compareOp .In) (rInD (gOf X)) := by
  intro pins s σ H x y v u Q I rx ry ⟨a, o, ey, g, q⟩
  subst ey; cases ry
  exact di_in hu I g rx fun s' I' => ⟨.bl o.isSome, H, I', rfl, q⟩
theorem op_notInD (hu : X.A.units + 64 < cLine) : OpR X (compareOp .NotIn) (rNotInD (gOf X)) := by
  intro pins s σ H x y v u Q I rx ry ⟨a, o, ey, g, q⟩
  subst ey; cases ry
  exact di_notIn hu I g rx fun s' I' => ⟨.bl (!o.isSome), H, I', rfl, q⟩
open PyProof.Rows (subscriptTail) in
theorem ix_dict (hu : X.A.units + 64 < cLine) : IxR X (rIxD (gOf X)) := by
  intro value slice pins s σ H x y v u Q I rx ry ⟨a, z, ex, g, q⟩ hs
  subst ex; cases rx
  have hT := di_typeIs I g
  unfold subscriptTail
  refine wpAny_bind ?_
  rw [getitemInPython_of_ne hT.not_modules]
  refine wpAny_bind (wpAny_specialOf hT PySem.F.slot_dict_getitem.lookup ?_)
  have fin : wpAny (model X.prog X.w) X.A (subscripted slice false (.ref a) u) (fun r s₃ => wpAny (model X.prog X.w) X.A (letTemporaryGo value (.ref a) r >>= fun _ => pure r) (EP X pins σ Q) X.xe s₃) X.xe s := by
    rw [hs]
    exact wpAny_operating (di_getItem hu I g ry fun w' s' I' r' => wpAny_bind (wpAny_letTemporaryGo (wpAny_pure ⟨z, H, I', r', q⟩)))
  first
    | exact wpAny_pure (wpAny_bind fin)
    | exact wpAny_bind (wpAny_pure (wpAny_bind fin))
    | exact wpAny_bind fin
end
/-! ### mirrors -/
def dictD (l : List (D × D)) (t : Bool) (k : D) : Option (Option D) := if (if t = true then isT k else isK k) = true then some (dGet l k) else none
def dictAt (x : D) (k : D) (μ : Mem) : Option (Option D) := match x with
  | .ref n => (match μ[n]? with
    | some (.dic l) => if isK k = true then some (dGet l k) else none
    | some (.tdic l) => if isT k = true then some (dGet l k) else none
    | some (.lck false l) => if isK k = true then some (dGet l k) else none
    | some (.lck true l) => if isT k = true then some (dGet l k) else none
    | _ => none)
  | _ => none
def inDD (k x : D) (μ : Mem) : Res D := match dictAt x k μ with
  | some o => .ok (.bl o.isSome) μ
  | none => .stuck
def notInDD (k x : D) (μ : Mem) : Res D := match dictAt x k μ with
  | some o => .ok (.bl (!o.isSome)) μ
  | none => .stuck
def idxDD (x k : D) (μ : Mem) : Res D := match dictAt x k μ with
  | some (some d) => .ok d μ
  | _ => .stuck
section
variable {G : Gd} {ι : List Addr} {H : Hp} {μ : Mem}
theorem isT_key {k : D} (h : isT k = true) : ∃ l kk, k = .tup l ∧ D.nk? k = some kk ∧ kk.depth ≤ 8 := by
  cases k <;> first | (simp [isT] at h; done) | skip
  rename_i l
  simp only [isT] at h
  split at h
  · rename_i n e
    exact ⟨l, n, rfl, e, of_decide_eq_true h⟩
  · cases h
theorem dictAt_is {x k : D} {v u : V} {o : Option D} (r : Rel G ι H μ) (rx : Rep G ι H x v) (rk : Rep G ι H k u) (h : dictAt x k μ = some o) :
    ∃ a w, v = .ref a ∧ DIs G H a u w ∧ w.isSome = o.isSome ∧ ∀ d, o = some d → ∃ z, w = some z ∧ Rep G ι H d z := by
  have K1 : ∀ {n : Nat} {l : List (D × D)} {a : Addr} {kvs : List (Key × V)}, x = .ref n → ι[n]? = some a → Rd H a (.dK kvs) → Paired (RepP G ι H) l kvs → isK k = true → some (dGet l k) = some o →
      ∃ a w, v = .ref a ∧ DIs G H a u w ∧ w.isSome = o.isSome ∧ ∀ d, o = some d → ∃ z, w = some z ∧ Rep G ι H d z := by
    intro n l a kvs ex h0 h1 h2 hk ho
    subst ex; cases ho
    obtain ⟨a', h0', rfl⟩ := rx.ref
    obtain rfl : a = a' := by rw [h0] at h0'; cases h0'; rfl
    unfold isK at hk
    obtain ⟨kk, ek⟩ := Option.isSome_iff_exists.mp hk
    have eu := key_rep ek rk
    subst eu
    have g : DGet H a (kV kk) (valV kvs kk) := .inl ⟨kvs, kk, h1, rfl, rfl⟩
    rcases dGet_K ek h2 with ⟨e1, e2⟩ | ⟨d, z, e1, e2, e3⟩
    · refine ⟨a, none, rfl, .inl (by rw [← e2]; exact g), by rw [e1]; rfl, fun d ed => by rw [e1] at ed; cases ed⟩
    · exact ⟨a, some z, rfl, .inl (by rw [← e2]; exact g), by rw [e1]; rfl, fun d' ed => by rw [e1] at ed; cases ed; exact ⟨z, rfl, e3⟩⟩
  have K2 : ∀ {n : Nat} {l : List (D × D)} {a : Addr} {xs : List (NestedKey × Addr × Value)}, x = .ref n → ι[n]? = some a → TdIs G ι H a l xs → isT k = true → some (dGet l k) = some o →
      ∃ a w, v = .ref a ∧ DIs G H a u w ∧ w.isSome = o.isSome ∧ ∀ d, o = some d → ∃ z, w = some z ∧ Rep G ι H d z := by
    intro n l a xs ex h0 h1 hk ho
    subst ex; cases ho
    obtain ⟨a', h0', rfl⟩ := rx.ref
    obtain rfl : a = a' := by rw [h0] at h0'; cases h0'; rfl
    obtain ⟨kl, kk, ekl, ek, ek8⟩ := isT_key hk
    subst ekl
    obtain ⟨t, ts, eu, _, _⟩ := id rk.tup
    subst eu
    rcases dGet_T ek h1.2.1 with ⟨e1, e2⟩ | ⟨d, p, z, e1, e2, e3, e4⟩
    · exact ⟨a, none, rfl, .inr ⟨ι, l, xs, .tup kl, kk, t, h1, rk, rfl, ek, ek8, e2⟩, by rw [e1]; rfl, fun d ed => by rw [e1] at ed; cases ed⟩
    · exact ⟨a, some z, rfl, .inr ⟨ι, l, xs, .tup kl, kk, t, h1, rk, rfl, ek, ek8, p, e2, e4⟩, by rw [e1]; rfl, fun d' ed => by rw [e1] at ed; cases ed; exact ⟨z, rfl, e3⟩⟩
  unfold dictAt at h
  split at h
  · rename_i n
    obtain ⟨a, h0, _⟩ := rx.ref
    split at h
    · rename_i l em
      obtain ⟨kvs, h1, h2⟩ := r.cell n _ a em h0
      split at h
      · rename_i hk; exact K1 rfl h0 (.inl h1) h2 hk h
      · cases h
    · rename_i l em
      obtain ⟨xs, h1⟩ := r.cell n _ a em h0
      split at h
      · rename_i hk; exact K2 rfl h0 ⟨.inl h1.1, h1.2⟩ hk h
      · cases h
    · rename_i l em
      obtain ⟨od, kvs, h1, h2⟩ := r.cell n _ a em h0
      split at h
      · rename_i hk; exact K1 rfl h0 (.inr ⟨od, h1⟩) h2 hk h
      · cases h
    · rename_i l em
      obtain ⟨od, xs, h1⟩ := r.cell n _ a em h0
      split at h
      · rename_i hk; exact K2 rfl h0 ⟨.inr ⟨od, h1.1⟩, h1.2⟩ hk h
      · cases h
    · cases h
  · cases h
theorem snd_inD : Snd2 G (rInD G) inDD := fun ι H μ x y v u W σ Q r rx ry h => by
  unfold inDD at h
  split at h
  · rename_i o e
    obtain ⟨a, w, rfl, h1, h2, _⟩ := dictAt_is r ry rx e
    exact ⟨a, w, rfl, h1, by rw [h2]; exact h ι H .refl r _ (rep_bl _)⟩
  · exact h.elim
theorem snd_notInD : Snd2 G (rNotInD G) notInDD := fun ι H μ x y v u W σ Q r rx ry h => by
  unfold notInDD at h
  split at h
  · rename_i o e
    obtain ⟨a, w, rfl, h1, h2, _⟩ := dictAt_is r ry rx e
    exact ⟨a, w, rfl, h1, by rw [h2]; exact h ι H .refl r _ (rep_bl _)⟩
  · exact h.elim
theorem snd_ixD : Snd2 G (rIxD G) idxDD := fun ι H μ x y v u W σ Q r rx ry h => by
  unfold idxDD at h
  split at h
  · rename_i d e
    obtain ⟨a, w, rfl, h1, _, h3⟩ := dictAt_is r rx ry e
    obtain ⟨z, rfl, rz⟩ := h3 d rfl
    exact ⟨a, z, rfl, h1, h ι H .refl r _ rz⟩
  · exact h.elim
end
section
variable {X : Cx} {W : WX} {a b : Expr} {ma mb : MD} {pos : Pos}
theorem se_idxD (hu : X.A.units + 64 < cLine) (ha : SE X W a ma) (hb : SE X W b mb) (hs : PlainIx b := by exact fun _ _ => rfl) : SE X W (.Subscript a b pos) (mBin idxDD ma mb) :=
  PE.mono (pe_ix (ix_dict hu) ha hb hs) fun σ H Q h => bin_red snd_ixD h
end
end RW

/-! SEj: dicts stored, made, walked. -/
namespace RW
open PySem L2
/-! ### a[k] = v of lists and dicts -/
def rSetT (G : Gd) : TSet := fun o i v H Q => ∃ a ι l xs k kk t, o = .ref a ∧ H a = some (.ext (tdPhi G a xs)) ∧ TdIs G ι H a l xs ∧ Rep G ι H k (.ref t) ∧ i = .ref t ∧ D.nk? k = some kk ∧ kk.depth ≤ 8 ∧ xs.length < sizeLine ∧
  ∀ w, RelV v w → Q (upd H a (.ext (tdPhi G a (storedH xs kk t w))))
def rSetK : TSet := fun o i v H Q => ∃ a H', o = .ref a ∧ DPut H a i v H' ∧ Q H'
def rSetA (G : Gd) : TSet := fun o i v H Q => rSetL o i v H Q ∨ rSetK o i v H Q ∨ rSetT G o i v H Q
section
variable {X : Cx}
theorem PSet.or {t t' : TSet} (h : PSet X t) (h' : PSet X t') : PSet X (fun o i v H Q => t o i v H Q ∨ t' o i v H Q) := fun pins s σ H o i v ov iv u Q I r1 r2 r3 q => q.elim (h pins s σ H o i v ov iv u Q I r1 r2 r3) (h' pins s σ H o i v ov iv u Q I r1 r2 r3)
theorem set_K (hu : X.A.units + 64 < cLine) : PSet X rSetK := by
  intro pins s σ H o i v ov iv u Q I ro ri rv ⟨a, H', eo, g, q⟩
  subst eo; cases ro
  exact d_setItem (by omega) I g ri rv fun s' I' => ⟨H', I', q⟩
theorem set_T (hu : X.A.units + 64 < cLine) : PSet X (rSetT (gOf X)) := by
  intro pins s σ H o i v ov iv u Q I ro ri rv ⟨a, ι, l, xs, k, kk, t, eo, ha, hd, rk, ei, hk, hk8, hz, q⟩
  subst eo; cases ro
  subst ei; cases ri
  refine wpAny_setItem_heap (knd := nestedKind X.prog X.w) (by show X.A.units + 1 + 8 < cLine; omega) ⟨nest_of I k kk _ _ hk rk rfl, hk8⟩ (hd.dictOf I) (fun h' hm' hs => ?_) (Nat.le_of_lt hz)
  refine ⟨_, ?_, q u rv⟩
  refine I.write (x := a) (e := a) (by rw [ha]; trivial) (.inl rfl) (fun b ob hb e => (hs.2 b hb).trans e) ?_ (td_obj (G := gOf X) hm')
  obtain ⟨ob, _, _, e, _⟩ := hm'
  exact ⟨ob, e⟩
end
def setDD (o k d : D) (μ : Mem) : Res Unit := match o with
  | .ref n => (match μ[n]? with
    | some (.lst l) => setLD o k d μ
    | some (.dic l) => if isK k = true ∧ l.length < sizeLine then .ok () (μ.set n (.dic (dPut l k d))) else .stuck
    | some (.tdic l) => if isT k = true ∧ l.length < sizeLine then .ok () (μ.set n (.tdic (dPut l k d))) else .stuck
    | _ => .stuck)
  | _ => .stuck
theorem snd_setA {G : Gd} : SndSet G (rSetA G) setDD := fun ι H μ o i x ov iv v W σ Q r ro ri rx h => by
  cases o <;> first | exact h.elim | skip
  rename_i n
  simp only [setDD] at h
  split at h
  · exact .inl (snd_setL ι H μ (.ref n) i x ov iv v W σ Q r ro ri rx h)
  · rename_i l em
    split at h
    · rename_i hk
      obtain ⟨a, h0, rfl⟩ := ro.ref
      obtain ⟨kvs, h1, h2⟩ := r.cell n _ a em h0
      obtain ⟨kk, ek⟩ := Option.isSome_iff_exists.mp (show (D.key? i).isSome = true from hk.1)
      obtain rfl := key_rep ek ri
      have hlen : l.length = kvs.length := Paired.length h2
      obtain ⟨g2, r2⟩ := grow_set (o := .dK (putK kvs kk v)) (c := .dic (dPut l i x)) r h0 (fun _ _ e => by rw [h1] at e; cases e) fun e => ⟨_, upd_same, Paired.imp' (dPut_K ek rx h2) fun _ _ z => ⟨z.1, z.2.ext e⟩⟩
      exact .inr (.inl ⟨a, _, rfl, .k h1 (by omega), h ι _ g2 r2⟩)
    · exact h.elim
  · rename_i l em
    split at h
    · rename_i hk
      obtain ⟨a, h0, rfl⟩ := ro.ref
      obtain ⟨xs, h1⟩ := r.cell n _ a em h0
      obtain ⟨kl, kk, ekl, ek, ek8⟩ := isT_key hk.1
      subst ekl
      obtain ⟨t, ts, eu, _, _⟩ := id ri.tup
      subst eu
      have hlen : l.length = xs.length := Paired.length h1.2.1
      refine .inr (.inr ⟨a, ι, l, xs, .tup kl, kk, t, rfl, h1.1, ⟨.inl h1.1, h1.2⟩, ri, rfl, ek, ek8, by omega, fun w hw => ?_⟩)
      have hn : ((storedH xs kk t w).map (·.1)).Nodup ∧ (storedH xs kk t w).length ≤ sizeLine := by
        have nd := h1.2.2.1
        have hl : (storedH xs kk t w).length ≤ xs.length + 1 := by unfold storedH; split <;> simp
        refine ⟨?_, by omega⟩
        unfold storedH
        split
        · rw [keys_map_putAt]; exact nd
        · rename_i hf
          rw [List.map_append, List.nodup_append]
          refine ⟨nd, by simp, fun b hb c hc => ?_⟩
          simp at hc; subst hc
          rintro rfl
          apply hf
          cases e : atKey xs b with
          | some p => rfl
          | none =>
            exfalso
            obtain ⟨y, hy, rfl⟩ := List.mem_map.mp hb
            unfold atKey at e
            rw [Option.map_eq_none_iff, List.find?_eq_none] at e
            exact e y hy (by simp)
      obtain ⟨g2, r2⟩ := grow_set (o := .ext (tdPhi G a (storedH xs kk t w))) (c := .tdic (dPut l (.tup kl) x)) r h0 (fun _ _ e => by rw [h1.1] at e; cases e) fun e => ⟨_, upd_same, Paired.imp' (dPut_T ek ek8 ri rx hw h1.2.1) fun _ _ z => ⟨z.1, z.2.1, z.2.2.1.ext e, let ⟨v, z1, z2⟩ := z.2.2.2; ⟨v, z1.ext e, z2⟩⟩, hn.1, hn.2, h1.2.2.2.2⟩
      exact h ι _ g2 r2
    · exact h.elim
  · exact h.elim
section
variable {X : Cx} {W : WX} {pos : Pos} {o i : Expr} {mo mi : MD}
theorem sg_set (hu : X.A.units + 64 < cLine) (ho : SE X W o mo) (hi : SE X W i mi)
    (ha : ∀ v, assign (.Subscript o i pos) X.env v = (do
      let ov ← holding [v] (eval o X.env)
      let iv ← holding [v, ov] (eval i X.env)
      standAt pos
      holding [v, ov, iv] (setItem ov iv v)
      release [v, ov, iv] []) := by intro _; rfl) : SG X W (.Subscript o i pos) (gSubM setDD mo mi) :=
  sg_sub ho hi (PSet.or set_list (PSet.or (set_K hu) (set_T hu))) snd_setA ha
end
/-! ### a[b] of anything -/
def idxA (x i : D) (μ : Mem) : Res D := match x with
  | .ref n => (match μ[n]? with
    | some (.lst l) => idxD x i μ
    | _ => idxDD x i μ)
  | _ => idxD x i μ
def rIxA (G : Gd) : R2 := fun x y H Q => rIx G.K x y H Q ∨ rIxD G x y H Q
theorem snd_ixA {G : Gd} : Snd2 G (rIxA G) idxA := fun ι H μ x y v u W σ Q r rx ry h => by
  unfold idxA at h
  split at h
  · split at h
    · exact .inl (snd_idx ι H μ _ y v u W σ Q r rx ry h)
    · exact .inr (snd_ixD ι H μ _ y v u W σ Q r rx ry h)
  · exact .inl (snd_idx ι H μ _ y v u W σ Q r rx ry h)
section
variable {X : Cx} {W : WX} {a b : Expr} {ma mb : MD} {pos : Pos}
theorem se_ix (hu : X.A.units + 64 < cLine) (ha : SE X W a ma) (hb : SE X W b mb) (hs : PlainIx b := by exact fun _ _ => rfl) : SE X W (.Subscript a b pos) (mBin idxA ma mb) :=
  PE.mono (pe_ix (IxR.or ix_seq (ix_dict hu)) ha hb hs) fun σ H Q h => bin_red snd_ixA h
end
/-! ### x in y -/
def inA (x y : D) (μ : Mem) : Res D := match y with
  | .ref n => (match μ[n]? with
    | some (.lst l) => .stuck
    | _ => inDD x y μ)
  | _ => .stuck

/-! ### {} and {k: v, ..} -/
def mDicNew : MD := fun _ μ => .ok (.ref μ.length) (μ ++ [.dic []])
def mTdicNew : MD := fun _ μ => .ok (.ref μ.length) (μ ++ [.tdic []])
section
variable {X : Cx} {W : WX} {pos : Pos}
theorem se_dicNew : SE X W (.Dict [] [] pos) mDicNew := PE.mono pe_dnewK fun σ H Q ⟨ρ, μ, ι, env, rel, h⟩ p hp => by
  obtain ⟨g2, r2⟩ := grow_cell (o := .dK []) (c := .dic []) rel hp fun x => ⟨[], upd_same, .nil⟩
  exact h _ _ g2 r2 _ (rep_new (r := rel))
theorem td_empty {P : Program} {w : World} {H : Hp} {G : Gd} (h : Heap) : ObjOk P w H (h.push { cls := .type "dict", data := .dict #[] }) h.objs.size (.ext (tdPhi G h.objs.size [])) :=
  td_obj (Heap.DictOfH.new h)
theorem pe_dnewN : PE X (.Dict [] [] pos) (fun _ H Q => ∀ p, H p = none → (p == sysModules) = false → Q (.ref p) (upd H p (.ext (tdPhi (gOf X) p [])))) := ⟨fun pins s σ H Q I h =>
  wpAny_Dict_empty ⟨.ref s.heap.objs.size, _, I.laid (a := s.heap.objs.size) (o := .ext (tdPhi (gOf X) s.heap.objs.size [])) (t' := s.toks) (fun _ _ q => Heap.get?_push_of_some _ q) (Nat.le_refl _) (td_empty s.heap), rfl, h _ (I.hok.fresh (Nat.le_refl _)) (beq_eq_false_iff_ne.mpr (Ne.symm (Nat.ne_of_lt I.big)))⟩⟩
theorem se_tdicNew : SE X W (.Dict [] [] pos) mTdicNew := PE.mono pe_dnewN fun σ H Q ⟨ρ, μ, ι, env, rel, h⟩ p hp hs => by
  obtain ⟨g2, r2⟩ := grow_cell (o := .ext (tdPhi (gOf X) p [])) (c := .tdic []) rel hp fun x => ⟨[], upd_same, .nil, by simp, Nat.zero_le _, hs⟩
  exact h _ _ g2 r2 _ (rep_new (r := rel))
end
/-- the pairs of a display -/
@[simp] def mPairs : List (MD × MD) → Rho → Mem → Res (List (D × D))
  | [], _, μ => .ok [] μ
  | (k, v) :: r, ρ, μ => (k ρ μ).bind fun x μ1 => (v ρ μ1).bind fun y μ2 => (mPairs r ρ μ2).bind fun l μ3 => .ok ((x, y) :: l) μ3
def dicOf : List (D × D) → List (D × D) := fun l => l.foldl (fun acc p => dPut acc p.1 p.2) []
@[simp] def mDic (ps : List (MD × MD)) : MD := fun ρ μ => (mPairs ps ρ μ).bind fun l μ1 => if l.length ≤ 15 ∧ l.all (fun p => isK p.1) = true then .ok (.ref μ1.length) (μ1 ++ [.dic (dicOf l)]) else .stuck
@[simp] def mTdic (ps : List (MD × MD)) : MD := fun ρ μ => (mPairs ps ρ μ).bind fun l μ1 => if l.length ≤ 15 ∧ l.all (fun p => isT p.1) = true then .ok (.ref μ1.length) (μ1 ++ [.tdic (dicOf l)]) else .stuck
section
variable {X : Cx} {W : WX}
theorem pairs_red {σ : St} {ρ : Rho} : ∀ {ps : List (MD × MD)} {ι : List Addr} {H : Hp} {μ : Mem} {k : List Addr → Hp → Mem → List (D × D) → Prop} {Q : List (V × V) → Hp → Prop}, EnvOk (gOf X) ι H ρ σ → Rel (gOf X) ι H μ → Post (gOf X) ι H W σ (mPairs ps ρ μ) k →
    (∀ ι' H' μ' l vs, Grow ι H ι' H' → Rel (gOf X) ι' H' μ' → Paired (fun (p : D × D) (q : V × V) => Rep (gOf X) ι' H' p.1 q.1 ∧ Rep (gOf X) ι' H' p.2 q.2) l vs → k ι' H' μ' l → Q vs H') →
    tPairs (ps.map fun p => (tE (gOf X) W p.1, tE (gOf X) W p.2)) σ H Q
  | [], ι, H, μ, k, Q, env, rel, h, f => f ι H μ [] [] .refl rel .nil (h ι H .refl rel)
  | (mk, mv) :: ps, ι, H, μ, k, Q, env, rel, h, f => by
    simp only [mPairs] at h
    refine ⟨ρ, μ, ι, env, rel, (Post.bind h).imp fun ι1 H1 μ1 x _ _ ⟨g1, r1, h1⟩ v rv => ?_⟩
    have env1 := env.ext (g1.ext rel)
    refine ⟨ρ, μ1, ι1, env1, r1, (Post.bind h1).imp fun ι2 H2 μ2 y _ _ ⟨g2, r2, h2⟩ u ru => ?_⟩
    have env2 := env1.ext (g2.ext r1)
    refine pairs_red (ps := ps) env2 r2 (Post.bind h2) fun ι3 H3 μ3 l vs g3 r3 pr ⟨_, _, h3⟩ => ?_
    exact f ι3 H3 μ3 ((x, y) :: l) ((v, u) :: vs) ((g1.trans g2).trans g3) r3 (.cons ⟨(rv.ext (g2.ext r1)).ext (g3.ext r2), ru.ext (g3.ext r2)⟩ pr) (h3 ι3 H3 .refl r3)
theorem dic_fold {G : Gd} {ι : List Addr} {H : Hp} : ∀ {l : List (D × D)} {vs : List (V × V)} {acc : List (D × D)} {kvs : List (Key × V)}, Paired (fun (p : D × D) (q : V × V) => Rep G ι H p.1 q.1 ∧ Rep G ι H p.2 q.2) l vs → l.all (fun p => isK p.1) = true → Paired (RepP G ι H) acc kvs →
    ∃ more : List (Key × V), vs = more.map (fun kv => (kV kv.1, kv.2)) ∧ Paired (RepP G ι H) (l.foldl (fun acc p => dPut acc p.1 p.2) acc) (mergeK kvs more)
  | _, _, acc, kvs, .nil, _, p => ⟨[], rfl, p⟩
  | (k, x) :: l, (u, y) :: vs, acc, kvs, .cons ⟨h1, h2⟩ t, hk, p => by
    rw [List.all_cons, Bool.and_eq_true] at hk
    obtain ⟨kk, ek⟩ := Option.isSome_iff_exists.mp (show (D.key? k).isSome = true from hk.1)
    obtain rfl : u = kV kk := key_rep ek h1
    obtain ⟨more, e1, e2⟩ := dic_fold t hk.2 (dPut_K ek h2 p)
    exact ⟨(kk, y) :: more, by rw [e1]; rfl, e2⟩
theorem Post.bindB {ι ι' : List Addr} {H H' : Hp} {σ : St} {α β : Type} {r : Res α} {f : α → Mem → Res β} {kk : List Addr → Hp → Mem → β → Prop} {G : Gd} (h : Post G ι H W σ (r.bind f) kk) (g : Grow ι H ι' H') :
    Post G ι' H' W σ r fun _ _ μ2 a => Post G ι H W σ (f a μ2) kk := by
  cases r with
  | ok a m => exact fun ι2 H2 g2 r2 => h
  | exc c fs m => exact fun ι2 H2 cls dx g2 r e => h ι2 H2 cls dx (g.trans g2) r e
  | stuck => exact h
theorem se_dic {keys : List (Option Expr)} {values : List Expr} {pos : Pos} {ps : List (MD × MD)} (h : PPs X pos keys values (ps.map fun p => (tE (gOf X) W p.1, tE (gOf X) W p.2))) (hall : keys.all (·.isSome) = true) (hl : keys.length = values.length) (h0 : keys ≠ []) (h15 : keys.length ≤ 15) :
    SE X W (.Dict keys values pos) (mDic ps) :=
  PE.mono (pe_disp h hall hl h0 h15) fun σ H Q ⟨ρ, μ, ι, env, rel, h⟩ p hp => by
    obtain ⟨gD, rD⟩ := grow_laid (o := .dK []) rel hp
    have hpn := rel.notNone hp
    refine pairs_red (env.ext (gD.ext rel)) rD (Post.bindB h gD) fun ι1 H1 μ1 l vs g1 r1 pr h1 => ?_
    have e1 : H1 p = some (.dK []) := g1.keep _ _ upd_same hpn
    have hn1 : p ∉ ι1 := fun z => (g1.new p z).elim hpn fun z => by rw [upd_same] at z; cases z
    split at h1
    · rename_i hc
      obtain ⟨more, e2, e3⟩ := dic_fold (acc := []) (kvs := []) pr hc.2 .nil
      have hlen : l.length = vs.length := Paired.length pr
      refine ⟨e1, more, e2, by rw [e2] at hlen; simp at hlen; omega, ?_⟩
      -- the dict is adopted
      have ex : Ext ι1 H1 (ι1 ++ [p]) (upd H1 p (.dK (mergeK [] more))) := ⟨List.prefix_append _ _, fun a xs z => by rw [upd_ne (fun q => by rw [q, e1] at z; cases z)]; exact z, fun a o u z _ => by rw [upd_ne (fun q => by rw [q, e1] at z; cases z)]; exact z⟩
      have ex1 : Ext ι1 H1 ι1 (upd H1 p (.dK (mergeK [] more))) := ⟨List.prefix_refl _, ex.tup, ex.frz⟩
      have r2 : Rel (gOf X) ι1 (upd H1 p (.dK (mergeK [] more))) μ1 := ⟨r1.len, r1.nd, fun j c a q1 q2 => (r1.cell j c a q1 q2).ext ex1 (upd_ne fun q => hn1 (q ▸ List.mem_of_getElem? q2))⟩
      have r3 := grow_adopt (c := .dic (dicOf l)) r2 hn1 ⟨_, upd_same, Paired.imp' e3 fun _ _ z => ⟨z.1, z.2.ext ex⟩⟩
      have gA := gD.trans g1
      refine h1 (ι1 ++ [p]) _ ⟨gA.pre.trans (List.prefix_append _ _), fun a o z na => ?_, fun a ha => ?_, fun a o u z => by rw [upd_ne (fun q => by rw [q, hp] at z; cases z)]; exact gA.lock a o u z⟩ r3 _ (rep_new (r := r1))
      · rw [upd_ne (fun q => by rw [q, hp] at z; cases z)]; exact gA.keep a o z na
      · rcases List.mem_append.mp ha with z | z
        · exact gA.new a z
        · simp at z; subst z; exact .inr hp
    · exact h1.elim
/-! keys that are tuples -/
def NkL (G : Gd) (H : Hp) : List (V × V) → List (NestedKey × Addr × V) → Prop := Paired fun p x => p.1 = .ref x.2.1 ∧ p.2 = x.2.2 ∧ x.1.depth ≤ 8 ∧ ∃ ι k, Rep G ι H k (.ref x.2.1) ∧ D.nk? k = some x.1
def tDispT (G : Gd) (trs : List (TE × TE)) : TE := fun σ H Q => ∀ p, H p = none → (p == sysModules) = false → tPairs trs σ (upd H p (.ext (tdPhi G p []))) fun ps H2 => H2 p = some (.ext (tdPhi G p [])) ∧ ∃ ks : List (NestedKey × Addr × V), NkL G H2 ps ks ∧ ps.length ≤ 15 ∧
  ∀ ws : List Value, Vals (ks.map fun x => x.2.2) ws → Q (.ref p) (upd H2 p (.ext (tdPhi G p (storedAllH [] (List.zipWith (fun x w => (x.1, x.2.1, w)) ks ws)))))
theorem carriesH_of {pins : List (Addr × Obj)} {σ : St} {H : Hp} {s : Shared} (I : Inv X pins σ H s) : ∀ {ps : List (V × V)} {ks : List (NestedKey × Addr × V)} {vs : List (Value × Value)}, NkL (gOf X) H ps ks → VV ps vs →
    ∃ ws, Vals (ks.map fun x => x.2.2) ws ∧ CarriesH (nestedKind X.prog X.w) s.heap vs (List.zipWith (fun x w => (x.1, x.2.1, w)) ks ws)
  | _, _, _, .nil, .nil => ⟨[], .nil, trivial⟩
  | (k, v) :: ps, (n, a, y) :: ks, (kv, vv) :: vs, .cons ⟨h1, h2, h3, ι, d, h4, h5⟩ t, .cons ⟨r1, r2⟩ rt => by
    obtain ⟨ws, w1, w2⟩ := carriesH_of I t rt
    have h1 : k = .ref a := h1
    have h2 : v = y := h2
    subst h1; subst h2
    cases r1
    exact ⟨vv :: ws, .cons r2 w1, rfl, rfl, ⟨nest_of I d n _ _ h5 h4 rfl, h3⟩, w2⟩
theorem pe_dispT {keys : List (Option Expr)} {values : List Expr} {pos : Pos} {trs : List (TE × TE)} (hu : X.A.units + 64 < cLine) (h : PPs X pos keys values trs) (hall : keys.all (·.isSome) = true) (hl : keys.length = values.length) (h0 : keys ≠ []) (h15 : keys.length ≤ 15) :
    PE X (.Dict keys values pos) (tDispT (gOf X) trs) := by
  refine ⟨fun pins s σ H Q I q => ?_⟩
  have hn := I.hok.fresh (Nat.le_refl s.heap.objs.size)
  have I1 := I.laid (a := s.heap.objs.size) (o := .ext (tdPhi (gOf X) s.heap.objs.size [])) (h' := s.heap.push { cls := .type "dict", data := .dict #[] }) (t' := s.toks) (fun _ _ q => Heap.get?_push_of_some _ q) (Nat.le_refl _) (td_empty s.heap)
  have hnn := pairTrees_length keys values X.env pos hall hl
  rw [arm_eval_Dict, zip_pairTrees keys values X.env pos hall hl, dictDisplay_pairs (pairTrees keys values X.env pos) (fun he => h0 (List.length_eq_zero_iff.mp (by rw [← hnn, he]; rfl))) (by rw [hnn]; omega)]
  refine wpAny_bind (wpAny_standAt (wpAny_bind (wpAny_subDictH (knd := nestedKind X.prog X.w) (Q := fun d s' => wpAny (model X.prog X.w) X.A (pure (Value.ref d)) (EP X pins σ Q) X.xe s') (by show X.A.units + 8 < cLine; omega) (by rw [hnn]; exact h15) ?_)))
  refine thn (h.run pins _ σ _ _ I1 (q _ hn (beq_eq_false_iff_ne.mpr (Ne.symm (Nat.ne_of_lt I.big))))) fun ws s2 ⟨ps, H2, I2, rel, e, ks, hk, hz, q2⟩ => ?_
  obtain ⟨us, u1, u2⟩ := carriesH_of I2 hk rel
  have t0 : TdIs (gOf X) [] H2 s.heap.objs.size [] [] := ⟨.inl e, .nil, by simp, Nat.zero_le _, beq_eq_false_iff_ne.mpr (Ne.symm (Nat.ne_of_lt I.big))⟩
  refine ⟨_, u2, t0.dictOf I2, fun h' tk hm' hs => wpAny_pure ⟨.ref s.heap.objs.size, _, ?_, rfl, q2 us u1⟩⟩
  refine I2.write (x := s.heap.objs.size) (e := s.heap.objs.size) (by rw [e]; trivial) (.inl rfl) (fun b ob hb e => (hs.2 b hb).trans e) ?_ (td_obj (G := gOf X) hm')
  obtain ⟨ob, _, _, e', _⟩ := hm'
  exact ⟨ob, e'⟩
theorem td_fold {G : Gd} {ι : List Addr} {H : Hp} : ∀ {l : List (D × D)} {vs : List (V × V)}, Paired (fun (p : D × D) (q : V × V) => Rep G ι H p.1 q.1 ∧ Rep G ι H p.2 q.2) l vs → l.all (fun p => isT p.1) = true →
    ∃ ks : List (NestedKey × Addr × V), NkL G H vs ks ∧ ∀ ws : List Value, Vals (ks.map fun x => x.2.2) ws → ∀ (acc : List (D × D)) (xs : List (NestedKey × Addr × Value)), Paired (RepT G ι H) acc xs → Paired (RepT G ι H) (l.foldl (fun acc p => dPut acc p.1 p.2) acc) (storedAllH xs (List.zipWith (fun x w => (x.1, x.2.1, w)) ks ws))
  | _, _, .nil, _ => ⟨[], .nil, fun ws h acc xs p => by cases h; exact p⟩
  | (k, x) :: l, (u, y) :: vs, .cons ⟨h1, h2⟩ t, hk => by
    rw [List.all_cons, Bool.and_eq_true] at hk
    obtain ⟨kl, kk, ekl, ek, ek8⟩ := isT_key hk.1
    have ekl : k = .tup kl := ekl
    subst ekl
    obtain ⟨tt, ts, eu, _, _⟩ := id (Rep.tup h1)
    have eu : u = .ref tt := eu
    subst eu
    obtain ⟨ks, k1, k2⟩ := td_fold t hk.2
    refine ⟨(kk, tt, y) :: ks, .cons ⟨rfl, rfl, ek8, ι, _, h1, ek⟩ k1, fun ws hw acc xs p => ?_⟩
    cases hw with
    | cons r rt => exact k2 _ rt _ _ (dPut_T ek ek8 h1 h2 r p)
theorem nodup_storedH {xs : List (NestedKey × Addr × Value)} {kk : NestedKey} {t : Addr} {w : Value} (nd : (xs.map (·.1)).Nodup) : ((storedH xs kk t w).map (·.1)).Nodup := by
  unfold storedH
  split
  · rw [keys_map_putAt]; exact nd
  · rename_i hf
    rw [List.map_append, List.nodup_append]
    refine ⟨nd, by simp, fun b hb c hc => ?_⟩
    simp at hc; subst hc
    rintro rfl
    apply hf
    cases e : atKey xs b with
    | some p => rfl
    | none =>
      exfalso
      obtain ⟨y, hy, rfl⟩ := List.mem_map.mp hb
      unfold atKey at e
      rw [Option.map_eq_none_iff, List.find?_eq_none] at e
      exact e y hy (by simp)
theorem nodup_storedAllH : ∀ (ps xs : List (NestedKey × Addr × Value)), (xs.map (·.1)).Nodup → ((storedAllH xs ps).map (·.1)).Nodup
  | [], _, h => h
  | (k, t, w) :: ps, xs, h => nodup_storedAllH ps _ (nodup_storedH h)
theorem len_storedAllH : ∀ (ps xs : List (NestedKey × Addr × Value)), (storedAllH xs ps).length ≤ xs.length + ps.length
  | [], xs => Nat.le_refl _
  | (k, t, w) :: ps, xs => by
    have h1 := len_storedAllH ps (storedH xs k t w)
    have h2 : (storedH xs k t w).length ≤ xs.length + 1 := by unfold storedH; split <;> simp
    show (storedAllH (storedH xs k t w) ps).length ≤ _
    simp only [List.length_cons]; omega
theorem se_tdic {keys : List (Option Expr)} {values : List Expr} {pos : Pos} {ps : List (MD × MD)} (hu : X.A.units + 64 < cLine) (h : PPs X pos keys values (ps.map fun p => (tE (gOf X) W p.1, tE (gOf X) W p.2))) (hall : keys.all (·.isSome) = true) (hl : keys.length = values.length) (h0 : keys ≠ []) (h15 : keys.length ≤ 15) :
    SE X W (.Dict keys values pos) (mTdic ps) :=
  PE.mono (pe_dispT hu h hall hl h0 h15) fun σ H Q ⟨ρ, μ, ι, env, rel, h⟩ p hp hsys => by
    obtain ⟨gD, rD⟩ := grow_laid (o := .ext (tdPhi (gOf X) p [])) rel hp
    have hpn := rel.notNone hp
    refine pairs_red (env.ext (gD.ext rel)) rD (Post.bindB h gD) fun ι1 H1 μ1 l vs g1 r1 pr h1 => ?_
    have e1 : H1 p = some (.ext (tdPhi (gOf X) p [])) := g1.keep _ _ upd_same hpn
    have hn1 : p ∉ ι1 := fun z => (g1.new p z).elim hpn fun z => by rw [upd_same] at z; cases z
    split at h1
    · rename_i hc
      obtain ⟨ks, k1, k2⟩ := td_fold pr hc.2
      have hlen : l.length = vs.length := Paired.length pr
      refine ⟨e1, ks, k1, by omega, fun ws hw => ?_⟩
      have e3 := k2 ws hw [] [] .nil
      generalize hxs : storedAllH [] (List.zipWith (fun x w => (x.1, x.2.1, w)) ks ws) = xs at e3
      have hnd : (xs.map (·.1)).Nodup := by rw [← hxs]; exact nodup_storedAllH _ _ (by simp)
      have hle : xs.length ≤ sizeLine := by
        have a := len_storedAllH (List.zipWith (fun x w => (x.1, x.2.1, w)) ks ws) []
        have b : ks.length = vs.length := (Paired.length k1).symm
        rw [hxs, List.length_zipWith, List.length_nil] at a
        have : ks.length ≤ 15 := by omega
        rw [sizeLine_eq]; omega
      have ex : Ext ι1 H1 (ι1 ++ [p]) (upd H1 p (.ext (tdPhi (gOf X) p xs))) := ⟨List.prefix_append _ _, fun a xs z => by rw [upd_ne (fun q => by rw [q, e1] at z; cases z)]; exact z, fun a o u z _ => by rw [upd_ne (fun q => by rw [q, e1] at z; cases z)]; exact z⟩
      have ex1 : Ext ι1 H1 ι1 (upd H1 p (.ext (tdPhi (gOf X) p xs))) := ⟨List.prefix_refl _, ex.tup, ex.frz⟩
      have r2 : Rel (gOf X) ι1 (upd H1 p (.ext (tdPhi (gOf X) p xs))) μ1 := ⟨r1.len, r1.nd, fun j c a q1 q2 => (r1.cell j c a q1 q2).ext ex1 (upd_ne fun q => hn1 (q ▸ List.mem_of_getElem? q2))⟩
      have r3 := grow_adopt (c := .tdic (dicOf l)) r2 hn1 ⟨xs, upd_same, Paired.imp' e3 fun _ _ z => ⟨z.1, z.2.1, z.2.2.1.ext ex, let ⟨v, z1, z2⟩ := z.2.2.2; ⟨v, z1.ext ex, z2⟩⟩, hnd, hle, hsys⟩
      have gA := gD.trans g1
      refine h1 (ι1 ++ [p]) _ ⟨gA.pre.trans (List.prefix_append _ _), fun a o z na => ?_, fun a ha => ?_, fun a o u z => by rw [upd_ne (fun q => by rw [q, hp] at z; cases z)]; exact gA.lock a o u z⟩ r3 _ (rep_new (r := r1))
      · rw [upd_ne (fun q => by rw [q, hp] at z; cases z)]; exact gA.keep a o z na
      · rcases List.mem_append.mp ha with z | z
        · exact gA.new a z
        · simp at z; subst z; exact .inr hp
    · exact h1.elim
end

/-! ### d.get(k, x) -/
def isDic : D → Mem → Bool
  | .ref n, μ => (match μ[n]? with
    | some (.dic _) => true
    | some (.tdic _) => true
    | some (.lck _ _) => true
    | _ => false)
  | _, _ => false
def getM : D → List D → Mem → Res D
  | x, [k], μ => (match dictAt x k μ with
    | some o => .ok (o.getD .non) μ
    | none => .stuck)
  | x, [k, y], μ => (match dictAt x k μ with
    | some o => .ok (o.getD y) μ
    | none => .stuck)
  | _, _, _ => .stuck
def DicV (G : Gd) (H : Hp) (x : V) : Prop := ∃ a, x = .ref a ∧ ((∃ kvs, Rd H a (.dK kvs)) ∨ ∃ xs, Rd H a (.ext (tdPhi G a xs)))
section
variable {X : Cx} {W : WX} {pins : List (Addr × Obj)} {σ : St} {H : Hp} {s : Shared}
theorem dicV_at {x : V} {v : Value} (I : Inv X pins σ H s) (d : DicV (gOf X) H x) (r : RelV x v) : s.TypeIs v "dict" ∧ ∀ b, v = .ref b → ∃ ob, s.heap.get? b = some ob ∧ ob.dict = none := by
  obtain ⟨a, rfl, d⟩ := d
  cases r
  rcases d with ⟨kvs, e⟩ | ⟨xs, e⟩
  · obtain ⟨_, hd, vs, _, ob, _, _, h1, h2, _⟩ := dk_rd I.hok e
    exact ⟨⟨ob, h1, h2.1⟩, fun b q => by cases q; exact ⟨ob, h1, h2.2.1⟩⟩
  · obtain ⟨⟨ob, es, ep, h1, h2, _⟩, _⟩ := e.ok I.hok
    exact ⟨⟨ob, h1, h2.1⟩, fun b q => by cases q; exact ⟨ob, h1, h2.2.1⟩⟩
theorem isDic_V {G : Gd} {ι : List Addr} {H : Hp} {μ : Mem} {x : D} {v : V} (r : Rel G ι H μ) (rx : Rep G ι H x v) (h : isDic x μ = true) : DicV G H v := by
  cases x <;> first | (simp [isDic] at h; done) | skip
  rename_i n
  simp only [isDic] at h
  obtain ⟨a, h0, rfl⟩ := rx.ref
  split at h
  · rename_i l em
    obtain ⟨kvs, h1, _⟩ := r.cell n _ a em h0
    exact ⟨a, rfl, .inl ⟨kvs, .inl h1⟩⟩
  · rename_i l em
    obtain ⟨xs, h1, _⟩ := r.cell n _ a em h0
    exact ⟨a, rfl, .inr ⟨xs, .inl h1⟩⟩
  · rename_i t l em
    cases t with
    | false =>
      obtain ⟨od, kvs, h1, _⟩ := r.cell n _ a em h0
      exact ⟨a, rfl, .inl ⟨kvs, .inr ⟨od, h1⟩⟩⟩
    | true =>
      obtain ⟨od, xs, h1, _⟩ := r.cell n _ a em h0
      exact ⟨a, rfl, .inr ⟨xs, .inr ⟨od, h1⟩⟩⟩
  · cases h
/-- get by values -/
def rGet (G : Gd) : V → List V → Hp → VK → Prop := fun x vs H Q => ∃ a y o, x = .ref a ∧ DIs G H a y o ∧ ((vs = [y] ∧ Q (o.getD .non) H) ∨ ∃ z, vs = [y, z] ∧ Q (o.getD z) H)
theorem di_get {a : Addr} {y : V} {u : Value} {o : Option V} {more : List V} {ms : List Value} {Q : Value → Shared → Prop} (hu : X.A.units + 64 < cLine) (I : Inv X pins σ H s) (g : DIs (gOf X) H a y o) (ry : RelV y u) (rm : Vals more ms) (hm : more.length ≤ 1)
    (h : ∀ w' s', Inv X pins σ H s' → RelV (o.getD (more.headD .non)) w' → Q w' s') : wpAny (model X.prog X.w) X.A (call (.builtin "dict.get") (.ref a :: u :: ms)) Q X.xe s := by
  have key : ∀ (d : V) (dv : Value), RelV d dv → (∀ w' s', Inv X pins σ H s' → RelV (o.getD d) w' → Q w' s') → (∃ l xs ι k kk t, TdIs (gOf X) ι H a l xs ∧ Rep (gOf X) ι H k (.ref t) ∧ y = .ref t ∧ D.nk? k = some kk ∧ kk.depth ≤ 8 ∧ AtIs xs kk o) → ∃ (b : Addr) (kk : NestedKey) (xs : List (NestedKey × Addr × Value)), u = .ref b ∧ (nestedKind X.prog X.w).is s.heap kk b ∧ s.heap.DictOfH (nestedKind X.prog X.w) a xs ∧ (a == sysModules) = false ∧ RelV (o.getD d) (((atKey xs kk).map (·.2)).getD dv) := by
    intro d dv rd _ ⟨l, xs, ι, k, kk, t, hd, rk, ey, hk, hk8, hp⟩
    subst ey; cases ry
    refine ⟨t, kk, xs, rfl, ⟨nest_of I k kk _ _ hk rk rfl, hk8⟩, hd.dictOf I, hd.2.2.2.2, ?_⟩
    cases o with
    | none => rw [show atKey xs kk = none from hp]; exact rd
    | some v => obtain ⟨p, e, rp⟩ := hp; rw [e]; exact rp
  cases rm with
  | nil =>
    rcases g with g | ⟨ι, l, xs, k, kk, t, q⟩
    · exact d_get1 (by omega) I g ry h
    · obtain ⟨b, kk', xs', eu, k1, k2, k3, k4⟩ := key .non .none rfl h ⟨l, xs, ι, k, kk, t, q⟩
      subst eu
      exact call_meetsIn PySem.F.slot_dict_get k2.typeIs PySem.F.entry_dict_get (PySem.F.args_dict_get_2 _ _) (meetsH_dict_get (nestedKind X.prog X.w) a b k3) ⟨by show X.A.units + 1 + 8 < cLine; omega, kk', xs', k1, k2, h _ _ (I.tok _) k4⟩
  | @cons d dv _ _ rd rt =>
    cases rt with
    | cons _ _ => simp at hm
    | nil =>
      rcases g with g | ⟨ι, l, xs, k, kk, t, q⟩
      · exact d_get2 (by omega) I g ry rd h
      · obtain ⟨b, kk', xs', eu, k1, k2, k3, k4⟩ := key d dv rd h ⟨l, xs, ι, k, kk, t, q⟩
        subst eu
        exact call_meetsIn PySem.F.slot_dict_get k2.typeIs PySem.F.entry_dict_get (PySem.F.args_dict_get_3 _ _ _) (meetsH_dict_get_default (nestedKind X.prog X.w) a b k3 dv) ⟨by show X.A.units + 1 + 8 < cLine; omega, kk', xs', k1, k2, h _ _ (I.tok _) k4⟩
variable {o e : Expr} {es : List Expr} {mo : MD} {ms : ML} {apos cpos : Pos} {to : TE} {t : TA}
theorem pe_getM (hu : X.A.units + 64 < cLine) (ho : PE X o to) (ha : PA X (e :: es) t)
    (hbase : attributeBase o "get" X.env (eval o X.env) = eval o X.env := by rfl)
    (hfew : ((backTo cpos (starEach (e :: es) X.env)).all (fun x => !x.1) && (backToKw cpos (keywordEach [] X.env)).all (fun x => x.1.isSome)
      && decide ((e :: es).length + ([] : List Keyword).length + (if ([] : List Keyword).isEmpty then 0 else 1) < 30)) = true := by rfl)
    (hline : (apos.endLine == cpos.line) = true := by rfl) (hs : starEach (e :: es) X.env = (false, eval e X.env) :: starEach es X.env := by rfl) (hplain : (backTo cpos (starEach es X.env)).any (·.1) = false := by rfl) :
    PE X (.Call (.Attribute o "get" apos) (e :: es) [] cpos) (fun σ H Q => to σ H fun x H1 => DicV (gOf X) H1 x ∧ t σ H1 fun xs H2 => rGet (gOf X) x xs H2 Q) := by
  refine ⟨fun pins s σ H Q I h => ?_⟩
  refine wpAny_Call_method_late hbase hfew hline rfl (thn (ho.run pins s σ H _ I h) fun v s1 ⟨x, H1, I1, r1, ty, q1⟩ => ?_)
  obtain ⟨h1, h2⟩ := dicV_at I1 ty r1
  refine ⟨"dict", "dict.get", PySem.F.plainAttrs_dict, PySem.F.slot_dict_get, PySem.F.type_dict_get, h1, h2, ?_⟩
  have hA := ha.run cpos pins s1 σ H1 _ I1 q1
  rw [hs] at hA ⊢
  refine Calls.callWith_builtin (by show (false || (backTo cpos (starEach es X.env)).any (·.1)) = false; rw [hplain] <;> rfl) (Calls.evalArgs_plain ?_)
  refine thn hA fun us s2 ⟨vs, H2, I2, r2, a, y, oo, ex, g, q⟩ => ?_
  subst ex; cases r1
  rcases q with ⟨rfl, q⟩ | ⟨z, rfl, q⟩
  · cases r2 with
    | cons ry rt =>
      cases rt
      exact di_get hu I2 g ry .nil (by simp) fun w' s' I' r' => ⟨_, H2, I', r', q⟩
  · cases r2 with
    | cons ry rt =>
      exact di_get hu I2 g ry rt (by simp) fun w' s' I' r' => ⟨_, H2, I', r', q⟩
theorem se_get (hu : X.A.units + 64 < cLine) (ho : SE X W o mo) (ha : SA X W (e :: es) ms)
    (hbase : attributeBase o "get" X.env (eval o X.env) = eval o X.env := by rfl)
    (hfew : ((backTo cpos (starEach (e :: es) X.env)).all (fun x => !x.1) && (backToKw cpos (keywordEach [] X.env)).all (fun x => x.1.isSome)
      && decide ((e :: es).length + ([] : List Keyword).length + (if ([] : List Keyword).isEmpty then 0 else 1) < 30)) = true := by rfl)
    (hline : (apos.endLine == cpos.line) = true := by rfl) (hs : starEach (e :: es) X.env = (false, eval e X.env) :: starEach es X.env := by rfl) (hplain : (backTo cpos (starEach es X.env)).any (·.1) = false := by rfl) :
    SE X W (.Call (.Attribute o "get" apos) (e :: es) [] cpos) (mMt isDic getM mo ms) :=
  PE.mono (pe_getM hu ho ha hbase hfew hline hs hplain) fun σ H Q ⟨ρ, μ, ι, env, rel, h⟩ =>
    ⟨ρ, μ, ι, env, rel, (Post.bind h).imp fun ι1 H1 μ1 x _ _ ⟨g1, r1, h1⟩ v rv => by
      split at h1
      · rename_i ht
        refine ⟨isDic_V r1 rv ht, ρ, μ1, ι1, env.ext (g1.ext rel), r1, (Post.bind h1).imp fun ι2 H2 μ2 xs _ _ ⟨g2, r2, h2⟩ vs rvs => ?_⟩
        have rv2 := rv.ext (g2.ext r1)
        unfold getM at h2
        split at h2
        · split at h2
          · rename_i k o' ed
            obtain ⟨u, rfl, ru⟩ := rvs.one
            obtain ⟨a, w, rfl, q1, q2, q3⟩ := dictAt_is r2 rv2 ru ed
            refine ⟨a, u, w, rfl, q1, .inl ⟨rfl, h2 ι2 H2 .refl r2 _ ?_⟩⟩
            cases o' with
            | none => cases w with
              | none => exact rep_non
              | some _ => simp at q2
            | some d => obtain ⟨z, rfl, rz⟩ := q3 d rfl; exact rz
          · exact h2.elim
        · split at h2
          · rename_i k y o' ed
            obtain ⟨u, u2, rfl, ru, ru2⟩ := rvs.two
            obtain ⟨a, w, rfl, q1, q2, q3⟩ := dictAt_is r2 rv2 ru ed
            refine ⟨a, u, w, rfl, q1, .inr ⟨u2, rfl, h2 ι2 H2 .refl r2 _ ?_⟩⟩
            cases o' with
            | none => cases w with
              | none => exact ru2
              | some _ => simp at q2
            | some d => obtain ⟨z, rfl, rz⟩ := q3 d rfl; exact rz
          · exact h2.elim
        · exact h2.elim
      · exact h1.elim⟩
end
end RW

/-! SEk: enumerate of a tuple or list; a dict walked by its keys, locked meanwhile. -/
namespace RW
open PySem L2 PySem.Spec PyProof.Rows
open Sem (wp)
open AutoSeq1 (wpAny_loadPart')
/-! ### enumerate(tuple) -/
def objEnum (n : Nat) : Obj := { cls := .type "enumerate", data := .fields #[.none, .bool false, .ref n, rawInt 0, .none, .none] }
def objTupIt (t : Addr) : Obj := { cls := .type "tuple_iterator", data := .fields #[.ref t, .int 0 0] }
theorem meets_enumT (t : Addr) (items : Array Value) (n : Nat) (dct : Option Addr) (sl : Array (Option Value)) :
    Meets (Builtin.«enumerate.__new__» ⟨[.type "enumerate", .ref t], []⟩) (fun _ R s => s.heap.get? t = some { cls := .type "tuple", dict := dct, data := .seq items n, slots := sl } ∧
      R (.ok (.ret (.ref (s.heap.push (objTupIt t)).objs.size))) { s with heap := (s.heap.push (objTupIt t)).push (objEnum s.heap.objs.size) }) :=
  .of_wp fun prog w A R s h => by
    obtain ⟨hp, g, d, tk, os⟩ := s; obtain ⟨hl, h⟩ := h
    have hsub := sub_enumerate
    have hT : Heap.IsTuple (Shared.heap ⟨hp, g, d, tk, os⟩) t items := ⟨_, hl, rfl, n, rfl⟩
    wp_walk using wpAny_loadPart' hl
    refine wpAny_stack_any fun st => wpAny_pure ?_
    split
    · rename_i c _ _ _ _ _
      cases (c == Value.type "enumerate") <;> (wp_walk using wpAny_loadPart' hl, wpAny_pyIter_tuple hT; exact ⟨_, rfl, h⟩)
    · wp_walk using wpAny_loadPart' hl, wpAny_pyIter_tuple hT
      exact ⟨_, rfl, h⟩
section
variable {prog : Program} {w : World} {A : Around} {E : Value → Shared → Prop} {s : Shared}
theorem call_enumT {t : Addr} {items : Array Value} {Q : Value → Shared → Prop} (hT : s.heap.IsTuple t items)
    (h : ∀ h', IsEnum h' (s.heap.objs.size + 1) s.heap.objs.size 0 .none → h'.IsTupleIter s.heap.objs.size t 0 → h'.objs.size = s.heap.objs.size + 2 →
      (∀ b o, s.heap.get? b = some o → h'.get? b = some o) → Q (.ref (s.heap.objs.size + 1)) { s with heap := h' }) : wpAny (model prog w) A (call (.type "enumerate") [.ref t]) Q E s := by
  obtain ⟨⟨c, dct, dt, sl⟩, hl, hc, n, hd⟩ := hT
  replace hc : c = .type "tuple" := hc
  replace hd : dt = .seq items n := hd
  subst hc hd
  refine callType_new F.called_enumerate (by decide) (F.typeCall_enumerate_1 _) (F.newCall_enumerate_1 _) (fun ob => F.args_object_init_2 ob _) F.entry_enumerate_new (meets_enumT t items n dct sl) ⟨hl, ?_⟩
  have hz : (s.heap.push (objTupIt t)).objs.size = s.heap.objs.size + 1 := Heap.size_push ..
  show _ ∧ _
  rw [hz]
  have he : IsEnum ((s.heap.push (objTupIt t)).push (objEnum s.heap.objs.size)) (s.heap.objs.size + 1) s.heap.objs.size 0 .none := by
    have q := Heap.get?_push_size (s.heap.push (objTupIt t)) (o := objEnum s.heap.objs.size) rfl
    rw [hz] at q; exact q
  exact ⟨⟨_, he, rfl⟩, h _ he ⟨_, Heap.get?_push_of_some _ (Heap.get?_push_size _ rfl), rfl, rfl⟩ (by rw [Heap.size_push, hz]) fun b o x => Heap.get?_push_of_some _ (Heap.get?_push_of_some _ x)⟩
end
/-- the tuple at a, each item in a new pair with its number -/
def Ent (K : PySem.W.Frag) (a : Addr) : It :=
  ⟨fun i H => ∃ (xs : List V) (x : V), SqT K H a xs ∧ xs[i]? = some x, fun i H v H' => ∃ T x, v = .ref T ∧ H T = none ∧ H' = upd H T (.tup [.int (i : Nat), x]) ∧ ∀ xs, SqT K H a xs → xs[i]? = some x, fun i H => ∃ xs : List V, SqT K H a xs ∧ xs.length = i⟩
theorem turn_entT {P : Program} {w : World} {K : PySem.W.Frag} {elts : List Expr} {kk : Nat} {tpos : Pos} (a e it : Addr) (hai : a ≠ it) (hae : a ≠ e) :
    Turn P w K (.Tuple elts kk tpos) (Ent K a) [e, it] e (fun i h => (∃ old, IsEnum h e it ((i : Nat) : Int) old) ∧ h.IsTupleIter it a i ∧ e ≠ it) where
  mem := by simp
  obj := fun i h st b hb => by
    obtain ⟨⟨old, he⟩, ⟨o, ho, hc, hd⟩, _⟩ := st
    rcases (by simpa using hb : b = e ∨ b = it) with z | z
    · subst z; exact ⟨_, he, fun v q => nomatch q⟩
    · subst z; exact ⟨o, ho, fun v q => by rw [hd] at q; cases q⟩
  keep := fun i h h' st k => by
    obtain ⟨⟨old, he⟩, hi, hne⟩ := st
    exact ⟨⟨old, k e (by simp) _ he⟩, hi.at fun o q => k it (by simp) o q, hne⟩
  item := by
    intro X hP hw hK hc i pins s σ H E I hf st hg
    subst hP hw hK
    obtain ⟨⟨old, he⟩, hit, hne⟩ := st
    obtain ⟨xs, x, hq, hx⟩ := hg
    obtain ⟨its, rv, p, hz⟩ := I.tuple hq
    obtain ⟨u, hu, ru⟩ := rv.get hx
    have hel : e < s.heap.objs.size := Heap.lt_size he
    have hil : it < s.heap.objs.size := by obtain ⟨_, q, _⟩ := hit; exact Heap.lt_size q
    have hT : s.heap.IsTuple a its.toArray := p
    refine wpAny_pyNext_enum_itemD (Draws.tuple (prog := X.prog) (w := X.w) (A := X.A.in1) (I.ok.hd hc) it a hai its.toArray) he ⟨hit, hT⟩ (by simpa using (List.getElem?_eq_some_iff.mp hu).1) hne (by simp [hne, Ne.symm hae]) fun x' h' tk hP ho st' hT' hsz hk => ?_
    obtain rfl : u = x' := by simpa [hu] using hP
    refine ⟨_, rfl, wpAny_letOwnedTupleGo_enum (s := { s with heap := h', toks := tk + 1 }) ho fun h'' he' sb => ?_⟩
    have hT2 : h''.get? s.heap.objs.size = some { cls := .type "tuple", data := .seq #[.int i tk, u] } := (sb.2 _ (Nat.ne_of_gt hel)).trans hT'
    have new : ObjOk X.prog X.w (upd H s.heap.objs.size (.tup [.int (i : Nat), x])) h'' s.heap.objs.size (.tup [.int (i : Nat), x]) :=
      ⟨by show 2 ≤ sizeLine; decide, [.int i tk, u], .cons ⟨_, rfl⟩ (.cons ru .nil), ⟨_, hT2, rfl, _, rfl⟩⟩
    have I1 : Inv X pins σ (upd H s.heap.objs.size (.tup [.int (i : Nat), x])) { s with heap := h'', toks := tk + 1 } :=
      I.turnedNew (ch := [e, it]) (fun b ob hb q => (sb.2 b (fun z => hb (by simp [z]))).trans (hk b ob (fun z => hb (by simp [z])) (fun z => hb (by simp [z])) q)) hf (Nat.le_refl _) new
    refine ⟨.ref s.heap.objs.size, _, I1, rfl, ⟨_, x, rfl, I.hok.fresh (Nat.le_refl _), rfl, fun ys hy => by rw [I.tuple_inj hy hq]; exact hx⟩, ⟨⟨u, ?_⟩, st'.1.at fun o q => (sb.2 it (Ne.symm hne)).trans q, hne⟩, fun b hb => ?_⟩
    · have e1 : ((i + 1 : Nat) : Int) = (i : Int) + 1 := by omega
      rw [e1]; exact he'
    · have hb' : b < s.heap.objs.size := by
        rcases (by simpa using hb : b = e ∨ b = it) with z | z
        · subst z; exact hel
        · subst z; exact hil
      rw [upd_ne (Nat.ne_of_lt hb')]
      exact (hf b hb).1
  done := by
    intro X hP hw hK hc i pins s σ H E I hf st hg
    subst hP hw hK
    obtain ⟨⟨old, he⟩, hit, hne⟩ := st
    obtain ⟨xs, hq, hx⟩ := hg
    obtain ⟨its, rv, p, hz⟩ := I.tuple hq
    obtain ⟨f0, f1, f2, f3, f4, f5⟩ := hf it (by simp)
    have hl := rv.length
    have hT : s.heap.IsTuple a its.toArray := p
    have hn : i = its.toArray.size := by simp; omega
    subst hn
    exact wpAny_pyNext_enum_endD (Draws.tuple (prog := X.prog) (w := X.w) (A := X.A.in1) (I.ok.hd hc) it a hai its.toArray) he ⟨hit, hT⟩ fun h' eb => ⟨rfl, I.turned (t' := s.toks) (fun b o hb q => eb b o hb q) f0 f1 f3 f4 f5⟩
  self := fun A i s Q E st h => wpAny_pyIter_enum st.1.choose_spec h
def enItems (k : Nat) : List D → List D
  | [] => []
  | d :: l => .tup [.int (k : Int), d] :: enItems (k + 1) l
theorem enItems_len : ∀ (l : List D) (k : Nat), (enItems k l).length = l.length
  | [], _ => rfl
  | d :: l, k => by simp [enItems, enItems_len l]
theorem enItems_get : ∀ (l : List D) (k i : Nat) (x : D), (enItems k l)[i]? = some x → ∃ d, l[i]? = some d ∧ x = .tup [.int ((k + i : Nat) : Int), d]
  | [], k, i, x, e => by simp [enItems] at e
  | d :: l, k, 0, x, e => ⟨d, rfl, by simpa [enItems] using e.symm⟩
  | d :: l, k, i + 1, x, e => by
    obtain ⟨d', e1, e2⟩ := enItems_get l (k + 1) i x (by simpa [enItems] using e)
    exact ⟨d', by simpa using e1, by rw [e2]; congr 3; omega⟩
section
variable {G : Gd} {ι : List Addr} {H : Hp} {μ : Mem}
theorem it_pair {i : Nat} {d : D} {x : V} {T : Addr} (r : Rel G ι H μ) (hT : H T = none) (rx : Rep G ι H d x) : Grow ι H ι (upd H T (.tup [.int (i : Nat), x])) ∧ Rel G ι (upd H T (.tup [.int (i : Nat), x])) μ ∧ Rep G ι (upd H T (.tup [.int (i : Nat), x])) (.tup [.int ((0 + i : Nat) : Int), d]) (.ref T) := by
  obtain ⟨g, r2⟩ := grow_laid (o := .tup [.int (i : Nat), x]) r hT
  refine ⟨g, r2, rep_tup (.of upd_same) (.cons ?_ (.cons (rx.ext (g.ext r)) .nil))⟩
  rw [Nat.zero_add]
  unfold Rep; rfl
theorem it_entT {a : Addr} {l : List D} {vs : List V} (rel : Rel G ι H μ) (h1 : SqT G.K H a vs) (h2 : Reps G ι H l vs) : ItOk G ι H (Ent G.K a) (enItems 0 l) (fun _ => True) := by
  have base := it_tup rel h1 h2
  have sq : ∀ {ι' : List Addr} {H' : Hp}, Grow ι H ι' H' → SqT G.K H' a vs := fun {ι' H'} g => by
    have x := g.ext rel
    rcases h1 with (h1 | ⟨o, h1⟩) | h1
    · exact .inl (.inl (x.tup _ _ h1))
    · exact .inl (.inr ⟨o, x.frz _ _ _ h1 ⟨_, .inr rfl⟩⟩)
    · exact .inr h1
  refine ⟨fun i d ι' H' μ' e g r c => ?_, fun i d ι' H' μ' v H2 e g r c ⟨T, x, e1, e2, e3, e4⟩ => ?_, fun ι' H' μ' g r c => ⟨vs, sq g, by rw [enItems_len, h2.length]⟩⟩
  · obtain ⟨d', e1, _⟩ := enItems_get l 0 i d e
    exact base.go i d' ι' H' μ' e1 g r c
  · obtain ⟨d', q1, q2⟩ := enItems_get l 0 i d e
    obtain ⟨_, _, rx⟩ := base.yld i d' ι' H' μ' x H' q1 g r c ⟨rfl, e4⟩
    subst q2 e1 e3
    exact it_pair r e2 rx
theorem it_entL {a : Addr} {l : List D} {chk : Mem → Prop} (base : ItOk G ι H (Itl G.K a) l chk) : ItOk G ι H (Ite G.K a) (enItems 0 l) chk := by
  refine ⟨fun i d ι' H' μ' e g r c => ?_, fun i d ι' H' μ' v H2 e g r c ⟨T, x, e1, e2, e3, e4⟩ => ?_, fun ι' H' μ' g r c => by rw [enItems_len]; exact base.stop ι' H' μ' g r c⟩
  · obtain ⟨d', e1, _⟩ := enItems_get l 0 i d e
    exact base.go i d' ι' H' μ' e1 g r c
  · obtain ⟨d', q1, q2⟩ := enItems_get l 0 i d e
    obtain ⟨_, _, rx⟩ := base.yld i d' ι' H' μ' x H' q1 g r c ⟨rfl, e4⟩
    subst q2 e1 e3
    exact it_pair r e2 rx
end
def enumD : List D → Mem → Res (List D × (Mem → Prop))
  | [x], μ => (itSeq x μ).bind fun p μ1 => .ok (enItems 0 p.1, p.2) μ1
  | _, _ => .stuck
@[simp] def iEnumD (a : ML) : MIt := fun ρ μ => (a ρ μ).bind fun xs μ1 => enumD xs μ1
def iEntT (K : PySem.W.Frag) (ta : TA) : TI := fun σ H R => ta σ H fun vs H1 => ∃ a xs, vs = [.ref a] ∧ SqT K H1 a xs ∧ R (Ent K a) H1
section
variable {X : Cx} {W : WX} {e : Expr} {ms : ML} {p pos tpos : Pos} {elts : List Expr} {kk : Nat}
theorem pi_entT {ta : TA} (hg : Gl X "enumerate") (hm : X.mg "enumerate" = none) (ha : PA X [e] ta) (hs : starEach [e] X.env = [(false, eval e X.env)] := by rfl) :
    PI X (.Tuple elts kk tpos) (.Call (.Name "enumerate" p) [e] [] pos) (iEntT X.K ta) := by
  refine ⟨fun pins s σ H R I h => ?_⟩
  refine Call_ (ld_blt I hg hm boot_enumerate (PyProof.Rows.callWith_type1 (thn (ha.run pos pins s σ H _ I h) fun us s1 ⟨vs, H1, I1, r1, a, xs, ex, hq, q⟩ => ?_) hs rfl))
  subst ex
  cases r1 with
  | cons r rr =>
    cases rr
    cases r
    obtain ⟨its, rv, p', hz⟩ := I1.tuple hq
    have hlt : a < s1.heap.objs.size := by obtain ⟨_, q, _⟩ := p'; exact Heap.lt_size q
    refine call_enumT (t := a) (items := its.toArray) p' fun h' he hit hsz hk => wpAny_pyIter_enum he ?_
    have I2 : Inv X pins σ H1 { s1 with heap := h' } := I1.kept (t' := s1.toks) hk
    refine ⟨s1.heap.objs.size + 1, [s1.heap.objs.size + 1, s1.heap.objs.size], _, _, H1, rfl, I2, turn_entT a (s1.heap.objs.size + 1) s1.heap.objs.size (Nat.ne_of_lt hlt) (Nat.ne_of_lt (Nat.lt_succ_of_lt hlt)), ⟨⟨.none, he⟩, hit, Nat.succ_ne_self _⟩, fun b hb => ?_, q⟩
    have hle : s1.heap.objs.size ≤ b := by
      rcases (by simpa using hb : b = s1.heap.objs.size + 1 ∨ b = s1.heap.objs.size) with z | z
      · rw [z]; exact Nat.le_add_right _ _
      · rw [z]; exact Nat.le_refl _
    exact I1.fpOk hle (I1.hok.fresh hle)
theorem si_enum (hg : Gl X "enumerate") (hm : X.mg "enumerate" = none) (ha : SA X W [e] ms) (hs : starEach [e] X.env = [(false, eval e X.env)] := by rfl) :
    SI X W (.Tuple elts kk tpos) (.Call (.Name "enumerate" p) [e] [] pos) (iEnumD ms) :=
  PI.mono (PI.or (pi_entT hg hm ha hs) (pi_enum hg hm ha hs)) fun σ H R ⟨ρ, μ, ι, env, rel, h⟩ => by
    have h := Post.bind h
    cases hm : ms ρ μ with
    | stuck => rw [hm] at h; exact h.elim
    | exc c fs m => exact .inl ⟨ρ, μ, ι, env, rel, by rw [hm] at h ⊢; exact h⟩
    | ok ds μ1 =>
      rw [hm] at h
      by_cases ht : ∃ l, ds = [.tup l]
      · obtain ⟨l, rfl⟩ := ht
        refine .inl ⟨ρ, μ, ι, env, rel, ?_⟩
        rw [hm]
        intro ι1 H1 g1 r1 vs rvs
        obtain ⟨v, rfl, rv⟩ := rvs.one
        obtain ⟨a, vs, rfl, h1, h2⟩ := rv.tup
        obtain ⟨_, _, h3⟩ := h ι1 H1 g1 r1
        exact ⟨a, vs, rfl, h1, h3 ι1 H1 .refl r1 _ (it_entT r1 h1 h2)⟩
      · refine .inr ⟨ρ, μ, ι, env, rel, ?_⟩
        rw [hm]
        intro ι1 H1 g1 r1 vs rvs
        obtain ⟨_, _, h3⟩ := h ι1 H1 g1 r1
        unfold enumD at h3
        split at h3
        · rename_i d
          obtain ⟨v, rfl, rv⟩ := rvs.one
          cases d with
          | tup l => exact (ht ⟨l, rfl⟩).elim
          | frl l =>
            obtain ⟨a, vs, rfl, h1, h2⟩ := rv.frl
            exact ⟨a, vs, rfl, FrL.sq _ _ h1, h3 ι1 H1 .refl r1 _ (it_entL (it_frl r1 h1 h2))⟩
          | ref n =>
            simp only [itSeq] at h3
            split at h3
            · rename_i l em
              obtain ⟨a, vs, rfl, h0, h1, h2⟩ := r1.lst em rv
              exact ⟨a, vs, rfl, .of h1, h3 ι1 H1 .refl r1 _ (it_entL (it_lst h0))⟩
            · exact h3.elim
          | _ => exact h3.elim
        · exact h3.elim
end
end RW

/-! SEl: a dict walked by its keys, locked meanwhile. -/
namespace RW
open PySem L2 PySem.Spec
open PyProof.Rows hiding St
/-- the keys of the locked dict of tuples at d -/
def Itx (d : Addr) (od : Obj) (φ : Heap → Prop) (ks : List Addr) : It :=
  ⟨fun i H => H d = some (.frz od (.ext φ)) ∧ i < ks.length, fun i H x H' => H' = H ∧ ∃ q, ks[i]? = some q ∧ x = .ref q, fun i H => H d = some (.frz od (.ext φ)) ∧ ks.length ≤ i⟩
section
variable {X : Cx} {pins : List (Addr × Obj)} {σ : St} {H : Hp} {s : Shared} {d : Addr} {o : Obj} {xs : List (NestedKey × Addr × Value)} {G : Gd}
theorem frzX (I : Inv X pins σ H s) (h : H d = some (.frz o (.ext (tdPhi G d xs)))) : s.heap.get? d = some o ∧ o.ExactDict ∧ ∃ (es : Array DictEntry) (ep : Nat), o.data = .dict es ep ∧ es.size = xs.length ∧ ∀ (i : Nat) (hi : i < es.size), ∃ x, xs[i]? = some x ∧ es[i].key = .ref x.2.1 := by
  obtain ⟨hd, ⟨o', es, ep, h1, h2, h3, h4⟩, _⟩ := I.hok d _ h
  rw [hd] at h1; cases h1
  have hz : es.size = xs.length := by
    have q := congrArg List.length h4
    simpa using q
  refine ⟨hd, h2, es, ep, h3, hz, fun i hi => ?_⟩
  have q := congrArg (fun l => l[i]?) h4
  simp only [List.getElem?_map] at q
  rw [show es.toList[i]? = some es[i] by simp [hi], List.getElem?_eq_getElem (by omega : i < xs.length)] at q
  refine ⟨xs[i], List.getElem?_eq_getElem (by omega), ?_⟩
  simp only [Option.map_some, Option.some.injEq] at q
  rw [q]; rfl
end
theorem turn_keysX {P : Program} {w : World} {K : PySem.W.Frag} {tg : Expr} {d : Addr} {o : Obj} {es : Array DictEntry} {ep : Nat} {G : Gd} {xs : List (NestedKey × Addr × Value)} (it : Addr) (hod : o.data = .dict es ep) :
    Turn P w K tg (Itx d o (tdPhi G d xs) (xs.map fun x => x.2.1)) [it] it (fun i h => h.IsKeyIter it d i es.size ep) where
  mem := by simp
  obj := fun i h st b hb => by
    obtain rfl : b = it := by simpa using hb
    obtain ⟨oi, e, c, dd⟩ := st
    exact ⟨oi, e, fun v z => by rw [dd] at z; cases z⟩
  keep := fun i h h' st k => st.at fun oi e => k it (by simp) oi e
  item := by
    intro X hP hw hK hc i pins s σ H E I hf st hg
    subst hP hw hK
    obtain ⟨hd, hi⟩ := hg
    obtain ⟨f0, f1, f2, f3, f4, f5⟩ := hf it (by simp)
    obtain ⟨hgd, hx, es', ep', hdt, hsz, hk⟩ := frzX I hd
    obtain ⟨rfl, rfl⟩ := dict_ep hod hdt
    rw [List.length_map] at hi
    obtain ⟨x, hx1, hx2⟩ := hk i (by omega)
    refine wpAny_pyNext_keys_item_raw st ⟨o, hgd, hx, hdt⟩ (by omega) fun h' st' sb => ?_
    have I1 : Inv X pins σ H { s with heap := h' } := I.turned (t' := s.toks) (fun b ob hb e => (sb.2 b hb).trans e) f0 f1 f3 f4 f5
    obtain ⟨oi, e, c, dd⟩ := id st'
    exact ⟨_, rfl, go_of (s := { s with heap := h' }) e c dd (by decide) ⟨.ref x.2.1, H, I1, hx2, ⟨rfl, x.2.1, by rw [List.getElem?_map, hx1]; rfl, rfl⟩, st', fun b hb => (hf b hb).1⟩⟩
  done := by
    intro X hP hw hK hc i pins s σ H E I hf st hg
    subst hP hw hK
    obtain ⟨hd, hi⟩ := hg
    obtain ⟨f0, f1, f2, f3, f4, f5⟩ := hf it (by simp)
    obtain ⟨hgd, hx, es', ep', hdt, hsz, hk⟩ := frzX I hd
    obtain ⟨rfl, rfl⟩ := dict_ep hod hdt
    rw [List.length_map] at hi
    exact wpAny_pyNext_keys_end_raw (I.ok.hd hc) st ⟨o, hgd, hx, hdt⟩ (by omega) fun h' eb => ⟨rfl, I.turned (t' := s.toks) (fun b o hb e => eb b o hb e) f0 f1 f3 f4 f5⟩
  self := fun A i s Q E st h => wpAny_pyIter_keyiter st h
def iKeysX (G : Gd) (td : TE) : TI := fun σ H R => td σ H fun x H1 => ∃ d o xs, x = .ref d ∧ (d == sysModules) = false ∧ H1 d = some (.frz o (.ext (tdPhi G d xs))) ∧ R (Itx d o (tdPhi G d xs) (xs.map fun x => x.2.1)) H1
section
variable {X : Cx} {W : WX} {tg e : Expr} {me : MD}
theorem pi_keysX {td : TE} {G : Gd} (he : PE X e td) : PI X tg e (iKeysX G td) := by
  refine ⟨fun pins s σ H R I h => thn (he.run pins s σ H _ I h) fun u s1 ⟨x, H1, I1, rx, d, o, xs, ex, hs, hd, q⟩ => ?_⟩
  subst ex
  obtain rfl : u = Value.ref d := rx
  obtain ⟨hgd, hx, es, ep, hdt, hsz, hk⟩ := frzX I1 hd
  exact wpAny_pyIter_dict_raw hs ⟨o, hgd, hx, hdt⟩ (pi_one (tk := s1.toks) I1 _ (turn_keysX (G := G) (xs := xs) _ hdt) ⟨_, Heap.get?_push_size _ rfl, rfl, rfl⟩ q)
/-! mirrors -/
def itKeys : D → Mem → Res (List D × (Mem → Prop))
  | .ref n, μ => (match μ[n]? with
    | some (.lck t l) => .ok (l.map (·.1), fun μ' => μ'[n]? = some (.lck t l)) μ
    | _ => .stuck)
  | _, _ => .stuck
@[simp] def iKeysD (a : MD) : MIt := fun ρ μ => (a ρ μ).bind fun x μ1 => itKeys x μ1
theorem it_keysK {G : Gd} {ι : List Addr} {H : Hp} {n : Nat} {a : Addr} {o : Obj} {kvs : List (Key × V)} {l : List (D × D)} (hn : ι[n]? = some a) (h : H a = some (.frz o (.dK kvs))) (hl : l.length = kvs.length) :
    ItOk G ι H (Itk a o kvs) (l.map (·.1)) (fun μ' => μ'[n]? = some (.lck false l)) := by
  have key : ∀ {ι' : List Addr} {H' : Hp} {μ' : Mem}, Grow ι H ι' H' → Rel G ι' H' μ' → μ'[n]? = some (.lck false l) → Paired (RepP G ι' H') l kvs := fun {ι' H' μ'} g r e => by
    obtain ⟨od, kvs', h1, h2⟩ := r.cell n _ a e (prefix_get g.pre hn)
    rw [g.lock a _ _ h] at h1; cases h1
    exact h2
  refine ⟨fun i d ι' H' μ' e g r c => ⟨g.lock _ _ _ h, ?_⟩, fun i d ι' H' μ' v H2 e g r c ⟨e1, k, w, e2, e3⟩ => ?_, fun ι' H' μ' g r c => ⟨g.lock _ _ _ h, by simp [hl]⟩⟩
  · have := (List.getElem?_eq_some_iff.mp e).1
    simpa [hl] using this
  · subst e1 e3
    have p := key g r c
    rw [List.getElem?_map] at e
    obtain ⟨q, e4, rfl⟩ := Option.map_eq_some_iff.mp e
    obtain ⟨b, e5, q1, q2⟩ := paired_get p e4
    rw [e2] at e5; cases e5
    exact ⟨.refl, r, by have := q1; revert this; cases q.1 <;> simp [D.key?] <;> (intro e; subst e; unfold Rep; rfl)⟩
theorem it_keysX {G : Gd} {ι : List Addr} {H : Hp} {n : Nat} {a : Addr} {o : Obj} {xs : List (NestedKey × Addr × Value)} {l : List (D × D)} {μ : Mem} (rel : Rel G ι H μ) (hn : ι[n]? = some a) (h : H a = some (.frz o (.ext (tdPhi G a xs)))) (hl : Paired (RepT G ι H) l xs) :
    ItOk G ι H (Itx a o (tdPhi G a xs) (xs.map fun x => x.2.1)) (l.map (·.1)) (fun μ' => μ'[n]? = some (.lck true l)) := by
  have hlen : l.length = xs.length := Paired.length hl
  refine ⟨fun i d ι' H' μ' e g r c => ⟨g.lock _ _ _ h, ?_⟩, fun i d ι' H' μ' v H2 e g r c ⟨e1, q, e2, e3⟩ => ?_, fun ι' H' μ' g r c => ⟨g.lock _ _ _ h, by simp [hlen]⟩⟩
  · have := (List.getElem?_eq_some_iff.mp e).1
    simpa [hlen] using this
  · subst e1 e3
    rw [List.getElem?_map] at e e2
    obtain ⟨p, e4, rfl⟩ := Option.map_eq_some_iff.mp e
    obtain ⟨b, e5, q1, q2, q3, q4⟩ := paired_get hl e4
    rw [e5] at e2; cases e2
    exact ⟨.refl, r, q3.ext (g.ext rel)⟩
theorem si_keys (he : SE X W e me) : SI X W tg e (iKeysD me) :=
  PI.mono (PI.or (pi_keysX (G := gOf X) he) (pi_keys he)) fun σ H R ⟨ρ, μ, ι, env, rel, h⟩ => by
    have h := Post.bind h
    cases hm : me ρ μ with
    | stuck => rw [hm] at h; exact h.elim
    | exc c fs m => exact .inl ⟨ρ, μ, ι, env, rel, by rw [hm] at h ⊢; exact h⟩
    | ok d μ1 =>
      rw [hm] at h
      by_cases ht : ∃ n l, d = .ref n ∧ μ1[n]? = some (.lck true l)
      · obtain ⟨n, l, rfl, em⟩ := ht
        refine .inl ⟨ρ, μ, ι, env, rel, ?_⟩
        rw [hm]
        intro ι1 H1 g1 r1 v rv
        obtain ⟨_, _, h3⟩ := h ι1 H1 g1 r1
        simp only [itKeys, em] at h3
        obtain ⟨a, h0, rfl⟩ := rv.ref
        obtain ⟨od, xs, q1, q2, q3, q4, q5⟩ := r1.cell n _ a em h0
        exact ⟨a, od, xs, rfl, q5, q1, h3 ι1 H1 .refl r1 _ (it_keysX r1 h0 q1 q2)⟩
      · refine .inr ⟨ρ, μ, ι, env, rel, ?_⟩
        rw [hm]
        intro ι1 H1 g1 r1 v rv
        obtain ⟨_, _, h3⟩ := h ι1 H1 g1 r1
        unfold itKeys at h3
        split at h3
        · rename_i n
          split at h3
          · rename_i t l em
            cases t with
            | true => exact (ht ⟨n, l, rfl, em⟩).elim
            | false =>
              obtain ⟨a, h0, rfl⟩ := rv.ref
              obtain ⟨od, kvs, q1, q2⟩ := r1.cell n _ a em h0
              exact ⟨a, od, rfl, .inl ⟨kvs, q1, h3 ι1 H1 .refl r1 _ (it_keysK h0 q1 (Paired.length q2))⟩⟩
          · exact h3.elim
        · exact h3.elim
end
/-! ### the lock -/
def lockC : Cell → Option Cell
  | .dic l => some (.lck false l)
  | .tdic l => some (.lck true l)
  | _ => none
/-- which cell slot i names, if it is to be locked -/
def toLock (i : Nat) (ρ : Rho) (μ : Mem) : Option (Nat × Cell × Cell) := match ρ[i]? with
  | some (some (.ref n)) => (match μ[n]? with
    | some c => (lockC c).map fun c' => (n, c, c')
    | none => none)
  | _ => none
def openF (n : Nat) (c : Cell) : Fl → Mem → Res Fl
  | .exc e fs ρ, μ => .ok (.exc e fs ρ) μ
  | f, μ => .ok f (μ.set n c)
@[simp] def sLock (i : Nat) (m : MS) : MS := fun ρ μ => match toLock i ρ μ with
  | some (n, c, c') => (m ρ (μ.set n c')).bind (openF n c)
  | none => m ρ μ
theorem lock_h {G : Gd} {ι : List Addr} {H : Hp} {c c' : Cell} {a : Addr} (h : CellOk G ι H a c) (e : lockC c = some c') : ∃ u, H a = some u ∧ Mut (some u) ∧ (∀ o v, u ≠ .frz o v) ∧ (∀ xs, u ≠ .tup xs) ∧ (∀ xs, u ≠ .lst xs) ∧
    (∀ od ι' H', Ext ι H ι' H' → H' a = some (.frz od u) → CellOk G ι' H' a c') ∧ ∀ ι' H', Ext ι H ι' H' → H' a = some u → CellOk G ι' H' a c := by
  cases c with
  | dic l =>
    cases e
    obtain ⟨kvs, h1, h2⟩ := h
    exact ⟨_, h1, trivial, fun _ _ z => (nomatch z), fun _ z => (nomatch z), fun _ z => (nomatch z), fun od ι' H' x q => ⟨od, kvs, q, Paired.imp' h2 fun _ _ z => ⟨z.1, z.2.ext x⟩⟩, fun ι' H' x q => ⟨kvs, q, Paired.imp' h2 fun _ _ z => ⟨z.1, z.2.ext x⟩⟩⟩
  | tdic l =>
    cases e
    obtain ⟨xs, h1, h2, h3⟩ := h
    exact ⟨_, h1, trivial, fun _ _ z => (nomatch z), fun _ z => (nomatch z), fun _ z => (nomatch z), fun od ι' H' x q => ⟨od, xs, q, Paired.imp' h2 fun _ _ z => ⟨z.1, z.2.1, z.2.2.1.ext x, let ⟨v, z1, z2⟩ := z.2.2.2; ⟨v, z1.ext x, z2⟩⟩, h3⟩,
      fun ι' H' x q => ⟨xs, q, Paired.imp' h2 fun _ _ z => ⟨z.1, z.2.1, z.2.2.1.ext x, let ⟨v, z1, z2⟩ := z.2.2.2; ⟨v, z1.ext x, z2⟩⟩, h3⟩⟩
  | _ => cases e
section
variable {G : Gd} {ι ι' : List Addr} {H H' : Hp} {μ μ' : Mem} {a : Addr} {n : Nat} {c c' : Cell} {u : HO} {od : Obj}
/-- a cell locked -/
theorem grow_lock (r : Rel G ι H μ) (em : μ[n]? = some c) (h0 : ι[n]? = some a) (hc : lockC c = some c') (hu : H a = some u) : Grow ι H ι (upd H a (.frz od u)) ∧ Rel G ι (upd H a (.frz od u)) (μ.set n c') := by
  obtain ⟨u', e, mu, n1, n2, n3, k1, k2⟩ := lock_h (r.cell n c a em h0) hc
  rw [hu] at e; cases e
  exact grow_set r h0 (fun o v z => by rw [hu] at z; cases z; exact n1 _ _ rfl) fun x => k1 od ι _ x upd_same
/-- .. and opened again -/
theorem grow_open (r : Rel G ι H μ) (em : μ[n]? = some c) (h0 : ι[n]? = some a) (hc : lockC c = some c') (hu : H a = some u) (g : Grow ι (upd H a (.frz od u)) ι' H') (r' : Rel G ι' H' μ') :
    H' a = some (.frz od u) ∧ Grow ι H ι' (upd H' a u) ∧ Rel G ι' (upd H' a u) (μ'.set n c) ∧ Ext ι' H' ι' (upd H' a u) := by
  obtain ⟨u', e, mu, n1, n2, n3, k1, k2⟩ := lock_h (r.cell n c a em h0) hc
  rw [hu] at e; cases e
  obtain ⟨gl, rl⟩ := grow_lock (od := od) r em h0 hc hu
  have e1 : H' a = some (.frz od u) := g.lock a _ _ upd_same
  have hm : a ∈ ι := List.mem_of_getElem? h0
  have h0' : ι'[n]? = some a := prefix_get g.pre h0
  have x1 : Ext ι' H' ι' (upd H' a u) := ⟨List.prefix_refl _, fun b xs z => by rw [upd_ne (fun q => by rw [q, e1] at z; cases z)]; exact z,
    fun b o v z q => by
      rw [upd_ne (fun w => ?_)]
      · exact z
      · rw [w, e1] at z
        cases z
        obtain ⟨xs, rfl | rfl⟩ := q
        · exact n3 xs rfl
        · exact n2 xs rfl⟩
  have g2 : Grow ι H ι' (upd H' a u) := by
    have gg := gl.trans g
    refine ⟨gg.pre, fun b o z na => ?_, gg.new, fun b o v z => ?_⟩
    · rw [upd_ne (fun q => na (by rw [q]; exact hm))]; exact gg.keep b o z na
    · rw [upd_ne (fun q => by rw [q, hu] at z; cases z; exact n1 _ _ rfl)]; exact gg.lock b o v z
  refine ⟨e1, g2, ⟨by simp [r'.len], r'.nd, fun i d b h1 h2 => ?_⟩, x1⟩
  have hn : n < μ'.length := by rw [← r'.len]; exact (List.getElem?_eq_some_iff.mp h0').1
  by_cases hi : n = i
  · subst hi
    rw [List.getElem?_set_self hn] at h1
    rw [h0'] at h2
    cases h1; cases h2
    exact k2 ι' _ (g2.ext r) upd_same
  · rw [List.getElem?_set_ne hi] at h1
    refine (r'.cell i d b h1 h2).ext x1 (upd_ne ?_)
    rintro rfl
    have hn' : n < ι'.length := (List.getElem?_eq_some_iff.mp h0').1
    have hi' : i < ι'.length := (List.getElem?_eq_some_iff.mp h2).1
    have e1 : ι'[n] = b := (List.getElem?_eq_some_iff.mp h0').2
    have e2 : ι'[i] = b := (List.getElem?_eq_some_iff.mp h2).2
    exact hi ((List.getElem_inj r'.nd).mp (e1.trans e2.symm))
end
theorem PS.or {X : Cx} {st : Stmt} {t t' : TS} (h : PS X st t) (h' : PS X st t') : PS X st fun D σ H => t D σ H ∨ t' D σ H := ⟨fun pins s σ H D I w => w.elim (h.run pins s σ H D I) (h'.run pins s σ H D I)⟩
theorem ss_lock {X : Cx} {W : WX} {st : Stmt} {i : Nat} {m : MS} (h : SS X W st m) : SS X W st (sLock i m) :=
  PS.mono (PS.or h (ps_lock h)) fun D σ H ⟨ρ, μ, ι, env, rel, h⟩ => by
    simp only [sLock] at h
    split at h
    · rename_i n c c' et
      refine .inr ?_
      unfold toLock at et
      split at et
      · rename_i n' er
        split at et
        · rename_i c0 em
          obtain ⟨c1, hc, e⟩ := Option.map_eq_some_iff.mp et
          cases e
          obtain ⟨v, _, rv⟩ := env.at_ i _ er
          obtain ⟨a, h0, rfl⟩ := rv.ref
          obtain ⟨u, hu, mu, _⟩ := lock_h (rel.cell _ _ a em h0) hc
          refine ⟨a, u, hu, mu, fun od => ?_⟩
          obtain ⟨gl, rl⟩ := grow_lock (od := od) rel em h0 hc hu
          refine ⟨ρ, _, ι, env.ext (gl.ext rel), rl, ?_⟩
          cases hr : m ρ (μ.set n c') with
          | stuck => rw [hr] at h; exact h.elim
          | exc e fs m => rw [hr] at h; exact h.elim
          | ok f μ2 =>
            rw [hr] at h
            intro ι2 H2 g2 r2
            obtain ⟨e1, g3, r3, x3⟩ := grow_open rel em h0 hc hu g2 r2
            cases f with
            | nx ρ' => exact fun σ' env' => ⟨e1, h ι2 _ g3 r3 σ' (env'.ext x3)⟩
            | brk ρ' => exact fun σ' env' => ⟨e1, h ι2 _ g3 r3 σ' (env'.ext x3)⟩
            | cnt ρ' => exact fun σ' env' => ⟨e1, h ι2 _ g3 r3 σ' (env'.ext x3)⟩
            | ret d => exact fun v rv => ⟨e1, h ι2 _ g3 r3 v (rv.ext x3)⟩
            | exc e fs ρ' => exact h ι2 H2 (gl.trans g2) r2
        · cases et
      · cases et
    · exact .inl ⟨ρ, μ, ι, env, rel, h⟩
end RW

/-! SEm: set(list of ints), sorted, min, max, sum, all, any, isinstance. -/
namespace RW
open PySem L2 PySem.Spec
open PyProof.Rows hiding St
/-- the object of a new set -/
abbrev oSet (w : World) : Obj := { cls := .type "set", dict := none, data := .set #[] 0 (.fresh 0 0 (!w.params.followText "set-order")) }
section
variable {P : Program} {w : World} {A : Around} {E : Value → Shared → Prop} {s : Shared}
set_option maxHeartbeats 3200000 in
theorem set_of_list {l : Addr} {us : Array Value} (ns : List Int) {Q : Value → Shared → Prop} (hh : A.handled = none) (hl : s.heap.IsList l us) (hit : IntsAre us.toList ns) (hb : ns.length + 1 < scanBound)
    (h : ∀ (h' : Heap) (tk c : Nat), SetR w h' s.heap.objs.size (fun j => decide (j ∈ ns)) c → c ≤ ns.length → (∀ b o, s.heap.get? b = some o → h'.get? b = some o) → Q (.ref s.heap.objs.size) { s with heap := h', toks := tk }) :
    wpAny (model P w) A (call (.type "set") [.ref l]) Q E s := by
  have hz : us.size = ns.length := by have q := IntsAre.length hit; rwa [Array.length_toList] at q
  obtain ⟨c, tl, hmro⟩ := F.called_set.mro
  have hA := F.called_set.made; have hB := F.called_set.sub
  refine wpAny_call (codeAny_of_tree (wpAny_pure ⟨Code.quiet_builtin _ (by decide +kernel), codeAny_builtin F.entry_type_call ?_⟩))
  rw [Around.under_plain (weight_type_call_type "set" [.ref l] []) rfl]
  have hC := F.called_set.notType; have hD := F.called_set.canCreate; have hE := F.typeCall_set_1 (.ref l)
  repeat (any_goals (first | assumption | wp_step))
  refine codeAny_mono (code_set_led1 (.ref l) (E := E) (Q₁ := fun ob t => ob = .ref s.heap.objs.size ∧ t = { s with heap := s.heap.push (oSet w) }) ⟨rfl, rfl⟩) fun r t hr => ?_
  match r, hr with
  | .error _, hr => exact hr
  | .ok (.ret ob), ⟨e1, e2⟩ =>
    subst e1 e2
    have hS : (s.heap.push (oSet w)).get? s.heap.objs.size = some (oSet w) := Heap.get?_push_size _ rfl
    have hT : Shared.TypeIs { s with heap := s.heap.push (oSet w) } (.ref s.heap.objs.size) "set" := ⟨_, hS, rfl⟩
    have hF := F.called_set.init.lookup; have hG := F.called_set.init.bind (.ref s.heap.objs.size)
    repeat (any_goals (first | assumption | wp_step))
    refine codeAny_mono (codeAny_call_builtin (R := wants (fun r t => r = .none ∧ ∃ h' tk c, t = { s with heap := h', toks := tk } ∧ SetR w h' s.heap.objs.size (fun j => decide (j ∈ ns)) c ∧ c ≤ ns.length ∧
        (∀ b o, s.heap.get? b = some o → h'.get? b = some o)) E) F.called_set.init.plain F.entry_set_init (check_set_init_1 hT ?_)) fun r₂ t₂ hr₂ => ?_
    · obtain ⟨⟨oc, od, dt, sl⟩, hol, hcl, nl, hdl⟩ := hl
      replace hcl : oc = .type "list" := hcl
      replace hdl : dt = .seq us nl := hdl
      subst hcl hdl
      have hol' : (s.heap.push (oSet w)).get? l = some { cls := .type "list", dict := od, data := .seq us nl, slots := sl } := Heap.get?_push_of_some _ hol
      have k1 := F.sub_list_set; have k2 := F.sub_list_frozenset
      have k3 : (Value.type "list" == Value.type "dict") = false := by decide
      have hl1 : (s.heap.push (oSet w)).IsList l us := ⟨_, hol', rfl, nl, rfl⟩
      unfold Builtin.«set.__init__» noKeywords Builtin.Frozenset.updateFrom
      generalize hPI : pyIter = PI
      wp_walk
      subst hPI
      refine wpAny_pyIter_list hl1 (wpAny_bind (wpAny_runValue ?_))
      have hlS : l < s.heap.objs.size := Heap.lt_size hol
      have zz : (s.heap.push (oSet w)).objs.size = s.heap.objs.size + 1 := Heap.size_push ..
      have n1 : l ≠ (s.heap.push (oSet w)).objs.size := by rw [zz]; exact Nat.ne_of_lt (Nat.lt_succ_of_lt hlS)
      have n2 : s.heap.objs.size ∉ [(s.heap.push (oSet w)).objs.size, l] := by
        rw [zz]; simp only [List.mem_cons, List.not_mem_nil, or_false, not_or]
        exact ⟨Nat.ne_of_lt (Nat.lt_succ_self _), Nat.ne_of_gt hlS⟩
      have hval : ∀ (i : Nat) (v : Value), us[i]? = some v → ∃ k t, ns[i]? = some k ∧ v = .int k t := fun i v hv => by
        have hi : i < ns.length := by rw [← hz]; exact (Array.getElem?_eq_some_iff.mp hv).1
        obtain ⟨t, e⟩ := IntsAre.int_at hit i v (by rw [Array.getElem?_toList]; exact hv)
        exact ⟨ns[i], t, List.getElem?_eq_getElem hi, by rw [e, List.getD_eq_getElem?_getD, List.getElem?_eq_getElem hi] <;> rfl⟩
      refine set_update_ints ((Walks.list (by simp [hh]) _ l n1 us).toS) s.heap.objs.size n2 ns hz hb hval (us.size - 0) 0 _ (by omega) (Nat.zero_le _) ⟨⟨_, Heap.get?_push_size _ rfl, rfl, rfl⟩, (hl1.push _)⟩ ⟨0, Nat.le_refl 0, setR_new_at (Heap.get?_push_of_some _ hS)⟩ ?_
      intro t' c' hm hc' hS'
      obtain ⟨h', g2, d', tk', os'⟩ := t'
      obtain rfl : g2 = s.gens := hm.gens
      obtain rfl : d' = s.drawn := hm.drawn
      obtain rfl : os' = s.os := hm.os
      rw [hz] at hc'
      refine wpAny_pure (wpAny_pure ⟨rfl, h', tk', c', rfl, hS', hc', fun b o e => ?_⟩)
      have lb : b < s.heap.objs.size := Heap.lt_size e
      refine hm.heap b o ?_ (Heap.get?_push_of_some _ (Heap.get?_push_of_some _ e))
      simp only [List.mem_cons, List.not_mem_nil, or_false, not_or]
      exact ⟨Nat.ne_of_lt lb, by rw [zz]; exact Nat.ne_of_lt (Nat.lt_succ_of_lt lb)⟩
    · match r₂, hr₂ with
      | .error _, hr₂ => exact hr₂
      | .ok (.ret _), ⟨e1, h', tk, c', e2, hS', hc', hk'⟩ =>
        subst e1 e2
        repeat (any_goals (first | assumption | wp_step))
        exact h _ _ _ hS' hc' hk'
end
/-! ### lists of ints -/
def toInts : List D → Option (List Int)
  | [] => some []
  | .int i :: l => (toInts l).map (i :: ·)
  | _ :: _ => none
theorem toInts_eq : ∀ {l : List D} {ns : List Int}, toInts l = some ns → l = ns.map D.int
  | [], ns, h => by cases h; rfl
  | .int i :: l, ns, h => by
    obtain ⟨r, e, rfl⟩ := Option.map_eq_some_iff.mp h
    rw [toInts_eq e]; rfl
  | .non :: _, _, h => nomatch h
  | .bl _ :: _, _, h => nomatch h
  | .str _ :: _, _, h => nomatch h
  | .tup _ :: _, _, h => nomatch h
  | .frl _ :: _, _, h => nomatch h
  | .ref _ :: _, _, h => nomatch h
  | .fn _ :: _, _, h => nomatch h
@[simp] theorem toInts_map : ∀ ns : List Int, toInts (ns.map D.int) = some ns
  | [] => rfl
  | n :: ns => by simp [toInts, toInts_map ns]
def insI (x : Int) : List Int → List Int
  | [] => [x]
  | y :: l => if x ≤ y then x :: y :: l else y :: insI x l
/-- sorted -/
def isort : List Int → List Int
  | [] => []
  | x :: l => insI x (isort l)
theorem insI_perm (x : Int) : ∀ l, (insI x l).Perm (x :: l)
  | [] => .refl _
  | y :: l => by
    unfold insI
    split
    · exact .refl _
    · exact ((insI_perm x l).cons y).trans (.swap _ _ _)
theorem isort_perm : ∀ l, (isort l).Perm l
  | [] => .refl _
  | x :: l => (insI_perm x _).trans ((isort_perm l).cons x)
theorem insI_sorted (x : Int) : ∀ l, l.Pairwise (· ≤ ·) → (insI x l).Pairwise (· ≤ ·)
  | [], _ => by simp [insI]
  | y :: l, h => by
    unfold insI
    split
    · rename_i hxy
      refine List.pairwise_cons.mpr ⟨fun z hz => ?_, h⟩
      rcases List.mem_cons.mp hz with e | hz
      · omega
      · have := (List.pairwise_cons.mp h).1 z hz; omega
    · rename_i hxy
      have hp := List.pairwise_cons.mp h
      refine List.pairwise_cons.mpr ⟨fun z hz => ?_, insI_sorted x l hp.2⟩
      rcases List.mem_cons.mp ((insI_perm x l).subset hz) with e | hz
      · omega
      · exact hp.1 z hz
theorem isort_sorted : ∀ l, (isort l).Pairwise (· ≤ ·)
  | [] => .nil
  | x :: l => insI_sorted x _ (isort_sorted l)
theorem isort_mem {x : Int} {l : List Int} : x ∈ isort l ↔ x ∈ l := (isort_perm l).mem_iff
theorem sorted_unique {l l' : List Int} (p : l.Perm l') (h : l.Pairwise (· ≤ ·)) (h' : l'.Pairwise (· ≤ ·)) : l = l' :=
  List.Perm.eq_of_pairwise (le := (· ≤ ·)) (fun a b _ _ h1 h2 => by omega) h h' p
/-- without what stands twice, sorted -/
def usort : List Int → List Int
  | [] => []
  | x :: l => if x ∈ l then usort l else insI x (usort l)
theorem usort_mem {x : Int} : ∀ {l : List Int}, x ∈ usort l ↔ x ∈ l
  | [] => Iff.rfl
  | y :: l => by
    unfold usort
    split
    · rename_i h
      rw [usort_mem (l := l), List.mem_cons]
      exact ⟨.inr, fun q => q.elim (fun e => e ▸ h) id⟩
    · rw [(insI_perm y _).mem_iff, List.mem_cons, List.mem_cons, usort_mem (l := l)]
theorem usort_sorted : ∀ l, (usort l).Pairwise (· < ·)
  | [] => .nil
  | y :: l => by
    unfold usort
    split
    · exact usort_sorted l
    · rename_i h
      have hn : (insI y (usort l)).Nodup := by
        rw [(insI_perm y _).nodup_iff, List.nodup_cons]
        exact ⟨fun q => h (usort_mem.mp q), (usort_sorted l).imp fun {a b} q e => by omega⟩
      have hs := insI_sorted y (usort l) ((usort_sorted l).imp fun {a b} q => by omega)
      exact (hs.and hn).imp fun {a b} q => by omega
theorem nodup_len {l l' : List Int} (h : l.Nodup) (h' : l'.Nodup) (e : ∀ x, x ∈ l ↔ x ∈ l') : l.length = l'.length :=
  ((List.perm_ext_iff_of_nodup h h').mpr e).length_eq
def minI : List Int → Int
  | [] => 0
  | [x] => x
  | x :: l => if minI l < x then minI l else x
def maxI : List Int → Int
  | [] => 0
  | [x] => x
  | x :: l => if x < maxI l then maxI l else x
theorem minI_spec : ∀ {l : List Int}, l ≠ [] → minI l ∈ l ∧ ∀ y ∈ l, minI l ≤ y
  | [x], _ => by simp [minI]
  | x :: y :: l, _ => by
    obtain ⟨h1, h2⟩ := minI_spec (l := y :: l) (by simp)
    rw [minI]
    · split
      · exact ⟨List.mem_cons_of_mem _ h1, fun z hz => (List.mem_cons.mp hz).elim (fun e => by omega) (h2 z)⟩
      · exact ⟨List.mem_cons_self, fun z hz => (List.mem_cons.mp hz).elim (fun e => by omega) (fun hz => by have := h2 z hz; omega)⟩
    · simp
theorem maxI_spec : ∀ {l : List Int}, l ≠ [] → maxI l ∈ l ∧ ∀ y ∈ l, y ≤ maxI l
  | [x], _ => by simp [maxI]
  | x :: y :: l, _ => by
    obtain ⟨h1, h2⟩ := maxI_spec (l := y :: l) (by simp)
    rw [maxI]
    · split
      · exact ⟨List.mem_cons_of_mem _ h1, fun z hz => (List.mem_cons.mp hz).elim (fun e => by omega) (h2 z)⟩
      · exact ⟨List.mem_cons_self, fun z hz => (List.mem_cons.mp hz).elim (fun e => by omega) (fun hz => by have := h2 z hz; omega)⟩
    · simp
/-- the ints of a list that lies in a cell, or of the script -/
def intsAt : D → Mem → Option (List Int)
  | .ref n, μ => (match μ[n]? with
    | some (.lst l) => toInts l
    | _ => none)
  | .frl l, _ => toInts l
  | _, _ => none
theorem intsAt_is {G : Gd} {ι : List Addr} {H : Hp} {μ : Mem} {d : D} {v : V} {ns : List Int} (r : Rel G ι H μ) (rv : Rep G ι H d v) (e : intsAt d μ = some ns) : ∃ a, v = .ref a ∧ SqL G.K H a (ns.map V.int) := by
  unfold intsAt at e
  split at e
  · split at e
    · rename_i l em
      obtain ⟨a, vs, rfl, h0, h1, h2⟩ := r.lst em rv
      have q := toInts_eq e
      subst q
      obtain rfl := h2.ints
      exact ⟨a, rfl, .of h1⟩
    · cases e
  · obtain ⟨a, vs, rfl, h1, h2⟩ := rv.frl
    have q := toInts_eq e
    subst q
    obtain rfl := h2.ints
    exact ⟨a, rfl, FrL.sq _ _ h1⟩
  · cases e
def minLL : List D → Mem → Res D
  | [d], μ => (match intsAt d μ with
    | some (x :: ns) => .ok (.int (minI (x :: ns))) μ
    | _ => .stuck)
  | _, _ => .stuck
def maxLL : List D → Mem → Res D
  | [d], μ => (match intsAt d μ with
    | some (x :: ns) => .ok (.int (maxI (x :: ns))) μ
    | _ => .stuck)
  | _, _ => .stuck
def sumL : List D → Mem → Res D
  | [d], μ => (match intsAt d μ with
    | some ns => .ok (.int ns.sum) μ
    | _ => .stuck)
  | _, _ => .stuck
theorem snd_minLL {G : Gd} : SndL G (rMin G.K) minLL := fun ι H μ xs vs W σ Q r rxs h => by
  unfold minLL at h
  split at h
  · split at h
    · rename_i d _ x ns e
      obtain ⟨v, rfl, rv⟩ := rxs.one
      obtain ⟨a, rfl, h1⟩ := intsAt_is r rv e
      obtain ⟨m1, m2⟩ := minI_spec (l := x :: ns) (by simp)
      refine ⟨a, x :: ns, rfl, h1, by simp, fun m q1 q2 => ?_⟩
      have e2 : m = minI (x :: ns) := by have := m2 m q1; have := q2 _ m1; omega
      subst e2
      exact h ι H .refl r _ (rep_int _)
    · exact h.elim
  · exact h.elim
theorem snd_maxLL {G : Gd} : SndL G (rMax G.K) maxLL := fun ι H μ xs vs W σ Q r rxs h => by
  unfold maxLL at h
  split at h
  · split at h
    · rename_i d _ x ns e
      obtain ⟨v, rfl, rv⟩ := rxs.one
      obtain ⟨a, rfl, h1⟩ := intsAt_is r rv e
      obtain ⟨m1, m2⟩ := maxI_spec (l := x :: ns) (by simp)
      refine ⟨a, x :: ns, rfl, h1, by simp, fun m q1 q2 => ?_⟩
      have e2 : m = maxI (x :: ns) := by have := m2 m q1; have := q2 _ m1; omega
      subst e2
      exact h ι H .refl r _ (rep_int _)
    · exact h.elim
  · exact h.elim
theorem snd_sum {G : Gd} : SndL G (rSum G.K) sumL := fun ι H μ xs vs W σ Q r rxs h => by
  unfold sumL at h
  split at h
  · split at h
    · rename_i d _ ns e
      obtain ⟨v, rfl, rv⟩ := rxs.one
      obtain ⟨a, rfl, h1⟩ := intsAt_is r rv e
      exact ⟨a, ns, rfl, h1, h ι H .refl r _ (rep_int _)⟩
    · exact h.elim
  · exact h.elim
/-! ### sets of ints, sorted -/
def setL : List D → Mem → Res D
  | [d], μ => (match intsAt d μ with
    | some ns => if ns.length ≤ 4000 then .ok (.ref μ.length) (μ ++ [.iset (usort ns)]) else .stuck
    | _ => .stuck)
  | _, _ => .stuck
def rSetOfL (G : Gd) : List V → Hp → VK → Prop := fun xs H Q => ∃ (a : Addr) (ns : List Int), xs = [.ref a] ∧ SqL G.K H a (ns.map V.int) ∧ ns.length ≤ 4000 ∧ ∀ p, H p = none → Q (.ref p) (upd H p (SetO G.w p (fun i => decide (i ∈ usort ns)) (usort ns).length))
theorem cr_setOfL {X : Cx} (hc : X.calm = true) : CallR X (.type "set") (rSetOfL (gOf X)) := by
  intro pins s σ H xs us Q I r h
  obtain ⟨a, ns, rfl, hs, h4, q⟩ := h
  obtain ⟨its, rv, hl, _⟩ := I.list hs
  rw [Vals.ref1 r]
  refine set_of_list ns (I.ok.hd hc) hl.isList (by simpa using rv.ints) (by unfold scanBound; omega) fun h' tk c R hcn hk => ?_
  have e1 : (fun j => decide (j ∈ ns)) = fun j => decide (j ∈ usort ns) := funext fun j => by rw [decide_eq_decide]; exact usort_mem.symm
  have e2 : c = (usort ns).length := by
    obtain ⟨o, es, ep, t, _, _, _, _, nd, hm, _, _, hn, _⟩ := R
    rw [← hn, ← Array.length_toList, ← List.length_map]
    refine nodup_len nd ((usort_sorted ns).imp fun {a b} q e => by omega) fun x => ?_
    rw [← hm x, usort_mem]; simp
  rw [e1, e2] at R
  exact ⟨.ref _, _, I.laid (t' := tk) hk (Nat.le_refl _) (setO_new (P := X.prog) R), rfl, q _ (I.hok.fresh (Nat.le_refl _))⟩
theorem snd_setOf {G : Gd} : SndL G (rSetOfL G) setL := fun ι H μ xs vs W σ Q r rxs h => by
  unfold setL at h
  split at h
  · split at h
    · rename_i d _ ns e
      split at h
      · rename_i h4
        obtain ⟨v, rfl, rv⟩ := rxs.one
        obtain ⟨a, rfl, h1⟩ := intsAt_is r rv e
        refine ⟨a, ns, rfl, h1, h4, fun p hp => ?_⟩
        obtain ⟨g2, r2⟩ := grow_cell (o := SetO G.w p (fun i => decide (i ∈ usort ns)) (usort ns).length) (c := .iset (usort ns)) r hp fun x => ⟨upd_same, usort_sorted ns⟩
        exact h _ _ g2 r2 (.ref p) (rep_new (r := r))
      · exact h.elim
    · exact h.elim
  · exact h.elim
def sortedL : List D → Mem → Res D
  | [d], μ => (match d with
    | .ref n => (match μ[n]? with
      | some (.iset l) => if l.length < 64 then .ok (.ref μ.length) (μ ++ [.lst (l.map D.int)]) else .stuck
      | _ => (match intsAt d μ with
        | some ns => .ok (.ref μ.length) (μ ++ [.lst ((isort ns).map D.int)])
        | none => .stuck))
    | _ => (match intsAt d μ with
      | some ns => .ok (.ref μ.length) (μ ++ [.lst ((isort ns).map D.int)])
      | none => .stuck))
  | _, _ => .stuck
def rSortedA (G : Gd) : List V → Hp → VK → Prop := fun xs H Q => rSortedI G.K xs H Q ∨ rSortedSet G.w xs H Q
theorem cr_sortedA {X : Cx} (hc : X.calm = true) : CallR X (.builtin "sorted") (rSortedA (gOf X)) := CallR.or cr_sortedI (cr_sortedSet hc)
theorem snd_sorted {G : Gd} : SndL G (rSortedA G) sortedL := fun ι H μ xs vs W σ Q r rxs h => by
  have key : ∀ {d : D} {ns : List Int}, xs = [d] → intsAt d μ = some ns → Post G ι H W σ (.ok (D.ref μ.length) (μ ++ [.lst ((isort ns).map D.int)])) (fun ι' H' _ d => ∀ v, Rep G ι' H' d v → Q v H') → rSortedA G vs H Q := fun {d ns} ex e k => by
    subst ex
    obtain ⟨v, rfl, rv⟩ := rxs.one
    obtain ⟨a, rfl, h1⟩ := intsAt_is r rv e
    refine .inl ⟨a, ns, rfl, h1, fun ns' p hp hs => ?_⟩
    obtain rfl : ns' = isort ns := sorted_unique (hp.trans (isort_perm ns).symm) hs (isort_sorted ns)
    exact new_lst r (.of_ints _) k p
  unfold sortedL at h
  split at h
  · rename_i d
    split at h
    · rename_i n
      split at h
      · rename_i l em
        split at h
        · rename_i h6
          obtain ⟨v, rfl, rv⟩ := rxs.one
          obtain ⟨a, h0, rfl⟩ := rv.ref
          obtain ⟨h1, h2⟩ := r.cell n _ a em h0
          refine .inr ⟨a, _, _, rfl, h1, h6, fun ns p hs hm hl hp => ?_⟩
          have e : ns = l := by
            have nd : ∀ {l : List Int}, l.Pairwise (· < ·) → l.Nodup := fun h => h.imp fun {a b} q e => by omega
            refine sorted_unique ((List.perm_ext_iff_of_nodup (nd hs) (nd h2)).mpr fun x => ?_) (hs.imp fun {a b} q => by omega) (h2.imp fun {a b} q => by omega)
            rw [hm]; simp
          subst e
          exact new_lst r (.of_ints _) h p hp
        · exact h.elim
      · split at h
        · rename_i e; exact key rfl e h
        · exact h.elim
    · split at h
      · rename_i e; exact key rfl e h
      · exact h.elim
  · exact h.elim
end RW

/-! SEn: isinstance, all, any. -/
namespace RW
open PySem L2
def tyD : D → Mem → Option String
  | .non, _ => some "NoneType"
  | .bl _, _ => some "bool"
  | .int _, _ => some "int"
  | .str _, _ => some "str"
  | .tup _, _ => some "tuple"
  | .frl _, _ => some "list"
  | .ref n, μ => (match μ[n]? with
    | some (.lst _) => some "list"
    | some (.dic _) => some "dict"
    | some (.lck false _) => some "dict"
    | _ => none)
  | .fn _, _ => none
/-- a kind of one of the types below -/
def subT (a b : String) : Bool := a == b || (a == "bool" && b == "int")
def isT1 (c : String) : D → Mem → Res D := fun d μ => match tyD d μ with
  | some t => .ok (.bl (subT t c)) μ
  | none => .stuck
def isT2 (c c2 : String) : D → Mem → Res D := fun d μ => match tyD d μ with
  | some t => .ok (.bl (subT t c || subT t c2)) μ
  | none => .stuck
theorem kitB_tab : (["NoneType", "bool", "int", "str", "tuple", "list", "dict"].all fun a => ["bool", "int", "str", "tuple", "list", "dict"].all fun b => kitB a b == some (subT a b)) = true := by decide +kernel
theorem kitB_is {d : D} {μ : Mem} {t c : String} (h : tyD d μ = some t) (hc : c ∈ ["bool", "int", "str", "tuple", "list", "dict"]) : kitB t c = some (subT t c) := by
  have q := kitB_tab
  rw [List.all_eq_true] at q
  have ht : t ∈ ["NoneType", "bool", "int", "str", "tuple", "list", "dict"] := by
    unfold tyD at h
    split at h <;> first | (cases h; simp; done) | (split at h <;> first | (cases h; simp; done) | cases h) | cases h
  have q2 := q t ht
  rw [List.all_eq_true] at q2
  exact eq_of_beq (q2 c hc)
theorem tyX_of {G : Gd} {ι : List Addr} {H : Hp} {μ : Mem} {d : D} {v : V} {t : String} (r : Rel G ι H μ) (rv : Rep G ι H d v) (h : tyD d μ = some t) : TyX G.K H v (.type t) := by
  cases d with
  | non => cases h; rw [rv.non]; exact .base .non
  | bl b => cases h; rw [rv.bl]; exact .base (.bl b)
  | int i => cases h; rw [rv.int]; exact .base (.int i)
  | str x => cases h; rw [rv.str]; exact .base (.str x)
  | tup l =>
    cases h
    obtain ⟨a, vs, rfl, h1, _⟩ := rv.tup
    rcases h1 with (h1 | ⟨o, h1⟩) | ⟨o, its, n, h1, h2, _⟩
    · exact .base (.tup h1)
    · exact .fTuple h1
    · exact .kTuple h1 h2
  | frl l =>
    cases h
    obtain ⟨a, vs, rfl, h1, _⟩ := rv.frl
    rcases h1 with ⟨o, h1⟩ | ⟨o, its, n, h1, h2, _⟩
    · exact .base (.frz h1)
    · exact .kList h1 h2
  | fn x => cases h
  | ref n =>
    obtain ⟨a, h0, rfl⟩ := rv.ref
    simp only [tyD] at h
    split at h
    · rename_i l em
      cases h
      obtain ⟨vs, h1, _⟩ := r.cell n _ a em h0
      exact .base (.lst h1)
    · rename_i l em
      cases h
      obtain ⟨vs, h1, _⟩ := r.cell n _ a em h0
      exact .base (.dK h1)
    · rename_i l em
      cases h
      obtain ⟨o, vs, h1, _⟩ := r.cell n _ a em h0
      exact .fDict h1
    · cases h
section
variable {X : Cx} {W : WX} {e : Expr} {me : MD} {p p1 p2 tp pos : Pos} {c c2 : Str} {k : Nat}
theorem se_isi1 {t : String} (hg : Gl X "isinstance") (hm : X.mg "isinstance" = none) (he : SE X W e me) (hgc : Gl X c) (hmc : X.mg c = none) (hv : bootBuiltins c = some (.type t)) (ht : t ∈ ["bool", "int", "str", "tuple", "list", "dict"]) (hn : c ≠ "__name__" := by decide) (hd : (c == ("__debug__" : Str)) = false := by decide)
    (h1 : starEach [e, .Name c p1] X.env = (false, eval e X.env) :: starEach [.Name c p1] X.env := by rfl) (h2 : starEach [.Name c p1] X.env = (false, eval (.Name c p1) X.env) :: starEach [] X.env := by rfl)
    (hpl : (backTo pos (starEach [.Name c p1] X.env)).any (·.1) = false := by rfl) : SE X W (.Call (.Name "isinstance" p) [e, .Name c p1] [] pos) (mUn (isT1 t) me) :=
  PE.mono (pe_callB call_isi hg hm PyProof.Rows.boot_isinstance (pa_cons he (pa_cons (pe_bltn (v := .ty t) hgc hmc hv rfl hn hd) pa_nil h2) h1) (by decide) (by decide) h1 hpl) fun σ H Q ⟨ρ, μ, ι, env, rel, h⟩ =>
    ⟨ρ, μ, ι, env, rel, (Post.bind h).imp fun ι1 H1 μ1 x _ _ ⟨g1, r1, h1⟩ v rv => by
      simp only [isT1] at h1
      split at h1
      · rename_i t' et
        exact ⟨v, .ty t, _, _, _, rfl, .ty t, tyX_of r1 rv et, kit_ty (kitB_is et ht), h1 ι1 H1 .refl r1 _ (rep_bl _)⟩
      · exact h1.elim⟩
theorem se_isi2 {t t2 : String} (hg : Gl X "isinstance") (hm : X.mg "isinstance" = none) (he : SE X W e me) (hgc : Gl X c) (hmc : X.mg c = none) (hv : bootBuiltins c = some (.type t)) (ht : t ∈ ["bool", "int", "str", "tuple", "list", "dict"])
    (hgd : Gl X c2) (hmd : X.mg c2 = none) (hv2 : bootBuiltins c2 = some (.type t2)) (ht2 : t2 ∈ ["bool", "int", "str", "tuple", "list", "dict"]) (hn : c ≠ "__name__" := by decide) (hd : (c == ("__debug__" : Str)) = false := by decide) (hn2 : c2 ≠ "__name__" := by decide) (hd2 : (c2 == ("__debug__" : Str)) = false := by decide)
    (h1 : starEach [e, .Tuple [.Name c p1, .Name c2 p2] k tp] X.env = (false, eval e X.env) :: starEach [.Tuple [.Name c p1, .Name c2 p2] k tp] X.env := by rfl)
    (h2 : starEach [.Tuple [.Name c p1, .Name c2 p2] k tp] X.env = (false, eval (.Tuple [.Name c p1, .Name c2 p2] k tp) X.env) :: starEach [] X.env := by rfl)
    (h3 : starEach [.Name c p1, .Name c2 p2] X.env = (false, eval (.Name c p1) X.env) :: starEach [.Name c2 p2] X.env := by rfl) (h4 : starEach [.Name c2 p2] X.env = (false, eval (.Name c2 p2) X.env) :: starEach [] X.env := by rfl)
    (hpl : (backTo pos (starEach [.Tuple [.Name c p1, .Name c2 p2] k tp] X.env)).any (·.1) = false := by rfl) : SE X W (.Call (.Name "isinstance" p) [e, .Tuple [.Name c p1, .Name c2 p2] k tp] [] pos) (mUn (isT2 t t2) me) :=
  PE.mono (pe_callB call_isiT hg hm PyProof.Rows.boot_isinstance (pa_cons he (pa_cons (pe_tup (pa_cons (pe_bltn (v := .ty t) hgc hmc hv rfl hn hd) (pa_cons (pe_bltn (v := .ty t2) hgd hmd hv2 rfl hn2 hd2) pa_nil h4) h3)) pa_nil h2) h1) (by decide) (by decide) h1 hpl) fun σ H Q ⟨ρ, μ, ι, env, rel, h⟩ =>
    ⟨ρ, μ, ι, env, rel, (Post.bind h).imp fun ι1 H1 μ1 x _ _ ⟨g1, r1, h1⟩ v rv => by
      simp only [isT2] at h1
      split at h1
      · rename_i t' et
        refine ⟨by show 2 ≤ sizeLine; decide, fun q hq => ?_⟩
        obtain ⟨g2, r2⟩ := grow_laid (o := .tup [.ty t, .ty t2]) r1 hq
        refine ⟨v, q, _, .type t', [.type t, .type t2], subT t' t || subT t' t2, rfl, upd_same, .cons (.ty t) (.cons (.ty t2) .nil), tyX_of r2 (rv.ext (g2.ext r1)) et, ?_, h1 ι1 _ g2 r2 _ (rep_bl _)⟩
        refine kitAny_cons (kit_ty (kitB_is et ht)) (fun e => ?_) (fun e => by rw [e]; rfl)
        refine kitAny_cons (kit_ty (kitB_is et ht2)) (fun e2 => ?_) (fun e2 => by rw [e2, Bool.or_true])
        rw [e, e2]; rfl
      · exact h1.elim⟩
end
end RW

/-! SEo: what a law's own text needs: defs together, the law's promise. -/
namespace RW
open PySem L2
def iaddD : D → D → Mem → Res D
  | .int i, .int j, μ => .ok (.int (i + j)) μ
  | _, _, _ => .stuck
theorem snd_iadd {G : Gd} : Snd2 G (rI0 fun i j => .int (i + j)) iaddD := snd_int fun x y μ => by cases x <;> cases y <;> rfl
def stuckS : Sem := fun _ _ => .stuck
/-- as s, where it doesn't raise -/
def noX (s : Sem) : Sem := fun ds μ => match s ds μ with
  | .ok d m => .ok d m
  | _ => .stuck
section
variable {P : Program} {w : World} {K : PySem.W.Frag} {mg : Str → Option Value} {base : Heap} {f : Addr} {fd : FuncData} {ps : List Str} {k n : Nat} {sem : Sem} {x c : Str}
theorem fn_stuck (h : ps.length = n) : FnG P w K mg base (L2.CX P w) k f fd ps (spM ⟨P, w, K, mg⟩ n stuckS) :=
  ⟨fun vs H Q E q => (spM_len q).trans h.symm, fun A outer s H args us vs Q E hr he hb hv ⟨ds, μ, ι, _, _, _, q⟩ => q.elim⟩
theorem fn_noX (F : FnG P w K mg base (L2.CX P w) k f fd ps (spM ⟨P, w, K, mg⟩ n sem)) : FnG P w K mg base (L2.CX P w) k f fd ps (spM ⟨P, w, K, mg⟩ n (noX sem)) :=
  F.less fun vs H Q E ⟨ds, μ, ι, h1, h2, h3, h4⟩ => ⟨ds, μ, ι, h1, h2, h3, by
    unfold noX at h4
    split at h4
    · rename_i e; rw [e]; exact h4
    · exact h4.elim⟩
theorem noX_noX (ds : List D) (μ : Mem) : (∃ d m, noX sem ds μ = .ok d m) ∨ noX sem ds μ = .stuck := by
  unfold noX
  split
  · exact .inl ⟨_, _, rfl⟩
  · exact .inr rfl
/-- a class with an own __init__ of n arguments -/
def Mks (G : Gd) (base : Heap) (c : Str) (k n : Nat) (sem : Sem) : Prop := ∃ (C f : Addr) (fd : FuncData) (ps : List Str), G.mg c = some (.ref C) ∧ Mk G.K C f ∧ Binds G.K fd ps [] ∧ FnG G.P G.w G.K G.mg base (L2.CX G.P G.w) k f fd ps (spM G (n + 1) (noX sem))
theorem Fn.le {G : Gd} {j : Nat} (F : Fn G base x j n sem) (h : j ≤ k) : Fn G base x k n sem := by
  obtain ⟨f, fd, ps, h1, h2, h3, h4⟩ := F
  exact ⟨f, fd, ps, h1, h2, h3, h4.le h⟩
end
section
variable {X : Cx} {W : WX} {k n j : Nat} {sem : Sem} {c : Str} {p pos : Pos} {e : Expr} {es : List Expr} {ms : ML}
theorem se_mks (M : Mks (gOf X) X.base c j n sem) (hr : RoomG k X.A) (hj : j + 1 ≤ k) (hg : Gl X c) (ha : SA X W (e :: es) ms) (hn : ∀ ρ μ ds μ', ms ρ μ = .ok ds μ' → ds.length = n) (hdb : (c == ("__debug__" : Str)) = false := by decide)
    (he : starEach (e :: es) X.env = (false, eval e X.env) :: starEach es X.env := by rfl) (hpl : (backTo pos (starEach es X.env)).any (·.1) = false := by rfl) : SE X W (.Call (.Name c p) (e :: es) [] pos) (mMake c (noX sem) ms) := by
  obtain ⟨C, f, fd, ps, h1, h2, h3, h4⟩ := M
  exact se_make h2 h4 hr hj hg h1 h3 noX_noX ha hn hdb he hpl
theorem se_stuck {e : Expr} : SE X W e (fun _ _ => .stuck) := ⟨fun pins s σ H Q I ⟨ρ, μ, ι, env, rel, h⟩ => h.elim⟩
theorem ss_stuck {st : Stmt} : SS X W st (fun _ _ => .stuck) := ⟨fun pins s σ H D I ⟨ρ, μ, ι, env, rel, h⟩ => h.elim⟩
end
/-- a list that nobody changes, by the written part alone -/
def FrL0 (K : PySem.W.Frag) (H : Hp) (a : Addr) (vs : List V) : Prop := (∃ o, H a = some (.frz o (.lst vs))) ∨
  ∃ (o : Obj) (its : Array Value) (n : Nat), K.lookup a = some o ∧ o.cls = .type "list" ∧ o.dict = none ∧ o.data = .seq its n ∧ its.size ≤ sizeLine ∧ Vals vs its.toList
/-- the law's own promise -/
def spLaw (K : PySem.W.Frag) : Sp := fun vs H Q _ => ∃ (a : Addr) (ns : List Int), vs = [.ref a] ∧ FrL0 K H a (ns.map V.int) ∧ ns.length ≤ 63 ∧ ∀ H', Q (.bl true) H'
theorem law_sp {G : Gd} {m : Sem} (h : ∀ ns : List Int, ns.length ≤ 63 → ∃ μ, m [.frl (ns.map D.int)] [] = .ok (.bl true) μ) {vs : List V} {H : Hp} {Q : VK} {E : XK} (q : spLaw G.K vs H Q E) : spM G 1 m vs H Q E := by
  obtain ⟨a, ns, rfl, h1, h2, h3⟩ := q
  obtain ⟨μ, e⟩ := h ns h2
  refine ⟨[.frl (ns.map D.int)], [], [], .cons ?_ .nil, rfl, ⟨rfl, List.nodup_nil, fun i c a e _ => by simp at e⟩, ?_⟩
  · unfold Rep
    exact ⟨a, _, rfl, h1, .of_ints ns⟩
  · rw [e]
    intro ι' H' g r v rv
    rw [rv.bl]
    exact h3 H'
theorem only_frl {K : PySem.W.Frag} {H : Hp} {a : Addr} {vs : List V} (o : Only H) (h : SqL K H a vs) : FrL0 K H a vs := by
  rcases h with (h | ⟨od, h⟩) | h
  · rcases o a with z | ⟨od, xs, z⟩
    · rw [h] at z; cases z
    · rw [h] at z; cases z
  · exact .inl ⟨od, h⟩
  · exact .inr h
end RW

/-! SEp: plain laws of mirrors. -/
namespace RW
open PySem L2
/-- r ends well, with P -/
def Ok {α : Type} (r : Res α) (P : α → Mem → Prop) : Prop := ∃ a μ, r = .ok a μ ∧ P a μ
section
variable {α β : Type} {r : Res α} {P P' : α → Mem → Prop} {Q : β → Mem → Prop} {f : α → Mem → Res β}
theorem Ok.mk {a : α} {μ : Mem} (e : r = .ok a μ) (h : P a μ) : Ok r P := ⟨a, μ, e, h⟩
theorem Ok.pure {a : α} {μ : Mem} (h : P a μ) : Ok (.ok a μ) P := ⟨a, μ, rfl, h⟩
theorem Ok.imp (h : Ok r P) (k : ∀ a μ, P a μ → P' a μ) : Ok r P' := let ⟨a, μ, e, p⟩ := h; ⟨a, μ, e, k a μ p⟩
theorem Ok.bind (h : Ok r P) (k : ∀ a μ, P a μ → Ok (f a μ) Q) : Ok (r.bind f) Q := by
  obtain ⟨a, μ, e, p⟩ := h
  subst e
  exact k a μ p
theorem Ok.pureE (h : Ok r P) (k : ∀ a μ, P a μ → Ok (f a μ) Q) : Ok (pureE r f) Q := by
  obtain ⟨a, μ, e, p⟩ := h
  subst e
  exact k a μ p
theorem Ok.onE {ρ : Rho} {f : α → Mem → Res Fl} {Q : Fl → Mem → Prop} (h : Ok r P) (k : ∀ a μ, P a μ → Ok (f a μ) Q) : Ok (onE r ρ f) Q := by
  obtain ⟨a, μ, e, p⟩ := h
  subst e
  exact k a μ p
end
/-! ### memory -/
/-- but for ex, the cells there were stay -/
def Keep (ex : List Nat) (μ μ' : Mem) : Prop := μ.length ≤ μ'.length ∧ ∀ i, i < μ.length → i ∉ ex → μ'[i]? = μ[i]?
section
variable {ex ex' : List Nat} {μ μ' μ2 : Mem} {i n : Nat} {c : Cell}
theorem Keep.refl : Keep ex μ μ := ⟨Nat.le_refl _, fun _ _ _ => rfl⟩
theorem Keep.trans (h : Keep ex μ μ') (h' : Keep ex μ' μ2) : Keep ex μ μ2 :=
  ⟨Nat.le_trans h.1 h'.1, fun i hi hn => (h'.2 i (Nat.lt_of_lt_of_le hi h.1) hn).trans (h.2 i hi hn)⟩
theorem Keep.mono (h : Keep ex μ μ') (s : ∀ i ∈ ex, i ∈ ex' ∨ μ.length ≤ i) : Keep ex' μ μ' :=
  ⟨h.1, fun i hi hn => h.2 i hi fun z => (s i z).elim hn fun q => by omega⟩
theorem at_lt (h : μ[i]? = some c) : i < μ.length := (List.getElem?_eq_some_iff.mp h).1
theorem Keep.get (h : Keep ex μ μ') (e : μ[i]? = some c) (hn : i ∉ ex) : μ'[i]? = some c := (h.2 i (at_lt e) hn).trans e
theorem Keep.app {cs : List Cell} : Keep ex μ (μ ++ cs) := ⟨by simp, fun i hi _ => List.getElem?_append_left hi⟩
theorem Keep.set (h : n ∈ ex) : Keep ex μ (μ.set n c) := ⟨by simp, fun i hi hn => List.getElem?_set_ne (by rintro rfl; exact hn h)⟩
theorem app_at {cs : List Cell} (e : μ[i]? = some c) : (μ ++ cs)[i]? = some c := (List.getElem?_append_left (at_lt e)).trans e
theorem app_new : (μ ++ [c])[μ.length]? = some c := by simp
theorem set_at (e : n < μ.length) : (μ.set n c)[n]? = some c := List.getElem?_set_self e
theorem set_ne' (h : n ≠ i) : (μ.set n c)[i]? = μ[i]? := List.getElem?_set_ne h
end
/-! ### a[i], a[i] = x -/
section
variable {μ : Mem} {n : Nat} {l : List D} {i : Int} {d x : D}
theorem ixN_pos {k : Nat} (h0 : 0 ≤ i) (h1 : i < k) : ixN k i = some i.toNat := by unfold ixN; rw [if_pos h0, if_pos h1]
theorem atI_pos {α : Type} {l : List α} {d : α} (h0 : 0 ≤ i) (e : l[i.toNat]? = some d) : atI l i = some d := by
  have h1 := (List.getElem?_eq_some_iff.mp e).1
  unfold atI
  rw [ixN_pos h0 (by omega)]
  exact e
theorem ix_lst (h : μ[n]? = some (.lst l)) (h0 : 0 ≤ i) (e : l[i.toNat]? = some d) : idxA (.ref n) (.int i) μ = .ok d μ := by
  simp only [idxA, h, idxD, atI_pos h0 e]
theorem ix_tup (h0 : 0 ≤ i) (e : l[i.toNat]? = some d) : idxA (.tup l) (.int i) μ = .ok d μ := by
  simp only [idxA, idxD, atI_pos h0 e]
theorem set_lst' (h : μ[n]? = some (.lst l)) (h0 : 0 ≤ i) (h1 : i < l.length) : setDD (.ref n) (.int i) d μ = .ok () (μ.set n (.lst (l.set i.toNat d))) := by
  simp only [setDD, h, setLD, ixN_pos h0 h1]
end
/-! ### loops -/
theorem forL_ok {chk : Mem → Prop} {g : MG} {body : MS} : ∀ (items : List D) (I : Nat → Rho → Mem → Prop) (k : Nat) {ρ : Rho} {μ : Mem}, I k ρ μ →
    (∀ i ρ μ, I i ρ μ → chk μ) → (∀ i d ρ μ, items[i]? = some d → I (k + i) ρ μ → Ok (g d ρ μ) fun ρ1 μ1 => Ok (body ρ1 μ1) fun f μ2 => ∃ ρ2, (f = .nx ρ2 ∨ f = .cnt ρ2) ∧ I (k + i + 1) ρ2 μ2) →
    Ok (forL chk g body items ρ μ) fun f μ' => ∃ ρ', f = .nx ρ' ∧ I (k + items.length) ρ' μ'
  | [], I, k, ρ, μ, h0, hc, hs => by
    unfold forL
    rw [if_pos (hc _ _ _ h0)]
    exact .pure ⟨ρ, rfl, h0⟩
  | d :: ds, I, k, ρ, μ, h0, hc, hs => by
    unfold forL
    rw [if_pos (hc _ _ _ h0)]
    refine (hs 0 d ρ μ rfl h0).pureE fun ρ1 μ1 h1 => h1.bind fun f μ2 ⟨ρ2, hf, h2⟩ => ?_
    have ih := forL_ok ds I (k + 1) h2 hc fun i d ρ μ e h => by
      have := hs (i + 1) d ρ μ (by simpa using e) (by rw [show k + (i + 1) = k + 1 + i by omega]; exact h)
      rw [show k + (i + 1) + 1 = k + 1 + i + 1 by omega] at this
      exact this
    rw [show k + 1 + ds.length = k + (d :: ds).length by simp; omega] at ih
    rcases hf with rfl | rfl
    · exact ih
    · exact ih
/-- as forL_ok, where the body may return -/
theorem compL_ok {chk : Mem → Prop} {g : MG} {tt : MB} {te : MD} {ρ0 : Rho} : ∀ (items : List D) (I : Nat → List D → Mem → Prop) (k : Nat) {acc : List D} {μ : Mem}, I k acc μ →
    (∀ i acc μ, I i acc μ → chk μ) →
    (∀ i d acc μ, items[i]? = some d → I (k + i) acc μ → Ok (g d ρ0 μ) fun ρ1 μ1 => Ok (tt ρ1 μ1) fun b μ2 => if b = true then (acc.length < sizeLine ∧ Ok (te ρ1 μ2) fun y μ3 => I (k + i + 1) (acc ++ [y]) μ3) else I (k + i + 1) acc μ2) →
    Ok (compL chk g tt te ρ0 items acc μ) fun l μ' => I (k + items.length) l μ'
  | [], I, k, acc, μ, h0, hc, hs => by
    unfold compL
    rw [if_pos (hc _ _ _ h0)]
    exact .pure h0
  | d :: ds, I, k, acc, μ, h0, hc, hs => by
    unfold compL
    rw [if_pos (hc _ _ _ h0)]
    have step : ∀ {acc μ}, I (k + 1) acc μ → Ok (compL chk g tt te ρ0 ds acc μ) fun l μ' => I (k + (d :: ds).length) l μ' := fun {acc μ} h => by
      have ih := compL_ok ds I (k + 1) h hc fun i d acc μ e h => by
        have := hs (i + 1) d acc μ (by simpa using e) (by rw [show k + (i + 1) = k + 1 + i by omega]; exact h)
        rw [show k + (i + 1) + 1 = k + 1 + i + 1 by omega] at this
        exact this
      rw [show k + 1 + ds.length = k + (d :: ds).length by simp; omega] at ih
      exact ih
    refine (hs 0 d acc μ rfl h0).pureE fun ρ1 μ1 h1 => h1.pureE fun b μ2 h2 => ?_
    cases b with
    | false =>
      rw [if_neg (by simp)] at h2
      simp only [Bool.false_eq_true, if_false]
      exact step h2
    | true =>
      rw [if_pos rfl] at h2
      simp only [if_true]
      refine h2.2.pureE fun y μ3 h3 => ?_
      rw [if_pos h2.1]
      exact step h3
theorem whileL_ok {c : MB} {body : MS} (I : Nat → Rho → Mem → Prop) : ∀ (m : Nat) {n : Nat} {ρ : Rho} {μ : Mem}, m < n → I m ρ μ → (R : Rho → Mem → Prop) →
    (∀ m ρ μ, I m ρ μ → Ok (c ρ μ) fun b μ1 => if b = true then Ok (body ρ μ1) fun f μ2 => ∃ ρ2 m2, (f = .nx ρ2 ∨ f = .cnt ρ2) ∧ m2 < m ∧ I m2 ρ2 μ2 else R ρ μ1) →
    Ok (whileL c body n ρ μ) fun f μ' => ∃ ρ', f = .nx ρ' ∧ R ρ' μ'
  | m, 0, ρ, μ, hm, h0, R, hs => by omega
  | m, n + 1, ρ, μ, hm, h0, R, hs => by
    unfold whileL
    refine (hs m ρ μ h0).onE fun b μ1 h1 => ?_
    cases b with
    | false =>
      rw [if_neg (by simp)] at h1
      exact .pure ⟨ρ, rfl, h1⟩
    | true =>
      rw [if_pos rfl] at h1
      simp only [if_true]
      refine h1.bind fun f μ2 ⟨ρ2, m2, hf, hlt, h2⟩ => ?_
      have ih := whileL_ok (c := c) (body := body) I m2 (n := n) (by omega) h2 R hs
      rcases hf with rfl | rfl
      · exact ih
      · exact ih
  termination_by _ n => n
/-! ### a def -/
theorem run_ret {n : Nat} {m : MS} {ds : List D} {μ : Mem} {P : D → Mem → Prop} (h : Ok (m (startR n ds) μ) fun f μ' => ∃ d, f = .ret d ∧ P d μ') : Ok (runB n m ds μ) P := by
  unfold runB
  refine h.pureE fun f μ' ⟨d, e, p⟩ => ?_
  subst e
  exact .pure p
end RW
namespace RW
open PySem L2
section
variable {ρ : Rho} {μ μ1 : Mem} {d : D} {e : MD} {a b : MS} {i : Nat} {g : MG} {c : MB} {t : Bool}
theorem seq_set (h : e ρ μ = .ok d μ1) : sSeq (sSet i e) b ρ μ = b (ρ.set i (some d)) μ1 := by simp [h]
theorem seq_asg {ρ2 : Rho} {μ2 : Mem} (h : e ρ μ = .ok d μ1) (h2 : g d ρ μ1 = .ok ρ2 μ2) : sSeq (sAsg e g) b ρ μ = b ρ2 μ2 := by simp [h, h2]
theorem seq_expr (h : e ρ μ = .ok d μ1) : sSeq (sExpr e) b ρ μ = b ρ μ1 := by simp [h]
theorem seq_skip {a' : MS} (h : c ρ μ = .ok false μ1) : sSeq (sIf c a' sNil) b ρ μ = b ρ μ1 := by simp [h]
theorem if_t (h : c ρ μ = .ok true μ1) : sIf c a b ρ μ = a ρ μ1 := by simp [h]
theorem if_f (h : c ρ μ = .ok false μ1) : sIf c a b ρ μ = b ρ μ1 := by simp [h]
theorem ret_is (h : e ρ μ = .ok d μ1) : sRet e ρ μ = .ok (.ret d) μ1 := by simp [h]
theorem seq_ret {m : MS} {d : D} (h : m ρ μ = .ok (.ret d) μ1) : sSeq m b ρ μ = .ok (.ret d) μ1 := by simp [h]
theorem Ok.seq {P : Fl → Mem → Prop} (h : Ok (a ρ μ) fun f μ1 => ∃ ρ1, f = .nx ρ1 ∧ Ok (b ρ1 μ1) P) : Ok (sSeq a b ρ μ) P := by
  obtain ⟨f, μ1, e, ρ1, rfl, h2⟩ := h
  simp only [sSeq, e, Res.bind, thenS]
  exact h2
end
theorem run_is {n : Nat} {m : MS} {ds : List D} {μ μ1 : Mem} {d : D} (h : m (startR n ds) μ = .ok (.ret d) μ1) : runB n m ds μ = .ok d μ1 := by
  simp [runB, h]
theorem mul_ok {i j : Int} {μ : Mem} (h : i.natAbs < 18446744073709551616 ∨ j.natAbs < 18446744073709551616) : mulD (.int i) (.int j) μ = .ok (.int (i * j)) μ := by simp only [mulD, if_pos h]
theorem mod_ok {i j : Int} {μ : Mem} (h : 0 < j) : modD (.int i) (.int j) μ = .ok (.int (i % j)) μ := by simp only [modD, if_pos h]
theorem fdiv_ok {i j : Int} {μ : Mem} (h : 0 < j) (h2 : j < 18446744073709551616) : fdivD (.int i) (.int j) μ = .ok (.int (i / j)) μ := by simp only [fdivD, if_pos (And.intro h h2)]
theorem add_ok {i j : Int} {μ : Mem} : addD (.int i) (.int j) μ = .ok (.int (i + j)) μ := rfl
theorem mod_rng {i j : Int} (h : 0 < j) : 0 ≤ i % j ∧ i % j < j := ⟨Int.emod_nonneg _ (by omega), Int.emod_lt_of_pos _ h⟩
end RW
namespace RW
open PySem L2
theorem seq_run {ρ ρ' : Rho} {μ μ' : Mem} {m b : MS} (h : m ρ μ = .ok (.nx ρ') μ') : sSeq m b ρ μ = b ρ' μ' := by simp [h]
theorem set_is {ρ : Rho} {μ μ' : Mem} {i : Nat} {e : MD} {d : D} (h : e ρ μ = .ok d μ') : sSet i e ρ μ = .ok (.nx (ρ.set i (some d))) μ' := by simp [h]
theorem catL_ok {μ : Mem} {n m : Nat} {a b : List D} (h1 : μ[n]? = some (.lst a)) (h2 : μ[m]? = some (.lst b)) (hl : a.length + b.length ≤ 100000) : addD (.ref n) (.ref m) μ = .ok (.ref μ.length) (μ ++ [.lst (a ++ b)]) := by
  have : a.length + b.length ≤ sizeLine := by rw [sizeLine_eq]; omega
  simp [addD, h1, h2, this]
theorem ins_ok {μ : Mem} {n : Nat} {l : List D} {i : Int} {y : D} (h : μ[n]? = some (.lst l)) (h0 : 0 ≤ i) (h1 : i < 1000000) (hl : l.length < 100000) : insertM (.ref n) [.int i, y] μ = .ok .non (μ.set n (.lst (l.take i.toNat ++ [y] ++ l.drop i.toNat))) := by
  have : l.length < sizeLine ∧ 0 ≤ i ∧ i < 2 ^ 63 := by rw [sizeLine_eq]; omega
  simp only [insertM, h, if_pos this]
end RW
namespace RW
open PySem L2
theorem range1_ok {n : Nat} {μ : Mem} (h : n ≤ 1000000) : range1 [.int (n : Int)] μ = .ok (rangeItems 0 n, fun _ => True) μ := by
  have : -4611686018427387904 ≤ (n : Int) ∧ (n : Int) < 4611686018427387904 := by omega
  simp only [range1, if_pos this, Int.toNat_natCast]
theorem range2_ok {m n : Nat} {μ : Mem} (h : n ≤ 1000000) (h2 : m ≤ 1000000) : range2 [.int (m : Int), .int (n : Int)] μ = .ok (rangeItems m (n - m), fun _ => True) μ := by
  have : -4611686018427387904 ≤ (m : Int) ∧ (m : Int) < 4611686018427387904 ∧ -4611686018427387904 ≤ (n : Int) ∧ (n : Int) < 4611686018427387904 := by omega
  have e : ((n : Int) - (m : Int)).toNat = n - m := by omega
  simp only [range2, if_pos this, e]
end RW
namespace RW
open PySem L2
theorem for_run {it : MIt} {g : MG} {body : MS} {ρ ρ' : Rho} {μ μ1 μ' : Mem} {items : List D} {chk : Mem → Prop} (h1 : it ρ μ = .ok (items, chk) μ1) (h2 : forL chk g body items ρ μ1 = .ok (.nx ρ') μ') : sFor it g body ρ μ = .ok (.nx ρ') μ' := by
  simp only [sFor, h1, onE]; exact h2
theorem ir1 {ρ : Rho} {μ : Mem} {e : MD} {n : Nat} (h : e ρ μ = .ok (.int (n : Int)) μ) (hn : n ≤ 1000000) : iRange1 (mCons e mNil) ρ μ = .ok (rangeItems 0 n, fun _ => True) μ := by
  simp only [iRange1, mCons, mNil, h, Res.bind, range1_ok hn]
theorem ir2 {ρ : Rho} {μ : Mem} {e f : MD} {m n : Nat} (h : e ρ μ = .ok (.int (m : Int)) μ) (h' : f ρ μ = .ok (.int (n : Int)) μ) (hn : n ≤ 1000000) (hm : m ≤ 1000000) : iRange2 (mCons e (mCons f mNil)) ρ μ = .ok (rangeItems m (n - m), fun _ => True) μ := by
  simp only [iRange2, mCons, mNil, h, h', Res.bind, range2_ok hn hm]
end RW

/-! SEq: more plain laws of mirrors. -/
namespace RW
open PySem L2
theorem eqI {a b : Int} {μ : Mem} : eqD (.int a) (.int b) μ = .ok (.bl (decide (a = b))) μ := by
  have h1 : SeqAt.shaped (PyData.int a) = true := by rfl
  have h2 : SeqAt.shaped (PyData.int b) = true := by rfl
  simp only [eqD, D.py?, h1, h2, Bool.and_self, if_true, PyData.eqv]
  congr 2
theorem neI {a b : Int} {μ : Mem} : neD (.int a) (.int b) μ = .ok (.bl (!decide (a = b))) μ := by
  have h1 : SeqAt.shaped (PyData.int a) = true := by rfl
  have h2 : SeqAt.shaped (PyData.int b) = true := by rfl
  simp only [neD, D.py?, h1, h2, Bool.and_self, if_true, PyData.eqv]
  congr 2
theorem comp_map {chk : Mem → Prop} {te : MD} {ρ0 : Rho} {i : Nat} (xs : List Int) (f : Int → Int) (μ : Mem) (hc : chk μ) (ht : ∀ x ∈ xs, te (ρ0.set i (some (.int x))) μ = .ok (.int (f x)) μ) (hl : xs.length < 100000) :
    compL chk (gN i) mYes te ρ0 (xs.map D.int) [] μ = .ok ((xs.map f).map D.int) μ := by
  have key := compL_ok (chk := chk) (g := gN i) (tt := mYes) (te := te) (ρ0 := ρ0) (xs.map D.int) (fun j acc μ' => j ≤ xs.length ∧ acc = ((xs.take j).map f).map D.int ∧ μ' = μ) 0 (acc := []) (μ := μ) ⟨Nat.zero_le _, by simp, rfl⟩
    (fun _ _ _ ⟨_, _, e⟩ => e ▸ hc) (fun j d acc μ' e ⟨hj, ea, em⟩ => by
      simp only [Nat.zero_add] at hj ea em ⊢
      subst em
      rw [List.getElem?_map] at e
      obtain ⟨x, ex, rfl⟩ := Option.map_eq_some_iff.mp e
      have hj2 := (List.getElem?_eq_some_iff.mp ex).1
      refine .mk (μ := μ') rfl (.mk (μ := μ') rfl ?_)
      rw [if_pos rfl]
      refine ⟨by rw [ea, List.length_map, List.length_map, List.length_take, sizeLine_eq]; omega, .mk (ht x (List.mem_of_getElem? ex)) ⟨by omega, ?_, rfl⟩⟩
      rw [ea, List.take_add_one, ex]; simp)
  rw [List.length_map, Nat.zero_add] at key
  obtain ⟨l, μ', e, _, rfl, rfl⟩ := key
  rw [e, List.take_length]
theorem comp_is {it : MIt} {g : MG} {tt : MB} {te : MD} {own : List Nat} {ρ : Rho} {μ μ1 μ2 : Mem} {items l : List D} {chk : Mem → Prop} (h1 : it ρ μ = .ok (items, chk) μ1) (h2 : compL chk g tt te (wipeR ρ own) items [] μ1 = .ok l μ2) :
    mComp it g tt te own ρ μ = .ok (.ref μ2.length) (μ2 ++ [.lst l]) := by simp only [mComp, h1, h2, Res.bind]
theorem seq_lst {a : MD} {ρ : Rho} {μ μ1 : Mem} {n : Nat} {l : List D} (h : a ρ μ = .ok (.ref n) μ1) (e : μ1[n]? = some (.lst l)) : iSeq a ρ μ = .ok (l, fun μ' => μ'[n]? = some (.lst l)) μ1 := by simp only [iSeq, h, Res.bind, itSeq, e]
end RW

/-! SEr: pairs stored at once, chains, lists turned about, keys as a list, sorting of data. -/
namespace RW
open PySem L2
section
variable {X : Cx} {W : WX} {a b c e : Expr} {ma mb mc me : MD} {pos : Pos}
/-! a, b = .., .. -/
@[simp] def sPar (i j : Nat) (a : ML) : MS := fun ρ μ => onE (a ρ μ) ρ fun ds μ1 => match ds with
  | [x, y] => .ok (.nx ((ρ.set i (some x)).set j (some y))) μ1
  | _ => .stuck
theorem ss_par {i j : Nat} {x y : Str} {ms : ML} {px py pt pt2 : Pos} {kt k2} (hc : X.calm = true) (hN : X.N.Nodup) (hi : X.N[i]? = some x) (hj : X.N[j]? = some y) (hij : i ≠ j)
    (hx : X.env.scope.names.lookup x = some .local) (hy : X.env.scope.names.lookup y = some .local) (ha : SA X W [a, b] ms)
    (hw : swappedStores [.Tuple [.Name x px, .Name y py] kt pt] (.Tuple [a, b] k2 pt2) X.env = pure (some [x, y]))
    (hs : swapsWithSole [.Tuple [.Name x px, .Name y py] kt pt] (.Tuple [a, b] k2 pt2) pos.line X.env = pure false := by rfl) :
    SS X W (.Assign [.Tuple [.Name x px, .Name y py] kt pt] (.Tuple [a, b] k2 pt2) pos) (sPar i j ms) :=
  PS.mono (ps_par hc hN hi hj hij hx hy ha hw hs) fun D σ H ⟨ρ, μ, ι, env, rel, h⟩ =>
    ⟨ρ, μ, ι, env, rel, (PostS.onE h env ⟨μ, rel⟩).imp fun ι1 H1 μ1 ds _ _ ⟨g1, r1, env1, h1⟩ vs rvs => by
      match ds, rvs, h1 with
      | [x, y], rvs, h1 =>
        obtain ⟨v, w, rfl, rv, rw'⟩ := rvs.two
        exact ⟨v, w, rfl, h1 ι1 H1 .refl r1 _ ((env1.set i rv).set j rw')⟩
      | [], _, h1 => exact h1.elim
      | [_], _, h1 => exact h1.elim
      | _ :: _ :: _ :: _, _, h1 => exact h1.elim⟩
@[simp] def sPar3 (i j l : Nat) (a : ML) : MS := fun ρ μ => onE (a ρ μ) ρ fun ds μ1 => match ds with
  | [x, y, z] => .ok (.nx (((ρ.set i (some x)).set j (some y)).set l (some z))) μ1
  | _ => .stuck
theorem ss_par3 {i j l : Nat} {x y z : Str} {ms : ML} {px py pz pt pt2 : Pos} {kt k2} (hc : X.calm = true) (hN : X.N.Nodup) (hi : X.N[i]? = some x) (hj : X.N[j]? = some y) (hl : X.N[l]? = some z) (hij : i ≠ j) (hil : i ≠ l) (hjl : j ≠ l)
    (hx : X.env.scope.names.lookup x = some .local) (hy : X.env.scope.names.lookup y = some .local) (hz : X.env.scope.names.lookup z = some .local) (ha : SA X W [a, b, c] ms)
    (hw : swappedStores [.Tuple [.Name x px, .Name y py, .Name z pz] kt pt] (.Tuple [a, b, c] k2 pt2) X.env = pure (some [x, y, z]))
    (hs : swapsWithSole [.Tuple [.Name x px, .Name y py, .Name z pz] kt pt] (.Tuple [a, b, c] k2 pt2) pos.line X.env = pure false := by rfl) :
    SS X W (.Assign [.Tuple [.Name x px, .Name y py, .Name z pz] kt pt] (.Tuple [a, b, c] k2 pt2) pos) (sPar3 i j l ms) :=
  PS.mono (ps_par3 hc hN hi hj hl hij hil hjl hx hy hz ha hw hs) fun D σ H ⟨ρ, μ, ι, env, rel, h⟩ =>
    ⟨ρ, μ, ι, env, rel, (PostS.onE h env ⟨μ, rel⟩).imp fun ι1 H1 μ1 ds _ _ ⟨g1, r1, env1, h1⟩ vs rvs => by
      match ds, rvs, h1 with
      | [x, y, z], rvs, h1 =>
        obtain ⟨u, t, rfl, ru, rt⟩ := rvs.cons_inv
        obtain ⟨v, w, rfl, rv, rw'⟩ := rt.two
        exact ⟨u, v, w, rfl, h1 ι1 H1 .refl r1 _ (((env1.set i ru).set j rv).set l rw')⟩
      | [], _, h1 => exact h1.elim
      | [_], _, h1 => exact h1.elim
      | [_, _], _, h1 => exact h1.elim
      | _ :: _ :: _ :: _ :: _, _, h1 => exact h1.elim⟩
/-! a < b < c -/
@[simp] def mChain (f f' : D → D → Mem → Res D) (a b c : MD) : MD := fun ρ μ => (a ρ μ).bind fun x μ1 => (b ρ μ1).bind fun y μ2 => (f x y μ2).bind fun z μ3 => match z with
  | .bl k => if k = true then (c ρ μ3).bind fun w μ4 => f' y w μ4 else .ok (.bl false) μ3
  | _ => .stuck
theorem chain_red {r r' : R2} {f f' : D → D → Mem → Res D} (hf : Snd2 (gOf X) r f) (hf' : Snd2 (gOf X) r' f') {σ : St} {H : Hp} {Q : VK} (h : tE (gOf X) W (mChain f f' ma mb mc) σ H Q) :
    tChain r r' (tE (gOf X) W ma) (tE (gOf X) W mb) (tE (gOf X) W mc) σ H Q := by
  obtain ⟨ρ, μ, ι, env, rel, h⟩ := h
  refine ⟨ρ, μ, ι, env, rel, (Post.bind h).imp fun ι1 H1 μ1 x _ _ ⟨g1, r1, h1⟩ v rv => ?_⟩
  refine ⟨ρ, μ1, ι1, env.ext (g1.ext rel), r1, (Post.bind h1).imp fun ι2 H2 μ2 y _ _ ⟨g2, r2, h2⟩ u ru => ?_⟩
  have env2 := (env.ext (g1.ext rel)).ext (g2.ext r1)
  refine hf ι2 H2 μ2 x y v u W σ _ r2 (rv.ext (g2.ext r1)) ru ((Post.bind h2).imp fun ι3 H3 μ3 z _ _ ⟨g3, r3, h3⟩ w rw' => ?_)
  cases z with
  | bl k =>
    refine ⟨k, rw'.bl, ?_⟩
    cases k with
    | true =>
      refine iteT ⟨ρ, μ3, ι3, env2.ext (g3.ext r2), r3, (Post.bind h3).imp fun ι4 H4 μ4 t _ _ ⟨g4, r4, h4⟩ q rq => ?_⟩
      exact hf' ι4 H4 μ4 y t u q W σ Q r4 ((ru.ext (g3.ext r2)).ext (g4.ext r3)) rq h4
    | false => exact iteF (h3 ι3 H3 .refl r3 _ (rep_bl _))
  | _ => exact h3.elim
theorem se_chain {op op' : CmpOp} {r r' : R2} {f f' : D → D → Mem → Res D} (ho : OpR X (compareOp op) r) (ho' : OpR X (compareOp op') r') (hf : Snd2 (gOf X) r f) (hf' : Snd2 (gOf X) r' f') (ha : SE X W a ma) (hb : SE X W b mb) (hc : SE X W c mc)
    (hm : lastMarks [op, op'] [b, c] = false := by rfl) : SE X W (.Compare a [op, op'] [b, c] pos) (mChain f f' ma mb mc) :=
  PE.mono (pe_chain ho ho' ha hb hc hm) fun σ H Q h => chain_red hf hf' h
theorem st_chain {op op' : CmpOp} {r r' : R2} {f f' : D → D → Mem → Res D} (ho : OpR X (compareOp op) r) (ho' : OpR X (compareOp op') r') (hf : Snd2 (gOf X) r f) (hf' : Snd2 (gOf X) r' f') (ha : SE X W a ma) (hb : SE X W b mb) (hc : SE X W c mc)
    (hm : lastMarks [op, op'] [b, c] = false := by rfl) : ST X W (.Compare a [op, op'] [b, c] pos) (mTest (mChain f f' ma mb mc)) :=
  PT.mono (pt_chain ho ho' ha hb hc hm) fun σ H Q h => test_red (mChain f f' ma mb mc) (fun σ H Q h => chain_red hf hf' h) h
/-! l[::-1], reversed(l) -/
/-- a list's items -/
def lstAt : D → Mem → Option (List D)
  | .frl l, _ => some l
  | .ref n, μ => (match μ[n]? with
    | some (.lst l) => some l
    | _ => none)
  | _, _ => none
theorem lstAt_is {G : Gd} {ι : List Addr} {H : Hp} {μ : Mem} {d : D} {v : V} {l : List D} (r : Rel G ι H μ) (rv : Rep G ι H d v) (e : lstAt d μ = some l) : ∃ p vs, v = .ref p ∧ SqL G.K H p vs ∧ Reps G ι H l vs := by
  cases d with
  | frl l' => cases e; obtain ⟨p, vs, rfl, h1, h2⟩ := rv.frl; exact ⟨p, vs, rfl, FrL.sq _ _ h1, h2⟩
  | ref n =>
    simp only [lstAt] at e
    split at e
    · rename_i l' em
      cases e
      obtain ⟨p, vs, rfl, h0, h1, h2⟩ := r.lst em rv
      exact ⟨p, vs, rfl, .of h1, h2⟩
    · cases e
  | _ => cases e
def revD (x : D) (μ : Mem) : Res D := match lstAt x μ with
  | some l => .ok (.ref μ.length) (μ ++ [.lst l.reverse])
  | none => .stuck
theorem se_rev {k : Nat} {p1 p2 p3 : Pos} (he : SE X W e me) : SE X W (.Subscript e (.Slice none none (some (.UnaryOp .USub (.Constant (.int 1) k p1) p2)) p3) pos) (mUn revD me) :=
  PE.mono (pe_revL he) fun σ H Q ⟨ρ, μ, ι, env, rel, h⟩ =>
    ⟨ρ, μ, ι, env, rel, (Post.bind h).imp fun ι1 H1 μ1 x _ _ ⟨g1, r1, h1⟩ v rv => by
      simp only [revD] at h1
      split at h1
      · rename_i l el
        obtain ⟨p, vs, rfl, h2, h3⟩ := lstAt_is r1 rv el
        exact ⟨p, vs, rfl, h2, new_lst r1 h3.reverse h1⟩
      · exact h1.elim⟩
@[simp] def iRevD (a : ML) : MIt := fun ρ μ => (a ρ μ).bind fun xs μ1 => match xs with
  | [x] => (itSeq x μ1).bind fun p μ2 => .ok (p.1.reverse, p.2) μ2
  | _ => .stuck
theorem it_revL {G : Gd} {ι : List Addr} {H : Hp} {a : Addr} {l : List D} {chk : Mem → Prop} (base : ItOk G ι H (Itl G.K a) l chk) : ItOk G ι H (Itv G.K a l.length) l.reverse chk := by
  have ix : ∀ {i : Nat} {d : D}, l.reverse[i]? = some d → i < l.length ∧ l[l.length - 1 - i]? = some d := fun {i d} e => by
    have hi := (List.getElem?_eq_some_iff.mp e).1
    rw [List.length_reverse] at hi
    rw [List.getElem?_reverse hi] at e
    exact ⟨hi, e⟩
  refine ⟨fun i d ι' H' μ' e g r c => ?_, fun i d ι' H' μ' v H2 e g r c ⟨e1, e2⟩ => ?_, fun ι' H' μ' g r c => by show l.length ≤ l.reverse.length; rw [List.length_reverse]; exact Nat.le_refl _⟩
  · obtain ⟨hi, e⟩ := ix e
    obtain ⟨xs, x, h1, h2⟩ := base.go _ d ι' H' μ' e g r c
    exact ⟨hi, xs, x, h1, h2⟩
  · subst e1
    obtain ⟨hi, e⟩ := ix e
    exact base.yld _ d ι' H2 μ' v H2 e g r c ⟨rfl, e2⟩
theorem it_revT {G : Gd} {ι : List Addr} {H : Hp} {a : Addr} {l : List D} {chk : Mem → Prop} (base : ItOk G ι H (Itt G.K a) l chk) : ItOk G ι H (RT.ItvT G.K a l.length) l.reverse chk := by
  have ix : ∀ {i : Nat} {d : D}, l.reverse[i]? = some d → i < l.length ∧ l[l.length - 1 - i]? = some d := fun {i d} e => by
    have hi := (List.getElem?_eq_some_iff.mp e).1
    rw [List.length_reverse] at hi
    rw [List.getElem?_reverse hi] at e
    exact ⟨hi, e⟩
  refine ⟨fun i d ι' H' μ' e g r c => ?_, fun i d ι' H' μ' v H2 e g r c ⟨e1, e2⟩ => ?_, fun ι' H' μ' g r c => by show l.length ≤ l.reverse.length; rw [List.length_reverse]; exact Nat.le_refl _⟩
  · obtain ⟨hi, e⟩ := ix e
    obtain ⟨xs, x, h1, h2⟩ := base.go _ d ι' H' μ' e g r c
    exact ⟨hi, xs, x, h1, h2⟩
  · subst e1
    obtain ⟨hi, e⟩ := ix e
    exact base.yld _ d ι' H2 μ' v H2 e g r c ⟨rfl, e2⟩
theorem si_rev {tg : Expr} {p : Pos} (hg : Gl X "reversed") (hm : X.mg "reversed" = none) (ha : SE X W a ma) (hs : starEach [a] X.env = (false, eval a X.env) :: starEach [] X.env := by rfl) : SI X W tg (.Call (.Name "reversed" p) [a] [] pos) (iRevD (mCons ma mNil)) :=
  PI.mono (RT.pi_revA hg hm ha hs) fun σ H R ⟨ρ, μ, ι, env, rel, h⟩ => by
    refine ⟨ρ, μ, ι, env, rel, ?_⟩
    simp only [iRevD, mCons, mNil] at h
    cases hm : ma ρ μ with
    | stuck => rw [hm] at h; exact h.elim
    | exc c fs m => rw [hm] at h; exact h
    | ok d μ1 =>
      rw [hm] at h
      intro ι1 H1 g1 r1 v rv
      simp only [Res.bind] at h
      cases d with
      | tup l =>
        obtain ⟨p, vs, rfl, h1, h2⟩ := rv.tup
        have q := h ι1 H1 g1 r1 (RT.ItvT X.K p l.length) (it_revT (it_tup r1 h1 h2))
        rw [← h2.length] at q
        exact ⟨p, vs, rfl, .inr ⟨h1, q⟩⟩
      | frl l =>
        obtain ⟨p, vs, rfl, h1, h2⟩ := rv.frl
        have q := h ι1 H1 g1 r1 (Itv X.K p l.length) (it_revL (it_frl r1 h1 h2))
        rw [← h2.length] at q
        exact ⟨p, vs, rfl, .inl ⟨FrL.sq _ _ h1, q⟩⟩
      | ref n =>
        cases em : μ1[n]? with
        | none => simp only [itSeq, em] at h; exact h.elim
        | some cc =>
          simp only [itSeq, em] at h
          cases cc with
          | lst l =>
            obtain ⟨p, vs, rfl, h0, h1, h2⟩ := r1.lst em rv
            have q := h ι1 H1 g1 r1 (Itv X.K p l.length) (it_revL (it_lst h0))
            rw [← h2.length] at q
            exact ⟨p, vs, rfl, .inl ⟨.of h1, q⟩⟩
          | _ => exact h.elim
      | _ => exact h.elim
end
/-! ### list(d) of a dict -/
def rListX (G : Gd) : List V → Hp → VK → Prop := fun xs H Q => ∃ d ι l ks, xs = [V.ref d] ∧ TdIs G ι H d l ks ∧ ∀ p, H p = none → Q (.ref p) (upd H p (.lst (ks.map fun x => V.ref x.2.1)))
section
variable {X : Cx}
theorem call_listX (hc : X.calm = true) : CallR X (.type "list") (rListX (gOf X)) := by
  intro pins s σ H xs us Q I r h
  obtain ⟨d, ι, l, ks, rfl, td, q⟩ := h
  obtain ⟨u, rfl, rx⟩ := r.one
  cases rx
  obtain ⟨o, es, ep, ho, hx, hdt, he, _, hn⟩ := td.dictOf I
  obtain ⟨_, _, _, z, hs⟩ := td
  have l1 : es.size = ks.length := by
    have := congrArg List.length he
    simpa using this
  refine PySem.W.kdl_call (kdl_raw hs hx hdt) (I.ok.hd hc) ho (by omega) fun h' tk acc' c' kp e it => ?_
  have eb : acc'.toList = (ks.map fun x => x.2.1).map Value.ref := by
    have hl : acc'.toList.length = ks.length := by rw [Array.length_toList, it.1]; exact l1
    apply List.ext_getElem?
    intro j
    rw [List.map_map, List.getElem?_map]
    cases hj : acc'.toList[j]? with
    | none =>
      have h1 := List.getElem?_eq_none_iff.mp hj
      rw [List.getElem?_eq_none (by omega)]
      all_goals rfl
    | some v =>
      obtain ⟨en, hen, hv⟩ := it.2 j v (by rw [← Array.getElem?_toList]; exact hj)
      have qe := congrArg (fun l => l[j]?) he
      simp only [List.getElem?_map, Array.getElem?_toList] at qe
      rw [hen] at qe
      cases hb : ks[j]? with
      | none => rw [hb] at qe; cases qe
      | some b =>
        rw [hb] at qe
        have e2 : en = entryOfKey (nestedKind X.prog X.w) b := Option.some.inj qe
        rw [hv, e2]
        all_goals rfl
  have rv : Vals ((ks.map fun x => x.2.1).map V.ref) acc'.toList := by rw [eb]; exact vals_refs _
  have em : (ks.map fun x => V.ref x.2.1) = (ks.map fun x => x.2.1).map V.ref := by rw [List.map_map]; rfl
  have hz : (ks.map fun x => V.ref x.2.1).length ≤ sizeLine := by rw [List.length_map]; omega
  refine ⟨.ref s.heap.objs.size, _, I.laid (t' := tk) (o := .lst (ks.map fun x => V.ref x.2.1)) kp (Nat.le_refl _) ?_, rfl, q _ (I.hok.fresh (Nat.le_refl _))⟩
  exact ⟨hz, acc'.toList, c', em ▸ rv, by rw [Array.toArray_toList]; exact e⟩
end
/-- a dict's keys -/
def keysAt : D → Mem → Option (List D)
  | .ref n, μ => (match μ[n]? with
    | some (.tdic l) => some (l.map (·.1))
    | some (.lck true l) => some (l.map (·.1))
    | some (.dic l) => some (l.map (·.1))
    | _ => none)
  | _, _ => none
def listA : List D → Mem → Res D := fun xs μ => match listL xs μ with
  | .stuck => (match xs with
    | [x] => (match keysAt x μ with
      | some l => .ok (.ref μ.length) (μ ++ [.lst l])
      | none => .stuck)
    | _ => .stuck)
  | r => r
def rListA (G : Gd) : List V → Hp → VK → Prop := fun xs H Q => (∃ p ys, xs = [.ref p] ∧ (SqL G.K H p ys ∨ SqT G.K H p ys) ∧ ∀ l, H l = none → Q (.ref l) (upd H l (.lst ys))) ∨ rListX G xs H Q ∨ rListD xs H Q
theorem call_listA {X : Cx} (hc : X.calm = true) : CallR X (.type "list") (rListA (gOf X)) := CallR.or call_list_of (CallR.or (call_listX hc) (call_list_dK hc))
theorem reps_refs {G : Gd} {ι : List Addr} {H : Hp} : ∀ {l : List (D × D)} {ks : List (NestedKey × Addr × Value)}, Paired (RepT G ι H) l ks → Reps G ι H (l.map (·.1)) (ks.map fun x => V.ref x.2.1)
  | _, _, .nil => .nil
  | _, _, .cons h t => .cons h.2.2.1 (reps_refs t)
theorem reps_keysK {G : Gd} {ι : List Addr} {H : Hp} : ∀ {l : List (D × D)} {ks : List (Key × V)}, Paired (RepP G ι H) l ks → Reps G ι H (l.map (·.1)) (ks.map fun x => kV x.1)
  | _, _, .nil => .nil
  | (d, _) :: _, (k, _) :: _, .cons h t => by
    refine .cons ?_ (reps_keysK t)
    have h1 : d.key? = some k := h.1
    cases d with
    | int i => cases h1; exact rep_int _
    | str i => cases h1; exact rep_str _
    | _ => cases h1
theorem snd_listA {G : Gd} : SndL G (rListA G) listA := fun ι H μ xs vs W σ Q r rxs h => by
  unfold listA at h
  cases hq : listL xs μ with
  | ok d m => rw [hq] at h; exact .inl (snd_listL ι H μ xs vs W σ Q r rxs (by rw [hq]; exact h))
  | exc c fs m => rw [hq] at h; exact .inl (snd_listL ι H μ xs vs W σ Q r rxs (by rw [hq]; exact h))
  | stuck =>
    rw [hq] at h
    match xs, rxs, h with
    | [x], rxs, h =>
      cases el : keysAt x μ with
      | none => simp only [el] at h; exact h.elim
      | some l =>
        simp only [el] at h
        obtain ⟨v, rfl, rv⟩ := rxs.one
        cases x with
        | ref n =>
          obtain ⟨a, h0, rfl⟩ := rv.ref
          simp only [keysAt] at el
          split at el
          · rename_i l' em
            cases el
            obtain ⟨ks, h1, h2, h3, h4, h5⟩ := r.cell n _ a em h0
            exact .inr (.inl ⟨a, ι, l', ks, rfl, ⟨.inl h1, h2, h3, h4, h5⟩, new_lst r (reps_refs h2) h⟩)
          · rename_i l' em
            cases el
            obtain ⟨od, ks, h1, h2, h3, h4, h5⟩ := r.cell n _ a em h0
            exact .inr (.inl ⟨a, ι, l', ks, rfl, ⟨.inr ⟨od, h1⟩, h2, h3, h4, h5⟩, new_lst r (reps_refs h2) h⟩)
          · rename_i l' em
            cases el
            obtain ⟨ks, h1, h2⟩ := r.cell n _ a em h0
            exact .inr (.inr ⟨a, ks, rfl, h1, new_lst r (reps_keysK h2) h⟩)
          · cases el
        | _ => cases el
    | [], _, h => exact h.elim
    | _ :: _ :: _, _, h => exact h.elim
/-! ### sorted(l) of data -/
def encD (μ : Mem) (d : D) : PyData := (D.py? 8 μ d).getD .none
def isTupD : PyData → Bool
  | .tuple (_ :: _) => true
  | _ => false
def isPlD : PyData → Bool
  | .none => false
  | .tuple _ => false
  | _ => true
def sortOk (μ : Mem) (l : List D) : Bool := l.all (fun d => (D.py? 8 μ d).isSome && decide ((encD μ d).depth ≤ 32)) && (l.all fun d => l.all fun e => PySem.W.alike (encD μ d) (encD μ e)) && (l.all (fun d => isTupD (encD μ d)) || l.all fun d => isPlD (encD μ d)) && decide (l.length ≤ 1000000)
def sortD (μ : Mem) (l : List D) : List D := l.mergeSort (PySem.W.dataLe false (encD μ))
def sortedD : List D → Mem → Res D
  | [x], μ => (match lstAt x μ with
    | some l => if sortOk μ l = true then .ok (.ref μ.length) (μ ++ [.lst (sortD μ l)]) else .stuck
    | none => .stuck)
  | _, _ => .stuck
def sortedA : List D → Mem → Res D := fun xs μ => match sortedL xs μ with
  | .stuck => sortedD xs μ
  | r => r
def rSortedD (G : Gd) : List V → Hp → VK → Prop := fun xs H Q => ∃ (a : Addr) (vs : List V) (l : List D) (ι : List Addr) (μ : Mem), xs = [.ref a] ∧ SqL G.K H a vs ∧ Rel G ι H μ ∧ Reps G ι H l vs ∧ sortOk μ l = true ∧
  ∀ vs' p, Reps G ι H (sortD μ l) vs' → H p = none → Q (.ref p) (upd H p (.lst vs'))
theorem each_of_reps {G : Gd} {ι : List Addr} {H : Hp} : ∀ {l : List D} {vs : List V} {us : List Value}, Reps G ι H l vs → Vals vs us → PySem.W.EachIs (fun u d => ∃ v, Rep G ι H d v ∧ RelV v u) us l
  | [], _, _, h, r => by rw [h.nil_inv] at r; cases r; exact .nil
  | d :: l, _, _, h, r => by
    obtain ⟨v, w, rfl, h1, h2⟩ := h.cons_inv
    cases r with
    | cons r1 r2 => exact .cons ⟨v, h1, r1⟩ (each_of_reps h2 r2)
theorem reps_of_each {G : Gd} {ι : List Addr} {H : Hp} : ∀ {l : List D} {us : List Value}, PySem.W.EachIs (fun u d => ∃ v, Rep G ι H d v ∧ RelV v u) us l → ∃ vs, Reps G ι H l vs ∧ Vals vs us
  | _, _, .nil => ⟨[], .nil, .nil⟩
  | _, _, .cons ⟨v, h1, r1⟩ t => by
    obtain ⟨vs, h2, r2⟩ := reps_of_each t
    exact ⟨v :: vs, .cons h1 h2, .cons r1 r2⟩
theorem cr_sortedD {X : Cx} (hu : X.A.units + 64 < cLine) : CallR X (.builtin "sorted") (rSortedD (gOf X)) := by
  intro pins s σ H xs us Q I r h
  obtain ⟨a, vs, l, ι, μ, rfl, hs, rel, reps, ok, q⟩ := h
  obtain ⟨its, rv, hl, hz⟩ := I.list hs
  rw [Vals.ref1 r]
  simp only [sortOk, Bool.and_eq_true, List.all_eq_true, decide_eq_true_eq, Bool.or_eq_true] at ok
  obtain ⟨⟨⟨o1, o2⟩, o3⟩, o4⟩ := ok
  have hll : l.length = its.length := by rw [← reps.length, rv.length]
  have er : PySem.W.EachIs (fun u d => ∃ as, Reads s.heap u (encD μ d) as) its l := by
    have key : ∀ {l : List D} {us : List Value}, (∀ d ∈ l, (D.py? 8 μ d).isSome = true) → PySem.W.EachIs (fun u d => ∃ v, Rep (gOf X) ι H d v ∧ RelV v u) us l → PySem.W.EachIs (fun u d => ∃ as, Reads s.heap u (encD μ d) as) us l := by
      intro l us hh e
      induction e with
      | nil => exact .nil
      | cons h1 t ih =>
        obtain ⟨v, h1, r1⟩ := h1
        refine .cons ?_ (ih fun d hd => hh d (List.mem_cons_of_mem _ hd))
        obtain ⟨p, hp⟩ := Option.isSome_iff_exists.mp (hh _ List.mem_cons_self)
        unfold encD
        rw [hp]
        exact Dp.reads I p v _ (dp_of rel 8 _ v p h1 hp) r1
    exact key (fun d hd => (o1 d hd).1) (each_of_reps reps rv)
  refine PySem.W.sorted_data (enc := encD μ) hl.isList (each_of_reps reps rv) er ?_ ?_ (by rw [sizeLine_eq]; omega) (fun b hb => ?_) fun out h1 h2 => ?_
  · intro d hd d' hd'
    obtain ⟨b, hb, rfl⟩ := List.mem_map.mp hd
    obtain ⟨b', hb', rfl⟩ := List.mem_map.mp hd'
    exact o2 b hb b' hb'
  · rcases o3 with o3 | o3
    · refine .inl fun d hd => ?_
      obtain ⟨b, hb, rfl⟩ := List.mem_map.mp hd
      have := o3 b hb
      unfold isTupD at this
      split at this
      · rename_i x r e; exact ⟨x, r, e⟩
      · cases this
    · refine .inr fun d hd => ?_
      obtain ⟨b, hb, rfl⟩ := List.mem_map.mp hd
      have := o3 b hb
      refine ⟨fun e => ?_, fun xs e => ?_⟩ <;> (rw [e] at this; cases this)
  · have := (o1 b hb).2
    omega
  · obtain ⟨vs', h3, h4⟩ := reps_of_each h2
    obtain ⟨ep, he'⟩ := PyProof.Rows.sortedAll_at s.heap its out.toArray
    have hlen : vs'.length ≤ sizeLine := by
      rw [h4.length, h1, sizeLine_eq]; omega
    exact ⟨.ref _, upd H (s.heap.objs.size + 1) (.lst vs'), I.laid (t' := s.toks) (fun _ _ => PyProof.Rows.sortedAll_old) (Nat.le_succ _) ⟨hlen, out, ep, h4, he'⟩, rfl, q _ _ h3 (I.hok.fresh (Nat.le_succ _))⟩
def rSortedB (G : Gd) : List V → Hp → VK → Prop := fun xs H Q => rSortedA G xs H Q ∨ rSortedD G xs H Q
theorem cr_sortedB {X : Cx} (hc : X.calm = true) (hu : X.A.units + 64 < cLine) : CallR X (.builtin "sorted") (rSortedB (gOf X)) := CallR.or (cr_sortedA hc) (cr_sortedD hu)
theorem snd_sortedB {G : Gd} : SndL G (rSortedB G) sortedA := fun ι H μ xs vs W σ Q r rxs h => by
  unfold sortedA at h
  cases hq : sortedL xs μ with
  | ok d m => rw [hq] at h; exact .inl (snd_sorted ι H μ xs vs W σ Q r rxs (by rw [hq]; exact h))
  | exc c fs m => rw [hq] at h; exact .inl (snd_sorted ι H μ xs vs W σ Q r rxs (by rw [hq]; exact h))
  | stuck =>
    rw [hq] at h
    match xs, rxs, h with
    | [x], rxs, h =>
      simp only [sortedD] at h
      split at h
      · rename_i l el
        split at h
        · rename_i ok
          obtain ⟨v, rfl, rv⟩ := rxs.one
          obtain ⟨p, vs, rfl, h1, h2⟩ := lstAt_is r rv el
          exact .inr ⟨p, vs, l, ι, μ, rfl, h1, r, h2, ok, fun vs' q h3 hq => new_lst r h3 h q hq⟩
        · exact h.elim
      · exact h.elim
    | [], _, h => exact h.elim
    | _ :: _ :: _, _, h => exact h.elim
end RW

/-! SEs: plain laws of sorting and of other mirrors. -/
namespace RW
open PySem L2
/-! loops whose body may return -/
theorem forL_ret {chk : Mem → Prop} {g : MG} {body : MS} {P : D → Mem → Prop} : ∀ (items : List D) (I : Nat → Rho → Mem → Prop) (k : Nat) {ρ : Rho} {μ : Mem}, I k ρ μ →
    (∀ i ρ μ, I i ρ μ → chk μ) → (∀ i d ρ μ, items[i]? = some d → I (k + i) ρ μ → Ok (g d ρ μ) fun ρ1 μ1 => Ok (body ρ1 μ1) fun f μ2 => (∃ ρ2, (f = .nx ρ2 ∨ f = .cnt ρ2) ∧ I (k + i + 1) ρ2 μ2) ∨ ∃ d, f = .ret d ∧ P d μ2) →
    Ok (forL chk g body items ρ μ) fun f μ' => (∃ ρ', f = .nx ρ' ∧ I (k + items.length) ρ' μ') ∨ ∃ d, f = .ret d ∧ P d μ'
  | [], I, k, ρ, μ, h0, hc, hs => by
    unfold forL
    rw [if_pos (hc _ _ _ h0)]
    exact .pure (.inl ⟨ρ, rfl, h0⟩)
  | d :: ds, I, k, ρ, μ, h0, hc, hs => by
    unfold forL
    rw [if_pos (hc _ _ _ h0)]
    refine (hs 0 d ρ μ rfl h0).pureE fun ρ1 μ1 h1 => h1.bind fun f μ2 h2 => ?_
    rcases h2 with ⟨ρ2, hf, h2⟩ | ⟨d, rfl, h2⟩
    · have ih := forL_ret (P := P) ds I (k + 1) h2 hc fun i d ρ μ e h => by
        have := hs (i + 1) d ρ μ (by simpa using e) (by rw [show k + (i + 1) = k + 1 + i by omega]; exact h)
        rw [show k + (i + 1) + 1 = k + 1 + i + 1 by omega] at this
        exact this
      rw [show k + 1 + ds.length = k + (d :: ds).length by simp; omega] at ih
      rcases hf with rfl | rfl
      · exact ih
      · exact ih
    · exact .pure (.inr ⟨d, rfl, h2⟩)
theorem whileL_ret {c : MB} {body : MS} (I : Nat → Rho → Mem → Prop) : ∀ (m : Nat) {n : Nat} {ρ : Rho} {μ : Mem}, m < n → I m ρ μ → (R : Rho → Mem → Prop) → (P : D → Mem → Prop) →
    (∀ m ρ μ, I m ρ μ → Ok (c ρ μ) fun b μ1 => if b = true then Ok (body ρ μ1) fun f μ2 => (∃ ρ2 m2, (f = .nx ρ2 ∨ f = .cnt ρ2) ∧ m2 < m ∧ I m2 ρ2 μ2) ∨ ∃ d, f = .ret d ∧ P d μ2 else R ρ μ1) →
    Ok (whileL c body n ρ μ) fun f μ' => (∃ ρ', f = .nx ρ' ∧ R ρ' μ') ∨ ∃ d, f = .ret d ∧ P d μ'
  | m, 0, ρ, μ, hm, h0, R, P, hs => by omega
  | m, n + 1, ρ, μ, hm, h0, R, P, hs => by
    unfold whileL
    refine (hs m ρ μ h0).onE fun b μ1 h1 => ?_
    cases b with
    | false =>
      rw [if_neg (by simp)] at h1
      exact .pure (.inl ⟨ρ, rfl, h1⟩)
    | true =>
      rw [if_pos rfl] at h1
      simp only [if_true]
      refine h1.bind fun f μ2 h2 => ?_
      rcases h2 with ⟨ρ2, m2, hf, hlt, h2⟩ | ⟨d, rfl, h2⟩
      · have ih := whileL_ret (c := c) (body := body) I m2 (n := n) (by omega) h2 R P hs
        rcases hf with rfl | rfl
        · exact ih
        · exact ih
      · exact .pure (.inr ⟨d, rfl, h2⟩)
  termination_by _ n => n
section
variable {α : Type} {enc : α → PyData} {l l' : List α}
def sortE (enc : α → PyData) (l : List α) : List α := l.mergeSort (PySem.W.dataLe false enc)
theorem sortE_perm : (sortE enc l).Perm l := List.mergeSort_perm _ _
theorem sortE_eq (hp : l.Perm l') (inj : ∀ a ∈ l, ∀ b ∈ l, PySem.W.keyToks (enc a) = PySem.W.keyToks (enc b) → a = b) : sortE enc l = sortE enc l' := by
  have T := PySem.W.sortLe_total (PyProof.Rows.listOrd PyProof.Rows.itemOrd) false fun b => PySem.W.keyToks (enc b)
  have s1 : (sortE enc l).Pairwise fun a b => PySem.W.dataLe false enc a b = true := PySem.W.sort_pairwise T l
  have s2 : (sortE enc l').Pairwise fun a b => PySem.W.dataLe false enc a b = true := PySem.W.sort_pairwise T l'
  refine List.Perm.eq_of_pairwise (le := fun a b => PySem.W.dataLe false enc a b = true) (fun a b ha hb h1 h2 => ?_) s1 s2 (sortE_perm.trans (hp.trans sortE_perm.symm))
  have ma : a ∈ l := sortE_perm.mem_iff.mp ha
  have mb : b ∈ l := hp.mem_iff.mpr (sortE_perm.mem_iff.mp hb)
  refine inj a ma b mb ((PyProof.Rows.listOrd PyProof.Rows.itemOrd).total _ _ ?_ ?_)
  · have : (!(PyProof.Rows.listOrd PyProof.Rows.itemOrd).blt (PySem.W.keyToks (enc a)) (PySem.W.keyToks (enc b))) = true := h2
    simpa using this
  · have : (!(PyProof.Rows.listOrd PyProof.Rows.itemOrd).blt (PySem.W.keyToks (enc b)) (PySem.W.keyToks (enc a))) = true := h1
    simpa using this
theorem sortD_map {μ : Mem} {f : α → D} (h : ∀ x ∈ l, encD μ (f x) = enc x) : sortD μ (l.map f) = (sortE enc l).map f := by
  unfold sortD sortE
  refine (PySem.W.sort_maps f fun a ha b hb => ?_).symm
  have e : ∀ x y : PyData, encD μ (f a) = x → encD μ (f b) = y → PySem.W.dataLe false (encD μ) (f a) (f b) = PySem.W.dataLe false id x y := fun x y h1 h2 => by subst h1 h2; rfl
  exact (e _ _ (h a ha) (h b hb)).symm
theorem sortOk_tup {μ : Mem} {f : α → D} (hl : l.length ≤ 1000000) (h : ∀ x ∈ l, D.py? 8 μ (f x) = some (enc x) ∧ (enc x).depth ≤ 32 ∧ isTupD (enc x) = true) (ha : ∀ x ∈ l, ∀ y ∈ l, PySem.W.alike (enc x) (enc y) = true) : sortOk μ (l.map f) = true := by
  have he : ∀ x ∈ l, encD μ (f x) = enc x := fun x hx => by unfold encD; rw [(h x hx).1]; rfl
  simp only [sortOk, Bool.and_eq_true, List.all_eq_true, decide_eq_true_eq, Bool.or_eq_true, List.mem_map, List.length_map]
  refine ⟨⟨⟨?_, ?_⟩, .inl ?_⟩, hl⟩
  · rintro _ ⟨x, hx, rfl⟩
    rw [he x hx, (h x hx).1]
    exact ⟨rfl, (h x hx).2.1⟩
  · rintro _ ⟨x, hx, rfl⟩ _ ⟨y, hy, rfl⟩
    rw [he x hx, he y hy]
    exact ha x hx y hy
  · rintro _ ⟨x, hx, rfl⟩
    rw [he x hx]
    exact (h x hx).2.2
theorem sorted_tup {μ : Mem} {n : Nat} {f : α → D} (e : μ[n]? = some (.lst (l.map f))) (hl : l.length ≤ 1000000) (h : ∀ x ∈ l, D.py? 8 μ (f x) = some (enc x) ∧ (enc x).depth ≤ 32 ∧ isTupD (enc x) = true) (ha : ∀ x ∈ l, ∀ y ∈ l, PySem.W.alike (enc x) (enc y) = true) :
    sortedA [.ref n] μ = .ok (.ref μ.length) (μ ++ [.lst ((sortE enc l).map f)]) := by
  have he : ∀ x ∈ l, encD μ (f x) = enc x := fun x hx => by unfold encD; rw [(h x hx).1]; rfl
  cases l with
  | nil => simp [sortedA, sortedL, e, intsAt, toInts, isort, sortE]
  | cons x l =>
  have hi : intsAt (.ref n) μ = none := by
    obtain ⟨h1, _, h3⟩ := h x (by simp)
    simp only [intsAt, e, List.map_cons]
    cases q : f x with
    | int i =>
      rw [q] at h1
      simp only [D.py?, Option.some.injEq] at h1
      rw [← h1] at h3; cases h3
    | _ => simp [toInts]
  have s : sortedL [.ref n] μ = .stuck := by simp only [sortedL, e, hi]
  simp only [sortedA, s, sortedD, lstAt, e, sortOk_tup hl h ha, if_true, sortD_map he]
end
end RW

/-! SEu: repr of data, comparison of texts. -/
namespace RW
open PySem PySem.Spec L2
/-! ### data, empty dicts among them -/
mutual
def D.sh? : Nat → Mem → D → Option PyData
  | _, _, .non => some .none
  | _, _, .bl b => some (.bool b)
  | _, _, .int i => some (.int i)
  | _, _, .str s => some (.str s)
  | n + 1, μ, .tup l => (D.shs? n μ l).map PyData.tuple
  | n + 1, μ, .ref m => match μ[m]? with
    | some (.lst l) => (D.shs? n μ l).map PyData.list
    | some (.dic []) => some (.dict [])
    | _ => none
  | _, _, _ => none
def D.shs? : Nat → Mem → List D → Option (List PyData)
  | _, _, [] => some []
  | n, μ, d :: l => match D.sh? n μ d, D.shs? n μ l with
    | some k, some r => some (k :: r)
    | _, _ => none
end
def showOk (p : PyData) : Bool := p.showable && decide (p.shown.length ≤ sizeLine) && decide (p.depth ≤ 16)
def reprL : List D → Mem → Res D
  | [x], μ => match D.sh? 8 μ x with
    | some p => if showOk p = true then .ok (.str p.shown) μ else .stuck
    | none => .stuck
  | _, _ => .stuck
/-- what is known of a value that shows p -/
structure Shw (P : Program) (w : World) (h : Heap) (u : Value) (p : PyData) : Prop where
  rd : ∃ as, Reads h u p as
  sh : ∃ bs, ReadAtMost h p.depth bs ∧ ReprK P w bs h p.depth u p.shown
  top : ∀ (A : Around) (E : Value → Shared → Prop) (c : Shared) (Q : Value → Shared → Prop), A.guards = some [] → A.units + (p.depth + 1) < cLine → (∀ b o, h.get? b = some o → c.heap.get? b = some o) →
    (∀ k t n, (∀ b o, c.heap.get? b = some o → k.get? b = some o) → Q (.str p.shown t) { c with heap := k, toks := n }) → wpAny (model P w) A (call (.builtin "repr") [u]) Q E c
structure ShwAll (P : Program) (w : World) (h : Heap) (us : List Value) (ps : List PyData) : Prop where
  rd : ∃ as, ReadsAll h us ps as
  sh : ∃ bs, ReadAtMost h (PyData.depthAll ps) bs ∧ ReprAllK P w bs h (PyData.depthAll ps) us (PyData.shownAll ps)
section
variable {P : Program} {w : World} {h : Heap}
theorem shw_none : Shw P w h .none .none := ⟨⟨_, .none⟩, ReprK.of_reads .none rfl (fun z => by cases z) (by decide), fun A E c Q _ _ _ q => PySem.P.repr_of_none (by
  have z := q c.heap c.toks (c.toks + 1) fun _ _ e => e
  simpa only [PyData.shown] using z)⟩
theorem shw_bool (b : Bool) : Shw P w h (.bool b) (.bool b) := ⟨⟨_, .bool b⟩, ReprK.of_reads (.bool b) rfl (fun z => by cases z) (by cases b <;> decide), fun A E c Q _ _ _ q => PySem.P.repr_of_bool (by
  have z := q c.heap c.toks (c.toks + 1) fun _ _ e => e
  simpa only [PyData.shown] using z)⟩
theorem shw_int {i : Int} {t : Tok} (hs : (PyData.int i).showable = true) (hz : (PyData.int i).shown.length ≤ sizeLine) : Shw P w h (.int i t) (.int i) := ⟨⟨_, .int i t⟩, ReprK.of_reads (.int i t) hs (fun z => by cases z) hz, fun A E c Q _ _ _ q => PySem.P.repr_of_int (by simpa [PyData.showable] using hs) (by
  have z := q c.heap c.toks (c.toks + 1) fun _ _ e => e
  simpa only [PyData.shown] using z)⟩
theorem shw_str {x : Str} {t : Tok} (hz : (PyData.str x).shown.length ≤ sizeLine) : Shw P w h (.str x t) (.str x) := ⟨⟨_, .str x t⟩, ReprK.of_reads (.str x t) rfl (fun z => by cases z) hz, fun A E c Q _ _ _ q => PySem.P.repr_of_str (by
  have z := q c.heap c.toks (c.toks + 1) fun _ _ e => e
  simpa only [PyData.shown] using z) (by simpa only [PyData.shown] using hz)⟩
theorem shw_nil : ShwAll P w h [] [] := ⟨⟨_, .nil⟩, [], (fun _ z => nomatch z), by simp only [PyData.shownAll]; exact .nil⟩
theorem shw_cons {u : Value} {us : List Value} {p : PyData} {ps : List PyData} (a : Shw P w h u p) (b : ShwAll P w h us ps) : ShwAll P w h (u :: us) (p :: ps) := by
  obtain ⟨⟨as, r⟩, ⟨bs, b1, k1⟩, -⟩ := a
  obtain ⟨⟨as', r'⟩, ⟨bs', b2, k2⟩⟩ := b
  refine ⟨⟨_, .cons r r'⟩, bs ++ bs', ?_, ?_⟩
  · simp only [PyData.depthAll]
    exact (b1.mono (Nat.le_max_left _ _)).append (b2.mono (Nat.le_max_right _ _))
  · simp only [PyData.depthAll, PyData.shownAll]
    exact .cons ((k1.more fun _ z => List.mem_append_left _ z).level_le (Nat.le_max_left _ _)) (k2.more_le (fun _ z => List.mem_append_right _ z) (Nat.le_max_right _ _))
theorem shw_tuple {a : Addr} {o : Obj} {its : Array Value} {n : Nat} {ps : List PyData} (h1 : h.get? a = some o) (h2 : o.cls = .type "tuple") (h3 : o.data = .seq its n) (b : ShwAll P w h its.toList ps)
    (hz : (PyData.tuple ps).shown.length ≤ sizeLine) : Shw P w h (.ref a) (.tuple ps) := by
  obtain ⟨⟨as, r⟩, ⟨bs, b1, k1⟩⟩ := b
  have rt : Reads h (.ref a) (.tuple ps) _ := .tuple h1 h2 h3 r
  have far : a ∉ bs := not_mem_of_deeper rt (by simp only [PyData.depth]; omega) b1
  simp only [PyData.shown] at hz
  refine ⟨⟨_, rt⟩, ⟨a :: bs, ReadAtMost.cons rt (by simp only [PyData.depth]; omega) b1, ?_⟩, fun A E c Q hg hu hk q => ?_⟩
  · simp only [PyData.depth, PyData.shown]
    exact ReprK.tuple h1 h2 h3 far k1
  · simp only [PyData.depth] at hu
    simp only [PyData.shown] at q
    refine call_repr_slot (by omega) ⟨o, hk _ _ h1, h2⟩ F.slot_tuple_repr ?_
    exact call_tuple_reprK h1 h2 h3 far k1 (A := A.in1) hg (fun b _ => Clear.nil b) (by show A.units + 1 + _ < _; omega) hk (fun k t n z => ⟨_, _, rfl, q k t n z⟩) hz
theorem shw_list {a : Addr} {o : Obj} {its : Array Value} {n : Nat} {ps : List PyData} (h1 : h.get? a = some o) (h2 : o.cls = .type "list") (h3 : o.data = .seq its n) (b : ShwAll P w h its.toList ps)
    (hz : (PyData.list ps).shown.length ≤ sizeLine) : Shw P w h (.ref a) (.list ps) := by
  obtain ⟨⟨as, r⟩, ⟨bs, b1, k1⟩⟩ := b
  have rt : Reads h (.ref a) (.list ps) _ := .list h1 h2 h3 r
  have far : a ∉ bs := not_mem_of_deeper rt (by simp only [PyData.depth]; omega) b1
  simp only [PyData.shown] at hz
  obtain ⟨l⟩ := its
  cases l with
  | nil =>
    cases (show ReadsAll h [] ps _ from r)
    refine ⟨⟨_, rt⟩, ⟨a :: bs, ReadAtMost.cons rt (by simp only [PyData.depth]; omega) b1, ?_⟩, fun A E c Q hg hu hk q => ?_⟩
    · simp only [PyData.shown, PyData.shownAll, listText_nil]
      exact ReprK.listEmpty h1 h2 h3
    · simp only [PyData.shown, PyData.shownAll, listText_nil] at q
      refine call_repr_slot (by omega) ⟨o, hk _ _ h1, h2⟩ F.slot_list_repr.toG ?_
      exact call_list_repr_empty ⟨o, hk _ _ h1, h2⟩ (hk _ _ h1) h3 ⟨_, _, rfl, q c.heap _ _ fun _ _ z => z⟩
  | cons x l =>
    have each : ∀ (i : Nat) (y : Value), (x :: l).toArray[i]? = some y → ∃ t, (PyData.shownAll ps)[i]? = some t ∧ ReprK P w bs h (PyData.depthAll ps) y t := fun i y e => k1.item i y (by simpa using e)
    have long : (PyData.shownAll ps).length = (x :: l).toArray.size := by simpa using k1.length_eq
    refine ⟨⟨_, rt⟩, ⟨a :: bs, ReadAtMost.cons rt (by simp only [PyData.depth]; omega) b1, ?_⟩, fun A E c Q hg hu hk q => ?_⟩
    · simp only [PyData.depth, PyData.shown]
      exact ReprK.list h1 h2 h3 far long each
    · simp only [PyData.depth] at hu
      simp only [PyData.shown] at q
      refine call_repr_slot (by omega) ⟨o, hk _ _ h1, h2⟩ F.slot_list_repr.toG ?_
      exact call_list_reprK h1 h2 h3 far long each (A := A.in1) hg (fun b _ => Clear.nil b) (by show A.units + 1 + _ < _; omega) hk (fun k t n z => ⟨_, _, rfl, q k t n z⟩) hz
theorem shw_dict0 {a : Addr} {o : Obj} {es : Array DictEntry} {n : Nat} (h1 : h.get? a = some o) (h2 : o.cls = .type "dict") (h3 : o.data = .dict es n) (he : es.toList = []) (hs : (a == sysModules) = false) : Shw P w h (.ref a) (.dict []) := by
  have rt : Reads h (.ref a) (.dict []) _ := .dict h1 h2 h3 (by rw [he]; exact .nil) (by rw [he]; exact .nil)
  have k0 : ReprEntriesK P w [] h 0 es.toList [] := by rw [he]; exact .nil
  have nothing : a ∉ ([] : List Addr) := List.not_mem_nil
  refine ⟨⟨_, rt⟩, ⟨[a], ReadAtMost.cons rt (Nat.zero_le _) (fun _ z => nomatch z), ?_⟩, fun A E c Q hg hu hk q => ?_⟩
  · simp only [PyData.depth, PyData.shown, PyData.shownKv, PyData.depthKv]
    exact ReprK.dict h1 h2 h3 hs nothing k0
  · simp only [PyData.depth, PyData.depthKv] at hu
    simp only [PyData.shown, PyData.shownKv] at q
    refine call_repr_slot (by omega) ⟨o, hk _ _ h1, h2⟩ F.slot_dict_repr ?_
    exact call_dict_reprK h1 h2 h3 hs nothing k0 (A := A.in1) hg (fun b _ => Clear.nil b) (by show A.units + 1 + _ < _; omega) hk (fun k t n z => ⟨_, _, rfl, q k t n z⟩) (by decide)
end
/-! ### sizes of the parts -/
theorem shownAll_mem : ∀ {ps : List PyData} {p : PyData}, p ∈ ps → p.shown ∈ PyData.shownAll ps
  | q :: ps, p, hm => by
    simp only [PyData.shownAll]
    rcases List.mem_cons.mp hm with rfl | hm
    · exact List.mem_cons_self
    · exact List.mem_cons_of_mem _ (shownAll_mem hm)
theorem showableAll_mem : ∀ {ps : List PyData}, PyData.showableAll ps = true → ∀ p ∈ ps, p.showable = true
  | q :: ps, e, p, hm => by
    simp only [PyData.showableAll, Bool.and_eq_true] at e
    rcases List.mem_cons.mp hm with rfl | hm
    · exact e.1
    · exact showableAll_mem e.2 p hm
def okP (p : PyData) : Prop := p.showable = true ∧ p.shown.length ≤ sizeLine
theorem okP_tuple {ps : List PyData} (h : okP (.tuple ps)) : ∀ p ∈ ps, okP p := fun p hm => ⟨showableAll_mem (by simpa only [PyData.showable] using h.1) p hm, by
  have z := h.2
  simp only [PyData.shown] at z
  exact Nat.le_trans (tupleText_mem_le (shownAll_mem hm)) z⟩
theorem okP_list {ps : List PyData} (h : okP (.list ps)) : ∀ p ∈ ps, okP p := fun p hm => ⟨showableAll_mem (by simpa only [PyData.showable] using h.1) p hm, by
  have z := h.2
  simp only [PyData.shown] at z
  exact Nat.le_trans (listText_mem_le (shownAll_mem hm)) z⟩
/-! ### what data show -/
section
variable {X : Cx} {pins : List (Addr × Obj)} {σ : St} {H : Hp} {s : Shared} {ι : List Addr} {μ : Mem}
mutual
theorem shw_of (I : Inv X pins σ H s) (r : Rel (gOf X) ι H μ) : ∀ (n : Nat) (d : D) (v : V) (u : Value) (p : PyData), Rep (gOf X) ι H d v → RelV v u → D.sh? n μ d = some p → okP p → Shw X.prog X.w s.heap u p
  | n, .non, v, u, p, h, e, q, k => by
    unfold D.sh? at q
    cases q
    rw [h.non] at e
    cases e
    exact shw_none
  | n, .bl b, v, u, p, h, e, q, k => by
    unfold D.sh? at q
    cases q
    rw [h.bl] at e
    cases e
    exact shw_bool b
  | n, .int i, v, u, p, h, e, q, k => by
    unfold D.sh? at q
    cases q
    rw [h.int] at e
    obtain ⟨t, rfl⟩ := e
    exact shw_int k.1 k.2
  | n, .str x, v, u, p, h, e, q, k => by
    unfold D.sh? at q
    cases q
    rw [h.str] at e
    obtain ⟨t, rfl⟩ := e
    exact shw_str k.2
  | n + 1, .tup l, v, u, p, h, e, q, k => by
    unfold D.sh? at q
    obtain ⟨ps, e1, rfl⟩ := Option.map_eq_some_iff.mp q
    obtain ⟨a, vs, rfl, h1, h2⟩ := h.tup
    cases e
    obtain ⟨its, rv, ⟨o, g1, g2, m, g3⟩, _⟩ := I.tuple h1
    exact shw_tuple g1 g2 g3 (by simpa using shws_of I r n l vs its ps h2 rv e1 (okP_tuple k)) k.2
  | n + 1, .ref m, v, u, p, h, e, q, k => by
    unfold D.sh? at q
    split at q
    · rename_i l em
      obtain ⟨ps, e1, rfl⟩ := Option.map_eq_some_iff.mp q
      obtain ⟨a, vs, rfl, h1, h2, h3⟩ := r.lst em h
      cases e
      obtain ⟨its, rv, ⟨o, m, g1, g2, _, g3⟩, _⟩ := I.list (.of h2)
      exact shw_list g1 g2 g3 (by simpa using shws_of I r n l vs its ps h3 rv e1 (okP_list k)) k.2
    · rename_i em
      cases q
      obtain ⟨a, h0, rfl⟩ := h.ref
      cases e
      obtain ⟨kvs, h1, h2⟩ := r.cell m _ a em h0
      cases h2
      obtain ⟨_, h3, vs, h4, o, es, ep, g1, g2, g3, g4, g5, _⟩ := dk_of I.hok h1
      cases h4
      exact shw_dict0 g1 g2.1 g3 (by revert g5; generalize es.toList = l; intro g5; cases g5; rfl) h3
    · cases q
  | _, .fn _, _, _, _, _, _, q, _ => by unfold D.sh? at q; cases q
  | _, .frl _, _, _, _, _, _, q, _ => by unfold D.sh? at q; cases q
  | 0, .tup _, _, _, _, _, _, q, _ => by unfold D.sh? at q; cases q
  | 0, .ref _, _, _, _, _, _, q, _ => by unfold D.sh? at q; cases q
theorem shws_of (I : Inv X pins σ H s) (r : Rel (gOf X) ι H μ) : ∀ (n : Nat) (l : List D) (vs : List V) (us : List Value) (ps : List PyData), Reps (gOf X) ι H l vs → Vals vs us → D.shs? n μ l = some ps → (∀ p ∈ ps, okP p) → ShwAll X.prog X.w s.heap us ps
  | n, [], vs, us, ps, h, e, q, k => by
    unfold D.shs? at q
    cases q
    rw [h.nil_inv] at e
    cases e
    exact shw_nil
  | n, d :: l, vs, us, ps, h, e, q, k => by
    unfold D.shs? at q
    obtain ⟨v, x, rfl, h1, h2⟩ := h.cons_inv
    cases e with
    | cons r1 r2 =>
      split at q
      · rename_i p q' e1 e2
        cases q
        exact shw_cons (shw_of I r n d v _ p h1 r1 e1 (k _ List.mem_cons_self)) (shws_of I r n l x _ q' h2 r2 e2 fun z hz => k z (List.mem_cons_of_mem _ hz))
      · cases q
end
end
def rRepr (G : Gd) : List V → Hp → VK → Prop := fun xs H Q => ∃ (v : V) (d : D) (ι : List Addr) (μ : Mem) (p : PyData), xs = [v] ∧ Rel G ι H μ ∧ Rep G ι H d v ∧ D.sh? 8 μ d = some p ∧ showOk p = true ∧ Q (.str p.shown) H
theorem cr_repr {X : Cx} (hg : X.A.guards = some []) (hu : X.A.units + 64 < cLine) : CallR X (.builtin "repr") (rRepr (gOf X)) := by
  intro pins s σ H xs us Q I r h
  obtain ⟨v, d, ι, μ, p, rfl, rel, rep, hp, ok, q⟩ := h
  obtain ⟨u, rfl, ru⟩ := vals1 r
  simp only [showOk, Bool.and_eq_true, decide_eq_true_eq] at ok
  have S := shw_of I rel 8 d v u p rep ru hp ⟨ok.1.1, ok.1.2⟩
  exact S.top X.A X.xe s _ hg (by omega) (fun _ _ z => z) fun k t n z => ⟨.str p.shown, H, I.kept z, ⟨t, rfl⟩, q⟩
theorem snd_repr {G : Gd} : SndL G (rRepr G) reprL := fun ι H μ xs vs W σ Q r rxs h => by
  unfold reprL at h
  split at h
  · rename_i x
    obtain ⟨v, w, rfl, h1, h2⟩ := rxs.cons_inv
    rw [h2.nil_inv]
    split at h
    · rename_i p hp
      split at h
      · rename_i hs
        exact ⟨v, x, ι, μ, p, rfl, r, h1, hp, hs, h ι H .refl r _ (rep_str _)⟩
      · exact h.elim
    · exact h.elim
  · exact h.elim
end RW

/-! SEv: t[::-1], t[i::-1] of tuples and lists. -/
namespace RW
open PySem PySem.Spec L2
open PyProof.Rows hiding St
/-- how many items stand up to where the slice begins -/
def upTo (lo : Option Int) (n : Nat) : Nat := ((Builtin.Slice.sliceAdjust lo none (-1) (n : Int)).1 + 1).toNat
theorem adjust_back (lo : Option Int) (n : Nat) : Builtin.Slice.sliceAdjust lo none (-1) (n : Int) = ((upTo lo n : Int) - 1, -1) ∧ upTo lo n ≤ n := by
  have s1 : ((-1 : Int) < 0) := by decide
  unfold upTo Builtin.Slice.sliceAdjust
  simp only [s1, if_true]
  cases lo with
  | none => refine ⟨Prod.ext ?_ rfl, ?_⟩ <;> dsimp only <;> omega
  | some v =>
    by_cases hv : v < 0
    · simp only [if_pos hv]
      refine ⟨Prod.ext ?_ rfl, ?_⟩ <;> (try dsimp only) <;> omega
    · simp only [if_neg hv]
      refine ⟨Prod.ext ?_ rfl, ?_⟩ <;> (try dsimp only) <;> omega
theorem places_back (m : Nat) : Builtin.Slice.slicePlaces ((m : Int) - 1) (-1) (-1) = m := by
  unfold Builtin.Slice.slicePlaces
  have s1 : ¬ ((-1 : Int) > 0) := by decide
  simp only [s1, if_false]
  split
  · rw [show (-(-1 : Int)) = 1 by decide, Int.ediv_one]; omega
  · omega
theorem take_back {α : Type} (xs : List α) : ∀ m, m ≤ xs.length → (List.range m).filterMap (fun (k : Nat) => xs[((m : Int) - 1 + (k : Int) * (-1)).toNat]?) = (xs.take m).reverse
  | 0, _ => rfl
  | m + 1, h => by
    have e : xs.take (m + 1) = xs.take m ++ [xs[m]] := by rw [List.take_succ, List.getElem?_eq_getElem (by omega)]; rfl
    rw [e, List.reverse_append, List.reverse_singleton, List.singleton_append, List.range_succ_eq_map, List.filterMap_cons]
    have h0 : (((m + 1 : Nat) : Int) - 1 + ((0 : Nat) : Int) * (-1)).toNat = m := by omega
    rw [h0, List.getElem?_eq_getElem (by omega)]
    simp only
    rw [List.filterMap_map, ← take_back xs m (by omega)]
    have same : ((fun (k : Nat) => xs[(((m + 1 : Nat) : Int) - 1 + (k : Int) * (-1)).toNat]?) ∘ Nat.succ) = fun (k : Nat) => xs[((m : Int) - 1 + (k : Int) * (-1)).toNat]? := by
      funext k
      have : (((m + 1 : Nat) : Int) - 1 + ((Nat.succ k : Nat) : Int) * (-1)).toNat = ((m : Int) - 1 + (k : Int) * (-1)).toNat := by omega
      simp only [Function.comp_def, this]
    rw [same]
section
variable {prog : Program} {w : World} {A : Around} {E : Value → Shared → Prop} {s : Shared}
theorem item_back {t sl : Addr} {items : List Value} {vl vu vs : Value} {lo : Option Int} {Q : Value → Shared → Prop} (ht : IsTup s.heap t items.toArray) (hs : s.heap.IsSliceOf sl vl vu vs) (pl : IsPart vl lo) (pu : IsPart vu none) (ps : IsPart vs (some (-1)))
    (hz : items.length ≤ sizeLine) (q : Q (.ref s.heap.objs.size) { s with heap := s.heap.push { cls := .type "tuple", data := .seq ((items.take (upTo lo items.length)).reverse).toArray } }) :
    wpAny (model prog w) A (getItem (.ref t) (.ref sl)) Q E s := by
  have room : sizeOk (.seq ((items.take (upTo lo items.length)).reverse).toArray) := by
    show ((items.take (upTo lo items.length)).reverse).toArray.size ≤ sizeLine
    rw [List.size_toArray, List.length_reverse, List.length_take]
    omega
  obtain ⟨os, s1, s2, s3⟩ := id hs
  have ty : s.TypeIs (.ref sl) "slice" := ⟨os, s1, s2⟩
  obtain ⟨ad, le⟩ := adjust_back lo items.length
  unfold getItem
  try with_reducible apply wpAny_holding
  first | refine wpAny_bind (wpAny_pure ?_) | skip
  apply wpAny_bind
  apply wpAny_sequenceKey ht.typeIs (by decide)
  apply wpAny_bind
  apply wpAny_callSpecial?_slot (name := Str.ofString "__getitem__") ht.typeIs PyProof.Rows.slot_tuple_getitem
  refine wpAny_call_entry PyProof.Rows.slot_tuple_getitem ht.typeIs PyProof.Rows.entry_tuple_getitem ?_ (PyProof.Rows.args_tuple_getitem _ _)
  show wpAny _ _ (Builtin.Tuple.tupleItemsOf (.ref t) >>= _) _ _ s
  apply wpAny_bind
  apply PyProof.Rows.tupleItemsOf_ ht
  apply wpAny_bind
  apply wpAny_typeOf ty
  rw [if_pos (by decide)]
  apply wpAny_bind
  show wpAny _ _ (Builtin.Slice.sliceApplied (.ref sl) (pure (items.toArray.size : Int))) _ _ s
  unfold Builtin.Slice.sliceApplied Builtin.Slice.sliceFields
  refine wpAny_bind (wpAny_bind (wpAny_field s1 s3 (x := vl) rfl (wpAny_bind (wpAny_field s1 s3 (x := vu) rfl (wpAny_bind (wpAny_field s1 s3 (x := vs) rfl (wpAny_pure ?_)))))))
  apply wpAny_bind
  apply HT.slicePart_ ps
  show wpAny _ _ (if ((-1 : Int) == 0) = true then _ else _) _ _ s
  rw [if_neg (by decide)]
  apply wpAny_bind
  apply HT.slicePart_ pl
  apply wpAny_bind
  apply HT.slicePart_ pu
  apply wpAny_bind
  apply wpAny_pure
  show wpAny _ _ (match Builtin.Slice.sliceAdjust lo none (-1) (items.toArray.size : Int) with | (lo, hi) => pure (lo, (-1 : Int), Builtin.Slice.slicePlaces lo hi (-1))) _ _ s
  rw [List.size_toArray, ad]
  show wpAny _ _ (pure ((upTo lo items.length : Int) - 1, (-1 : Int), Builtin.Slice.slicePlaces ((upTo lo items.length : Int) - 1) (-1) (-1))) _ _ s
  rw [places_back]
  apply wpAny_pure
  show wpAny _ _ (if ((upTo lo items.length : Int) - 1 == 0 && (-1 : Int) == 1 && upTo lo items.length == items.toArray.size) = true then _ else _) _ _ s
  rw [if_neg (by simp)]
  have pick : ((List.range (upTo lo items.length)).filterMap fun (k : Nat) => items.toArray[((upTo lo items.length : Int) - 1 + (k : Int) * (-1)).toNat]?).toArray = ((items.take (upTo lo items.length)).reverse).toArray := by
    rw [← take_back items _ le]
    simp only [List.getElem?_toArray]
  rw [pick]
  first
    | exact wpAny_bind (m := Builtin.Tuple.tupleExact _) (wpAny_newObj_type (wpAny_pure ⟨_, rfl, wpAny_pure q⟩) room)
    | exact wpAny_bind (wpAny_bind (m := Builtin.Tuple.tupleExact _) (wpAny_newObj_type (wpAny_pure (wpAny_pure ⟨_, rfl, wpAny_pure q⟩)) room))
    | exact wpAny_bind (wpAny_bind (m := Builtin.Tuple.tupleExact _) (wpAny_newObj_type (wpAny_pure ⟨_, rfl, wpAny_pure q⟩) room))
end
def tBack (K : PySem.W.Frag) (te : TE) (tl : TO) : TE := fun σ H Q => te σ H fun x H1 => tl σ H1 fun lo H2 => ∃ a xs, x = .ref a ∧
  ((SqT K H2 a xs ∧ ∀ p, H2 p = none → Q (.ref p) (upd H2 p (.tup (xs.take (upTo lo xs.length)).reverse))) ∨ (SqL K H2 a xs ∧ lo = none ∧ ∀ p, H2 p = none → Q (.ref p) (upd H2 p (.lst xs.reverse))))
section
variable {X : Cx} {W : WX} {e i : Expr} {te : TE} {lo : Option Expr} {tl : TO} {k : Nat} {p1 p2 p3 pos : Pos} {me mi : MD}
theorem pe_back (he : PE X e te) (hl : PO X lo tl) : PE X (.Subscript e (.Slice lo none (some (.UnaryOp .USub (.Constant (.int 1) k p1) p2)) p3) pos) (tBack X.K te tl) := by
  have step : PO X (some (.UnaryOp .USub (.Constant (.int 1) k p1) p2)) (tPart (tUn (rU fun i => .int (-i)) (tC (.int 1)))) := po_some (pe_un un_neg pe_int)
  constructor
  intro pins c τ M R I h
  apply Subscript_
  apply thn (he.run pins c τ M _ I h)
  rintro v c1 ⟨x, M1, I1, rx, q⟩
  apply wpAny_Slice
  apply thn (hl.run pins c1 τ M1 _ I1 q)
  rintro vl c2 ⟨l, M2, I2, pl, q2⟩
  apply thn (po_none.run pins c2 τ M2 (fun o N => o = none ∧ N = M2) I2 ⟨rfl, rfl⟩)
  rintro vu c3 ⟨o3, M3, I3, pu, e1, e2⟩
  rw [e1] at pu
  rw [e2] at I3
  apply thn (step.run pins c3 τ M2 (fun o N => o = some (-1) ∧ N = M2) I3 ⟨1, rfl, -1, rfl, rfl, rfl⟩)
  rintro vs c4 ⟨o4, M4, I4, ps, e3, e4⟩
  rw [e3] at ps
  rw [e4] at I4
  have I5 := I4.kept (h' := c4.heap.push { cls := .type "slice", data := .fields #[vl, vu, vs] }) (t' := c4.toks) fun b o z => Heap.get?_push_of_some _ z
  obtain ⟨a, xs, rfl, q2⟩ := q2
  cases rx
  show wpAny (model X.prog X.w) X.A (subscriptTail e (.Slice lo none (some (.UnaryOp .USub (.Constant (.int 1) k p1) p2)) p3) (.ref a) (.ref c4.heap.objs.size)) _ X.xe { c4 with heap := c4.heap.push { cls := .type "slice", data := .fields #[vl, vu, vs] } }
  rcases q2 with ⟨ht, q2⟩ | ⟨ht, rfl, q2⟩
  · obtain ⟨its, r, tt, hz⟩ := I5.tuple ht
    refine tail_any (ops := [.ref a, .ref c4.heap.objs.size]) tt.typeIs PyProof.Rows.slot_tuple_getitem.lookup ?_ (by with_unfolding_all rfl)
    apply item_back tt (Heap.IsSliceOf.new _ vl vu vs) pl pu ps (by rw [← r.length]; exact hz)
    have e : its.length = xs.length := r.length.symm
    have r2 : Vals (xs.take (upTo l xs.length)).reverse (its.take (upTo l its.length)).reverse := by
      rw [e]
      exact (r.take _).reverse
    have le : (xs.take (upTo l xs.length)).reverse.length ≤ sizeLine := by
      rw [List.length_reverse, List.length_take]
      omega
    exact ⟨.ref _, _, I5.laid (t' := c4.toks) (o := .tup (xs.take (upTo l xs.length)).reverse) (fun b o z => Heap.get?_push_of_some _ z) (Nat.le_refl _) ⟨le, _, r2, IsTup.new _ _⟩, rfl, q2 _ (I5.hok.fresh (Nat.le_refl _))⟩
  · obtain ⟨its, r, tt, hz⟩ := I5.list ht
    refine tail_any (ops := [.ref a, .ref c4.heap.objs.size]) tt.isList.typeIs PySem.slot_list_getitem.lookup ?_ (by with_unfolding_all rfl)
    refine wpAny_getItem_list_slice tt.isList (Heap.IsSliceOf.new _ vl vu vs) pl pu ps (by decide) ?_ (by rw [List.size_toArray, ← r.length]; exact hz)
    rw [PySem.W.krv_pick]
    exact ⟨.ref _, _, I5.laid (t' := c4.toks) (o := .lst xs.reverse) (fun b o z => Heap.get?_push_of_some _ z) (Nat.le_refl _) ⟨by rw [List.length_reverse]; exact hz, _, 0, r.reverse, Heap.get?_push_size _ rfl⟩, rfl, q2 _ (I5.hok.fresh (Nat.le_refl _))⟩
/-- x[::-1] of a list or a tuple -/
def backD (x : D) (μ : Mem) : Res D := match x with
  | .tup l => .ok (.tup l.reverse) μ
  | _ => revD x μ
theorem upTo_none (n : Nat) : upTo none n = n := by
  have := adjust_back none n
  unfold upTo Builtin.Slice.sliceAdjust
  simp
theorem se_back (he : SE X W e me) : SE X W (.Subscript e (.Slice none none (some (.UnaryOp .USub (.Constant (.int 1) k p1) p2)) p3) pos) (mUn backD me) :=
  PE.mono (pe_back he po_none) fun σ H Q ⟨ρ, μ, ι, env, rel, h⟩ =>
    ⟨ρ, μ, ι, env, rel, (Post.bind h).imp fun ι1 H1 μ1 x _ _ ⟨g1, r1, h1⟩ v rv => by
      unfold backD at h1
      split at h1
      · rename_i l
        obtain ⟨a, vs, rfl, h2, h3⟩ := rv.tup
        refine ⟨a, vs, rfl, .inl ⟨h2, ?_⟩⟩
        rw [upTo_none, List.take_length]
        exact new_tup r1 h3.reverse h1
      · simp only [revD] at h1
        split at h1
        · rename_i l el
          obtain ⟨p, vs, rfl, h2, h3⟩ := lstAt_is r1 rv el
          exact ⟨p, vs, rfl, .inr ⟨h2, rfl, new_lst r1 h3.reverse h1⟩⟩
        · exact h1.elim⟩
/-- x[i::-1] of a tuple -/
def backAtD (i : Int) (x : D) (μ : Mem) : Res D := match x with
  | .tup l => .ok (.tup (l.take (upTo (some i) l.length)).reverse) μ
  | _ => .stuck
theorem se_backAt {j : Nat} {i : Int} {p4 : Pos} (he : SE X W e me) : SE X W (.Subscript e (.Slice (some (.Constant (.int i) j p4)) none (some (.UnaryOp .USub (.Constant (.int 1) k p1) p2)) p3) pos) (mUn (backAtD i) me) :=
  PE.mono (pe_back he (po_some pe_int)) fun σ H Q ⟨ρ, μ, ι, env, rel, h⟩ =>
    ⟨ρ, μ, ι, env, rel, (Post.bind h).imp fun ι1 H1 μ1 x _ _ ⟨g1, r1, h1⟩ v rv => by
      unfold backAtD at h1
      split at h1
      · rename_i l
        obtain ⟨a, vs, rfl, h2, h3⟩ := rv.tup
        refine ⟨i, rfl, a, vs, rfl, .inl ⟨h2, ?_⟩⟩
        rw [h3.length]
        exact new_tup r1 (h3.take _).reverse h1
      · exact h1.elim⟩
end
/-! ### texts -/
def eqT (x y : D) (μ : Mem) : Res D := match x, y with
  | .str a, .str b => .ok (.bl (decide (a = b))) μ
  | _, _ => .stuck
def neT (x y : D) (μ : Mem) : Res D := match x, y with
  | .str a, .str b => .ok (.bl (!decide (a = b))) μ
  | _, _ => .stuck
theorem snd_eqT {G : Gd} : Snd2 G rEq eqT := fun ι H μ x y v u W σ Q r rx ry h => by
  unfold eqT at h
  split at h
  · rename_i a b
    rw [rx.str, ry.str]
    refine ⟨rfl, ?_⟩
    have e : decide (V.str a = V.str b) = decide (a = b) := by simp
    rw [e]
    exact h ι H .refl r _ (rep_bl _)
  · exact h.elim
theorem snd_neT {G : Gd} : Snd2 G rNe neT := fun ι H μ x y v u W σ Q r rx ry h => by
  unfold neT at h
  split at h
  · rename_i a b
    rw [rx.str, ry.str]
    refine ⟨rfl, ?_⟩
    have e : decide (V.str a = V.str b) = decide (a = b) := by simp
    rw [e]
    exact h ι H .refl r _ (rep_bl _)
  · exact h.elim
def strL : List D → Mem → Res D
  | [.int i], μ => if i.natAbs.log2 < 1920 then .ok (.str (toString i)) μ else .stuck
  | [.str s], μ => .ok (.str s) μ
  | _, _ => .stuck
theorem call_strA {X : Cx} : CallR X (.type "str") (fun xs H Q => (∃ i, xs = [.int i] ∧ i.natAbs.log2 < 1920 ∧ Q (.str (toString i)) H) ∨ ∃ a, xs = [.str a] ∧ Q (.str a) H) := CallR.or call_str_int SkE.call_str_str
theorem snd_strL {G : Gd} : SndL G (fun xs H Q => (∃ i, xs = [.int i] ∧ i.natAbs.log2 < 1920 ∧ Q (.str (toString i)) H) ∨ ∃ a, xs = [.str a] ∧ Q (.str a) H) strL := fun ι H μ xs vs W σ Q r rxs h => by
  unfold strL at h
  split at h
  · obtain ⟨v, rfl, rv⟩ := rxs.one
    split at h
    · rename_i hi
      exact .inl ⟨_, by rw [rv.int], hi, h ι H .refl r _ (rep_str _)⟩
    · exact h.elim
  · obtain ⟨v, rfl, rv⟩ := rxs.one
    exact .inr ⟨_, by rw [rv.str], h ι H .refl r _ (rep_str _)⟩
  · exact h.elim
end RW

set_option maxHeartbeats 4000000
namespace K12
open PySem L2 RW
def top (i : Nat) : Stmt := PySem.Challenge.pw_ropewarren_k12_bits.main.body.getD i (.Pass ⟨0, 0, 0, 0⟩)
abbrev s_law_stream : Stmt := top 17
abbrev N_law_stream : List Str := ["_law_script", "_law_own", "_law_cell"]
theorem sc_law_stream : FnScope N_law_stream ["_law_script", "_law_own"] (defScope s_law_stream) := ⟨rfl, rfl, rfl, by decide +kernel, rfl, by decide +kernel, by decide +kernel⟩
abbrev s_law_take : Stmt := top 18
abbrev N_law_take : List Str := ["_law_stream_here", "_law_below", "_law_cells", "_law_at", "_law_rest", "_law_turn", "_law_number"]
theorem sc_law_take : FnScope N_law_take ["_law_stream_here", "_law_below"] (defScope s_law_take) := ⟨rfl, rfl, rfl, by decide +kernel, rfl, by decide +kernel, by decide +kernel⟩
abbrev s_law_house : Stmt := top 19
abbrev N_law_house : List Str := ["_law_stream_here", "_law_most", "_law_farthest", "_law_flaps", "_law_rooms", "_law_pipes", "_law_left", "_law_room", "_law_length", "_law_narrow", "_law_hung", "_law_pipe", "_law_at"]
theorem sc_law_house : FnScope N_law_house ["_law_stream_here", "_law_most", "_law_farthest", "_law_flaps"] (defScope s_law_house) := ⟨rfl, rfl, rfl, by decide +kernel, rfl, by decide +kernel, by decide +kernel⟩
abbrev s_law_places : Stmt := top 21
abbrev N_law_places : List Str := ["_law_house_here", "_law_found", "_law_pipe", "_law_room", "_law_at"]
theorem sc_law_places : FnScope N_law_places ["_law_house_here"] (defScope s_law_places) := ⟨rfl, rfl, rfl, by decide +kernel, rfl, by decide +kernel, by decide +kernel⟩
abbrev s_law_spot : Stmt := top 20
abbrev N_law_spot : List Str := ["_law_house_here", "_law_pipe", "_law_at", "_law_one", "_law_other", "_law_length", "_law_narrows", "_law_flaps"]
theorem sc_law_spot : FnScope N_law_spot ["_law_house_here", "_law_pipe", "_law_at"] (defScope s_law_spot) := ⟨rfl, rfl, rfl, by decide +kernel, rfl, by decide +kernel, by decide +kernel⟩
abbrev s_law_nexts : Stmt := top 22
abbrev N_law_nexts : List Str := ["_law_house_here", "_law_found", "_law_place", "_law_pipe", "_law_at", "_law_low", "_law_high"]
theorem sc_law_nexts : FnScope N_law_nexts ["_law_house_here"] (defScope s_law_nexts) := ⟨rfl, rfl, rfl, by decide +kernel, rfl, by decide +kernel, by decide +kernel⟩
abbrev s_law_row : Stmt := top 23
abbrev N_law_row : List Str := ["_law_nexts_here", "_law_one", "_law_other", "_law_ahead", "_law_some", "_law_further", "_law_place", "_law_near", "_law_found"]
theorem sc_law_row : FnScope N_law_row ["_law_nexts_here", "_law_one", "_law_other"] (defScope s_law_row) := ⟨rfl, rfl, rfl, by decide +kernel, rfl, by decide +kernel, by decide +kernel⟩
abbrev s_law_rope : Stmt := top 24
abbrev N_law_rope : List Str := ["_law_stream_here", "_law_length", "_law_some", "_law_behind"]
theorem sc_law_rope : FnScope N_law_rope ["_law_stream_here", "_law_length"] (defScope s_law_rope) := ⟨rfl, rfl, rfl, by decide +kernel, rfl, by decide +kernel, by decide +kernel⟩
abbrev s_law_widths : Stmt := top 25
abbrev N_law_widths : List Str := ["_law_house_here", "_law_found", "_law_pipe", "_law_at", "_law_width"]
theorem sc_law_widths : FnScope N_law_widths ["_law_house_here"] (defScope s_law_widths) := ⟨rfl, rfl, rfl, by decide +kernel, rfl, by decide +kernel, by decide +kernel⟩
abbrev s_law_knots_lie : Stmt := top 26
abbrev N_law_knots_lie : List Str := ["_law_house_here", "_law_rope_here", "_law_row_here", "_law_widths_here", "_law_tight", "_law_behind", "_law_size"]
theorem sc_law_knots_lie : FnScope N_law_knots_lie ["_law_house_here", "_law_rope_here", "_law_row_here"] (defScope s_law_knots_lie) := ⟨rfl, rfl, rfl, by decide +kernel, rfl, by decide +kernel, by decide +kernel⟩
abbrev s_law_drawn : Stmt := top 27
abbrev N_law_drawn : List Str := ["_law_stream_here", "_law_house_here", "_law_nexts_here", "_law_places_here", "_law_one", "_law_other", "_law_row_here", "_law_rope_here"]
theorem sc_law_drawn : FnScope N_law_drawn ["_law_stream_here", "_law_house_here", "_law_nexts_here"] (defScope s_law_drawn) := ⟨rfl, rfl, rfl, by decide +kernel, rfl, by decide +kernel, by decide +kernel⟩
abbrev s_place_at : Stmt := top 1
abbrev N_place_at : List Str := ["house", "pipe", "at", "one", "other", "length", "narrows", "flaps"]
theorem sc_place_at : FnScope N_place_at ["house", "pipe", "at"] (defScope s_place_at) := ⟨rfl, rfl, rfl, by decide +kernel, rfl, by decide +kernel, by decide +kernel⟩
abbrev s_place_along : Stmt := top 12
abbrev N_place_along : List Str := ["house", "stretches", "begin", "steps", "left", "pipe", "first", "last"]
theorem sc_place_along : FnScope N_place_along ["house", "stretches", "begin", "steps"] (defScope s_place_along) := ⟨rfl, rfl, rfl, by decide +kernel, rfl, by decide +kernel, by decide +kernel⟩
abbrev s_is_one_pipe : Stmt := top 6
abbrev N_is_one_pipe : List Str := ["one", "other"]
theorem sc_is_one_pipe : FnScope N_is_one_pipe ["one", "other"] (defScope s_is_one_pipe) := ⟨rfl, rfl, rfl, by decide +kernel, rfl, by decide +kernel, by decide +kernel⟩
abbrev s_sides_of : Stmt := top 5
abbrev N_sides_of : List Str := ["house", "place", "pipe", "at", "one", "other", "length", "narrows", "flaps"]
theorem sc_sides_of : FnScope N_sides_of ["house", "place"] (defScope s_sides_of) := ⟨rfl, rfl, rfl, by decide +kernel, rfl, by decide +kernel, by decide +kernel⟩
abbrev s_turned : Stmt := top 7
abbrev N_turned : List Str := ["stretches", "pipe", "begin", "end"]
theorem sc_turned : FnScope N_turned ["stretches"] (defScope s_turned) := ⟨rfl, rfl, rfl, by decide +kernel, rfl, by decide +kernel, by decide +kernel⟩
abbrev s_between_rooms : Stmt := top 8
abbrev N_between_rooms : List Str := ["known", "room", "found"]
theorem sc_between_rooms : FnScope N_between_rooms ["known", "room"] (defScope s_between_rooms) := ⟨rfl, rfl, rfl, by decide +kernel, rfl, by decide +kernel, by decide +kernel⟩
abbrev s_road_in : Stmt := top 10
abbrev N_road_in : List Str := ["web", "one", "other", "best", "room", "far", "first", "known", "last", "more", "end", "whole"]
theorem sc_road_in : FnScope N_road_in ["web", "one", "other"] (defScope s_road_in) := ⟨rfl, rfl, rfl, by decide +kernel, rfl, by decide +kernel, by decide +kernel⟩
abbrev s_spot_in : Stmt := top 11
abbrev N_spot_in : List Str := ["web", "one", "other", "steps"]
theorem sc_spot_in : FnScope N_spot_in ["web", "one", "other", "steps"] (defScope s_spot_in) := ⟨rfl, rfl, rfl, by decide +kernel, rfl, by decide +kernel, by decide +kernel⟩
abbrev s_pipes_at : Stmt := top 3
abbrev N_pipes_at : List Str := ["house", "room", "found", "pipe", "one", "other", "length", "narrows", "flaps"]
theorem sc_pipes_at : FnScope N_pipes_at ["house", "room"] (defScope s_pipes_at) := ⟨rfl, rfl, rfl, by decide +kernel, rfl, by decide +kernel, by decide +kernel⟩
abbrev s_rooms_from : Stmt := top 4
abbrev N_rooms_from : List Str := ["house", "room", "found", "waiting", "at", "here", "pipe", "begin", "end", "there"]
theorem sc_rooms_from : FnScope N_rooms_from ["house", "room"] (defScope s_rooms_from) := ⟨rfl, rfl, rfl, by decide +kernel, rfl, by decide +kernel, by decide +kernel⟩
abbrev s_Web_init : Stmt := inClass (top 9) 0
abbrev N_Web_init : List Str := ["self", "house", "room"]
theorem sc_Web_init : FnScope N_Web_init ["self", "house"] (defScope s_Web_init) := ⟨rfl, rfl, rfl, by decide +kernel, rfl, by decide +kernel, by decide +kernel⟩
abbrev s_place_on : Stmt := top 13
abbrev N_place_on : List Str := ["house", "one", "other", "steps"]
theorem sc_place_on : FnScope N_place_on ["house", "one", "other", "steps"] (defScope s_place_on) := ⟨rfl, rfl, rfl, by decide +kernel, rfl, by decide +kernel, by decide +kernel⟩
abbrev s_bit_at : Stmt := top 15
abbrev N_bit_at : List Str := ["house", "stand", "bit"]
theorem sc_bit_at : FnScope N_bit_at ["house", "stand", "bit"] (defScope s_bit_at) := ⟨rfl, rfl, rfl, by decide +kernel, rfl, by decide +kernel, by decide +kernel⟩
abbrev s_law_small_right : Stmt := top 37
abbrev N_law_small_right : List Str := ["_law_stream_here", "_law_house_here", "_law_nexts_here", "_law_rope_here", "_law_stand", "_law_row_here", "_law_found", "_law_bit"]
theorem sc_law_small_right : FnScope N_law_small_right ["_law_stream_here"] (defScope s_law_small_right) := ⟨rfl, rfl, rfl, by decide +kernel, rfl, by decide +kernel, by decide +kernel⟩
abbrev s_law_far : Stmt := top 28
abbrev N_law_far : List Str := ["_law_stream_here", "_law_most", "_law_below", "_law_found"]
theorem sc_law_far : FnScope N_law_far ["_law_stream_here", "_law_most"] (defScope s_law_far) := ⟨rfl, rfl, rfl, by decide +kernel, rfl, by decide +kernel, by decide +kernel⟩
abbrev s_law_far_house : Stmt := top 29
abbrev N_law_far_house : List Str := ["_law_stream_here", "_law_flaps", "_law_rooms", "_law_pipes", "_law_left", "_law_room", "_law_length", "_law_ats", "_law_narrow", "_law_hung", "_law_pipe", "_law_k", "_law_at"]
theorem sc_law_far_house : FnScope N_law_far_house ["_law_stream_here", "_law_flaps"] (defScope s_law_far_house) := ⟨rfl, rfl, rfl, by decide +kernel, rfl, by decide +kernel, by decide +kernel⟩
abbrev s_law_rooms_apart : Stmt := top 31
abbrev N_law_rooms_apart : List Str := ["_law_house_here", "_law_found", "_law_room", "_law_turn", "_law_one", "_law_other", "_law_length", "_law_narrows", "_law_flaps"]
theorem sc_law_rooms_apart : FnScope N_law_rooms_apart ["_law_house_here"] (defScope s_law_rooms_apart) := ⟨rfl, rfl, rfl, by decide +kernel, rfl, by decide +kernel, by decide +kernel⟩
abbrev s_law_far_place : Stmt := top 30
abbrev N_law_far_place : List Str := ["_law_stream_here", "_law_house_here", "_law_pipe"]
theorem sc_law_far_place : FnScope N_law_far_place ["_law_stream_here", "_law_house_here"] (defScope s_law_far_place) := ⟨rfl, rfl, rfl, by decide +kernel, rfl, by decide +kernel, by decide +kernel⟩
abbrev s_law_two : Stmt := top 36
abbrev N_law_two : List Str := ["_law_stream_here", "_law_house_here", "_law_one", "_law_other"]
theorem sc_law_two : FnScope N_law_two ["_law_stream_here", "_law_house_here"] (defScope s_law_two) := ⟨rfl, rfl, rfl, by decide +kernel, rfl, by decide +kernel, by decide +kernel⟩
abbrev s_law_rooms_by : Stmt := top 32
abbrev N_law_rooms_by : List Str := ["_law_house_here", "_law_place", "_law_one", "_law_other", "_law_length", "_law_narrows", "_law_flaps"]
theorem sc_law_rooms_by : FnScope N_law_rooms_by ["_law_house_here", "_law_place"] (defScope s_law_rooms_by) := ⟨rfl, rfl, rfl, by decide +kernel, rfl, by decide +kernel, by decide +kernel⟩
abbrev s_law_apart : Stmt := top 33
abbrev N_law_apart : List Str := ["_law_house_here", "_law_table", "_law_one", "_law_other", "_law_found", "_law_room", "_law_far_here", "_law_by", "_law_more"]
theorem sc_law_apart : FnScope N_law_apart ["_law_house_here", "_law_table", "_law_one", "_law_other"] (defScope s_law_apart) := ⟨rfl, rfl, rfl, by decide +kernel, rfl, by decide +kernel, by decide +kernel⟩
abbrev s_law_far_spot : Stmt := top 34
abbrev N_law_far_spot : List Str := ["_law_house_here", "_law_pipe", "_law_at"]
theorem sc_law_far_spot : FnScope N_law_far_spot ["_law_house_here", "_law_pipe", "_law_at"] (defScope s_law_far_spot) := ⟨rfl, rfl, rfl, by decide +kernel, rfl, by decide +kernel, by decide +kernel⟩
abbrev s_law_on : Stmt := top 35
abbrev N_law_on : List Str := ["_law_house_here", "_law_table", "_law_begin", "_law_end", "_law_steps", "_law_far_here", "_law_pipe", "_law_one", "_law_other", "_law_length", "_law_narrows", "_law_flaps", "_law_ats", "_law_place", "_law_there", "_law_at"]
theorem sc_law_on : FnScope N_law_on ["_law_house_here", "_law_table", "_law_begin", "_law_end", "_law_steps"] (defScope s_law_on) := ⟨rfl, rfl, rfl, by decide +kernel, rfl, by decide +kernel, by decide +kernel⟩
abbrev s_law_far_right : Stmt := top 38
abbrev N_law_far_right : List Str := ["_law_stream_here", "_law_house_here", "_law_table", "_law_one", "_law_other", "_law_length", "_law_bit", "_law_due"]
theorem sc_law_far_right : FnScope N_law_far_right ["_law_stream_here"] (defScope s_law_far_right) := ⟨rfl, rfl, rfl, by decide +kernel, rfl, by decide +kernel, by decide +kernel⟩
abbrev s_law : Stmt := top 39
abbrev N_law : List Str := ["_law_script", "_law_stream_here", "_law_turn"]
theorem sc_law : FnScope N_law ["_law_script"] (defScope s_law) := ⟨rfl, rfl, rfl, by decide +kernel, rfl, by decide +kernel, by decide +kernel⟩
/-! mirrors -/
noncomputable def b_law_stream : MS := sRet (mLst (mCons (mComp (iSeq (mSlc (mVar 0) oNone (oSome (mC (.int 63))))) (gN 2) (mYes) (mB absL (mCons (mVar 2) (mNil))) [2]) (mCons (mC (.int 0)) (mCons (mC (.int 0)) (mCons (mVar 1) (mNil))))))
noncomputable def m_law_stream : Sem := runB 3 b_law_stream
noncomputable def b_law_take : MS := sSeq (sAsg (mVar 0) (gTupM 4 (gConsM (gN 2) (gConsM (gN 3) (gConsM (gN 4) (gConsM (gN 5) (gNilM)))))))
    (sSeq (sAsg (mBin addD (mVar 5) (mC (.int 1))) (gSubM setDD (mVar 0) (mC (.int 3))))
    (sSeq (sIf (mAnd (mTest (mBin eqD (mVar 4) (mC (.int 0)))) (mTest (mBin (cmpI fun i j => decide (i < j)) (mVar 3) (mB lenL (mCons (mVar 2) (mNil)))))) (sSeq (sAsg (mBin addD (mVar 3) (mC (.int 1))) (gSubM setDD (mVar 0) (mC (.int 1))))
    (sSet 4 (mBin mulD (mBin idxA (mVar 2) (mVar 3)) (mB intL (mCons (mBin (cmpI fun i j => decide (j ≤ i)) (mBin idxA (mVar 2) (mVar 3)) (mBin powD (mC (.int 10)) (mC (.int 18)))) (mNil)))))) (sNil))
    (sSeq (sAsg (mBin fdivD (mVar 4) (mVar 1)) (gSubM setDD (mVar 0) (mC (.int 2))))
    (sSeq (sIf (mTest (mBin (cmpI fun i j => decide (j < i)) (mVar 4) (mC (.int 0)))) (sRet (mBin modD (mVar 4) (mVar 1))) (sNil))
    (sSeq (sSet 6 (mBin modD (mBin powD (mBin addD (mBin mulD (mVar 5) (mC (.int 48271))) (mC (.int 12345))) (mC (.int 3))) (mC (.int 2305843009213693951))))
    (sSeq (sIf (mTest (mBin neD (mVar 2) (mLst (mNil)))) (sSet 6 (mBin addD (mVar 6) (mBin mulD (mBin modD (mBin idxA (mVar 2) (mBin modD (mBin mulD (mVar 5) (mC (.int 7))) (mB lenL (mCons (mVar 2) (mNil))))) (mC (.int 2305843009213693951))) (mBin addD (mVar 5) (mC (.int 3)))))) (sNil))
    (sSeq (sSet 6 (mBin modD (mVar 6) (mC (.int 2305843009213693951))))
    (sRet (mBin modD (mBin fdivD (mBin modD (mBin mulD (mVar 6) (mVar 6)) (mC (.int 2305843009213693951))) (mC (.int 16))) (mVar 1))))))))))
noncomputable def m_law_take : Sem := runB 7 b_law_take
noncomputable def b_law_house : MS := sSeq (sSet 4 (mBin addD (mC (.int 2)) (mB m_law_take (mCons (mVar 0) (mCons (mBin subD (mVar 1) (mC (.int 1))) (mNil))))))
    (sSeq (sSet 5 (mLst (mNil)))
    (sSeq (sSet 6 (mVar 3))
    (sSeq (sFor (iRange2 (mCons (mC (.int 1)) (mCons (mVar 4) (mNil)))) (gN 7) (sSeq (sSet 8 (mBin addD (mC (.int 1)) (mB m_law_take (mCons (mVar 0) (mCons (mVar 2) (mNil))))))
    (sSeq (sSet 9 (mComp (iRange2 (mCons (mC (.int 1)) (mCons (mVar 8) (mNil)))) (gN 12) (mTest (mBin eqD (mB m_law_take (mCons (mVar 0) (mCons (mC (.int 4)) (mNil)))) (mC (.int 0)))) (mTup (mCons (mVar 12) (mCons (mBin addD (mC (.int 1)) (mB m_law_take (mCons (mVar 0) (mCons (mC (.int 3)) (mNil))))) (mNil)))) [12]))
    (sSeq (sSet 10 (mSlc (mComp (iRange1 (mCons (mVar 8) (mNil))) (gN 12) (mTest (mBin eqD (mB m_law_take (mCons (mVar 0) (mCons (mC (.int 4)) (mNil)))) (mC (.int 0)))) (mTup (mCons (mVar 12) (mCons (mBin idxA (mLst (mCons (mC (.int 1)) (mCons (mUn negD (mC (.int 1))) (mNil)))) (mB m_law_take (mCons (mVar 0) (mCons (mC (.int 2)) (mNil))))) (mNil)))) [12]) oNone (oSome (mVar 6))))
    (sSeq (sSet 6 (mBin subD (mVar 6) (mB lenL (mCons (mVar 10) (mNil)))))
    (sSeq (sSet 11 (mTup (mCons (mB m_law_take (mCons (mVar 0) (mCons (mVar 7) (mNil)))) (mCons (mVar 7) (mCons (mVar 8) (mCons (mB tupleL (mCons (mSlc (mVar 9) oNone (oSome (mC (.int 3)))) (mNil))) (mCons (mB tupleL (mCons (mVar 10) (mNil))) (mNil))))))))
    (sExpr (mMt isLst insertM (mVar 5) (mCons (mB m_law_take (mCons (mVar 0) (mCons (mBin addD (mB lenL (mCons (mVar 5) (mNil))) (mC (.int 1))) (mNil)))) (mCons (mVar 11) (mNil)))))))))))
    (sRet (mTup (mCons (mVar 4) (mCons (mB tupleL (mCons (mVar 5) (mNil))) (mNil))))))))
noncomputable def m_law_house : Sem := runB 13 b_law_house
noncomputable def b_law_places : MS := sSeq (sSet 1 (mComp (iRange1 (mCons (mBin idxA (mVar 0) (mC (.int 0))) (mNil))) (gN 3) (mYes) (mTup (mCons (mVar 3) (mNil))) [3]))
    (sSeq (sFor (iRange1 (mCons (mB lenL (mCons (mBin idxA (mVar 0) (mC (.int 1))) (mNil))) (mNil))) (gN 2) (sSet 1 (mBin addD (mVar 1) (mComp (iRange2 (mCons (mC (.int 1)) (mCons (mBin idxA (mBin idxA (mBin idxA (mVar 0) (mC (.int 1))) (mVar 2)) (mC (.int 2))) (mNil)))) (gN 4) (mYes) (mTup (mCons (mVar 2) (mCons (mVar 4) (mNil)))) [4]))))
    (sRet (mVar 1)))
noncomputable def m_law_places : Sem := runB 5 b_law_places
noncomputable def b_law_spot : MS := sSeq (sAsg (mBin idxA (mBin idxA (mVar 0) (mC (.int 1))) (mVar 1)) (gTupM 5 (gConsM (gN 3) (gConsM (gN 4) (gConsM (gN 5) (gConsM (gN 6) (gConsM (gN 7) (gNilM))))))))
    (sSeq (sIf (mTest (mBin eqD (mVar 2) (mC (.int 0)))) (sRet (mTup (mCons (mVar 3) (mNil)))) (sNil))
    (sRet (mBin idxA (mLst (mCons (mTup (mCons (mVar 1) (mCons (mVar 2) (mNil)))) (mCons (mTup (mCons (mVar 4) (mNil))) (mNil)))) (mB intL (mCons (mBin eqD (mVar 2) (mVar 5)) (mNil))))))
noncomputable def m_law_spot : Sem := runB 8 b_law_spot
noncomputable def b_law_nexts : MS := sSeq (sSet 1 (mTdicNew))
    (sSeq (sFor (iSeq (mB m_law_places (mCons (mVar 0) (mNil)))) (gN 2) (sAsg (mLst (mNil)) (gSubM setDD (mVar 1) (mVar 2))))
    (sSeq (sFor (iRange1 (mCons (mB lenL (mCons (mBin idxA (mVar 0) (mC (.int 1))) (mNil))) (mNil))) (gN 3) (sFor (iRange1 (mCons (mBin idxA (mBin idxA (mBin idxA (mVar 0) (mC (.int 1))) (mVar 3)) (mC (.int 2))) (mNil))) (gN 4) (sSeq (sPar 5 6 (mCons (mB m_law_spot (mCons (mVar 0) (mCons (mVar 3) (mCons (mVar 4) (mNil))))) (mCons (mB m_law_spot (mCons (mVar 0) (mCons (mVar 3) (mCons (mBin addD (mVar 4) (mC (.int 1))) (mNil))))) (mNil))))
    (sSeq (sExpr (mMt isLst appendM (mBin idxA (mVar 1) (mVar 5)) (mCons (mVar 6) (mNil))))
    (sExpr (mMt isLst appendM (mBin idxA (mVar 1) (mVar 6)) (mCons (mVar 5) (mNil))))))))
    (sRet (mVar 1))))
noncomputable def m_law_nexts : Sem := runB 7 b_law_nexts
noncomputable def b_law_row : MS := sSeq (sSet 3 (mTdic [(mVar 2, mVar 2)]))
    (sSeq (sSet 4 (mLst (mCons (mVar 2) (mNil))))
    (sSeq (whileL (mTest (mBin notInDD (mVar 1) (mVar 3))) (sSeq (sSet 5 (mLst (mNil)))
    (sSeq (sFor (iSeq (mVar 4)) (gN 6) (sFor (iSeq (mComp (iSeq (mBin idxA (mVar 0) (mVar 6))) (gN 7) (mTest (mBin notInDD (mVar 7) (mVar 3))) (mVar 7) [7])) (gN 7) (sSeq (sAsg (mVar 6) (gSubM setDD (mVar 3) (mVar 7)))
    (sExpr (mMt isLst appendM (mVar 5) (mCons (mVar 7) (mNil)))))))
    (sSet 4 (mVar 5)))) 1000)
    (sSeq (sSet 8 (mLst (mCons (mVar 1) (mNil))))
    (sSeq (whileL (mTest (mBin neD (mBin idxA (mVar 8) (mUn negD (mC (.int 1)))) (mVar 2))) (sExpr (mMt isLst appendM (mVar 8) (mCons (mBin idxA (mVar 3) (mBin idxA (mVar 8) (mUn negD (mC (.int 1))))) (mNil)))) 1000)
    (sRet (mVar 8))))))
noncomputable def m_law_row : Sem := runB 9 b_law_row
noncomputable def b_law_rope : MS := sSeq (sSet 2 (mSlc (mComp (iRange1 (mCons (mBin addD (mVar 1) (mC (.int 1))) (mNil))) (gN 3) (mTest (mBin eqD (mB m_law_take (mCons (mVar 0) (mCons (mC (.int 4)) (mNil)))) (mC (.int 0)))) (mVar 3) [3]) oNone (oSome (mC (.int 2)))))
    (sRet (mTup (mCons (mVar 1) (mCons (mB tupleL (mCons (mComp (iSeq (mVar 2)) (gN 3) (mYes) (mTup (mCons (mVar 3) (mCons (mBin addD (mC (.int 1)) (mB m_law_take (mCons (mVar 0) (mCons (mC (.int 3)) (mNil))))) (mNil)))) [3]) (mNil))) (mNil)))))
noncomputable def m_law_rope : Sem := runB 4 b_law_rope
noncomputable def b_law_widths : MS := sSeq (sSet 1 (mTdicNew))
    (sSeq (sFor (iRange1 (mCons (mB lenL (mCons (mBin idxA (mVar 0) (mC (.int 1))) (mNil))) (mNil))) (gN 2) (sFor (iSeq (mBin idxA (mBin idxA (mBin idxA (mVar 0) (mC (.int 1))) (mVar 2)) (mC (.int 3)))) (gTupM 2 (gConsM (gN 3) (gConsM (gN 4) (gNilM)))) (sAsg (mVar 4) (gSubM setDD (mVar 1) (mTup (mCons (mVar 2) (mCons (mVar 3) (mNil))))))))
    (sRet (mVar 1)))
noncomputable def m_law_widths : Sem := runB 5 b_law_widths
noncomputable def b_law_knots_lie : MS := sSeq (sSet 3 (mB m_law_widths (mCons (mVar 0) (mNil))))
    (sSeq (sSet 4 (mComp (iSeq (mBin idxA (mVar 1) (mC (.int 1)))) (gTupM 2 (gConsM (gN 5) (gConsM (gN 6) (gNilM)))) (mTest (mBin (cmpI fun i j => decide (i < j)) (mMt isDic getM (mVar 3) (mCons (mBin idxA (mVar 2) (mVar 5)) (mCons (mVar 6) (mNil)))) (mVar 6))) (mVar 5) [5, 6]))
    (sRet (mBin eqD (mVar 4) (mLst (mNil)))))
noncomputable def m_law_knots_lie : Sem := runB 7 b_law_knots_lie
noncomputable def b_law_drawn : MS := sSeq (sSet 3 (mB m_law_places (mCons (mVar 1) (mNil))))
    (sSeq (sSet 4 (mBin idxA (mVar 3) (mB m_law_take (mCons (mVar 0) (mCons (mB lenL (mCons (mVar 3) (mNil))) (mNil))))))
    (sSeq (sSet 5 (mBin idxA (mVar 3) (mB m_law_take (mCons (mVar 0) (mCons (mB lenL (mCons (mVar 3) (mNil))) (mNil))))))
    (sSeq (sSet 6 (mB m_law_row (mCons (mVar 2) (mCons (mVar 4) (mCons (mVar 5) (mNil))))))
    (sSeq (sIf (mTest (mBin (cmpI fun i j => decide (i < j)) (mB lenL (mCons (mVar 6) (mNil))) (mC (.int 2)))) (sSet 6 (mLst (mCons (mVar 4) (mCons (mBin idxA (mBin idxA (mVar 2) (mVar 4)) (mC (.int 0))) (mNil))))) (sNil))
    (sSeq (sSet 7 (mB m_law_rope (mCons (mVar 0) (mCons (mBin subD (mB lenL (mCons (mVar 6) (mNil))) (mC (.int 1))) (mNil)))))
    (sSeq (sIf (mNot (mTest (mB m_law_knots_lie (mCons (mVar 1) (mCons (mVar 7) (mCons (mVar 6) (mNil))))))) (sSet 7 (mTup (mCons (mBin idxA (mVar 7) (mC (.int 0))) (mCons (mTup (mNil)) (mNil))))) (sNil))
    (sRet (mLst (mCons (mVar 7) (mCons (mTup (mCons (mBin idxA (mVar 6) (mUn negD (mC (.int 1)))) (mCons (mBin idxA (mVar 6) (mC (.int 0))) (mNil)))) (mNil)))))))))))
noncomputable def m_law_drawn : Sem := runB 8 b_law_drawn
noncomputable def b_place_at : MS := sSeq (sAsg (mBin idxA (mBin idxA (mVar 0) (mC (.int 1))) (mVar 1)) (gTupM 5 (gConsM (gN 3) (gConsM (gN 4) (gConsM (gN 5) (gConsM (gN 6) (gConsM (gN 7) (gNilM))))))))
    (sSeq (sIf (mTest (mBin eqD (mVar 2) (mC (.int 0)))) (sRet (mTup (mCons (mVar 3) (mNil)))) (sNil))
    (sSeq (sIf (mTest (mBin eqD (mVar 2) (mVar 5))) (sRet (mTup (mCons (mVar 4) (mNil)))) (sNil))
    (sRet (mTup (mCons (mVar 1) (mCons (mVar 2) (mNil)))))))
noncomputable def m_place_at : Sem := runB 8 b_place_at
noncomputable def b_place_along : MS := sSeq (sSet 4 (mVar 3))
    (sSeq (sFor (iSeq (mVar 1)) (gTupM 3 (gConsM (gN 5) (gConsM (gN 6) (gConsM (gN 7) (gNilM))))) (sSeq (sIf (mTest (mBin (cmpI fun i j => decide (i ≤ j)) (mVar 4) (mB absL (mCons (mBin subD (mVar 7) (mVar 6)) (mNil))))) (sRet (mB m_place_at (mCons (mVar 0) (mCons (mVar 5) (mCons (mIfE (mTest (mBin (cmpI fun i j => decide (i < j)) (mVar 6) (mVar 7))) (mBin addD (mVar 6) (mVar 4)) (mBin subD (mVar 6) (mVar 4))) (mNil)))))) (sNil))
    (sAug 4 subD (mB absL (mCons (mBin subD (mVar 7) (mVar 6)) (mNil))))))
    (sRet (mVar 2)))
noncomputable def m_place_along : Sem := runB 8 b_place_along
noncomputable def b_is_one_pipe : MS := sRet (mAndV (mBin eqD (mB lenL (mCons (mVar 0) (mNil))) (mC (.int 2))) (mAndV (mBin eqD (mB lenL (mCons (mVar 1) (mNil))) (mC (.int 2))) (mBin eqD (mBin idxA (mVar 0) (mC (.int 0))) (mBin idxA (mVar 1) (mC (.int 0))))))
noncomputable def m_is_one_pipe : Sem := runB 2 b_is_one_pipe
noncomputable def b_sides_of : MS := sSeq (sIf (mTest (mBin eqD (mB lenL (mCons (mVar 1) (mNil))) (mC (.int 1)))) (sRet (mLst (mCons (mTup (mCons (mBin idxA (mVar 1) (mC (.int 0))) (mCons (mC (.int 0)) (mCons (mLst (mNil)) (mNil))))) (mNil)))) (sNil))
    (sSeq (sAsg (mVar 1) (gTupM 2 (gConsM (gN 2) (gConsM (gN 3) (gNilM)))))
    (sSeq (sAsg (mBin idxA (mBin idxA (mVar 0) (mC (.int 1))) (mVar 2)) (gTupM 5 (gConsM (gN 4) (gConsM (gN 5) (gConsM (gN 6) (gConsM (gN 7) (gConsM (gN 8) (gNilM))))))))
    (sRet (mLst (mCons (mTup (mCons (mVar 4) (mCons (mVar 3) (mCons (mLst (mCons (mTup (mCons (mVar 2) (mCons (mVar 3) (mCons (mC (.int 0)) (mNil))))) (mNil))) (mNil))))) (mCons (mTup (mCons (mVar 5) (mCons (mBin subD (mVar 6) (mVar 3)) (mCons (mLst (mCons (mTup (mCons (mVar 2) (mCons (mVar 3) (mCons (mVar 6) (mNil))))) (mNil))) (mNil))))) (mNil)))))))
noncomputable def m_sides_of : Sem := runB 9 b_sides_of
noncomputable def b_turned : MS := sRet (mComp (iRevD (mCons (mVar 0) (mNil))) (gTupM 3 (gConsM (gN 1) (gConsM (gN 2) (gConsM (gN 3) (gNilM))))) (mYes) (mTup (mCons (mVar 1) (mCons (mVar 3) (mCons (mVar 2) (mNil))))) [1, 2, 3])
noncomputable def m_turned : Sem := runB 4 b_turned
noncomputable def b_between_rooms : MS := sSeq (sSet 2 (mLst (mNil)))
    (sSeq (whileL (mTest (mBin isNotD (mBin idxA (mBin idxA (mVar 0) (mVar 1)) (mC (.int 1))) (mC .non))) (sSeq (sExpr (mMt isLst appendM (mVar 2) (mCons (mBin idxA (mBin idxA (mVar 0) (mVar 1)) (mC (.int 1))) (mNil))))
    (sSet 1 (mBin idxA (mBin idxA (mVar 0) (mVar 1)) (mC (.int 2))))) 1000)
    (sRet (mUn backD (mVar 2))))
noncomputable def m_between_rooms : Sem := runB 3 b_between_rooms
noncomputable def b_road_in : MS := sSeq (sIf (mTest (mBin eqD (mVar 1) (mVar 2))) (sRet (mLst (mNil))) (sNil))
    (sSeq (sIf (mTest (mB m_is_one_pipe (mCons (mVar 1) (mCons (mVar 2) (mNil))))) (sRet (mLst (mCons (mTup (mCons (mBin idxA (mVar 1) (mC (.int 0))) (mCons (mBin idxA (mVar 1) (mC (.int 1))) (mCons (mBin idxA (mVar 2) (mC (.int 1))) (mNil))))) (mNil)))) (sNil))
    (sSeq (sSet 3 (mC .non))
    (sSeq (sFor (iSeq (mB m_sides_of (mCons (mUn (fldD "Web" "own") (mVar 0)) (mCons (mVar 1) (mNil))))) (gTupM 3 (gConsM (gN 4) (gConsM (gN 5) (gConsM (gN 6) (gNilM))))) (sSeq (sSet 7 (mBin idxA (mUn (fldD "Web" "known") (mVar 0)) (mVar 4)))
    (sFor (iSeq (mB m_sides_of (mCons (mUn (fldD "Web" "own") (mVar 0)) (mCons (mVar 2) (mNil))))) (gTupM 3 (gConsM (gN 8) (gConsM (gN 9) (gConsM (gN 10) (gNilM))))) (sSeq (sSet 11 (mBin addD (mBin addD (mVar 5) (mBin idxA (mBin idxA (mVar 7) (mVar 8)) (mC (.int 0)))) (mVar 9)))
    (sIf (mOr (mTest (mBin isD (mVar 3) (mC .non))) (mTest (mBin (cmpI fun i j => decide (i < j)) (mVar 11) (mBin idxA (mVar 3) (mC (.int 0)))))) (sSet 3 (mTup (mCons (mVar 11) (mCons (mVar 6) (mCons (mVar 7) (mCons (mVar 8) (mCons (mVar 10) (mNil)))))))) (sNil))))))
    (sSeq (sAsg (mVar 3) (gTupM 5 (gConsM (gN 11) (gConsM (gN 6) (gConsM (gN 7) (gConsM (gN 8) (gConsM (gN 10) (gNilM))))))))
    (sRet (mBin addD (mBin addD (mVar 6) (mB m_between_rooms (mCons (mVar 7) (mCons (mVar 8) (mNil))))) (mB m_turned (mCons (mVar 10) (mNil)))))))))
noncomputable def m_road_in : Sem := runB 12 b_road_in
noncomputable def b_spot_in : MS := sRet (mB m_place_along (mCons (mUn (fldD "Web" "own") (mVar 0)) (mCons (mB m_road_in (mCons (mVar 0) (mCons (mVar 1) (mCons (mVar 2) (mNil))))) (mCons (mVar 1) (mCons (mVar 3) (mNil))))))
noncomputable def m_spot_in : Sem := runB 4 b_spot_in
noncomputable def b_pipes_at : MS := sSeq (sSet 2 (mLst (mNil)))
    (sSeq (sFor (iEnumD (mCons (mBin idxA (mVar 0) (mC (.int 1))) (mNil))) (gTupM 2 (gConsM (gN 3) (gConsM (gTupM 5 (gConsM (gN 4) (gConsM (gN 5) (gConsM (gN 6) (gConsM (gN 7) (gConsM (gN 8) (gNilM))))))) (gNilM)))) (sIf (mTest (mBin eqD (mVar 4) (mVar 1))) (sExpr (mMt isLst appendM (mVar 2) (mCons (mTup (mCons (mVar 3) (mCons (mC (.int 0)) (mCons (mVar 6) (mCons (mVar 5) (mNil)))))) (mNil)))) (sIf (mTest (mBin eqD (mVar 5) (mVar 1))) (sExpr (mMt isLst appendM (mVar 2) (mCons (mTup (mCons (mVar 3) (mCons (mVar 6) (mCons (mC (.int 0)) (mCons (mVar 4) (mNil)))))) (mNil)))) (sNil))))
    (sRet (mVar 2)))
noncomputable def m_pipes_at : Sem := runB 9 b_pipes_at
noncomputable def b_rooms_from : MS := sSeq (sSet 2 (mDic [(mVar 1, mTup (mCons (mC (.int 0)) (mCons (mC .non) (mCons (mC .non) (mNil)))))]))
    (sSeq (sSet 3 (mLst (mCons (mVar 1) (mNil))))
    (sSeq (sSet 4 (mC (.int 0)))
    (sSeq (whileL (mTest (mBin (cmpI fun i j => decide (i < j)) (mVar 4) (mB lenL (mCons (mVar 3) (mNil))))) (sSeq (sSet 5 (mBin idxA (mVar 3) (mVar 4)))
    (sSeq (sFor (iSeq (mB m_pipes_at (mCons (mVar 0) (mCons (mVar 5) (mNil))))) (gTupM 4 (gConsM (gN 6) (gConsM (gN 7) (gConsM (gN 8) (gConsM (gN 9) (gNilM)))))) (sIf (mTest (mBin notInDD (mVar 9) (mVar 2))) (sSeq (sAsg (mTup (mCons (mBin addD (mBin idxA (mBin idxA (mVar 2) (mVar 5)) (mC (.int 0))) (mB absL (mCons (mBin subD (mVar 8) (mVar 7)) (mNil)))) (mCons (mTup (mCons (mVar 6) (mCons (mVar 7) (mCons (mVar 8) (mNil))))) (mCons (mVar 5) (mNil))))) (gSubM setDD (mVar 2) (mVar 9)))
    (sExpr (mMt isLst appendM (mVar 3) (mCons (mVar 9) (mNil))))) (sNil)))
    (sAug 4 iaddD (mC (.int 1))))) 1000)
    (sRet (mVar 2)))))
noncomputable def m_rooms_from : Sem := runB 10 b_rooms_from
noncomputable def b_Web_init : MS := sSeq (sFldM "Web" "own" (mVar 0) (mVar 1))
    (sFldM "Web" "known" (mVar 0) (mComp (iRange1 (mCons (mBin idxA (mVar 1) (mC (.int 0))) (mNil))) (gN 2) (mYes) (mB m_rooms_from (mCons (mVar 1) (mCons (mVar 2) (mNil)))) [2]))
noncomputable def m_Web_init : Sem := runB 3 b_Web_init
noncomputable def b_place_on : MS := sRet (mB m_spot_in (mCons (mMake "Web" (noX m_Web_init) (mCons (mVar 0) (mNil))) (mCons (mVar 1) (mCons (mVar 2) (mCons (mVar 3) (mNil))))))
noncomputable def m_place_on : Sem := runB 4 b_place_on
noncomputable def b_bit_at : MS := sRet (mB m_place_on (mCons (mVar 0) (mCons (mBin idxA (mVar 1) (mC (.int 1))) (mCons (mBin idxA (mVar 1) (mC (.int 0))) (mCons (mVar 2) (mNil))))))
noncomputable def m_bit_at : Sem := runB 3 b_bit_at
noncomputable def b_law_small_right : MS := sSeq (sSet 1 (mB m_law_house (mCons (mVar 0) (mCons (mC (.int 5)) (mCons (mC (.int 4)) (mCons (mC (.int 2)) (mNil)))))))
    (sSeq (sSet 2 (mB m_law_nexts (mCons (mVar 1) (mNil))))
    (sSeq (sAsg (mB m_law_drawn (mCons (mVar 0) (mCons (mVar 1) (mCons (mVar 2) (mNil))))) (gTupM 2 (gConsM (gN 3) (gConsM (gN 4) (gNilM)))))
    (sSeq (sSet 5 (mB m_law_row (mCons (mVar 2) (mCons (mBin idxA (mVar 4) (mC (.int 1))) (mCons (mBin idxA (mVar 4) (mC (.int 0))) (mNil))))))
    (sSeq (sSet 6 (mComp (iRange1 (mCons (mBin addD (mBin idxA (mVar 3) (mC (.int 0))) (mC (.int 1))) (mNil))) (gN 7) (mYes) (mB m_bit_at (mCons (mVar 1) (mCons (mVar 4) (mCons (mVar 7) (mNil))))) [7]))
    (sRet (mBin eqT (mB reprL (mCons (mVar 6) (mNil))) (mB reprL (mCons (mVar 5) (mNil)))))))))
noncomputable def m_law_small_right : Sem := runB 8 b_law_small_right
noncomputable def b_law_far : MS := sSeq (sSet 2 (mB min2L (mCons (mVar 1) (mCons (mBin idxA (mLst (mCons (mVar 1) (mCons (mC (.int 10)) (mCons (mC (.int 1000)) (mCons (mBin powD (mC (.int 10)) (mC (.int 9))) (mNil)))))) (mB m_law_take (mCons (mVar 0) (mCons (mC (.int 4)) (mNil))))) (mNil)))))
    (sSeq (sSet 3 (mB m_law_take (mCons (mVar 0) (mCons (mVar 2) (mNil)))))
    (sRet (mBin idxA (mLst (mCons (mVar 3) (mCons (mBin subD (mBin subD (mVar 1) (mC (.int 1))) (mVar 3)) (mNil)))) (mB intL (mCons (mBin eqD (mB m_law_take (mCons (mVar 0) (mCons (mC (.int 4)) (mNil)))) (mC (.int 0))) (mNil))))))
noncomputable def m_law_far : Sem := runB 4 b_law_far
noncomputable def b_law_far_house : MS := sSeq (sSet 2 (mBin addD (mC (.int 2)) (mB m_law_take (mCons (mVar 0) (mCons (mC (.int 15)) (mNil))))))
    (sSeq (sSet 3 (mLst (mNil)))
    (sSeq (sSet 4 (mLst (mCons (mC (.int 12)) (mCons (mVar 1) (mNil)))))
    (sSeq (sFor (iRange2 (mCons (mC (.int 1)) (mCons (mVar 2) (mNil)))) (gN 5) (sSeq (sSet 6 (mBin addD (mC (.int 1)) (mB m_law_far (mCons (mVar 0) (mCons (mBin powD (mC (.int 10)) (mC (.int 12))) (mNil))))))
    (sSeq (sSet 7 (mComp (iRange1 (mCons (mBin mulD (mB m_law_take (mCons (mVar 0) (mCons (mC (.int 3)) (mNil)))) (mB intL (mCons (mBin (cmpI fun i j => decide (j < i)) (mVar 6) (mC (.int 1))) (mNil)))) (mNil))) (gN 11) (mYes) (mBin addD (mC (.int 1)) (mB m_law_far (mCons (mVar 0) (mCons (mB max2L (mCons (mC (.int 1)) (mCons (mBin subD (mVar 6) (mC (.int 1))) (mNil)))) (mNil))))) [11]))
    (sSeq (sSet 8 (mSlc (mComp (iSeq (mB sortedA (mCons (mB setL (mCons (mVar 7) (mNil))) (mNil)))) (gN 12) (mYes) (mTup (mCons (mVar 12) (mCons (mBin addD (mC (.int 1)) (mB m_law_take (mCons (mVar 0) (mCons (mC (.int 3)) (mNil))))) (mNil)))) [12]) oNone (oSome (mBin idxA (mVar 4) (mC (.int 0))))))
    (sSeq (sSet 7 (mSlc (mComp (iRange1 (mCons (mB m_law_take (mCons (mVar 0) (mCons (mC (.int 2)) (mNil)))) (mNil))) (gN 11) (mYes) (mB m_law_far (mCons (mVar 0) (mCons (mVar 6) (mNil)))) [11]) oNone (oSome (mBin idxA (mVar 4) (mC (.int 1))))))
    (sSeq (sSet 9 (mComp (iSeq (mVar 7)) (gN 12) (mYes) (mTup (mCons (mVar 12) (mCons (mBin idxA (mLst (mCons (mC (.int 1)) (mCons (mUn negD (mC (.int 1))) (mNil)))) (mB m_law_take (mCons (mVar 0) (mCons (mC (.int 2)) (mNil))))) (mNil)))) [12]))
    (sSeq (sSet 4 (mLst (mCons (mBin subD (mBin idxA (mVar 4) (mC (.int 0))) (mB lenL (mCons (mVar 8) (mNil)))) (mCons (mBin subD (mBin idxA (mVar 4) (mC (.int 1))) (mB lenL (mCons (mVar 9) (mNil)))) (mNil)))))
    (sSeq (sSet 10 (mTup (mCons (mB m_law_take (mCons (mVar 0) (mCons (mVar 5) (mNil)))) (mCons (mVar 5) (mCons (mVar 6) (mCons (mB tupleL (mCons (mVar 8) (mNil))) (mCons (mB tupleL (mCons (mVar 9) (mNil))) (mNil))))))))
    (sExpr (mMt isLst insertM (mVar 3) (mCons (mB m_law_take (mCons (mVar 0) (mCons (mBin addD (mB lenL (mCons (mVar 3) (mNil))) (mC (.int 1))) (mNil)))) (mCons (mVar 10) (mNil)))))))))))))
    (sRet (mTup (mCons (mVar 2) (mCons (mB tupleL (mCons (mVar 3) (mNil))) (mNil))))))))
noncomputable def m_law_far_house : Sem := runB 13 b_law_far_house
noncomputable def b_law_rooms_apart : MS := sSeq (sSet 1 (mTdicNew))
    (sSeq (sFor (iRange1 (mCons (mBin idxA (mVar 0) (mC (.int 0))) (mNil))) (gN 2) (sAsg (mC (.int 0)) (gSubM setDD (mVar 1) (mTup (mCons (mVar 2) (mCons (mVar 2) (mNil)))))))
    (sSeq (sFor (iRange1 (mCons (mBin idxA (mVar 0) (mC (.int 0))) (mNil))) (gN 3) (sFor (iSeq (mBin idxA (mVar 0) (mC (.int 1)))) (gTupM 5 (gConsM (gN 4) (gConsM (gN 5) (gConsM (gN 6) (gConsM (gN 7) (gConsM (gN 8) (gNilM))))))) (sFor (iRange1 (mCons (mBin idxA (mVar 0) (mC (.int 0))) (mNil))) (gN 2) (sSeq (sIf (mAnd (mTest (mBin inDD (mTup (mCons (mVar 2) (mCons (mVar 4) (mNil)))) (mVar 1))) (mTest (mBin notInDD (mTup (mCons (mVar 2) (mCons (mVar 5) (mNil)))) (mVar 1)))) (sAsg (mBin addD (mBin idxA (mVar 1) (mTup (mCons (mVar 2) (mCons (mVar 4) (mNil))))) (mVar 6)) (gSubM setDD (mVar 1) (mTup (mCons (mVar 2) (mCons (mVar 5) (mNil)))))) (sNil))
    (sIf (mAnd (mTest (mBin inDD (mTup (mCons (mVar 2) (mCons (mVar 5) (mNil)))) (mVar 1))) (mTest (mBin notInDD (mTup (mCons (mVar 2) (mCons (mVar 4) (mNil)))) (mVar 1)))) (sAsg (mBin addD (mBin idxA (mVar 1) (mTup (mCons (mVar 2) (mCons (mVar 5) (mNil))))) (mVar 6)) (gSubM setDD (mVar 1) (mTup (mCons (mVar 2) (mCons (mVar 4) (mNil)))))) (sNil))))))
    (sRet (mVar 1))))
noncomputable def m_law_rooms_apart : Sem := runB 9 b_law_rooms_apart
noncomputable def b_law_far_place : MS := sSeq (sSet 2 (mB m_law_take (mCons (mVar 0) (mCons (mB lenL (mCons (mBin idxA (mVar 1) (mC (.int 1))) (mNil))) (mNil)))))
    (sSeq (sIf (mOr (mTest (mBin eqD (mBin idxA (mBin idxA (mBin idxA (mVar 1) (mC (.int 1))) (mVar 2)) (mC (.int 2))) (mC (.int 1)))) (mTest (mBin eqD (mB m_law_take (mCons (mVar 0) (mCons (mC (.int 4)) (mNil)))) (mC (.int 0))))) (sRet (mTup (mCons (mB m_law_take (mCons (mVar 0) (mCons (mBin idxA (mVar 1) (mC (.int 0))) (mNil)))) (mNil)))) (sNil))
    (sRet (mTup (mCons (mVar 2) (mCons (mBin addD (mC (.int 1)) (mB m_law_far (mCons (mVar 0) (mCons (mBin subD (mBin idxA (mBin idxA (mBin idxA (mVar 1) (mC (.int 1))) (mVar 2)) (mC (.int 2))) (mC (.int 1))) (mNil))))) (mNil))))))
noncomputable def m_law_far_place : Sem := runB 3 b_law_far_place
noncomputable def b_law_two : MS := sSeq (sPar 2 3 (mCons (mB m_law_far_place (mCons (mVar 0) (mCons (mVar 1) (mNil)))) (mCons (mB m_law_far_place (mCons (mVar 0) (mCons (mVar 1) (mNil)))) (mNil))))
    (sSeq (sIf (mTest (mBin eqD (mVar 2) (mVar 3))) (sSet 3 (mBin idxA (mLst (mCons (mTup (mCons (mC (.int 0)) (mNil))) (mCons (mTup (mCons (mC (.int 1)) (mNil))) (mNil)))) (mB intL (mCons (mBin eqD (mVar 2) (mTup (mCons (mC (.int 0)) (mNil)))) (mNil))))) (sNil))
    (sRet (mLst (mCons (mVar 2) (mCons (mVar 3) (mNil))))))
noncomputable def m_law_two : Sem := runB 4 b_law_two
noncomputable def b_law_rooms_by : MS := sSeq (sIf (mTest (mBin eqD (mB lenL (mCons (mVar 1) (mNil))) (mC (.int 1)))) (sRet (mLst (mCons (mTup (mCons (mBin idxA (mVar 1) (mC (.int 0))) (mCons (mC (.int 0)) (mNil)))) (mNil)))) (sNil))
    (sSeq (sAsg (mBin idxA (mBin idxA (mVar 0) (mC (.int 1))) (mBin idxA (mVar 1) (mC (.int 0)))) (gTupM 5 (gConsM (gN 2) (gConsM (gN 3) (gConsM (gN 4) (gConsM (gN 5) (gConsM (gN 6) (gNilM))))))))
    (sRet (mLst (mCons (mTup (mCons (mVar 2) (mCons (mBin idxA (mVar 1) (mC (.int 1))) (mNil)))) (mCons (mTup (mCons (mVar 3) (mCons (mBin subD (mVar 4) (mBin idxA (mVar 1) (mC (.int 1)))) (mNil)))) (mNil))))))
noncomputable def m_law_rooms_by : Sem := runB 7 b_law_rooms_by
noncomputable def b_law_apart : MS := sSeq (sIf (mAnd (mTest (mBin eqD (mB lenL (mCons (mVar 2) (mNil))) (mC (.int 2)))) (mAnd (mTest (mBin eqD (mB lenL (mCons (mVar 3) (mNil))) (mC (.int 2)))) (mTest (mBin eqD (mBin idxA (mVar 2) (mC (.int 0))) (mBin idxA (mVar 3) (mC (.int 0))))))) (sRet (mB absL (mCons (mBin subD (mBin idxA (mVar 2) (mC (.int 1))) (mBin idxA (mVar 3) (mC (.int 1)))) (mNil)))) (sNil))
    (sSeq (sSet 4 (mLst (mNil)))
    (sSeq (sFor (iSeq (mB m_law_rooms_by (mCons (mVar 0) (mCons (mVar 2) (mNil))))) (gTupM 2 (gConsM (gN 5) (gConsM (gN 6) (gNilM)))) (sSet 4 (mBin addD (mVar 4) (mComp (iSeq (mB m_law_rooms_by (mCons (mVar 0) (mCons (mVar 3) (mNil))))) (gTupM 2 (gConsM (gN 7) (gConsM (gN 8) (gNilM)))) (mYes) (mBin addD (mBin addD (mVar 6) (mBin idxA (mVar 1) (mTup (mCons (mVar 5) (mCons (mVar 7) (mNil)))))) (mVar 8)) [7, 8]))))
    (sRet (mB minLL (mCons (mVar 4) (mNil))))))
noncomputable def m_law_apart : Sem := runB 9 b_law_apart
noncomputable def b_law_far_spot : MS := sSeq (sIf (mTest (mBin eqD (mVar 2) (mC (.int 0)))) (sRet (mTup (mCons (mBin idxA (mBin idxA (mBin idxA (mVar 0) (mC (.int 1))) (mVar 1)) (mC (.int 0))) (mNil)))) (sNil))
    (sRet (mBin idxA (mLst (mCons (mTup (mCons (mVar 1) (mCons (mVar 2) (mNil)))) (mCons (mTup (mCons (mBin idxA (mBin idxA (mBin idxA (mVar 0) (mC (.int 1))) (mVar 1)) (mC (.int 1))) (mNil))) (mNil)))) (mB intL (mCons (mBin eqD (mVar 2) (mBin idxA (mBin idxA (mBin idxA (mVar 0) (mC (.int 1))) (mVar 1)) (mC (.int 2)))) (mNil)))))
noncomputable def m_law_far_spot : Sem := runB 3 b_law_far_spot
noncomputable def b_law_on : MS := sSeq (sSet 5 (mB m_law_apart (mCons (mVar 0) (mCons (mVar 1) (mCons (mVar 2) (mCons (mVar 3) (mNil)))))))
    (sSeq (sFor (iRange1 (mCons (mB lenL (mCons (mBin idxA (mVar 0) (mC (.int 1))) (mNil))) (mNil))) (gN 6) (sSeq (sAsg (mBin idxA (mBin idxA (mVar 0) (mC (.int 1))) (mVar 6)) (gTupM 5 (gConsM (gN 7) (gConsM (gN 8) (gConsM (gN 9) (gConsM (gN 10) (gConsM (gN 11) (gNilM))))))))
    (sSeq (sSet 12 (mLst (mCons (mBin subD (mVar 4) (mB m_law_apart (mCons (mVar 0) (mCons (mVar 1) (mCons (mVar 2) (mCons (mTup (mCons (mVar 7) (mNil))) (mNil))))))) (mNil))))
    (sSeq (sExpr (mMt isLst appendM (mVar 12) (mCons (mBin addD (mBin subD (mVar 9) (mVar 4)) (mB m_law_apart (mCons (mVar 0) (mCons (mVar 1) (mCons (mVar 2) (mCons (mTup (mCons (mVar 8) (mNil))) (mNil))))))) (mNil))))
    (sSeq (sIf (mAnd (mTest (mBin eqD (mBin idxA (mVar 2) (mC (.int 0))) (mVar 6))) (mTest (mBin eqD (mB lenL (mCons (mVar 2) (mNil))) (mC (.int 2))))) (sSet 12 (mLst (mCons (mBin addD (mBin idxA (mVar 2) (mC (.int 1))) (mVar 4)) (mCons (mBin subD (mBin idxA (mVar 2) (mC (.int 1))) (mVar 4)) (mNil))))) (sNil))
    (sFor (iSeq (mComp (iSeq (mVar 12)) (gN 15) (mTest (mChain (cmpI fun i j => decide (i ≤ j)) (cmpI fun i j => decide (i ≤ j)) (mC (.int 0)) (mVar 15) (mVar 9))) (mB m_law_far_spot (mCons (mVar 0) (mCons (mVar 6) (mCons (mVar 15) (mNil))))) [15])) (gN 13) (sSeq (sSet 14 (mB m_law_apart (mCons (mVar 0) (mCons (mVar 1) (mCons (mVar 2) (mCons (mVar 13) (mNil)))))))
    (sIf (mAnd (mTest (mBin eqD (mVar 14) (mVar 4))) (mTest (mBin eqD (mB m_law_apart (mCons (mVar 0) (mCons (mVar 1) (mCons (mVar 13) (mCons (mVar 3) (mNil)))))) (mBin subD (mVar 5) (mVar 4))))) (sRet (mVar 13)) (sNil)))))))))
    (sRet (mC .non)))
noncomputable def m_law_on : Sem := runB 16 b_law_on
noncomputable def b_law_far_right : MS := sSeq (sSet 1 (mB m_law_far_house (mCons (mVar 0) (mCons (mC (.int 0)) (mNil)))))
    (sSeq (sSet 2 (mB m_law_rooms_apart (mCons (mVar 1) (mNil))))
    (sSeq (sAsg (mB m_law_two (mCons (mVar 0) (mCons (mVar 1) (mNil)))) (gTupM 2 (gConsM (gN 3) (gConsM (gN 4) (gNilM)))))
    (sSeq (sSet 5 (mB m_law_apart (mCons (mVar 1) (mCons (mVar 2) (mCons (mVar 3) (mCons (mVar 4) (mNil)))))))
    (sSeq (sFor (iSeq (mLst (mCons (mC (.int 0)) (mCons (mVar 5) (mCons (mB m_law_far (mCons (mVar 0) (mCons (mBin addD (mVar 5) (mC (.int 1))) (mNil)))) (mCons (mB m_law_far (mCons (mVar 0) (mCons (mBin addD (mVar 5) (mC (.int 1))) (mNil)))) (mCons (mB m_law_take (mCons (mVar 0) (mCons (mBin addD (mVar 5) (mC (.int 1))) (mNil)))) (mNil)))))))) (gN 6) (sSeq (sSet 7 (mB m_law_on (mCons (mVar 1) (mCons (mVar 2) (mCons (mVar 4) (mCons (mVar 3) (mCons (mVar 6) (mNil))))))))
    (sSeq (sIf (mTest (mBin neT (mB reprL (mCons (mB m_bit_at (mCons (mVar 1) (mCons (mTup (mCons (mVar 3) (mCons (mVar 4) (mNil)))) (mCons (mVar 6) (mNil))))) (mNil))) (mB reprL (mCons (mVar 7) (mNil))))) (sRet (mC (.bl false))) (sNil))
    (sIf (mTest (mBin neT (mB reprL (mCons (mB m_bit_at (mCons (mVar 1) (mCons (mTup (mCons (mVar 4) (mCons (mVar 3) (mNil)))) (mCons (mBin subD (mVar 5) (mVar 6)) (mNil))))) (mNil))) (mB reprL (mCons (mVar 7) (mNil))))) (sRet (mC (.bl false))) (sNil)))))
    (sRet (mC (.bl true)))))))
noncomputable def m_law_far_right : Sem := runB 8 b_law_far_right
noncomputable def b_law : MS := sSeq (sSet 1 (mB m_law_stream (mCons (mVar 0) (mCons (mC (.int 12)) (mNil)))))
    (sSeq (sFor (iRange1 (mCons (mC (.int 3)) (mNil))) (gN 2) (sIf (mOr (mNot (mTest (mB m_law_small_right (mCons (mVar 1) (mNil))))) (mNot (mTest (mB m_law_far_right (mCons (mVar 1) (mNil)))))) (sRet (mC (.bl false))) (sNil)))
    (sRet (mC (.bl true))))
noncomputable def m_law : Sem := runB 3 b_law
/-! what the top has made -/
structure Txt (K : PySem.W.Frag) (mg : Str → Option Value) (C_Web : Addr) : Prop where
  z_abs : mg "abs" = none
  z_enumerate : mg "enumerate" = none
  z_int : mg "int" = none
  z_len : mg "len" = none
  z_max : mg "max" = none
  z_min : mg "min" = none
  z_range : mg "range" = none
  z_repr : mg "repr" = none
  z_reversed : mg "reversed" = none
  z_set : mg "set" = none
  z_sorted : mg "sorted" = none
  z_tuple : mg "tuple" = none
  mc_Web : mg "Web" = some (.ref C_Web)
  ck_Web : Cls K C_Web
  n_Web_own : NoAttr K C_Web "own"
  n_Web_known : NoAttr K C_Web "known"
section
variable {P : Program} {w : World} {K : PySem.W.Frag} {mg : Str → Option Value} {base : Heap} {C_Web : Addr}
theorem Txt.cl_Web (T : Txt K mg C_Web) : Cl ⟨P, w, K, mg⟩ "Web" C_Web := ⟨T.mc_Web, T.ck_Web⟩
theorem o_law_stream {f : Addr} {fd : FuncData} (F : L2.Fun K "_law_stream" "_law_stream" s_law_stream f fd) (T : Txt K mg C_Web) : FnG P w K mg base (L2.CX P w) 1 f fd ["_law_script", "_law_own"] (spM ⟨P, w, K, mg⟩ 2 m_law_stream) :=
  fn_ok (k := 0) F sc_law_stream fun cdv A outer s H E hr => (sss_one (ss_ret (se_lst (sa_cons (se_lc (own := [("_law_cell", 2)]) rfl sc_law_stream.nd (si_seq (se_slc (se_var 0 rfl (.inl rfl)) so_none (so_some se_int))) (blkOk_by (N := N_law_stream) (sc := defScope s_law_stream) (by decide +kernel)) (fun _ _ _ _ _ => (sgv_name sc_law_stream.nd rfl (by first | exact .inl rfl | exact .inr rfl) (by decide))) (fun _ _ _ _ _ => sts_nil) (fun _ _ _ _ _ => (se_B call_abs snd_abs rfl T.z_abs (by decide +kernel) (sa_cons (se_var 2 rfl (by first | exact .inl rfl | exact .inr (.inl rfl))) sa_nil)))) (sa_cons se_int (sa_cons se_int (sa_cons (se_var 1 rfl (.inl rfl)) sa_nil)))))))
theorem o_law_take {f : Addr} {fd : FuncData} (F : L2.Fun K "_law_take" "_law_take" s_law_take f fd) (T : Txt K mg C_Web) : FnG P w K mg base (L2.CX P w) 1 f fd ["_law_stream_here", "_law_below"] (spM ⟨P, w, K, mg⟩ 2 m_law_take) :=
  fn_ok (k := 0) F sc_law_take fun cdv A outer s H E hr => (sss_cons (ss_asg (se_var 0 rfl (.inl rfl)) (sg_tup rfl (sgs_cons (sg_name sc_law_take.nd rfl (.inl rfl)) (sgs_cons (sg_name sc_law_take.nd rfl (.inl rfl)) (sgs_cons (sg_name sc_law_take.nd rfl (.inl rfl)) (sgs_cons (sg_name sc_law_take.nd rfl (.inl rfl)) sgs_nil))))))
    (sss_cons (ss_asg (se_op op_addA snd_add (se_var 5 rfl (.inl rfl)) se_int) (sg_set hr.units (se_var 0 rfl (.inl rfl)) se_int))
    (sss_cons (ss_if (PW.pt (sw_and (st_cmp (op_eqD hr.units) snd_eq (se_var 4 rfl (.inl rfl)) se_int (nomark _)) (sw_and1 (st_cmp op_lt snd_cmpI (se_var 3 rfl (.inl rfl)) (se_B call_lenA snd_len rfl T.z_len (by decide +kernel) (sa_cons (se_var 2 rfl (.inl rfl)) sa_nil)) (nomark _))))) (sss_cons (ss_asg (se_op op_addA snd_add (se_var 3 rfl (.inl rfl)) se_int) (sg_set hr.units (se_var 0 rfl (.inl rfl)) se_int))
    (sss_one (ss_set (i := 4) sc_law_take.nd rfl (.inl rfl) (se_op op_mulA snd_mul (se_ix hr.units (se_var 2 rfl (.inl rfl)) (se_var 3 rfl (.inl rfl))) (se_T call_int1 snd_intL rfl T.z_int (by decide +kernel) (sa_cons (se_cmp op_ge snd_cmpI (se_ix hr.units (se_var 2 rfl (.inl rfl)) (se_var 3 rfl (.inl rfl))) (se_op op_pow snd_pow se_int se_int) (nomark _)) sa_nil)))))) sss_nil)
    (sss_cons (ss_asg (se_op op_fdivW snd_fdiv (se_var 4 rfl (.inl rfl)) (se_var 1 rfl (.inl rfl))) (sg_set hr.units (se_var 0 rfl (.inl rfl)) se_int))
    (sss_cons (ss_if (st_cmp op_gt snd_cmpI (se_var 4 rfl (.inl rfl)) se_int (nomark _)) (sss_one (ss_ret (se_op op_mod snd_mod (se_var 4 rfl (.inl rfl)) (se_var 1 rfl (.inl rfl))))) sss_nil)
    (sss_cons (ss_set (i := 6) sc_law_take.nd rfl (.inl rfl) (se_op op_mod snd_mod (se_op op_pow snd_pow (se_op op_addA snd_add (se_op op_mulA snd_mul (se_var 5 rfl (.inl rfl)) se_int) se_int) se_int) se_int))
    (sss_cons (ss_if (st_cmp (op_neD hr.units) snd_ne (se_var 2 rfl (.inl rfl)) (se_lst sa_nil) (nomark _)) (sss_one (ss_set (i := 6) sc_law_take.nd rfl (.inl rfl) (se_op op_addA snd_add (se_var 6 rfl (.inl rfl)) (se_op op_mulA snd_mul (se_op op_mod snd_mod (se_ix hr.units (se_var 2 rfl (.inl rfl)) (se_op op_mod snd_mod (se_op op_mulA snd_mul (se_var 5 rfl (.inl rfl)) se_int) (se_B call_lenA snd_len rfl T.z_len (by decide +kernel) (sa_cons (se_var 2 rfl (.inl rfl)) sa_nil)))) se_int) (se_op op_addA snd_add (se_var 5 rfl (.inl rfl)) se_int))))) sss_nil)
    (sss_cons (ss_set (i := 6) sc_law_take.nd rfl (.inl rfl) (se_op op_mod snd_mod (se_var 6 rfl (.inl rfl)) se_int))
    (sss_one (ss_ret (se_op op_mod snd_mod (se_op op_fdivW snd_fdiv (se_op op_mod snd_mod (se_op op_mulA snd_mul (se_var 6 rfl (.inl rfl)) (se_var 6 rfl (.inl rfl))) se_int) se_int) (se_var 1 rfl (.inl rfl)))))))))))))
theorem o_law_house {f : Addr} {fd : FuncData} (F : L2.Fun K "_law_house" "_law_house" s_law_house f fd) (T : Txt K mg C_Web) (g_law_take : Fn ⟨P, w, K, mg⟩ base "_law_take" 1 2 m_law_take) : FnG P w K mg base (L2.CX P w) 2 f fd ["_law_stream_here", "_law_most", "_law_farthest", "_law_flaps"] (spM ⟨P, w, K, mg⟩ 4 m_law_house) :=
  fn_ok (k := 1) F sc_law_house fun cdv A outer s H E hr => (sss_cons (ss_set (i := 4) sc_law_house.nd rfl (.inl rfl) (se_op op_addA snd_add se_int (se_call g_law_take hr (by omega) rfl (takes_of rfl rfl rfl rfl) (sa_cons (se_var 0 rfl (.inr (.inl rfl))) (sa_cons (se_op op_sub snd_sub (se_var 1 rfl (.inl rfl)) se_int) sa_nil)) (mCons_len (mCons_len mNil_len)))))
    (sss_cons (ss_set (i := 5) sc_law_house.nd rfl (.inl rfl) (se_lst sa_nil))
    (sss_cons (ss_set (i := 6) sc_law_house.nd rfl (.inl rfl) (se_var 3 rfl (.inl rfl)))
    (sss_cons (ss_for (passes_of rfl) rfl (si_range2 rfl T.z_range (sa_cons se_int (sa_cons (se_var 4 rfl (.inl rfl)) sa_nil))) (sg_name sc_law_house.nd rfl (.inl rfl)) (sss_cons (ss_set (i := 8) sc_law_house.nd rfl (.inl rfl) (se_op op_addA snd_add se_int (se_call g_law_take hr (by omega) rfl (takes_of rfl rfl rfl rfl) (sa_cons (se_var 0 rfl (.inr (.inl rfl))) (sa_cons (se_var 2 rfl (.inl rfl)) sa_nil)) (mCons_len (mCons_len mNil_len)))))
    (sss_cons (ss_setLc (i := 9) (own := [("_law_at", 12)]) rfl sc_law_house.nd rfl rfl (sw_true rfl rfl rfl (by decide +kernel)) (si_range2 rfl T.z_range (sa_cons se_int (sa_cons (se_var 8 rfl (.inl rfl)) sa_nil))) (blkOk_by (N := N_law_house) (sc := defScope s_law_house) (by decide +kernel)) (fun _ _ _ _ _ => (sgv_name sc_law_house.nd rfl (by first | exact .inl rfl | exact .inr rfl) (by decide))) (fun _ _ _ _ _ => (sts_one (st_cmp (op_eqD hr.units) snd_eq (se_call g_law_take hr (by omega) rfl takes0 (sa_cons (se_var 0 rfl (.inr (.inl rfl))) (sa_cons se_int sa_nil)) (mCons_len (mCons_len mNil_len))) se_int (nomark _)))) (fun _ _ _ _ _ => (se_tup (sa_cons (se_var 12 rfl (by first | exact .inl rfl | exact .inr (.inl rfl))) (sa_cons (se_op op_addA snd_add se_int (se_call g_law_take hr (by omega) rfl takes0 (sa_cons (se_var 0 rfl (.inr (.inl rfl))) (sa_cons se_int sa_nil)) (mCons_len (mCons_len mNil_len)))) sa_nil)))))
    (sss_cons (ss_set (i := 10) sc_law_house.nd rfl (.inl rfl) (se_slc (se_lc (own := [("_law_at", 12)]) rfl sc_law_house.nd (si_range1 rfl T.z_range (sa_cons (se_var 8 rfl (.inl rfl)) sa_nil)) (blkOk_by (N := N_law_house) (sc := defScope s_law_house) (by decide +kernel)) (fun _ _ _ _ _ => (sgv_name sc_law_house.nd rfl (by first | exact .inl rfl | exact .inr rfl) (by decide))) (fun _ _ _ _ _ => (sts_one (st_cmp (op_eqD hr.units) snd_eq (se_call g_law_take hr (by omega) rfl takes0 (sa_cons (se_var 0 rfl (.inr (.inl rfl))) (sa_cons se_int sa_nil)) (mCons_len (mCons_len mNil_len))) se_int (nomark _)))) (fun _ _ _ _ _ => (se_tup (sa_cons (se_var 12 rfl (by first | exact .inl rfl | exact .inr (.inl rfl))) (sa_cons (se_ix hr.units (se_lst (sa_cons se_int (sa_cons (se_un un_neg snd_neg se_int) sa_nil))) (se_call g_law_take hr (by omega) rfl takes0 (sa_cons (se_var 0 rfl (.inr (.inl rfl))) (sa_cons se_int sa_nil)) (mCons_len (mCons_len mNil_len)))) sa_nil))))) so_none (so_some (se_var 6 rfl (.inl rfl)))))
    (sss_cons (ss_set (i := 6) sc_law_house.nd rfl (.inl rfl) (se_op op_sub snd_sub (se_var 6 rfl (.inl rfl)) (se_B call_lenA snd_len rfl T.z_len (by decide +kernel) (sa_cons (se_var 10 rfl (.inl rfl)) sa_nil))))
    (sss_cons (ss_set (i := 11) sc_law_house.nd rfl (.inl rfl) (se_tup (sa_cons (se_call g_law_take hr (by omega) rfl (takes_of rfl rfl rfl rfl) (sa_cons (se_var 0 rfl (.inr (.inl rfl))) (sa_cons (se_var 7 rfl (.inl rfl)) sa_nil)) (mCons_len (mCons_len mNil_len))) (sa_cons (se_var 7 rfl (.inl rfl)) (sa_cons (se_var 8 rfl (.inl rfl)) (sa_cons (se_T call_tuple_of snd_tupleL rfl T.z_tuple (by decide +kernel) (sa_cons (se_slc (se_var 9 rfl (.inl rfl)) so_none (so_some se_int)) sa_nil)) (sa_cons (se_T call_tuple_of snd_tupleL rfl T.z_tuple (by decide +kernel) (sa_cons (se_var 10 rfl (.inl rfl)) sa_nil)) sa_nil)))))))
    (sss_one (ss_expr (se_mt PySem.F.plainAttrs_list PySem.F.slot_list_insert PySem.F.type_list_insert mt_insert ty_list snd_insert (se_var 5 rfl (.inl rfl)) (sa_cons (se_call g_law_take hr (by omega) rfl (takes_of rfl rfl rfl rfl) (sa_cons (se_var 0 rfl (.inr (.inl rfl))) (sa_cons (se_op op_addA snd_add (se_B call_lenA snd_len rfl T.z_len (by decide +kernel) (sa_cons (se_var 5 rfl (.inl rfl)) sa_nil)) se_int) sa_nil)) (mCons_len (mCons_len mNil_len))) (sa_cons (se_var 11 rfl (.inl rfl)) sa_nil)))))))))))
    (sss_one (ss_ret (se_tup (sa_cons (se_var 4 rfl (.inl rfl)) (sa_cons (se_T call_tuple_of snd_tupleL rfl T.z_tuple (by decide +kernel) (sa_cons (se_var 5 rfl (.inl rfl)) sa_nil)) sa_nil)))))))))
theorem o_law_places {f : Addr} {fd : FuncData} (F : L2.Fun K "_law_places" "_law_places" s_law_places f fd) (T : Txt K mg C_Web) : FnG P w K mg base (L2.CX P w) 1 f fd ["_law_house_here"] (spM ⟨P, w, K, mg⟩ 1 m_law_places) :=
  fn_ok (k := 0) F sc_law_places fun cdv A outer s H E hr => (sss_cons (ss_setLc (i := 1) (own := [("_law_room", 3)]) rfl sc_law_places.nd rfl rfl (sw_true rfl rfl rfl (by decide +kernel)) (si_range1 rfl T.z_range (sa_cons (se_ix hr.units (se_var 0 rfl (.inl rfl)) se_int) sa_nil)) (blkOk_by (N := N_law_places) (sc := defScope s_law_places) (by decide +kernel)) (fun _ _ _ _ _ => (sgv_name sc_law_places.nd rfl (by first | exact .inl rfl | exact .inr rfl) (by decide))) (fun _ _ _ _ _ => sts_nil) (fun _ _ _ _ _ => (se_tup (sa_cons (se_var 3 rfl (by first | exact .inl rfl | exact .inr (.inl rfl))) sa_nil))))
    (sss_cons (ss_for (passes_of rfl) rfl (si_range1 rfl T.z_range (sa_cons (se_B call_lenA snd_len rfl T.z_len (by decide +kernel) (sa_cons (se_ix hr.units (se_var 0 rfl (.inl rfl)) se_int) sa_nil)) sa_nil)) (sg_name sc_law_places.nd rfl (.inr rfl)) (sss_one (ss_set (i := 1) sc_law_places.nd rfl (.inl rfl) (se_op op_addA snd_add (se_var 1 rfl (.inl rfl)) (se_lc (own := [("_law_at", 4)]) rfl sc_law_places.nd (si_range2 rfl T.z_range (sa_cons se_int (sa_cons (se_ix hr.units (se_ix hr.units (se_ix hr.units (se_var 0 rfl (.inl rfl)) se_int) (se_var 2 rfl (.inr (.inl rfl)))) se_int) sa_nil))) (blkOk_by (N := N_law_places) (sc := defScope s_law_places) (by decide +kernel)) (fun _ _ _ _ _ => (sgv_name sc_law_places.nd rfl (by first | exact .inl rfl | exact .inr rfl) (by decide))) (fun _ _ _ _ _ => sts_nil) (fun _ _ _ _ _ => (se_tup (sa_cons (se_var 2 rfl (.inr (.inl rfl))) (sa_cons (se_var 4 rfl (by first | exact .inl rfl | exact .inr (.inl rfl))) sa_nil)))))))))
    (sss_one (ss_ret (se_var 1 rfl (.inl rfl))))))
theorem o_law_spot {f : Addr} {fd : FuncData} (F : L2.Fun K "_law_spot" "_law_spot" s_law_spot f fd) (T : Txt K mg C_Web) : FnG P w K mg base (L2.CX P w) 1 f fd ["_law_house_here", "_law_pipe", "_law_at"] (spM ⟨P, w, K, mg⟩ 3 m_law_spot) :=
  fn_ok (k := 0) F sc_law_spot fun cdv A outer s H E hr => (sss_cons (ss_asg (se_ix hr.units (se_ix hr.units (se_var 0 rfl (.inl rfl)) se_int) (se_var 1 rfl (.inl rfl))) (sg_tup rfl (sgs_cons (sg_name sc_law_spot.nd rfl (.inl rfl)) (sgs_cons (sg_name sc_law_spot.nd rfl (.inl rfl)) (sgs_cons (sg_name sc_law_spot.nd rfl (.inl rfl)) (sgs_cons (sg_name sc_law_spot.nd rfl (.inl rfl)) (sgs_cons (sg_name sc_law_spot.nd rfl (.inl rfl)) sgs_nil)))))))
    (sss_cons (ss_if (st_cmp (op_eqD hr.units) snd_eq (se_var 2 rfl (.inl rfl)) se_int (nomark _)) (sss_one (ss_ret (se_tup (sa_cons (se_var 3 rfl (.inl rfl)) sa_nil)))) sss_nil)
    (sss_one (ss_ret (se_ix hr.units (se_lst (sa_cons (se_tup (sa_cons (se_var 1 rfl (.inl rfl)) (sa_cons (se_var 2 rfl (.inl rfl)) sa_nil))) (sa_cons (se_tup (sa_cons (se_var 4 rfl (.inl rfl)) sa_nil)) sa_nil))) (se_T call_int1 snd_intL rfl T.z_int (by decide +kernel) (sa_cons (se_cmp (op_eqD hr.units) snd_eq (se_var 2 rfl (.inl rfl)) (se_var 5 rfl (.inl rfl)) (nomark _)) sa_nil)))))))
theorem o_law_nexts {f : Addr} {fd : FuncData} (F : L2.Fun K "_law_nexts" "_law_nexts" s_law_nexts f fd) (T : Txt K mg C_Web) (g_law_places : Fn ⟨P, w, K, mg⟩ base "_law_places" 1 1 m_law_places) (g_law_spot : Fn ⟨P, w, K, mg⟩ base "_law_spot" 1 3 m_law_spot) : FnG P w K mg base (L2.CX P w) 2 f fd ["_law_house_here"] (spM ⟨P, w, K, mg⟩ 1 m_law_nexts) :=
  fn_ok (k := 1) F sc_law_nexts fun cdv A outer s H E hr => (sss_cons (ss_set (i := 1) sc_law_nexts.nd rfl (.inl rfl) se_tdicNew)
    (sss_cons (ss_for (passes_of rfl) rfl (si_seq (se_call g_law_places hr (by omega) rfl (takes_of rfl rfl rfl rfl) (sa_cons (se_var 0 rfl (.inl rfl)) sa_nil) (mCons_len mNil_len))) (sg_name sc_law_nexts.nd rfl (.inl rfl)) (sss_one (ss_asg (se_lst sa_nil) (sg_set hr.units (se_var 1 rfl (.inl rfl)) (se_var 2 rfl (.inl rfl))))))
    (sss_cons (ss_for (passes_of rfl) rfl (si_range1 rfl T.z_range (sa_cons (se_B call_lenA snd_len rfl T.z_len (by decide +kernel) (sa_cons (se_ix hr.units (se_var 0 rfl (.inl rfl)) se_int) sa_nil)) sa_nil)) (sg_name sc_law_nexts.nd rfl (.inl rfl)) (sss_one (ss_for (passes_of rfl) rfl (si_range1 rfl T.z_range (sa_cons (se_ix hr.units (se_ix hr.units (se_ix hr.units (se_var 0 rfl (.inl rfl)) se_int) (se_var 3 rfl (.inl rfl))) se_int) sa_nil)) (sg_name sc_law_nexts.nd rfl (.inl rfl)) (sss_cons (ss_par (i := 5) (j := 6) rfl sc_law_nexts.nd rfl rfl (by decide) rfl rfl (sa_cons (se_call g_law_spot hr (by omega) rfl (takes_of rfl rfl rfl rfl) (sa_cons (se_var 0 rfl (.inl rfl)) (sa_cons (se_var 3 rfl (.inl rfl)) (sa_cons (se_var 4 rfl (.inl rfl)) sa_nil))) (mCons_len (mCons_len (mCons_len mNil_len)))) (sa_cons (se_call g_law_spot hr (by omega) rfl (takes_of rfl rfl rfl rfl) (sa_cons (se_var 0 rfl (.inl rfl)) (sa_cons (se_var 3 rfl (.inl rfl)) (sa_cons (se_op op_addA snd_add (se_var 4 rfl (.inl rfl)) se_int) sa_nil))) (mCons_len (mCons_len (mCons_len mNil_len)))) sa_nil)) rfl)
    (sss_cons (ss_expr (se_mt PySem.F.plainAttrs_list PySem.F.slot_list_append PySem.F.type_list_append mt_append ty_list snd_append (se_ix hr.units (se_var 1 rfl (.inl rfl)) (se_var 5 rfl (.inl rfl))) (sa_cons (se_var 6 rfl (.inl rfl)) sa_nil)))
    (sss_one (ss_expr (se_mt PySem.F.plainAttrs_list PySem.F.slot_list_append PySem.F.type_list_append mt_append ty_list snd_append (se_ix hr.units (se_var 1 rfl (.inl rfl)) (se_var 6 rfl (.inl rfl))) (sa_cons (se_var 5 rfl (.inl rfl)) sa_nil)))))))))
    (sss_one (ss_ret (se_var 1 rfl (.inl rfl)))))))
theorem o_law_row {f : Addr} {fd : FuncData} (F : L2.Fun K "_law_row" "_law_row" s_law_row f fd) (T : Txt K mg C_Web) : FnG P w K mg base (L2.CX P w) 1 f fd ["_law_nexts_here", "_law_one", "_law_other"] (spM ⟨P, w, K, mg⟩ 3 m_law_row) :=
  fn_ok (k := 0) F sc_law_row fun cdv A outer s H E hr => (sss_cons (ss_set (i := 3) sc_law_row.nd rfl (.inr rfl) (se_tdic (ps := [(mVar 2, mVar 2)]) hr.units (pps_cons (se_var 2 rfl (.inl rfl)) (se_var 2 rfl (.inl rfl)) pps_nil) rfl rfl (by decide) (by decide)))
    (sss_cons (ss_set (i := 4) sc_law_row.nd rfl (.inl rfl) (se_lst (sa_cons (se_var 2 rfl (.inl rfl)) sa_nil)))
    (sss_cons (ss_while 1000 (passes_of rfl) (st_cmp (op_notInD hr.units) snd_notInD (se_var 1 rfl (.inl rfl)) (se_var 3 rfl (.inr (.inl rfl))) (by with_unfolding_all rfl)) (sss_cons (ss_set (i := 5) sc_law_row.nd rfl (.inl rfl) (se_lst sa_nil))
    (sss_cons (ss_for (passes_of rfl) rfl (si_seq (se_var 4 rfl (.inl rfl))) (sg_name sc_law_row.nd rfl (.inl rfl)) (sss_one (ss_for (passes_of rfl) rfl (si_seq (se_lc (own := [("_law_near", 7)]) rfl sc_law_row.nd (si_seq (se_ix hr.units (se_var 0 rfl (.inl rfl)) (se_var 6 rfl (.inl rfl)))) (blkOk_by (N := N_law_row) (sc := defScope s_law_row) (by decide +kernel)) (fun _ _ _ _ _ => (sgv_name sc_law_row.nd rfl (by first | exact .inl rfl | exact .inr rfl) (by decide))) (fun _ _ _ _ _ => (sts_one (st_cmp (op_notInD hr.units) snd_notInD (se_var 7 rfl (by first | exact .inl rfl | exact .inr (.inl rfl))) (se_var 3 rfl (.inr (.inl rfl))) (by with_unfolding_all rfl)))) (fun _ _ _ _ _ => (se_var 7 rfl (by first | exact .inl rfl | exact .inr (.inl rfl)))))) (sg_name sc_law_row.nd rfl (.inl rfl)) (sss_cons (ss_asg (se_var 6 rfl (.inl rfl)) (sg_set hr.units (se_var 3 rfl (.inr (.inl rfl))) (se_var 7 rfl (.inl rfl))))
    (sss_one (ss_expr (se_mt PySem.F.plainAttrs_list PySem.F.slot_list_append PySem.F.type_list_append mt_append ty_list snd_append (se_var 5 rfl (.inl rfl)) (sa_cons (se_var 7 rfl (.inl rfl)) sa_nil))))))))
    (sss_one (ss_set (i := 4) sc_law_row.nd rfl (.inl rfl) (se_var 5 rfl (.inl rfl)))))))
    (sss_cons (ss_set (i := 8) sc_law_row.nd rfl (.inl rfl) (se_lst (sa_cons (se_var 1 rfl (.inl rfl)) sa_nil)))
    (sss_cons (ss_while 1000 (passes_of rfl) (st_cmp (op_neD hr.units) snd_ne (se_ix hr.units (se_var 8 rfl (.inl rfl)) (se_un un_neg snd_neg se_int)) (se_var 2 rfl (.inl rfl)) (nomark _)) (sss_one (ss_expr (se_mt PySem.F.plainAttrs_list PySem.F.slot_list_append PySem.F.type_list_append mt_append ty_list snd_append (se_var 8 rfl (.inl rfl)) (sa_cons (se_ix hr.units (se_var 3 rfl (.inr (.inl rfl))) (se_ix hr.units (se_var 8 rfl (.inl rfl)) (se_un un_neg snd_neg se_int))) sa_nil)))))
    (sss_one (ss_ret (se_var 8 rfl (.inl rfl)))))))))
theorem o_law_rope {f : Addr} {fd : FuncData} (F : L2.Fun K "_law_rope" "_law_rope" s_law_rope f fd) (T : Txt K mg C_Web) (g_law_take : Fn ⟨P, w, K, mg⟩ base "_law_take" 1 2 m_law_take) : FnG P w K mg base (L2.CX P w) 2 f fd ["_law_stream_here", "_law_length"] (spM ⟨P, w, K, mg⟩ 2 m_law_rope) :=
  fn_ok (k := 1) F sc_law_rope fun cdv A outer s H E hr => (sss_cons (ss_set (i := 2) sc_law_rope.nd rfl (.inl rfl) (se_slc (se_lc (own := [("_law_behind", 3)]) rfl sc_law_rope.nd (si_range1 rfl T.z_range (sa_cons (se_op op_addA snd_add (se_var 1 rfl (.inl rfl)) se_int) sa_nil)) (blkOk_by (N := N_law_rope) (sc := defScope s_law_rope) (by decide +kernel)) (fun _ _ _ _ _ => (sgv_name sc_law_rope.nd rfl (by first | exact .inl rfl | exact .inr rfl) (by decide))) (fun _ _ _ _ _ => (sts_one (st_cmp (op_eqD hr.units) snd_eq (se_call g_law_take hr (by omega) rfl takes0 (sa_cons (se_var 0 rfl (.inr (.inl rfl))) (sa_cons se_int sa_nil)) (mCons_len (mCons_len mNil_len))) se_int (nomark _)))) (fun _ _ _ _ _ => (se_var 3 rfl (by first | exact .inl rfl | exact .inr (.inl rfl))))) so_none (so_some se_int)))
    (sss_one (ss_ret (se_tup (sa_cons (se_var 1 rfl (.inl rfl)) (sa_cons (se_T call_tuple_of snd_tupleL rfl T.z_tuple (by decide +kernel) (sa_cons (se_lc (own := [("_law_behind", 3)]) rfl sc_law_rope.nd (si_seq (se_var 2 rfl (.inl rfl))) (blkOk_by (N := N_law_rope) (sc := defScope s_law_rope) (by decide +kernel)) (fun _ _ _ _ _ => (sgv_name sc_law_rope.nd rfl (by first | exact .inl rfl | exact .inr rfl) (by decide))) (fun _ _ _ _ _ => sts_nil) (fun _ _ _ _ _ => (se_tup (sa_cons (se_var 3 rfl (by first | exact .inl rfl | exact .inr (.inl rfl))) (sa_cons (se_op op_addA snd_add se_int (se_call g_law_take hr (by omega) rfl takes0 (sa_cons (se_var 0 rfl (.inr (.inl rfl))) (sa_cons se_int sa_nil)) (mCons_len (mCons_len mNil_len)))) sa_nil))))) sa_nil)) sa_nil))))))
theorem o_law_widths {f : Addr} {fd : FuncData} (F : L2.Fun K "_law_widths" "_law_widths" s_law_widths f fd) (T : Txt K mg C_Web) : FnG P w K mg base (L2.CX P w) 1 f fd ["_law_house_here"] (spM ⟨P, w, K, mg⟩ 1 m_law_widths) :=
  fn_ok (k := 0) F sc_law_widths fun cdv A outer s H E hr => (sss_cons (ss_set (i := 1) sc_law_widths.nd rfl (.inl rfl) se_tdicNew)
    (sss_cons (ss_for (passes_of rfl) rfl (si_range1 rfl T.z_range (sa_cons (se_B call_lenA snd_len rfl T.z_len (by decide +kernel) (sa_cons (se_ix hr.units (se_var 0 rfl (.inl rfl)) se_int) sa_nil)) sa_nil)) (sg_name sc_law_widths.nd rfl (.inl rfl)) (sss_one (ss_for (passes_of rfl) rfl (si_seq (se_ix hr.units (se_ix hr.units (se_ix hr.units (se_var 0 rfl (.inl rfl)) se_int) (se_var 2 rfl (.inl rfl))) se_int)) (sg_tup rfl (sgs_cons (sg_name sc_law_widths.nd rfl (.inl rfl)) (sgs_cons (sg_name sc_law_widths.nd rfl (.inl rfl)) sgs_nil))) (sss_one (ss_asg (se_var 4 rfl (.inl rfl)) (sg_set hr.units (se_var 1 rfl (.inl rfl)) (se_tup (sa_cons (se_var 2 rfl (.inl rfl)) (sa_cons (se_var 3 rfl (.inl rfl)) sa_nil)))))))))
    (sss_one (ss_ret (se_var 1 rfl (.inl rfl))))))
theorem o_law_knots_lie {f : Addr} {fd : FuncData} (F : L2.Fun K "_law_knots_lie" "_law_knots_lie" s_law_knots_lie f fd) (T : Txt K mg C_Web) (g_law_widths : Fn ⟨P, w, K, mg⟩ base "_law_widths" 1 1 m_law_widths) : FnG P w K mg base (L2.CX P w) 2 f fd ["_law_house_here", "_law_rope_here", "_law_row_here"] (spM ⟨P, w, K, mg⟩ 3 m_law_knots_lie) :=
  fn_ok (k := 1) F sc_law_knots_lie fun cdv A outer s H E hr => (sss_cons (ss_set (i := 3) sc_law_knots_lie.nd rfl (.inr rfl) (se_call g_law_widths hr (by omega) rfl (takes_of rfl rfl rfl rfl) (sa_cons (se_var 0 rfl (.inl rfl)) sa_nil) (mCons_len mNil_len)))
    (sss_cons (ss_setLc (i := 4) (own := [("_law_behind", 5), ("_law_size", 6)]) rfl sc_law_knots_lie.nd rfl rfl (sw_true rfl rfl rfl (by decide +kernel)) (si_seq (se_ix hr.units (se_var 1 rfl (.inl rfl)) se_int)) (blkOk_by (N := N_law_knots_lie) (sc := defScope s_law_knots_lie) (by decide +kernel)) (fun _ _ _ _ _ => (sgv_tup rfl (sgsv_cons (sgv_name sc_law_knots_lie.nd rfl (by first | exact .inl rfl | exact .inr rfl) (by decide)) (sgsv_cons (sgv_name sc_law_knots_lie.nd rfl (by first | exact .inl rfl | exact .inr rfl) (by decide)) sgsv_nil)))) (fun _ _ _ _ _ => (sts_one (st_cmp op_lt snd_cmpI (se_get hr.units (se_var 3 rfl (.inr (.inl rfl))) (sa_cons (se_ix hr.units (se_var 2 rfl (.inr (.inl rfl))) (se_var 5 rfl (by first | exact .inl rfl | exact .inr (.inl rfl)))) (sa_cons (se_var 6 rfl (by first | exact .inl rfl | exact .inr (.inl rfl))) sa_nil))) (se_var 6 rfl (by first | exact .inl rfl | exact .inr (.inl rfl))) (nomark _)))) (fun _ _ _ _ _ => (se_var 5 rfl (by first | exact .inl rfl | exact .inr (.inl rfl)))))
    (sss_one (ss_ret (se_cmp (op_eqD hr.units) snd_eq (se_var 4 rfl (.inl rfl)) (se_lst sa_nil) (nomark _))))))
theorem o_law_drawn {f : Addr} {fd : FuncData} (F : L2.Fun K "_law_drawn" "_law_drawn" s_law_drawn f fd) (T : Txt K mg C_Web) (g_law_places : Fn ⟨P, w, K, mg⟩ base "_law_places" 1 1 m_law_places) (g_law_row : Fn ⟨P, w, K, mg⟩ base "_law_row" 1 3 m_law_row) (g_law_rope : Fn ⟨P, w, K, mg⟩ base "_law_rope" 2 2 m_law_rope) (g_law_take : Fn ⟨P, w, K, mg⟩ base "_law_take" 1 2 m_law_take) (g_law_knots_lie : Fn ⟨P, w, K, mg⟩ base "_law_knots_lie" 2 3 m_law_knots_lie) : FnG P w K mg base (L2.CX P w) 3 f fd ["_law_stream_here", "_law_house_here", "_law_nexts_here"] (spM ⟨P, w, K, mg⟩ 3 m_law_drawn) :=
  fn_ok (k := 2) F sc_law_drawn fun cdv A outer s H E hr => (sss_cons (ss_set (i := 3) sc_law_drawn.nd rfl (.inl rfl) (se_call g_law_places hr (by omega) rfl (takes_of rfl rfl rfl rfl) (sa_cons (se_var 1 rfl (.inl rfl)) sa_nil) (mCons_len mNil_len)))
    (sss_cons (ss_set (i := 4) sc_law_drawn.nd rfl (.inl rfl) (se_ix hr.units (se_var 3 rfl (.inl rfl)) (se_call g_law_take hr (by omega) rfl (takes_of rfl rfl rfl rfl) (sa_cons (se_var 0 rfl (.inl rfl)) (sa_cons (se_B call_lenA snd_len rfl T.z_len (by decide +kernel) (sa_cons (se_var 3 rfl (.inl rfl)) sa_nil)) sa_nil)) (mCons_len (mCons_len mNil_len)))))
    (sss_cons (ss_set (i := 5) sc_law_drawn.nd rfl (.inl rfl) (se_ix hr.units (se_var 3 rfl (.inl rfl)) (se_call g_law_take hr (by omega) rfl (takes_of rfl rfl rfl rfl) (sa_cons (se_var 0 rfl (.inl rfl)) (sa_cons (se_B call_lenA snd_len rfl T.z_len (by decide +kernel) (sa_cons (se_var 3 rfl (.inl rfl)) sa_nil)) sa_nil)) (mCons_len (mCons_len mNil_len)))))
    (sss_cons (ss_set (i := 6) sc_law_drawn.nd rfl (.inl rfl) (se_call g_law_row hr (by omega) rfl (takes_of rfl rfl rfl rfl) (sa_cons (se_var 2 rfl (.inl rfl)) (sa_cons (se_var 4 rfl (.inl rfl)) (sa_cons (se_var 5 rfl (.inl rfl)) sa_nil))) (mCons_len (mCons_len (mCons_len mNil_len)))))
    (sss_cons (ss_if (st_cmp op_lt snd_cmpI (se_B call_lenA snd_len rfl T.z_len (by decide +kernel) (sa_cons (se_var 6 rfl (.inl rfl)) sa_nil)) se_int (nomark _)) (sss_one (ss_set (i := 6) sc_law_drawn.nd rfl (.inl rfl) (se_lst (sa_cons (se_var 4 rfl (.inl rfl)) (sa_cons (se_ix hr.units (se_ix hr.units (se_var 2 rfl (.inl rfl)) (se_var 4 rfl (.inl rfl))) se_int) sa_nil))))) sss_nil)
    (sss_cons (ss_set (i := 7) sc_law_drawn.nd rfl (.inl rfl) (se_call g_law_rope hr (by omega) rfl (takes_of rfl rfl rfl rfl) (sa_cons (se_var 0 rfl (.inl rfl)) (sa_cons (se_op op_sub snd_sub (se_B call_lenA snd_len rfl T.z_len (by decide +kernel) (sa_cons (se_var 6 rfl (.inl rfl)) sa_nil)) se_int) sa_nil)) (mCons_len (mCons_len mNil_len))))
    (sss_cons (ss_if (st_not (st_val (se_call g_law_knots_lie hr (by omega) rfl (takes_of rfl rfl rfl rfl) (sa_cons (se_var 1 rfl (.inl rfl)) (sa_cons (se_var 7 rfl (.inl rfl)) (sa_cons (se_var 6 rfl (.inl rfl)) sa_nil))) (mCons_len (mCons_len (mCons_len mNil_len)))))) (sss_one (ss_set (i := 7) sc_law_drawn.nd rfl (.inl rfl) (se_tup (sa_cons (se_ix hr.units (se_var 7 rfl (.inl rfl)) se_int) (sa_cons (se_tup sa_nil) sa_nil))))) sss_nil)
    (sss_one (ss_ret (se_lst (sa_cons (se_var 7 rfl (.inl rfl)) (sa_cons (se_tup (sa_cons (se_ix hr.units (se_var 6 rfl (.inl rfl)) (se_un un_neg snd_neg se_int)) (sa_cons (se_ix hr.units (se_var 6 rfl (.inl rfl)) se_int) sa_nil))) sa_nil))))))))))))
theorem o_place_at {f : Addr} {fd : FuncData} (F : L2.Fun K "place_at" "place_at" s_place_at f fd) (T : Txt K mg C_Web) : FnG P w K mg base (L2.CX P w) 1 f fd ["house", "pipe", "at"] (spM ⟨P, w, K, mg⟩ 3 m_place_at) :=
  fn_ok (k := 0) F sc_place_at fun cdv A outer s H E hr => (sss_cons (ss_asg (se_ix hr.units (se_ix hr.units (se_var 0 rfl (.inl rfl)) se_int) (se_var 1 rfl (.inl rfl))) (sg_tup rfl (sgs_cons (sg_name sc_place_at.nd rfl (.inl rfl)) (sgs_cons (sg_name sc_place_at.nd rfl (.inl rfl)) (sgs_cons (sg_name sc_place_at.nd rfl (.inl rfl)) (sgs_cons (sg_name sc_place_at.nd rfl (.inl rfl)) (sgs_cons (sg_name sc_place_at.nd rfl (.inl rfl)) sgs_nil)))))))
    (sss_cons (ss_if (st_cmp (op_eqD hr.units) snd_eq (se_var 2 rfl (.inl rfl)) se_int (nomark _)) (sss_one (ss_ret (se_tup (sa_cons (se_var 3 rfl (.inl rfl)) sa_nil)))) sss_nil)
    (sss_cons (ss_if (st_cmp (op_eqD hr.units) snd_eq (se_var 2 rfl (.inl rfl)) (se_var 5 rfl (.inl rfl)) (nomark _)) (sss_one (ss_ret (se_tup (sa_cons (se_var 4 rfl (.inl rfl)) sa_nil)))) sss_nil)
    (sss_one (ss_ret (se_tup (sa_cons (se_var 1 rfl (.inl rfl)) (sa_cons (se_var 2 rfl (.inl rfl)) sa_nil))))))))
theorem o_place_along {f : Addr} {fd : FuncData} (F : L2.Fun K "place_along" "place_along" s_place_along f fd) (T : Txt K mg C_Web) (g_place_at : Fn ⟨P, w, K, mg⟩ base "place_at" 1 3 m_place_at) : FnG P w K mg base (L2.CX P w) 2 f fd ["house", "stretches", "begin", "steps"] (spM ⟨P, w, K, mg⟩ 4 m_place_along) :=
  fn_ok (k := 1) F sc_place_along fun cdv A outer s H E hr => (sss_cons (ss_set (i := 4) sc_place_along.nd rfl (.inl rfl) (se_var 3 rfl (.inl rfl)))
    (sss_cons (ss_for (passes_of rfl) rfl (si_seq (se_var 1 rfl (.inl rfl))) (sg_tup rfl (sgs_cons (sg_name sc_place_along.nd rfl (.inl rfl)) (sgs_cons (sg_name sc_place_along.nd rfl (.inl rfl)) (sgs_cons (sg_name sc_place_along.nd rfl (.inl rfl)) sgs_nil)))) (sss_cons (ss_if (st_cmp op_le snd_cmpI (se_var 4 rfl (.inl rfl)) (se_B call_abs snd_abs rfl T.z_abs (by decide +kernel) (sa_cons (se_op op_sub snd_sub (se_var 7 rfl (.inl rfl)) (se_var 6 rfl (.inl rfl))) sa_nil)) (nomark _)) (sss_one (ss_ret (se_call g_place_at hr (by omega) rfl (takes_of rfl rfl rfl rfl) (sa_cons (se_var 0 rfl (.inl rfl)) (sa_cons (se_var 5 rfl (.inl rfl)) (sa_cons (se_ifE (st_cmp op_lt snd_cmpI (se_var 6 rfl (.inl rfl)) (se_var 7 rfl (.inl rfl)) (nomark _)) (se_op op_addA snd_add (se_var 6 rfl (.inl rfl)) (se_var 4 rfl (.inl rfl))) (se_op op_sub snd_sub (se_var 6 rfl (.inl rfl)) (se_var 4 rfl (.inl rfl)))) sa_nil))) (mCons_len (mCons_len (mCons_len mNil_len)))))) sss_nil)
    (sss_one (ss_aug (j := 4) sc_place_along.nd rfl (.inl rfl) (se_B call_abs snd_abs rfl T.z_abs (by decide +kernel) (sa_cons (se_op op_sub snd_sub (se_var 7 rfl (.inl rfl)) (se_var 6 rfl (.inl rfl))) sa_nil)) (pip_of iop_sub) snd_sub))))
    (sss_one (ss_ret (se_var 2 rfl (.inl rfl))))))
theorem o_is_one_pipe {f : Addr} {fd : FuncData} (F : L2.Fun K "is_one_pipe" "is_one_pipe" s_is_one_pipe f fd) (T : Txt K mg C_Web) : FnG P w K mg base (L2.CX P w) 1 f fd ["one", "other"] (spM ⟨P, w, K, mg⟩ 2 m_is_one_pipe) :=
  fn_ok (k := 0) F sc_is_one_pipe fun cdv A outer s H E hr => (sss_one (ss_ret (se_and (se_cmp (op_eqD hr.units) snd_eq (se_B call_lenA snd_len rfl T.z_len (by decide +kernel) (sa_cons (se_var 0 rfl (.inl rfl)) sa_nil)) se_int (nomark _)) (se_and (se_cmp (op_eqD hr.units) snd_eq (se_B call_lenA snd_len rfl T.z_len (by decide +kernel) (sa_cons (se_var 1 rfl (.inl rfl)) sa_nil)) se_int (nomark _)) (se_one (se_cmp (op_eqD hr.units) snd_eq (se_ix hr.units (se_var 0 rfl (.inl rfl)) se_int) (se_ix hr.units (se_var 1 rfl (.inl rfl)) se_int) (nomark _)))))))
theorem o_sides_of {f : Addr} {fd : FuncData} (F : L2.Fun K "sides_of" "sides_of" s_sides_of f fd) (T : Txt K mg C_Web) : FnG P w K mg base (L2.CX P w) 1 f fd ["house", "place"] (spM ⟨P, w, K, mg⟩ 2 m_sides_of) :=
  fn_ok (k := 0) F sc_sides_of fun cdv A outer s H E hr => (sss_cons (ss_if (st_cmp (op_eqD hr.units) snd_eq (se_B call_lenA snd_len rfl T.z_len (by decide +kernel) (sa_cons (se_var 1 rfl (.inl rfl)) sa_nil)) se_int (nomark _)) (sss_one (ss_ret (se_lst (sa_cons (se_tup (sa_cons (se_ix hr.units (se_var 1 rfl (.inl rfl)) se_int) (sa_cons se_int (sa_cons (se_lst sa_nil) sa_nil)))) sa_nil)))) sss_nil)
    (sss_cons (ss_asg (se_var 1 rfl (.inl rfl)) (sg_tup rfl (sgs_cons (sg_name sc_sides_of.nd rfl (.inl rfl)) (sgs_cons (sg_name sc_sides_of.nd rfl (.inl rfl)) sgs_nil))))
    (sss_cons (ss_asg (se_ix hr.units (se_ix hr.units (se_var 0 rfl (.inl rfl)) se_int) (se_var 2 rfl (.inl rfl))) (sg_tup rfl (sgs_cons (sg_name sc_sides_of.nd rfl (.inl rfl)) (sgs_cons (sg_name sc_sides_of.nd rfl (.inl rfl)) (sgs_cons (sg_name sc_sides_of.nd rfl (.inl rfl)) (sgs_cons (sg_name sc_sides_of.nd rfl (.inl rfl)) (sgs_cons (sg_name sc_sides_of.nd rfl (.inl rfl)) sgs_nil)))))))
    (sss_one (ss_ret (se_lst (sa_cons (se_tup (sa_cons (se_var 4 rfl (.inl rfl)) (sa_cons (se_var 3 rfl (.inl rfl)) (sa_cons (se_lst (sa_cons (se_tup (sa_cons (se_var 2 rfl (.inl rfl)) (sa_cons (se_var 3 rfl (.inl rfl)) (sa_cons se_int sa_nil)))) sa_nil)) sa_nil)))) (sa_cons (se_tup (sa_cons (se_var 5 rfl (.inl rfl)) (sa_cons (se_op op_sub snd_sub (se_var 6 rfl (.inl rfl)) (se_var 3 rfl (.inl rfl))) (sa_cons (se_lst (sa_cons (se_tup (sa_cons (se_var 2 rfl (.inl rfl)) (sa_cons (se_var 3 rfl (.inl rfl)) (sa_cons (se_var 6 rfl (.inl rfl)) sa_nil)))) sa_nil)) sa_nil)))) sa_nil))))))))
theorem o_turned {f : Addr} {fd : FuncData} (F : L2.Fun K "turned" "turned" s_turned f fd) (T : Txt K mg C_Web) : FnG P w K mg base (L2.CX P w) 1 f fd ["stretches"] (spM ⟨P, w, K, mg⟩ 1 m_turned) :=
  fn_ok (k := 0) F sc_turned fun cdv A outer s H E hr => (sss_one (ss_ret (se_lc (own := [("pipe", 1), ("begin", 2), ("end", 3)]) rfl sc_turned.nd (si_rev rfl T.z_reversed (se_var 0 rfl (.inl rfl))) (blkOk_by (N := N_turned) (sc := defScope s_turned) (by decide +kernel)) (fun _ _ _ _ _ => (sgv_tup rfl (sgsv_cons (sgv_name sc_turned.nd rfl (by first | exact .inl rfl | exact .inr rfl) (by decide)) (sgsv_cons (sgv_name sc_turned.nd rfl (by first | exact .inl rfl | exact .inr rfl) (by decide)) (sgsv_cons (sgv_name sc_turned.nd rfl (by first | exact .inl rfl | exact .inr rfl) (by decide)) sgsv_nil))))) (fun _ _ _ _ _ => sts_nil) (fun _ _ _ _ _ => (se_tup (sa_cons (se_var 1 rfl (by first | exact .inl rfl | exact .inr (.inl rfl))) (sa_cons (se_var 3 rfl (by first | exact .inl rfl | exact .inr (.inl rfl))) (sa_cons (se_var 2 rfl (by first | exact .inl rfl | exact .inr (.inl rfl))) sa_nil))))))))
theorem o_between_rooms {f : Addr} {fd : FuncData} (F : L2.Fun K "between_rooms" "between_rooms" s_between_rooms f fd) (T : Txt K mg C_Web) : FnG P w K mg base (L2.CX P w) 1 f fd ["known", "room"] (spM ⟨P, w, K, mg⟩ 2 m_between_rooms) :=
  fn_ok (k := 0) F sc_between_rooms fun cdv A outer s H E hr => (sss_cons (ss_set (i := 2) sc_between_rooms.nd rfl (.inl rfl) (se_lst sa_nil))
    (sss_cons (ss_while 1000 (passes_of rfl) (st_cmp op_notN snd_isNot (se_ix hr.units (se_ix hr.units (se_var 0 rfl (.inl rfl)) (se_var 1 rfl (.inl rfl))) se_int) se_non (nomark _)) (sss_cons (ss_expr (se_mt PySem.F.plainAttrs_list PySem.F.slot_list_append PySem.F.type_list_append mt_append ty_list snd_append (se_var 2 rfl (.inl rfl)) (sa_cons (se_ix hr.units (se_ix hr.units (se_var 0 rfl (.inl rfl)) (se_var 1 rfl (.inl rfl))) se_int) sa_nil)))
    (sss_one (ss_set (i := 1) sc_between_rooms.nd rfl (.inl rfl) (se_ix hr.units (se_ix hr.units (se_var 0 rfl (.inl rfl)) (se_var 1 rfl (.inl rfl))) se_int)))))
    (sss_one (ss_ret (se_back (se_var 2 rfl (.inl rfl)))))))
theorem o_road_in {f : Addr} {fd : FuncData} (F : L2.Fun K "road_in" "road_in" s_road_in f fd) (T : Txt K mg C_Web) (g_is_one_pipe : Fn ⟨P, w, K, mg⟩ base "is_one_pipe" 1 2 m_is_one_pipe) (g_sides_of : Fn ⟨P, w, K, mg⟩ base "sides_of" 1 2 m_sides_of) (g_turned : Fn ⟨P, w, K, mg⟩ base "turned" 1 1 m_turned) (g_between_rooms : Fn ⟨P, w, K, mg⟩ base "between_rooms" 1 2 m_between_rooms) : FnG P w K mg base (L2.CX P w) 2 f fd ["web", "one", "other"] (spM ⟨P, w, K, mg⟩ 3 m_road_in) :=
  fn_ok (k := 1) F sc_road_in fun cdv A outer s H E hr => (sss_cons (ss_if (st_cmp (op_eqD hr.units) snd_eq (se_var 1 rfl (.inl rfl)) (se_var 2 rfl (.inl rfl)) (nomark _)) (sss_one (ss_ret (se_lst sa_nil))) sss_nil)
    (sss_cons (ss_if (st_val (se_call g_is_one_pipe hr (by omega) rfl (takes_of rfl rfl rfl rfl) (sa_cons (se_var 1 rfl (.inl rfl)) (sa_cons (se_var 2 rfl (.inl rfl)) sa_nil)) (mCons_len (mCons_len mNil_len)))) (sss_one (ss_ret (se_lst (sa_cons (se_tup (sa_cons (se_ix hr.units (se_var 1 rfl (.inl rfl)) se_int) (sa_cons (se_ix hr.units (se_var 1 rfl (.inl rfl)) se_int) (sa_cons (se_ix hr.units (se_var 2 rfl (.inl rfl)) se_int) sa_nil)))) sa_nil)))) sss_nil)
    (sss_cons (ss_set (i := 3) sc_road_in.nd rfl (.inl rfl) se_non)
    (sss_cons (ss_for (passes_of rfl) rfl (si_seq (se_call g_sides_of hr (by omega) rfl (takes_of rfl rfl rfl rfl) (sa_cons (se_fld T.cl_Web T.n_Web_own (se_var 0 rfl (.inl rfl))) (sa_cons (se_var 1 rfl (.inl rfl)) sa_nil)) (mCons_len (mCons_len mNil_len)))) (sg_tup rfl (sgs_cons (sg_name sc_road_in.nd rfl (.inl rfl)) (sgs_cons (sg_name sc_road_in.nd rfl (.inl rfl)) (sgs_cons (sg_name sc_road_in.nd rfl (.inl rfl)) sgs_nil)))) (sss_cons (ss_set (i := 7) sc_road_in.nd rfl (.inl rfl) (se_ix hr.units (se_fld T.cl_Web T.n_Web_known (se_var 0 rfl (.inl rfl))) (se_var 4 rfl (.inl rfl))))
    (sss_one (ss_for (passes_of rfl) rfl (si_seq (se_call g_sides_of hr (by omega) rfl (takes_of rfl rfl rfl rfl) (sa_cons (se_fld T.cl_Web T.n_Web_own (se_var 0 rfl (.inl rfl))) (sa_cons (se_var 2 rfl (.inl rfl)) sa_nil)) (mCons_len (mCons_len mNil_len)))) (sg_tup rfl (sgs_cons (sg_name sc_road_in.nd rfl (.inl rfl)) (sgs_cons (sg_name sc_road_in.nd rfl (.inl rfl)) (sgs_cons (sg_name sc_road_in.nd rfl (.inl rfl)) sgs_nil)))) (sss_cons (ss_set (i := 11) sc_road_in.nd rfl (.inl rfl) (se_op op_addA snd_add (se_op op_addA snd_add (se_var 5 rfl (.inl rfl)) (se_ix hr.units (se_ix hr.units (se_var 7 rfl (.inl rfl)) (se_var 8 rfl (.inl rfl))) se_int)) (se_var 9 rfl (.inl rfl))))
    (sss_one (ss_if (PW.pt (sw_or (st_cmp op_isN snd_is (se_var 3 rfl (.inl rfl)) se_non (nomark _)) (sw_or1 (st_cmp op_lt snd_cmpI (se_var 11 rfl (.inl rfl)) (se_ix hr.units (se_var 3 rfl (.inl rfl)) se_int) (nomark _))))) (sss_one (ss_set (i := 3) sc_road_in.nd rfl (.inl rfl) (se_tup (sa_cons (se_var 11 rfl (.inl rfl)) (sa_cons (se_var 6 rfl (.inl rfl)) (sa_cons (se_var 7 rfl (.inl rfl)) (sa_cons (se_var 8 rfl (.inl rfl)) (sa_cons (se_var 10 rfl (.inl rfl)) sa_nil)))))))) sss_nil)))))))
    (sss_cons (ss_asg (se_var 3 rfl (.inl rfl)) (sg_tup rfl (sgs_cons (sg_name sc_road_in.nd rfl (.inl rfl)) (sgs_cons (sg_name sc_road_in.nd rfl (.inl rfl)) (sgs_cons (sg_name sc_road_in.nd rfl (.inl rfl)) (sgs_cons (sg_name sc_road_in.nd rfl (.inl rfl)) (sgs_cons (sg_name sc_road_in.nd rfl (.inl rfl)) sgs_nil)))))))
    (sss_one (ss_ret (se_op op_addA snd_add (se_op op_addA snd_add (se_var 6 rfl (.inl rfl)) (se_call g_between_rooms hr (by omega) rfl (takes_of rfl rfl rfl rfl) (sa_cons (se_var 7 rfl (.inl rfl)) (sa_cons (se_var 8 rfl (.inl rfl)) sa_nil)) (mCons_len (mCons_len mNil_len)))) (se_call g_turned hr (by omega) rfl (takes_of rfl rfl rfl rfl) (sa_cons (se_var 10 rfl (.inl rfl)) sa_nil) (mCons_len mNil_len))))))))))
theorem o_spot_in {f : Addr} {fd : FuncData} (F : L2.Fun K "spot_in" "spot_in" s_spot_in f fd) (T : Txt K mg C_Web) (g_place_along : Fn ⟨P, w, K, mg⟩ base "place_along" 2 4 m_place_along) (g_road_in : Fn ⟨P, w, K, mg⟩ base "road_in" 2 3 m_road_in) : FnG P w K mg base (L2.CX P w) 3 f fd ["web", "one", "other", "steps"] (spM ⟨P, w, K, mg⟩ 4 m_spot_in) :=
  fn_ok (k := 2) F sc_spot_in fun cdv A outer s H E hr => (sss_one (ss_ret (se_call g_place_along hr (by omega) rfl (takes_of rfl rfl rfl rfl) (sa_cons (se_fld T.cl_Web T.n_Web_own (se_var 0 rfl (.inl rfl))) (sa_cons (se_call g_road_in hr (by omega) rfl (takes_of rfl rfl rfl rfl) (sa_cons (se_var 0 rfl (.inl rfl)) (sa_cons (se_var 1 rfl (.inl rfl)) (sa_cons (se_var 2 rfl (.inl rfl)) sa_nil))) (mCons_len (mCons_len (mCons_len mNil_len)))) (sa_cons (se_var 1 rfl (.inl rfl)) (sa_cons (se_var 3 rfl (.inl rfl)) sa_nil)))) (mCons_len (mCons_len (mCons_len (mCons_len mNil_len)))))))
theorem o_pipes_at {f : Addr} {fd : FuncData} (F : L2.Fun K "pipes_at" "pipes_at" s_pipes_at f fd) (T : Txt K mg C_Web) : FnG P w K mg base (L2.CX P w) 1 f fd ["house", "room"] (spM ⟨P, w, K, mg⟩ 2 m_pipes_at) :=
  fn_ok (k := 0) F sc_pipes_at fun cdv A outer s H E hr => (sss_cons (ss_set (i := 2) sc_pipes_at.nd rfl (.inl rfl) (se_lst sa_nil))
    (sss_cons (ss_for (passes_of rfl) rfl (si_enum rfl T.z_enumerate (sa_cons (se_ix hr.units (se_var 0 rfl (.inl rfl)) se_int) sa_nil)) (sg_tup rfl (sgs_cons (sg_name sc_pipes_at.nd rfl (.inl rfl)) (sgs_cons (sg_tup rfl (sgs_cons (sg_name sc_pipes_at.nd rfl (.inl rfl)) (sgs_cons (sg_name sc_pipes_at.nd rfl (.inl rfl)) (sgs_cons (sg_name sc_pipes_at.nd rfl (.inl rfl)) (sgs_cons (sg_name sc_pipes_at.nd rfl (.inl rfl)) (sgs_cons (sg_name sc_pipes_at.nd rfl (.inl rfl)) sgs_nil)))))) sgs_nil))) (sss_one (ss_if (st_cmp (op_eqD hr.units) snd_eq (se_var 4 rfl (.inl rfl)) (se_var 1 rfl (.inl rfl)) (nomark _)) (sss_one (ss_expr (se_mt PySem.F.plainAttrs_list PySem.F.slot_list_append PySem.F.type_list_append mt_append ty_list snd_append (se_var 2 rfl (.inl rfl)) (sa_cons (se_tup (sa_cons (se_var 3 rfl (.inl rfl)) (sa_cons se_int (sa_cons (se_var 6 rfl (.inl rfl)) (sa_cons (se_var 5 rfl (.inl rfl)) sa_nil))))) sa_nil)))) (sss_one (ss_if (st_cmp (op_eqD hr.units) snd_eq (se_var 5 rfl (.inl rfl)) (se_var 1 rfl (.inl rfl)) (nomark _)) (sss_one (ss_expr (se_mt PySem.F.plainAttrs_list PySem.F.slot_list_append PySem.F.type_list_append mt_append ty_list snd_append (se_var 2 rfl (.inl rfl)) (sa_cons (se_tup (sa_cons (se_var 3 rfl (.inl rfl)) (sa_cons (se_var 6 rfl (.inl rfl)) (sa_cons se_int (sa_cons (se_var 4 rfl (.inl rfl)) sa_nil))))) sa_nil)))) sss_nil)))))
    (sss_one (ss_ret (se_var 2 rfl (.inl rfl))))))
theorem o_rooms_from {f : Addr} {fd : FuncData} (F : L2.Fun K "rooms_from" "rooms_from" s_rooms_from f fd) (T : Txt K mg C_Web) (g_pipes_at : Fn ⟨P, w, K, mg⟩ base "pipes_at" 1 2 m_pipes_at) : FnG P w K mg base (L2.CX P w) 2 f fd ["house", "room"] (spM ⟨P, w, K, mg⟩ 2 m_rooms_from) :=
  fn_ok (k := 1) F sc_rooms_from fun cdv A outer s H E hr => (sss_cons (ss_set (i := 2) sc_rooms_from.nd rfl (.inl rfl) (se_dic (ps := [(mVar 1, mTup (mCons (mC (.int 0)) (mCons (mC .non) (mCons (mC .non) (mNil)))))]) (pps_cons (se_var 1 rfl (.inl rfl)) (se_tup (sa_cons se_int (sa_cons se_non (sa_cons se_non sa_nil)))) pps_nil) rfl rfl (by decide) (by decide)))
    (sss_cons (ss_set (i := 3) sc_rooms_from.nd rfl (.inl rfl) (se_lst (sa_cons (se_var 1 rfl (.inl rfl)) sa_nil)))
    (sss_cons (ss_set (i := 4) sc_rooms_from.nd rfl (.inl rfl) se_int)
    (sss_cons (ss_while 1000 (passes_of rfl) (st_cmp op_lt snd_cmpI (se_var 4 rfl (.inl rfl)) (se_B call_lenA snd_len rfl T.z_len (by decide +kernel) (sa_cons (se_var 3 rfl (.inl rfl)) sa_nil)) (nomark _)) (sss_cons (ss_set (i := 5) sc_rooms_from.nd rfl (.inl rfl) (se_ix hr.units (se_var 3 rfl (.inl rfl)) (se_var 4 rfl (.inl rfl))))
    (sss_cons (ss_for (passes_of rfl) rfl (si_seq (se_call g_pipes_at hr (by omega) rfl (takes_of rfl rfl rfl rfl) (sa_cons (se_var 0 rfl (.inl rfl)) (sa_cons (se_var 5 rfl (.inl rfl)) sa_nil)) (mCons_len (mCons_len mNil_len)))) (sg_tup rfl (sgs_cons (sg_name sc_rooms_from.nd rfl (.inl rfl)) (sgs_cons (sg_name sc_rooms_from.nd rfl (.inl rfl)) (sgs_cons (sg_name sc_rooms_from.nd rfl (.inl rfl)) (sgs_cons (sg_name sc_rooms_from.nd rfl (.inl rfl)) sgs_nil))))) (sss_one (ss_if (st_cmp (op_notInD hr.units) snd_notInD (se_var 9 rfl (.inl rfl)) (se_var 2 rfl (.inl rfl)) (by with_unfolding_all rfl)) (sss_cons (ss_asg (se_tup (sa_cons (se_op op_addA snd_add (se_ix hr.units (se_ix hr.units (se_var 2 rfl (.inl rfl)) (se_var 5 rfl (.inl rfl))) se_int) (se_B call_abs snd_abs rfl T.z_abs (by decide +kernel) (sa_cons (se_op op_sub snd_sub (se_var 8 rfl (.inl rfl)) (se_var 7 rfl (.inl rfl))) sa_nil))) (sa_cons (se_tup (sa_cons (se_var 6 rfl (.inl rfl)) (sa_cons (se_var 7 rfl (.inl rfl)) (sa_cons (se_var 8 rfl (.inl rfl)) sa_nil)))) (sa_cons (se_var 5 rfl (.inl rfl)) sa_nil)))) (sg_set hr.units (se_var 2 rfl (.inl rfl)) (se_var 9 rfl (.inl rfl))))
    (sss_one (ss_expr (se_mt PySem.F.plainAttrs_list PySem.F.slot_list_append PySem.F.type_list_append mt_append ty_list snd_append (se_var 3 rfl (.inl rfl)) (sa_cons (se_var 9 rfl (.inl rfl)) sa_nil))))) sss_nil)))
    (sss_one (ss_aug (j := 4) sc_rooms_from.nd rfl (.inl rfl) se_int (pip_of iop_add) snd_iadd)))))
    (sss_one (ss_ret (se_var 2 rfl (.inl rfl))))))))
theorem o_Web_init {f : Addr} {fd : FuncData} (F : L2.Fun K "__init__" "Web.__init__" s_Web_init f fd) (T : Txt K mg C_Web) (g_rooms_from : Fn ⟨P, w, K, mg⟩ base "rooms_from" 2 2 m_rooms_from) : FnG P w K mg base (L2.CX P w) 3 f fd ["self", "house"] (spM ⟨P, w, K, mg⟩ 2 m_Web_init) :=
  fn_ok (k := 2) F sc_Web_init fun cdv A outer s H E hr => (sss_cons (ss_fld T.cl_Web T.n_Web_own (se_var 0 rfl (.inl rfl)) (se_var 1 rfl (.inr (.inl rfl))))
    (sss_one (ss_fld T.cl_Web T.n_Web_known (se_var 0 rfl (.inl rfl)) (se_lc (own := [("room", 2)]) rfl sc_Web_init.nd (si_range1 rfl T.z_range (sa_cons (se_ix hr.units (se_var 1 rfl (.inr (.inl rfl))) se_int) sa_nil)) (blkOk_by (N := N_Web_init) (sc := defScope s_Web_init) (by decide +kernel)) (fun _ _ _ _ _ => (sgv_name sc_Web_init.nd rfl (by first | exact .inl rfl | exact .inr rfl) (by decide))) (fun _ _ _ _ _ => sts_nil) (fun _ _ _ _ _ => (se_call g_rooms_from hr (by omega) rfl takes0 (sa_cons (se_var 1 rfl (.inr (.inl rfl))) (sa_cons (se_var 2 rfl (by first | exact .inl rfl | exact .inr (.inl rfl))) sa_nil)) (mCons_len (mCons_len mNil_len))))))))
theorem o_place_on {f : Addr} {fd : FuncData} (F : L2.Fun K "place_on" "place_on" s_place_on f fd) (T : Txt K mg C_Web) (g_spot_in : Fn ⟨P, w, K, mg⟩ base "spot_in" 3 4 m_spot_in) (g_Web_init : Mks ⟨P, w, K, mg⟩ base "Web" 3 1 m_Web_init) : FnG P w K mg base (L2.CX P w) 5 f fd ["house", "one", "other", "steps"] (spM ⟨P, w, K, mg⟩ 4 m_place_on) :=
  fn_ok (k := 4) F sc_place_on fun cdv A outer s H E hr => (sss_one (ss_ret (se_call g_spot_in hr (by omega) rfl (takes_of rfl rfl rfl rfl) (sa_cons (se_mks g_Web_init hr (by omega) rfl (sa_cons (se_var 0 rfl (.inl rfl)) sa_nil) (mCons_len mNil_len)) (sa_cons (se_var 1 rfl (.inl rfl)) (sa_cons (se_var 2 rfl (.inl rfl)) (sa_cons (se_var 3 rfl (.inl rfl)) sa_nil)))) (mCons_len (mCons_len (mCons_len (mCons_len mNil_len)))))))
theorem o_bit_at {f : Addr} {fd : FuncData} (F : L2.Fun K "bit_at" "bit_at" s_bit_at f fd) (T : Txt K mg C_Web) (g_place_on : Fn ⟨P, w, K, mg⟩ base "place_on" 5 4 m_place_on) : FnG P w K mg base (L2.CX P w) 6 f fd ["house", "stand", "bit"] (spM ⟨P, w, K, mg⟩ 3 m_bit_at) :=
  fn_ok (k := 5) F sc_bit_at fun cdv A outer s H E hr => (sss_one (ss_ret (se_call g_place_on hr (by omega) rfl (takes_of rfl rfl rfl rfl) (sa_cons (se_var 0 rfl (.inl rfl)) (sa_cons (se_ix hr.units (se_var 1 rfl (.inl rfl)) se_int) (sa_cons (se_ix hr.units (se_var 1 rfl (.inl rfl)) se_int) (sa_cons (se_var 2 rfl (.inl rfl)) sa_nil)))) (mCons_len (mCons_len (mCons_len (mCons_len mNil_len)))))))
theorem o_law_small_right {f : Addr} {fd : FuncData} (F : L2.Fun K "_law_small_right" "_law_small_right" s_law_small_right f fd) (T : Txt K mg C_Web) (g_law_house : Fn ⟨P, w, K, mg⟩ base "_law_house" 2 4 m_law_house) (g_law_nexts : Fn ⟨P, w, K, mg⟩ base "_law_nexts" 2 1 m_law_nexts) (g_law_drawn : Fn ⟨P, w, K, mg⟩ base "_law_drawn" 3 3 m_law_drawn) (g_law_row : Fn ⟨P, w, K, mg⟩ base "_law_row" 1 3 m_law_row) (g_bit_at : Fn ⟨P, w, K, mg⟩ base "bit_at" 6 3 m_bit_at) : FnG P w K mg base (L2.CX P w) 7 f fd ["_law_stream_here"] (spM ⟨P, w, K, mg⟩ 1 m_law_small_right) :=
  fn_ok (k := 6) F sc_law_small_right fun cdv A outer s H E hr => (sss_cons (ss_set (i := 1) sc_law_small_right.nd rfl (.inr rfl) (se_call g_law_house hr (by omega) rfl (takes_of rfl rfl rfl rfl) (sa_cons (se_var 0 rfl (.inl rfl)) (sa_cons se_int (sa_cons se_int (sa_cons se_int sa_nil)))) (mCons_len (mCons_len (mCons_len (mCons_len mNil_len))))))
    (sss_cons (ss_set (i := 2) sc_law_small_right.nd rfl (.inl rfl) (se_call g_law_nexts hr (by omega) rfl (takes_of rfl rfl rfl rfl) (sa_cons (se_var 1 rfl (.inr (.inl rfl))) sa_nil) (mCons_len mNil_len)))
    (sss_cons (ss_asg (se_call g_law_drawn hr (by omega) rfl (takes_of rfl rfl rfl rfl) (sa_cons (se_var 0 rfl (.inl rfl)) (sa_cons (se_var 1 rfl (.inr (.inl rfl))) (sa_cons (se_var 2 rfl (.inl rfl)) sa_nil))) (mCons_len (mCons_len (mCons_len mNil_len)))) (sg_tup rfl (sgs_cons (sg_name sc_law_small_right.nd rfl (.inl rfl)) (sgs_cons (sg_name sc_law_small_right.nd rfl (.inr rfl)) sgs_nil))))
    (sss_cons (ss_set (i := 5) sc_law_small_right.nd rfl (.inl rfl) (se_call g_law_row hr (by omega) rfl (takes_of rfl rfl rfl rfl) (sa_cons (se_var 2 rfl (.inl rfl)) (sa_cons (se_ix hr.units (se_var 4 rfl (.inr (.inl rfl))) se_int) (sa_cons (se_ix hr.units (se_var 4 rfl (.inr (.inl rfl))) se_int) sa_nil))) (mCons_len (mCons_len (mCons_len mNil_len)))))
    (sss_cons (ss_setLc (i := 6) (own := [("_law_bit", 7)]) rfl sc_law_small_right.nd rfl rfl (sw_true rfl rfl rfl (by decide +kernel)) (si_range1 rfl T.z_range (sa_cons (se_op op_addA snd_add (se_ix hr.units (se_var 3 rfl (.inl rfl)) se_int) se_int) sa_nil)) (blkOk_by (N := N_law_small_right) (sc := defScope s_law_small_right) (by decide +kernel)) (fun _ _ _ _ _ => (sgv_name sc_law_small_right.nd rfl (by first | exact .inl rfl | exact .inr rfl) (by decide))) (fun _ _ _ _ _ => sts_nil) (fun _ _ _ _ _ => (se_call g_bit_at hr (by omega) rfl takes0 (sa_cons (se_var 1 rfl (.inr (.inl rfl))) (sa_cons (se_var 4 rfl (.inr (.inl rfl))) (sa_cons (se_var 7 rfl (by first | exact .inl rfl | exact .inr (.inl rfl))) sa_nil))) (mCons_len (mCons_len (mCons_len mNil_len))))))
    (sss_one (ss_ret (se_cmp op_eq snd_eqT (se_B (cr_repr hr.gd hr.units) snd_repr rfl T.z_repr (by decide +kernel) (sa_cons (se_var 6 rfl (.inl rfl)) sa_nil)) (se_B (cr_repr hr.gd hr.units) snd_repr rfl T.z_repr (by decide +kernel) (sa_cons (se_var 5 rfl (.inl rfl)) sa_nil)) (nomark _)))))))))
theorem o_law_far {f : Addr} {fd : FuncData} (F : L2.Fun K "_law_far" "_law_far" s_law_far f fd) (T : Txt K mg C_Web) (g_law_take : Fn ⟨P, w, K, mg⟩ base "_law_take" 1 2 m_law_take) : FnG P w K mg base (L2.CX P w) 2 f fd ["_law_stream_here", "_law_most"] (spM ⟨P, w, K, mg⟩ 2 m_law_far) :=
  fn_ok (k := 1) F sc_law_far fun cdv A outer s H E hr => (sss_cons (ss_set (i := 2) sc_law_far.nd rfl (.inl rfl) (se_B (call_min2 rfl) snd_min2 rfl T.z_min (by decide +kernel) (sa_cons (se_var 1 rfl (.inl rfl)) (sa_cons (se_ix hr.units (se_lst (sa_cons (se_var 1 rfl (.inl rfl)) (sa_cons se_int (sa_cons se_int (sa_cons (se_op op_pow snd_pow se_int se_int) sa_nil))))) (se_call g_law_take hr (by omega) rfl (takes_of rfl rfl rfl rfl) (sa_cons (se_var 0 rfl (.inl rfl)) (sa_cons se_int sa_nil)) (mCons_len (mCons_len mNil_len)))) sa_nil))))
    (sss_cons (ss_set (i := 3) sc_law_far.nd rfl (.inl rfl) (se_call g_law_take hr (by omega) rfl (takes_of rfl rfl rfl rfl) (sa_cons (se_var 0 rfl (.inl rfl)) (sa_cons (se_var 2 rfl (.inl rfl)) sa_nil)) (mCons_len (mCons_len mNil_len))))
    (sss_one (ss_ret (se_ix hr.units (se_lst (sa_cons (se_var 3 rfl (.inl rfl)) (sa_cons (se_op op_sub snd_sub (se_op op_sub snd_sub (se_var 1 rfl (.inl rfl)) se_int) (se_var 3 rfl (.inl rfl))) sa_nil))) (se_T call_int1 snd_intL rfl T.z_int (by decide +kernel) (sa_cons (se_cmp (op_eqD hr.units) snd_eq (se_call g_law_take hr (by omega) rfl (takes_of rfl rfl rfl rfl) (sa_cons (se_var 0 rfl (.inl rfl)) (sa_cons se_int sa_nil)) (mCons_len (mCons_len mNil_len))) se_int (nomark _)) sa_nil)))))))
theorem o_law_far_house {f : Addr} {fd : FuncData} (F : L2.Fun K "_law_far_house" "_law_far_house" s_law_far_house f fd) (T : Txt K mg C_Web) (g_law_take : Fn ⟨P, w, K, mg⟩ base "_law_take" 1 2 m_law_take) (g_law_far : Fn ⟨P, w, K, mg⟩ base "_law_far" 2 2 m_law_far) : FnG P w K mg base (L2.CX P w) 3 f fd ["_law_stream_here", "_law_flaps"] (spM ⟨P, w, K, mg⟩ 2 m_law_far_house) :=
  fn_ok (k := 2) F sc_law_far_house fun cdv A outer s H E hr => (sss_cons (ss_set (i := 2) sc_law_far_house.nd rfl (.inl rfl) (se_op op_addA snd_add se_int (se_call g_law_take hr (by omega) rfl (takes_of rfl rfl rfl rfl) (sa_cons (se_var 0 rfl (.inr (.inl rfl))) (sa_cons se_int sa_nil)) (mCons_len (mCons_len mNil_len)))))
    (sss_cons (ss_set (i := 3) sc_law_far_house.nd rfl (.inl rfl) (se_lst sa_nil))
    (sss_cons (ss_set (i := 4) sc_law_far_house.nd rfl (.inl rfl) (se_lst (sa_cons se_int (sa_cons (se_var 1 rfl (.inl rfl)) sa_nil))))
    (sss_cons (ss_for (passes_of rfl) rfl (si_range2 rfl T.z_range (sa_cons se_int (sa_cons (se_var 2 rfl (.inl rfl)) sa_nil))) (sg_name sc_law_far_house.nd rfl (.inl rfl)) (sss_cons (ss_set (i := 6) sc_law_far_house.nd rfl (.inr rfl) (se_op op_addA snd_add se_int (se_call g_law_far hr (by omega) rfl (takes_of rfl rfl rfl rfl) (sa_cons (se_var 0 rfl (.inr (.inl rfl))) (sa_cons (se_op op_pow snd_pow se_int se_int) sa_nil)) (mCons_len (mCons_len mNil_len)))))
    (sss_cons (ss_setLc (i := 7) (own := [("_law_k", 11)]) rfl sc_law_far_house.nd rfl rfl (sw_true rfl rfl rfl (by decide +kernel)) (si_range1 rfl T.z_range (sa_cons (se_op op_mulA snd_mul (se_call g_law_take hr (by omega) rfl (takes_of rfl rfl rfl rfl) (sa_cons (se_var 0 rfl (.inr (.inl rfl))) (sa_cons se_int sa_nil)) (mCons_len (mCons_len mNil_len))) (se_T call_int1 snd_intL rfl T.z_int (by decide +kernel) (sa_cons (se_cmp op_gt snd_cmpI (se_var 6 rfl (.inr (.inl rfl))) se_int (nomark _)) sa_nil))) sa_nil)) (blkOk_by (N := N_law_far_house) (sc := defScope s_law_far_house) (by decide +kernel)) (fun _ _ _ _ _ => (sgv_name sc_law_far_house.nd rfl (by first | exact .inl rfl | exact .inr rfl) (by decide))) (fun _ _ _ _ _ => sts_nil) (fun _ _ _ _ _ => (se_op op_addA snd_add se_int (se_call g_law_far hr (by omega) rfl takes0 (sa_cons (se_var 0 rfl (.inr (.inl rfl))) (sa_cons (se_B (call_max2 rfl) snd_max2 rfl T.z_max (by decide +kernel) (sa_cons se_int (sa_cons (se_op op_sub snd_sub (se_var 6 rfl (.inr (.inl rfl))) se_int) sa_nil))) sa_nil)) (mCons_len (mCons_len mNil_len))))))
    (sss_cons (ss_set (i := 8) sc_law_far_house.nd rfl (.inl rfl) (se_slc (se_lc (own := [("_law_at", 12)]) rfl sc_law_far_house.nd (si_seq (se_B (cr_sortedB rfl hr.units) snd_sortedB rfl T.z_sorted (by decide +kernel) (sa_cons (se_T (cr_setOfL rfl) snd_setOf rfl T.z_set (by decide +kernel) (sa_cons (se_var 7 rfl (.inl rfl)) sa_nil)) sa_nil))) (blkOk_by (N := N_law_far_house) (sc := defScope s_law_far_house) (by decide +kernel)) (fun _ _ _ _ _ => (sgv_name sc_law_far_house.nd rfl (by first | exact .inl rfl | exact .inr rfl) (by decide))) (fun _ _ _ _ _ => sts_nil) (fun _ _ _ _ _ => (se_tup (sa_cons (se_var 12 rfl (by first | exact .inl rfl | exact .inr (.inl rfl))) (sa_cons (se_op op_addA snd_add se_int (se_call g_law_take hr (by omega) rfl takes0 (sa_cons (se_var 0 rfl (.inr (.inl rfl))) (sa_cons se_int sa_nil)) (mCons_len (mCons_len mNil_len)))) sa_nil))))) so_none (so_some (se_ix hr.units (se_var 4 rfl (.inl rfl)) se_int))))
    (sss_cons (ss_set (i := 7) sc_law_far_house.nd rfl (.inl rfl) (se_slc (se_lc (own := [("_law_k", 11)]) rfl sc_law_far_house.nd (si_range1 rfl T.z_range (sa_cons (se_call g_law_take hr (by omega) rfl (takes_of rfl rfl rfl rfl) (sa_cons (se_var 0 rfl (.inr (.inl rfl))) (sa_cons se_int sa_nil)) (mCons_len (mCons_len mNil_len))) sa_nil)) (blkOk_by (N := N_law_far_house) (sc := defScope s_law_far_house) (by decide +kernel)) (fun _ _ _ _ _ => (sgv_name sc_law_far_house.nd rfl (by first | exact .inl rfl | exact .inr rfl) (by decide))) (fun _ _ _ _ _ => sts_nil) (fun _ _ _ _ _ => (se_call g_law_far hr (by omega) rfl takes0 (sa_cons (se_var 0 rfl (.inr (.inl rfl))) (sa_cons (se_var 6 rfl (.inr (.inl rfl))) sa_nil)) (mCons_len (mCons_len mNil_len))))) so_none (so_some (se_ix hr.units (se_var 4 rfl (.inl rfl)) se_int))))
    (sss_cons (ss_setLc (i := 9) (own := [("_law_at", 12)]) rfl sc_law_far_house.nd rfl rfl (sw_true rfl rfl rfl (by decide +kernel)) (si_seq (se_var 7 rfl (.inl rfl))) (blkOk_by (N := N_law_far_house) (sc := defScope s_law_far_house) (by decide +kernel)) (fun _ _ _ _ _ => (sgv_name sc_law_far_house.nd rfl (by first | exact .inl rfl | exact .inr rfl) (by decide))) (fun _ _ _ _ _ => sts_nil) (fun _ _ _ _ _ => (se_tup (sa_cons (se_var 12 rfl (by first | exact .inl rfl | exact .inr (.inl rfl))) (sa_cons (se_ix hr.units (se_lst (sa_cons se_int (sa_cons (se_un un_neg snd_neg se_int) sa_nil))) (se_call g_law_take hr (by omega) rfl takes0 (sa_cons (se_var 0 rfl (.inr (.inl rfl))) (sa_cons se_int sa_nil)) (mCons_len (mCons_len mNil_len)))) sa_nil)))))
    (sss_cons (ss_set (i := 4) sc_law_far_house.nd rfl (.inl rfl) (se_lst (sa_cons (se_op op_sub snd_sub (se_ix hr.units (se_var 4 rfl (.inl rfl)) se_int) (se_B call_lenA snd_len rfl T.z_len (by decide +kernel) (sa_cons (se_var 8 rfl (.inl rfl)) sa_nil))) (sa_cons (se_op op_sub snd_sub (se_ix hr.units (se_var 4 rfl (.inl rfl)) se_int) (se_B call_lenA snd_len rfl T.z_len (by decide +kernel) (sa_cons (se_var 9 rfl (.inl rfl)) sa_nil))) sa_nil))))
    (sss_cons (ss_set (i := 10) sc_law_far_house.nd rfl (.inl rfl) (se_tup (sa_cons (se_call g_law_take hr (by omega) rfl (takes_of rfl rfl rfl rfl) (sa_cons (se_var 0 rfl (.inr (.inl rfl))) (sa_cons (se_var 5 rfl (.inl rfl)) sa_nil)) (mCons_len (mCons_len mNil_len))) (sa_cons (se_var 5 rfl (.inl rfl)) (sa_cons (se_var 6 rfl (.inr (.inl rfl))) (sa_cons (se_T call_tuple_of snd_tupleL rfl T.z_tuple (by decide +kernel) (sa_cons (se_var 8 rfl (.inl rfl)) sa_nil)) (sa_cons (se_T call_tuple_of snd_tupleL rfl T.z_tuple (by decide +kernel) (sa_cons (se_var 9 rfl (.inl rfl)) sa_nil)) sa_nil)))))))
    (sss_one (ss_expr (se_mt PySem.F.plainAttrs_list PySem.F.slot_list_insert PySem.F.type_list_insert mt_insert ty_list snd_insert (se_var 3 rfl (.inl rfl)) (sa_cons (se_call g_law_take hr (by omega) rfl (takes_of rfl rfl rfl rfl) (sa_cons (se_var 0 rfl (.inr (.inl rfl))) (sa_cons (se_op op_addA snd_add (se_B call_lenA snd_len rfl T.z_len (by decide +kernel) (sa_cons (se_var 3 rfl (.inl rfl)) sa_nil)) se_int) sa_nil)) (mCons_len (mCons_len mNil_len))) (sa_cons (se_var 10 rfl (.inl rfl)) sa_nil)))))))))))))
    (sss_one (ss_ret (se_tup (sa_cons (se_var 2 rfl (.inl rfl)) (sa_cons (se_T call_tuple_of snd_tupleL rfl T.z_tuple (by decide +kernel) (sa_cons (se_var 3 rfl (.inl rfl)) sa_nil)) sa_nil)))))))))
theorem o_law_rooms_apart {f : Addr} {fd : FuncData} (F : L2.Fun K "_law_rooms_apart" "_law_rooms_apart" s_law_rooms_apart f fd) (T : Txt K mg C_Web) : FnG P w K mg base (L2.CX P w) 1 f fd ["_law_house_here"] (spM ⟨P, w, K, mg⟩ 1 m_law_rooms_apart) :=
  fn_ok (k := 0) F sc_law_rooms_apart fun cdv A outer s H E hr => (sss_cons (ss_set (i := 1) sc_law_rooms_apart.nd rfl (.inl rfl) se_tdicNew)
    (sss_cons (ss_for (passes_of rfl) rfl (si_range1 rfl T.z_range (sa_cons (se_ix hr.units (se_var 0 rfl (.inl rfl)) se_int) sa_nil)) (sg_name sc_law_rooms_apart.nd rfl (.inl rfl)) (sss_one (ss_asg se_int (sg_set hr.units (se_var 1 rfl (.inl rfl)) (se_tup (sa_cons (se_var 2 rfl (.inl rfl)) (sa_cons (se_var 2 rfl (.inl rfl)) sa_nil)))))))
    (sss_cons (ss_for (passes_of rfl) rfl (si_range1 rfl T.z_range (sa_cons (se_ix hr.units (se_var 0 rfl (.inl rfl)) se_int) sa_nil)) (sg_name sc_law_rooms_apart.nd rfl (.inl rfl)) (sss_one (ss_for (passes_of rfl) rfl (si_seq (se_ix hr.units (se_var 0 rfl (.inl rfl)) se_int)) (sg_tup rfl (sgs_cons (sg_name sc_law_rooms_apart.nd rfl (.inl rfl)) (sgs_cons (sg_name sc_law_rooms_apart.nd rfl (.inl rfl)) (sgs_cons (sg_name sc_law_rooms_apart.nd rfl (.inl rfl)) (sgs_cons (sg_name sc_law_rooms_apart.nd rfl (.inl rfl)) (sgs_cons (sg_name sc_law_rooms_apart.nd rfl (.inl rfl)) sgs_nil)))))) (sss_one (ss_for (passes_of rfl) rfl (si_range1 rfl T.z_range (sa_cons (se_ix hr.units (se_var 0 rfl (.inl rfl)) se_int) sa_nil)) (sg_name sc_law_rooms_apart.nd rfl (.inl rfl)) (sss_cons (ss_if (PW.pt (sw_and (st_cmp (op_inD hr.units) snd_inD (se_tup (sa_cons (se_var 2 rfl (.inl rfl)) (sa_cons (se_var 4 rfl (.inl rfl)) sa_nil))) (se_var 1 rfl (.inl rfl)) (by with_unfolding_all rfl)) (sw_and1 (st_cmp (op_notInD hr.units) snd_notInD (se_tup (sa_cons (se_var 2 rfl (.inl rfl)) (sa_cons (se_var 5 rfl (.inl rfl)) sa_nil))) (se_var 1 rfl (.inl rfl)) (by with_unfolding_all rfl))))) (sss_one (ss_asg (se_op op_addA snd_add (se_ix hr.units (se_var 1 rfl (.inl rfl)) (se_tup (sa_cons (se_var 2 rfl (.inl rfl)) (sa_cons (se_var 4 rfl (.inl rfl)) sa_nil)))) (se_var 6 rfl (.inl rfl))) (sg_set hr.units (se_var 1 rfl (.inl rfl)) (se_tup (sa_cons (se_var 2 rfl (.inl rfl)) (sa_cons (se_var 5 rfl (.inl rfl)) sa_nil)))))) sss_nil)
    (sss_one (ss_if (PW.pt (sw_and (st_cmp (op_inD hr.units) snd_inD (se_tup (sa_cons (se_var 2 rfl (.inl rfl)) (sa_cons (se_var 5 rfl (.inl rfl)) sa_nil))) (se_var 1 rfl (.inl rfl)) (by with_unfolding_all rfl)) (sw_and1 (st_cmp (op_notInD hr.units) snd_notInD (se_tup (sa_cons (se_var 2 rfl (.inl rfl)) (sa_cons (se_var 4 rfl (.inl rfl)) sa_nil))) (se_var 1 rfl (.inl rfl)) (by with_unfolding_all rfl))))) (sss_one (ss_asg (se_op op_addA snd_add (se_ix hr.units (se_var 1 rfl (.inl rfl)) (se_tup (sa_cons (se_var 2 rfl (.inl rfl)) (sa_cons (se_var 5 rfl (.inl rfl)) sa_nil)))) (se_var 6 rfl (.inl rfl))) (sg_set hr.units (se_var 1 rfl (.inl rfl)) (se_tup (sa_cons (se_var 2 rfl (.inl rfl)) (sa_cons (se_var 4 rfl (.inl rfl)) sa_nil)))))) sss_nil))))))))
    (sss_one (ss_ret (se_var 1 rfl (.inl rfl)))))))
theorem o_law_far_place {f : Addr} {fd : FuncData} (F : L2.Fun K "_law_far_place" "_law_far_place" s_law_far_place f fd) (T : Txt K mg C_Web) (g_law_take : Fn ⟨P, w, K, mg⟩ base "_law_take" 1 2 m_law_take) (g_law_far : Fn ⟨P, w, K, mg⟩ base "_law_far" 2 2 m_law_far) : FnG P w K mg base (L2.CX P w) 3 f fd ["_law_stream_here", "_law_house_here"] (spM ⟨P, w, K, mg⟩ 2 m_law_far_place) :=
  fn_ok (k := 2) F sc_law_far_place fun cdv A outer s H E hr => (sss_cons (ss_set (i := 2) sc_law_far_place.nd rfl (.inl rfl) (se_call g_law_take hr (by omega) rfl (takes_of rfl rfl rfl rfl) (sa_cons (se_var 0 rfl (.inl rfl)) (sa_cons (se_B call_lenA snd_len rfl T.z_len (by decide +kernel) (sa_cons (se_ix hr.units (se_var 1 rfl (.inl rfl)) se_int) sa_nil)) sa_nil)) (mCons_len (mCons_len mNil_len))))
    (sss_cons (ss_if (PW.pt (sw_or (st_cmp (op_eqD hr.units) snd_eq (se_ix hr.units (se_ix hr.units (se_ix hr.units (se_var 1 rfl (.inl rfl)) se_int) (se_var 2 rfl (.inl rfl))) se_int) se_int (nomark _)) (sw_or1 (st_cmp (op_eqD hr.units) snd_eq (se_call g_law_take hr (by omega) rfl (takes_of rfl rfl rfl rfl) (sa_cons (se_var 0 rfl (.inl rfl)) (sa_cons se_int sa_nil)) (mCons_len (mCons_len mNil_len))) se_int (nomark _))))) (sss_one (ss_ret (se_tup (sa_cons (se_call g_law_take hr (by omega) rfl (takes_of rfl rfl rfl rfl) (sa_cons (se_var 0 rfl (.inl rfl)) (sa_cons (se_ix hr.units (se_var 1 rfl (.inl rfl)) se_int) sa_nil)) (mCons_len (mCons_len mNil_len))) sa_nil)))) sss_nil)
    (sss_one (ss_ret (se_tup (sa_cons (se_var 2 rfl (.inl rfl)) (sa_cons (se_op op_addA snd_add se_int (se_call g_law_far hr (by omega) rfl (takes_of rfl rfl rfl rfl) (sa_cons (se_var 0 rfl (.inl rfl)) (sa_cons (se_op op_sub snd_sub (se_ix hr.units (se_ix hr.units (se_ix hr.units (se_var 1 rfl (.inl rfl)) se_int) (se_var 2 rfl (.inl rfl))) se_int) se_int) sa_nil)) (mCons_len (mCons_len mNil_len)))) sa_nil)))))))
theorem o_law_two {f : Addr} {fd : FuncData} (F : L2.Fun K "_law_two" "_law_two" s_law_two f fd) (T : Txt K mg C_Web) (g_law_far_place : Fn ⟨P, w, K, mg⟩ base "_law_far_place" 3 2 m_law_far_place) : FnG P w K mg base (L2.CX P w) 4 f fd ["_law_stream_here", "_law_house_here"] (spM ⟨P, w, K, mg⟩ 2 m_law_two) :=
  fn_ok (k := 3) F sc_law_two fun cdv A outer s H E hr => (sss_cons (ss_par (i := 2) (j := 3) rfl sc_law_two.nd rfl rfl (by decide) rfl rfl (sa_cons (se_call g_law_far_place hr (by omega) rfl (takes_of rfl rfl rfl rfl) (sa_cons (se_var 0 rfl (.inl rfl)) (sa_cons (se_var 1 rfl (.inl rfl)) sa_nil)) (mCons_len (mCons_len mNil_len))) (sa_cons (se_call g_law_far_place hr (by omega) rfl (takes_of rfl rfl rfl rfl) (sa_cons (se_var 0 rfl (.inl rfl)) (sa_cons (se_var 1 rfl (.inl rfl)) sa_nil)) (mCons_len (mCons_len mNil_len))) sa_nil)) rfl)
    (sss_cons (ss_if (st_cmp (op_eqD hr.units) snd_eq (se_var 2 rfl (.inl rfl)) (se_var 3 rfl (.inl rfl)) (nomark _)) (sss_one (ss_set (i := 3) sc_law_two.nd rfl (.inl rfl) (se_ix hr.units (se_lst (sa_cons (se_tup (sa_cons se_int sa_nil)) (sa_cons (se_tup (sa_cons se_int sa_nil)) sa_nil))) (se_T call_int1 snd_intL rfl T.z_int (by decide +kernel) (sa_cons (se_cmp (op_eqD hr.units) snd_eq (se_var 2 rfl (.inl rfl)) (se_tup (sa_cons se_int sa_nil)) (nomark _)) sa_nil))))) sss_nil)
    (sss_one (ss_ret (se_lst (sa_cons (se_var 2 rfl (.inl rfl)) (sa_cons (se_var 3 rfl (.inl rfl)) sa_nil)))))))
theorem o_law_rooms_by {f : Addr} {fd : FuncData} (F : L2.Fun K "_law_rooms_by" "_law_rooms_by" s_law_rooms_by f fd) (T : Txt K mg C_Web) : FnG P w K mg base (L2.CX P w) 1 f fd ["_law_house_here", "_law_place"] (spM ⟨P, w, K, mg⟩ 2 m_law_rooms_by) :=
  fn_ok (k := 0) F sc_law_rooms_by fun cdv A outer s H E hr => (sss_cons (ss_if (st_cmp (op_eqD hr.units) snd_eq (se_B call_lenA snd_len rfl T.z_len (by decide +kernel) (sa_cons (se_var 1 rfl (.inl rfl)) sa_nil)) se_int (nomark _)) (sss_one (ss_ret (se_lst (sa_cons (se_tup (sa_cons (se_ix hr.units (se_var 1 rfl (.inl rfl)) se_int) (sa_cons se_int sa_nil))) sa_nil)))) sss_nil)
    (sss_cons (ss_asg (se_ix hr.units (se_ix hr.units (se_var 0 rfl (.inl rfl)) se_int) (se_ix hr.units (se_var 1 rfl (.inl rfl)) se_int)) (sg_tup rfl (sgs_cons (sg_name sc_law_rooms_by.nd rfl (.inl rfl)) (sgs_cons (sg_name sc_law_rooms_by.nd rfl (.inl rfl)) (sgs_cons (sg_name sc_law_rooms_by.nd rfl (.inl rfl)) (sgs_cons (sg_name sc_law_rooms_by.nd rfl (.inl rfl)) (sgs_cons (sg_name sc_law_rooms_by.nd rfl (.inl rfl)) sgs_nil)))))))
    (sss_one (ss_ret (se_lst (sa_cons (se_tup (sa_cons (se_var 2 rfl (.inl rfl)) (sa_cons (se_ix hr.units (se_var 1 rfl (.inl rfl)) se_int) sa_nil))) (sa_cons (se_tup (sa_cons (se_var 3 rfl (.inl rfl)) (sa_cons (se_op op_sub snd_sub (se_var 4 rfl (.inl rfl)) (se_ix hr.units (se_var 1 rfl (.inl rfl)) se_int)) sa_nil))) sa_nil)))))))
theorem o_law_apart {f : Addr} {fd : FuncData} (F : L2.Fun K "_law_apart" "_law_apart" s_law_apart f fd) (T : Txt K mg C_Web) (g_law_rooms_by : Fn ⟨P, w, K, mg⟩ base "_law_rooms_by" 1 2 m_law_rooms_by) : FnG P w K mg base (L2.CX P w) 2 f fd ["_law_house_here", "_law_table", "_law_one", "_law_other"] (spM ⟨P, w, K, mg⟩ 4 m_law_apart) :=
  fn_ok (k := 1) F sc_law_apart fun cdv A outer s H E hr => (sss_cons (ss_if (PW.pt (sw_and (st_cmp (op_eqD hr.units) snd_eq (se_B call_lenA snd_len rfl T.z_len (by decide +kernel) (sa_cons (se_var 2 rfl (.inl rfl)) sa_nil)) se_int (nomark _)) (sw_and (st_cmp (op_eqD hr.units) snd_eq (se_B call_lenA snd_len rfl T.z_len (by decide +kernel) (sa_cons (se_var 3 rfl (.inl rfl)) sa_nil)) se_int (nomark _)) (sw_and1 (st_cmp (op_eqD hr.units) snd_eq (se_ix hr.units (se_var 2 rfl (.inl rfl)) se_int) (se_ix hr.units (se_var 3 rfl (.inl rfl)) se_int) (nomark _)))))) (sss_one (ss_ret (se_B call_abs snd_abs rfl T.z_abs (by decide +kernel) (sa_cons (se_op op_sub snd_sub (se_ix hr.units (se_var 2 rfl (.inl rfl)) se_int) (se_ix hr.units (se_var 3 rfl (.inl rfl)) se_int)) sa_nil)))) sss_nil)
    (sss_cons (ss_set (i := 4) sc_law_apart.nd rfl (.inl rfl) (se_lst sa_nil))
    (sss_cons (ss_for (passes_of rfl) rfl (si_seq (se_call g_law_rooms_by hr (by omega) rfl (takes_of rfl rfl rfl rfl) (sa_cons (se_var 0 rfl (.inl rfl)) (sa_cons (se_var 2 rfl (.inl rfl)) sa_nil)) (mCons_len (mCons_len mNil_len)))) (sg_tup rfl (sgs_cons (sg_name sc_law_apart.nd rfl (.inr rfl)) (sgs_cons (sg_name sc_law_apart.nd rfl (.inr rfl)) sgs_nil))) (sss_one (ss_set (i := 4) sc_law_apart.nd rfl (.inl rfl) (se_op op_addA snd_add (se_var 4 rfl (.inl rfl)) (se_lc (own := [("_law_by", 7), ("_law_more", 8)]) rfl sc_law_apart.nd (si_seq (se_call g_law_rooms_by hr (by omega) rfl (takes_of rfl rfl rfl rfl) (sa_cons (se_var 0 rfl (.inl rfl)) (sa_cons (se_var 3 rfl (.inl rfl)) sa_nil)) (mCons_len (mCons_len mNil_len)))) (blkOk_by (N := N_law_apart) (sc := defScope s_law_apart) (by decide +kernel)) (fun _ _ _ _ _ => (sgv_tup rfl (sgsv_cons (sgv_name sc_law_apart.nd rfl (by first | exact .inl rfl | exact .inr rfl) (by decide)) (sgsv_cons (sgv_name sc_law_apart.nd rfl (by first | exact .inl rfl | exact .inr rfl) (by decide)) sgsv_nil)))) (fun _ _ _ _ _ => sts_nil) (fun _ _ _ _ _ => (se_op op_addA snd_add (se_op op_addA snd_add (se_var 6 rfl (.inr (.inl rfl))) (se_ix hr.units (se_var 1 rfl (.inr (.inl rfl))) (se_tup (sa_cons (se_var 5 rfl (.inr (.inl rfl))) (sa_cons (se_var 7 rfl (by first | exact .inl rfl | exact .inr (.inl rfl))) sa_nil))))) (se_var 8 rfl (by first | exact .inl rfl | exact .inr (.inl rfl))))))))))
    (sss_one (ss_ret (se_B (cr_min rfl) snd_minLL rfl T.z_min (by decide +kernel) (sa_cons (se_var 4 rfl (.inl rfl)) sa_nil)))))))
theorem o_law_far_spot {f : Addr} {fd : FuncData} (F : L2.Fun K "_law_far_spot" "_law_far_spot" s_law_far_spot f fd) (T : Txt K mg C_Web) : FnG P w K mg base (L2.CX P w) 1 f fd ["_law_house_here", "_law_pipe", "_law_at"] (spM ⟨P, w, K, mg⟩ 3 m_law_far_spot) :=
  fn_ok (k := 0) F sc_law_far_spot fun cdv A outer s H E hr => (sss_cons (ss_if (st_cmp (op_eqD hr.units) snd_eq (se_var 2 rfl (.inl rfl)) se_int (nomark _)) (sss_one (ss_ret (se_tup (sa_cons (se_ix hr.units (se_ix hr.units (se_ix hr.units (se_var 0 rfl (.inl rfl)) se_int) (se_var 1 rfl (.inl rfl))) se_int) sa_nil)))) sss_nil)
    (sss_one (ss_ret (se_ix hr.units (se_lst (sa_cons (se_tup (sa_cons (se_var 1 rfl (.inl rfl)) (sa_cons (se_var 2 rfl (.inl rfl)) sa_nil))) (sa_cons (se_tup (sa_cons (se_ix hr.units (se_ix hr.units (se_ix hr.units (se_var 0 rfl (.inl rfl)) se_int) (se_var 1 rfl (.inl rfl))) se_int) sa_nil)) sa_nil))) (se_T call_int1 snd_intL rfl T.z_int (by decide +kernel) (sa_cons (se_cmp (op_eqD hr.units) snd_eq (se_var 2 rfl (.inl rfl)) (se_ix hr.units (se_ix hr.units (se_ix hr.units (se_var 0 rfl (.inl rfl)) se_int) (se_var 1 rfl (.inl rfl))) se_int) (nomark _)) sa_nil))))))
theorem o_law_on {f : Addr} {fd : FuncData} (F : L2.Fun K "_law_on" "_law_on" s_law_on f fd) (T : Txt K mg C_Web) (g_law_apart : Fn ⟨P, w, K, mg⟩ base "_law_apart" 2 4 m_law_apart) (g_law_far_spot : Fn ⟨P, w, K, mg⟩ base "_law_far_spot" 1 3 m_law_far_spot) : FnG P w K mg base (L2.CX P w) 3 f fd ["_law_house_here", "_law_table", "_law_begin", "_law_end", "_law_steps"] (spM ⟨P, w, K, mg⟩ 5 m_law_on) :=
  fn_ok (k := 2) F sc_law_on fun cdv A outer s H E hr => (sss_cons (ss_set (i := 5) sc_law_on.nd rfl (.inl rfl) (se_call g_law_apart hr (by omega) rfl (takes_of rfl rfl rfl rfl) (sa_cons (se_var 0 rfl (.inr (.inl rfl))) (sa_cons (se_var 1 rfl (.inl rfl)) (sa_cons (se_var 2 rfl (.inl rfl)) (sa_cons (se_var 3 rfl (.inl rfl)) sa_nil)))) (mCons_len (mCons_len (mCons_len (mCons_len mNil_len))))))
    (sss_cons (ss_for (passes_of rfl) rfl (si_range1 rfl T.z_range (sa_cons (se_B call_lenA snd_len rfl T.z_len (by decide +kernel) (sa_cons (se_ix hr.units (se_var 0 rfl (.inr (.inl rfl))) se_int) sa_nil)) sa_nil)) (sg_name sc_law_on.nd rfl (.inr rfl)) (sss_cons (ss_asg (se_ix hr.units (se_ix hr.units (se_var 0 rfl (.inr (.inl rfl))) se_int) (se_var 6 rfl (.inr (.inl rfl)))) (sg_tup rfl (sgs_cons (sg_name sc_law_on.nd rfl (.inl rfl)) (sgs_cons (sg_name sc_law_on.nd rfl (.inl rfl)) (sgs_cons (sg_name sc_law_on.nd rfl (.inr rfl)) (sgs_cons (sg_name sc_law_on.nd rfl (.inl rfl)) (sgs_cons (sg_name sc_law_on.nd rfl (.inl rfl)) sgs_nil)))))))
    (sss_cons (ss_set (i := 12) sc_law_on.nd rfl (.inl rfl) (se_lst (sa_cons (se_op op_sub snd_sub (se_var 4 rfl (.inl rfl)) (se_call g_law_apart hr (by omega) rfl (takes_of rfl rfl rfl rfl) (sa_cons (se_var 0 rfl (.inr (.inl rfl))) (sa_cons (se_var 1 rfl (.inl rfl)) (sa_cons (se_var 2 rfl (.inl rfl)) (sa_cons (se_tup (sa_cons (se_var 7 rfl (.inl rfl)) sa_nil)) sa_nil)))) (mCons_len (mCons_len (mCons_len (mCons_len mNil_len)))))) sa_nil)))
    (sss_cons (ss_expr (se_mt PySem.F.plainAttrs_list PySem.F.slot_list_append PySem.F.type_list_append mt_append ty_list snd_append (se_var 12 rfl (.inl rfl)) (sa_cons (se_op op_addA snd_add (se_op op_sub snd_sub (se_var 9 rfl (.inr (.inl rfl))) (se_var 4 rfl (.inl rfl))) (se_call g_law_apart hr (by omega) rfl (takes_of rfl rfl rfl rfl) (sa_cons (se_var 0 rfl (.inr (.inl rfl))) (sa_cons (se_var 1 rfl (.inl rfl)) (sa_cons (se_var 2 rfl (.inl rfl)) (sa_cons (se_tup (sa_cons (se_var 8 rfl (.inl rfl)) sa_nil)) sa_nil)))) (mCons_len (mCons_len (mCons_len (mCons_len mNil_len)))))) sa_nil)))
    (sss_cons (ss_if (PW.pt (sw_and (st_cmp (op_eqD hr.units) snd_eq (se_ix hr.units (se_var 2 rfl (.inl rfl)) se_int) (se_var 6 rfl (.inr (.inl rfl))) (nomark _)) (sw_and1 (st_cmp (op_eqD hr.units) snd_eq (se_B call_lenA snd_len rfl T.z_len (by decide +kernel) (sa_cons (se_var 2 rfl (.inl rfl)) sa_nil)) se_int (nomark _))))) (sss_one (ss_set (i := 12) sc_law_on.nd rfl (.inl rfl) (se_lst (sa_cons (se_op op_addA snd_add (se_ix hr.units (se_var 2 rfl (.inl rfl)) se_int) (se_var 4 rfl (.inl rfl))) (sa_cons (se_op op_sub snd_sub (se_ix hr.units (se_var 2 rfl (.inl rfl)) se_int) (se_var 4 rfl (.inl rfl))) sa_nil))))) sss_nil)
    (sss_one (ss_for (passes_of rfl) rfl (si_seq (se_lc (own := [("_law_at", 15)]) rfl sc_law_on.nd (si_seq (se_var 12 rfl (.inl rfl))) (blkOk_by (N := N_law_on) (sc := defScope s_law_on) (by decide +kernel)) (fun _ _ _ _ _ => (sgv_name sc_law_on.nd rfl (by first | exact .inl rfl | exact .inr rfl) (by decide))) (fun _ _ _ _ _ => (sts_one (st_chain op_le op_le snd_cmpI snd_cmpI se_int (se_var 15 rfl (by first | exact .inl rfl | exact .inr (.inl rfl))) (se_var 9 rfl (.inr (.inl rfl)))))) (fun _ _ _ _ _ => (se_call g_law_far_spot hr (by omega) rfl takes0 (sa_cons (se_var 0 rfl (.inr (.inl rfl))) (sa_cons (se_var 6 rfl (.inr (.inl rfl))) (sa_cons (se_var 15 rfl (by first | exact .inl rfl | exact .inr (.inl rfl))) sa_nil))) (mCons_len (mCons_len (mCons_len mNil_len))))))) (sg_name sc_law_on.nd rfl (.inl rfl)) (sss_cons (ss_set (i := 14) sc_law_on.nd rfl (.inl rfl) (se_call g_law_apart hr (by omega) rfl (takes_of rfl rfl rfl rfl) (sa_cons (se_var 0 rfl (.inr (.inl rfl))) (sa_cons (se_var 1 rfl (.inl rfl)) (sa_cons (se_var 2 rfl (.inl rfl)) (sa_cons (se_var 13 rfl (.inl rfl)) sa_nil)))) (mCons_len (mCons_len (mCons_len (mCons_len mNil_len))))))
    (sss_one (ss_if (PW.pt (sw_and (st_cmp (op_eqD hr.units) snd_eq (se_var 14 rfl (.inl rfl)) (se_var 4 rfl (.inl rfl)) (nomark _)) (sw_and1 (st_cmp (op_eqD hr.units) snd_eq (se_call g_law_apart hr (by omega) rfl (takes_of rfl rfl rfl rfl) (sa_cons (se_var 0 rfl (.inr (.inl rfl))) (sa_cons (se_var 1 rfl (.inl rfl)) (sa_cons (se_var 13 rfl (.inl rfl)) (sa_cons (se_var 3 rfl (.inl rfl)) sa_nil)))) (mCons_len (mCons_len (mCons_len (mCons_len mNil_len))))) (se_op op_sub snd_sub (se_var 5 rfl (.inl rfl)) (se_var 4 rfl (.inl rfl))) (nomark _))))) (sss_one (ss_ret (se_var 13 rfl (.inl rfl)))) sss_nil))))))))))
    (sss_one (ss_ret se_non))))
theorem o_law_far_right {f : Addr} {fd : FuncData} (F : L2.Fun K "_law_far_right" "_law_far_right" s_law_far_right f fd) (T : Txt K mg C_Web) (g_law_far_house : Fn ⟨P, w, K, mg⟩ base "_law_far_house" 3 2 m_law_far_house) (g_law_rooms_apart : Fn ⟨P, w, K, mg⟩ base "_law_rooms_apart" 1 1 m_law_rooms_apart) (g_law_two : Fn ⟨P, w, K, mg⟩ base "_law_two" 4 2 m_law_two) (g_law_apart : Fn ⟨P, w, K, mg⟩ base "_law_apart" 2 4 m_law_apart) (g_law_far : Fn ⟨P, w, K, mg⟩ base "_law_far" 2 2 m_law_far) (g_law_take : Fn ⟨P, w, K, mg⟩ base "_law_take" 1 2 m_law_take) (g_law_on : Fn ⟨P, w, K, mg⟩ base "_law_on" 3 5 m_law_on) (g_bit_at : Fn ⟨P, w, K, mg⟩ base "bit_at" 6 3 m_bit_at) : FnG P w K mg base (L2.CX P w) 7 f fd ["_law_stream_here"] (spM ⟨P, w, K, mg⟩ 1 m_law_far_right) :=
  fn_ok (k := 6) F sc_law_far_right fun cdv A outer s H E hr => (sss_cons (ss_set (i := 1) sc_law_far_right.nd rfl (.inl rfl) (se_call g_law_far_house hr (by omega) rfl (takes_of rfl rfl rfl rfl) (sa_cons (se_var 0 rfl (.inl rfl)) (sa_cons se_int sa_nil)) (mCons_len (mCons_len mNil_len))))
    (sss_cons (ss_set (i := 2) sc_law_far_right.nd rfl (.inl rfl) (se_call g_law_rooms_apart hr (by omega) rfl (takes_of rfl rfl rfl rfl) (sa_cons (se_var 1 rfl (.inl rfl)) sa_nil) (mCons_len mNil_len)))
    (sss_cons (ss_asg (se_call g_law_two hr (by omega) rfl (takes_of rfl rfl rfl rfl) (sa_cons (se_var 0 rfl (.inl rfl)) (sa_cons (se_var 1 rfl (.inl rfl)) sa_nil)) (mCons_len (mCons_len mNil_len))) (sg_tup rfl (sgs_cons (sg_name sc_law_far_right.nd rfl (.inl rfl)) (sgs_cons (sg_name sc_law_far_right.nd rfl (.inl rfl)) sgs_nil))))
    (sss_cons (ss_set (i := 5) sc_law_far_right.nd rfl (.inl rfl) (se_call g_law_apart hr (by omega) rfl (takes_of rfl rfl rfl rfl) (sa_cons (se_var 1 rfl (.inl rfl)) (sa_cons (se_var 2 rfl (.inl rfl)) (sa_cons (se_var 3 rfl (.inl rfl)) (sa_cons (se_var 4 rfl (.inl rfl)) sa_nil)))) (mCons_len (mCons_len (mCons_len (mCons_len mNil_len))))))
    (sss_cons (ss_for (passes_of rfl) rfl (si_seq (se_lst (sa_cons se_int (sa_cons (se_var 5 rfl (.inl rfl)) (sa_cons (se_call g_law_far hr (by omega) rfl (takes_of rfl rfl rfl rfl) (sa_cons (se_var 0 rfl (.inl rfl)) (sa_cons (se_op op_addA snd_add (se_var 5 rfl (.inl rfl)) se_int) sa_nil)) (mCons_len (mCons_len mNil_len))) (sa_cons (se_call g_law_far hr (by omega) rfl (takes_of rfl rfl rfl rfl) (sa_cons (se_var 0 rfl (.inl rfl)) (sa_cons (se_op op_addA snd_add (se_var 5 rfl (.inl rfl)) se_int) sa_nil)) (mCons_len (mCons_len mNil_len))) (sa_cons (se_call g_law_take hr (by omega) rfl (takes_of rfl rfl rfl rfl) (sa_cons (se_var 0 rfl (.inl rfl)) (sa_cons (se_op op_addA snd_add (se_var 5 rfl (.inl rfl)) se_int) sa_nil)) (mCons_len (mCons_len mNil_len))) sa_nil))))))) (sg_name sc_law_far_right.nd rfl (.inl rfl)) (sss_cons (ss_set (i := 7) sc_law_far_right.nd rfl (.inl rfl) (se_call g_law_on hr (by omega) rfl (takes_of rfl rfl rfl rfl) (sa_cons (se_var 1 rfl (.inl rfl)) (sa_cons (se_var 2 rfl (.inl rfl)) (sa_cons (se_var 4 rfl (.inl rfl)) (sa_cons (se_var 3 rfl (.inl rfl)) (sa_cons (se_var 6 rfl (.inl rfl)) sa_nil))))) (mCons_len (mCons_len (mCons_len (mCons_len (mCons_len mNil_len)))))))
    (sss_cons (ss_if (st_cmp op_ne snd_neT (se_B (cr_repr hr.gd hr.units) snd_repr rfl T.z_repr (by decide +kernel) (sa_cons (se_call g_bit_at hr (by omega) rfl (takes_of rfl rfl rfl rfl) (sa_cons (se_var 1 rfl (.inl rfl)) (sa_cons (se_tup (sa_cons (se_var 3 rfl (.inl rfl)) (sa_cons (se_var 4 rfl (.inl rfl)) sa_nil))) (sa_cons (se_var 6 rfl (.inl rfl)) sa_nil))) (mCons_len (mCons_len (mCons_len mNil_len)))) sa_nil)) (se_B (cr_repr hr.gd hr.units) snd_repr rfl T.z_repr (by decide +kernel) (sa_cons (se_var 7 rfl (.inl rfl)) sa_nil)) (nomark _)) (sss_one (ss_ret se_bl)) sss_nil)
    (sss_one (ss_if (st_cmp op_ne snd_neT (se_B (cr_repr hr.gd hr.units) snd_repr rfl T.z_repr (by decide +kernel) (sa_cons (se_call g_bit_at hr (by omega) rfl (takes_of rfl rfl rfl rfl) (sa_cons (se_var 1 rfl (.inl rfl)) (sa_cons (se_tup (sa_cons (se_var 4 rfl (.inl rfl)) (sa_cons (se_var 3 rfl (.inl rfl)) sa_nil))) (sa_cons (se_op op_sub snd_sub (se_var 5 rfl (.inl rfl)) (se_var 6 rfl (.inl rfl))) sa_nil))) (mCons_len (mCons_len (mCons_len mNil_len)))) sa_nil)) (se_B (cr_repr hr.gd hr.units) snd_repr rfl T.z_repr (by decide +kernel) (sa_cons (se_var 7 rfl (.inl rfl)) sa_nil)) (nomark _)) (sss_one (ss_ret se_bl)) sss_nil)))))
    (sss_one (ss_ret se_bl)))))))
theorem o_law {f : Addr} {fd : FuncData} (F : L2.Fun K "law" "law" s_law f fd) (T : Txt K mg C_Web) (g_law_stream : Fn ⟨P, w, K, mg⟩ base "_law_stream" 1 2 m_law_stream) (g_law_small_right : Fn ⟨P, w, K, mg⟩ base "_law_small_right" 7 1 m_law_small_right) (g_law_far_right : Fn ⟨P, w, K, mg⟩ base "_law_far_right" 7 1 m_law_far_right) : FnG P w K mg base (L2.CX P w) 8 f fd ["_law_script"] (spM ⟨P, w, K, mg⟩ 1 m_law) :=
  fn_ok (k := 7) F sc_law fun cdv A outer s H E hr => (sss_cons (ss_set (i := 1) sc_law.nd rfl (.inl rfl) (se_call g_law_stream hr (by omega) rfl (takes_of rfl rfl rfl rfl) (sa_cons (se_var 0 rfl (.inl rfl)) (sa_cons se_int sa_nil)) (mCons_len (mCons_len mNil_len))))
    (sss_cons (ss_for (passes_of rfl) rfl (si_range1 rfl T.z_range (sa_cons se_int sa_nil)) (sg_name sc_law.nd rfl (.inl rfl)) (sss_one (ss_if (PW.pt (sw_or (st_not (st_val (se_call g_law_small_right hr (by omega) rfl (takes_of rfl rfl rfl rfl) (sa_cons (se_var 1 rfl (.inl rfl)) sa_nil) (mCons_len mNil_len)))) (sw_or1 (st_not (st_val (se_call g_law_far_right hr (by omega) rfl (takes_of rfl rfl rfl rfl) (sa_cons (se_var 1 rfl (.inl rfl)) sa_nil) (mCons_len mNil_len))))))) (sss_one (ss_ret se_bl)) sss_nil)))
    (sss_one (ss_ret se_bl))))
end
theorem all_mk {l : PySem.W.OpenLaw} {w : World} {K : PySem.W.Frag} {h : Heap} {mg : Str → Option Value} {fa : Addr} (X : K.In h) (G : h.Ns mainGlobals mg) (hfa : mg "law" = some (.ref fa)) {C_Web : Addr} {f_law_stream : Addr} {od_law_stream an_law_stream : Option Addr} {sl_law_stream : Array (Option Value)} {oc_law_stream kV_law_stream dc_law_stream pm_law_stream cd_law_stream ct_law_stream : Value} {f_law_take : Addr} {od_law_take an_law_take : Option Addr} {sl_law_take : Array (Option Value)} {oc_law_take kV_law_take dc_law_take pm_law_take cd_law_take ct_law_take : Value} {f_law_house : Addr} {od_law_house an_law_house : Option Addr} {sl_law_house : Array (Option Value)} {oc_law_house kV_law_house dc_law_house pm_law_house cd_law_house ct_law_house : Value} {f_law_places : Addr} {od_law_places an_law_places : Option Addr} {sl_law_places : Array (Option Value)} {oc_law_places kV_law_places dc_law_places pm_law_places cd_law_places ct_law_places : Value} {f_law_spot : Addr} {od_law_spot an_law_spot : Option Addr} {sl_law_spot : Array (Option Value)} {oc_law_spot kV_law_spot dc_law_spot pm_law_spot cd_law_spot ct_law_spot : Value} {f_law_nexts : Addr} {od_law_nexts an_law_nexts : Option Addr} {sl_law_nexts : Array (Option Value)} {oc_law_nexts kV_law_nexts dc_law_nexts pm_law_nexts cd_law_nexts ct_law_nexts : Value} {f_law_row : Addr} {od_law_row an_law_row : Option Addr} {sl_law_row : Array (Option Value)} {oc_law_row kV_law_row dc_law_row pm_law_row cd_law_row ct_law_row : Value} {f_law_rope : Addr} {od_law_rope an_law_rope : Option Addr} {sl_law_rope : Array (Option Value)} {oc_law_rope kV_law_rope dc_law_rope pm_law_rope cd_law_rope ct_law_rope : Value} {f_law_widths : Addr} {od_law_widths an_law_widths : Option Addr} {sl_law_widths : Array (Option Value)} {oc_law_widths kV_law_widths dc_law_widths pm_law_widths cd_law_widths ct_law_widths : Value} {f_law_knots_lie : Addr} {od_law_knots_lie an_law_knots_lie : Option Addr} {sl_law_knots_lie : Array (Option Value)} {oc_law_knots_lie kV_law_knots_lie dc_law_knots_lie pm_law_knots_lie cd_law_knots_lie ct_law_knots_lie : Value} {f_law_drawn : Addr} {od_law_drawn an_law_drawn : Option Addr} {sl_law_drawn : Array (Option Value)} {oc_law_drawn kV_law_drawn dc_law_drawn pm_law_drawn cd_law_drawn ct_law_drawn : Value} {f_place_at : Addr} {od_place_at an_place_at : Option Addr} {sl_place_at : Array (Option Value)} {oc_place_at kV_place_at dc_place_at pm_place_at cd_place_at ct_place_at : Value} {f_place_along : Addr} {od_place_along an_place_along : Option Addr} {sl_place_along : Array (Option Value)} {oc_place_along kV_place_along dc_place_along pm_place_along cd_place_along ct_place_along : Value} {f_is_one_pipe : Addr} {od_is_one_pipe an_is_one_pipe : Option Addr} {sl_is_one_pipe : Array (Option Value)} {oc_is_one_pipe kV_is_one_pipe dc_is_one_pipe pm_is_one_pipe cd_is_one_pipe ct_is_one_pipe : Value} {f_sides_of : Addr} {od_sides_of an_sides_of : Option Addr} {sl_sides_of : Array (Option Value)} {oc_sides_of kV_sides_of dc_sides_of pm_sides_of cd_sides_of ct_sides_of : Value} {f_turned : Addr} {od_turned an_turned : Option Addr} {sl_turned : Array (Option Value)} {oc_turned kV_turned dc_turned pm_turned cd_turned ct_turned : Value} {f_between_rooms : Addr} {od_between_rooms an_between_rooms : Option Addr} {sl_between_rooms : Array (Option Value)} {oc_between_rooms kV_between_rooms dc_between_rooms pm_between_rooms cd_between_rooms ct_between_rooms : Value} {f_road_in : Addr} {od_road_in an_road_in : Option Addr} {sl_road_in : Array (Option Value)} {oc_road_in kV_road_in dc_road_in pm_road_in cd_road_in ct_road_in : Value} {f_spot_in : Addr} {od_spot_in an_spot_in : Option Addr} {sl_spot_in : Array (Option Value)} {oc_spot_in kV_spot_in dc_spot_in pm_spot_in cd_spot_in ct_spot_in : Value} {f_pipes_at : Addr} {od_pipes_at an_pipes_at : Option Addr} {sl_pipes_at : Array (Option Value)} {oc_pipes_at kV_pipes_at dc_pipes_at pm_pipes_at cd_pipes_at ct_pipes_at : Value} {f_rooms_from : Addr} {od_rooms_from an_rooms_from : Option Addr} {sl_rooms_from : Array (Option Value)} {oc_rooms_from kV_rooms_from dc_rooms_from pm_rooms_from cd_rooms_from ct_rooms_from : Value} {f_Web_init : Addr} {od_Web_init an_Web_init : Option Addr} {sl_Web_init : Array (Option Value)} {oc_Web_init kV_Web_init dc_Web_init pm_Web_init cd_Web_init ct_Web_init : Value} {f_place_on : Addr} {od_place_on an_place_on : Option Addr} {sl_place_on : Array (Option Value)} {oc_place_on kV_place_on dc_place_on pm_place_on cd_place_on ct_place_on : Value} {f_bit_at : Addr} {od_bit_at an_bit_at : Option Addr} {sl_bit_at : Array (Option Value)} {oc_bit_at kV_bit_at dc_bit_at pm_bit_at cd_bit_at ct_bit_at : Value} {f_law_small_right : Addr} {od_law_small_right an_law_small_right : Option Addr} {sl_law_small_right : Array (Option Value)} {oc_law_small_right kV_law_small_right dc_law_small_right pm_law_small_right cd_law_small_right ct_law_small_right : Value} {f_law_far : Addr} {od_law_far an_law_far : Option Addr} {sl_law_far : Array (Option Value)} {oc_law_far kV_law_far dc_law_far pm_law_far cd_law_far ct_law_far : Value} {f_law_far_house : Addr} {od_law_far_house an_law_far_house : Option Addr} {sl_law_far_house : Array (Option Value)} {oc_law_far_house kV_law_far_house dc_law_far_house pm_law_far_house cd_law_far_house ct_law_far_house : Value} {f_law_rooms_apart : Addr} {od_law_rooms_apart an_law_rooms_apart : Option Addr} {sl_law_rooms_apart : Array (Option Value)} {oc_law_rooms_apart kV_law_rooms_apart dc_law_rooms_apart pm_law_rooms_apart cd_law_rooms_apart ct_law_rooms_apart : Value} {f_law_far_place : Addr} {od_law_far_place an_law_far_place : Option Addr} {sl_law_far_place : Array (Option Value)} {oc_law_far_place kV_law_far_place dc_law_far_place pm_law_far_place cd_law_far_place ct_law_far_place : Value} {f_law_two : Addr} {od_law_two an_law_two : Option Addr} {sl_law_two : Array (Option Value)} {oc_law_two kV_law_two dc_law_two pm_law_two cd_law_two ct_law_two : Value} {f_law_rooms_by : Addr} {od_law_rooms_by an_law_rooms_by : Option Addr} {sl_law_rooms_by : Array (Option Value)} {oc_law_rooms_by kV_law_rooms_by dc_law_rooms_by pm_law_rooms_by cd_law_rooms_by ct_law_rooms_by : Value} {f_law_apart : Addr} {od_law_apart an_law_apart : Option Addr} {sl_law_apart : Array (Option Value)} {oc_law_apart kV_law_apart dc_law_apart pm_law_apart cd_law_apart ct_law_apart : Value} {f_law_far_spot : Addr} {od_law_far_spot an_law_far_spot : Option Addr} {sl_law_far_spot : Array (Option Value)} {oc_law_far_spot kV_law_far_spot dc_law_far_spot pm_law_far_spot cd_law_far_spot ct_law_far_spot : Value} {f_law_on : Addr} {od_law_on an_law_on : Option Addr} {sl_law_on : Array (Option Value)} {oc_law_on kV_law_on dc_law_on pm_law_on cd_law_on ct_law_on : Value} {f_law_far_right : Addr} {od_law_far_right an_law_far_right : Option Addr} {sl_law_far_right : Array (Option Value)} {oc_law_far_right kV_law_far_right dc_law_far_right pm_law_far_right cd_law_far_right ct_law_far_right : Value} {f_law : Addr} {od_law an_law : Option Addr} {sl_law : Array (Option Value)} {oc_law kV_law dc_law pm_law cd_law ct_law : Value}
    (aC_Web : PySem.W.nsIn K mainGlobals "Web" = some (some (.ref C_Web)))
    (pg_Web : PySem.W.plainGet K C_Web Str.empty = true)
    (hd_Web : PySem.W.hasDictIn K C_Web = true)
    (po_Web : PySem.W.plainOver K C_Web = true)
    (sa_Web : PySem.W.findIn K (.ref C_Web) "__setattr__" = some (some (.builtin "object.__setattr__")))
    (mk_Web : PySem.W.makesIn K C_Web = true)
    (kc_Web : PySem.W.keepIn K (.ref C_Web) = true)
    (n_Web_own : PySem.W.findIn K (.ref C_Web) "own" = some none)
    (n_Web_known : PySem.W.findIn K (.ref C_Web) "known" = some none)
    (a_law_stream : PySem.W.nsIn K mainGlobals "_law_stream" = some (some (.ref f_law_stream)))
    (l_law_stream : K.lookup f_law_stream = some ⟨oc_law_stream, od_law_stream, .func (PySem.W.fnOf "_law_stream" "_law_stream" (defArgs s_law_stream) (defBody s_law_stream) (defScope s_law_stream) .none kV_law_stream dc_law_stream pm_law_stream an_law_stream cd_law_stream ct_law_stream), sl_law_stream⟩)
    (c_law_stream : PySem.W.codeIn K cd_law_stream "_law_stream" = true)
    (k_law_stream : PySem.W.keepIn K (.ref f_law_stream) = true)
    (a_law_take : PySem.W.nsIn K mainGlobals "_law_take" = some (some (.ref f_law_take)))
    (l_law_take : K.lookup f_law_take = some ⟨oc_law_take, od_law_take, .func (PySem.W.fnOf "_law_take" "_law_take" (defArgs s_law_take) (defBody s_law_take) (defScope s_law_take) .none kV_law_take dc_law_take pm_law_take an_law_take cd_law_take ct_law_take), sl_law_take⟩)
    (c_law_take : PySem.W.codeIn K cd_law_take "_law_take" = true)
    (k_law_take : PySem.W.keepIn K (.ref f_law_take) = true)
    (a_law_house : PySem.W.nsIn K mainGlobals "_law_house" = some (some (.ref f_law_house)))
    (l_law_house : K.lookup f_law_house = some ⟨oc_law_house, od_law_house, .func (PySem.W.fnOf "_law_house" "_law_house" (defArgs s_law_house) (defBody s_law_house) (defScope s_law_house) .none kV_law_house dc_law_house pm_law_house an_law_house cd_law_house ct_law_house), sl_law_house⟩)
    (c_law_house : PySem.W.codeIn K cd_law_house "_law_house" = true)
    (k_law_house : PySem.W.keepIn K (.ref f_law_house) = true)
    (a_law_places : PySem.W.nsIn K mainGlobals "_law_places" = some (some (.ref f_law_places)))
    (l_law_places : K.lookup f_law_places = some ⟨oc_law_places, od_law_places, .func (PySem.W.fnOf "_law_places" "_law_places" (defArgs s_law_places) (defBody s_law_places) (defScope s_law_places) .none kV_law_places dc_law_places pm_law_places an_law_places cd_law_places ct_law_places), sl_law_places⟩)
    (c_law_places : PySem.W.codeIn K cd_law_places "_law_places" = true)
    (k_law_places : PySem.W.keepIn K (.ref f_law_places) = true)
    (a_law_spot : PySem.W.nsIn K mainGlobals "_law_spot" = some (some (.ref f_law_spot)))
    (l_law_spot : K.lookup f_law_spot = some ⟨oc_law_spot, od_law_spot, .func (PySem.W.fnOf "_law_spot" "_law_spot" (defArgs s_law_spot) (defBody s_law_spot) (defScope s_law_spot) .none kV_law_spot dc_law_spot pm_law_spot an_law_spot cd_law_spot ct_law_spot), sl_law_spot⟩)
    (c_law_spot : PySem.W.codeIn K cd_law_spot "_law_spot" = true)
    (k_law_spot : PySem.W.keepIn K (.ref f_law_spot) = true)
    (a_law_nexts : PySem.W.nsIn K mainGlobals "_law_nexts" = some (some (.ref f_law_nexts)))
    (l_law_nexts : K.lookup f_law_nexts = some ⟨oc_law_nexts, od_law_nexts, .func (PySem.W.fnOf "_law_nexts" "_law_nexts" (defArgs s_law_nexts) (defBody s_law_nexts) (defScope s_law_nexts) .none kV_law_nexts dc_law_nexts pm_law_nexts an_law_nexts cd_law_nexts ct_law_nexts), sl_law_nexts⟩)
    (c_law_nexts : PySem.W.codeIn K cd_law_nexts "_law_nexts" = true)
    (k_law_nexts : PySem.W.keepIn K (.ref f_law_nexts) = true)
    (a_law_row : PySem.W.nsIn K mainGlobals "_law_row" = some (some (.ref f_law_row)))
    (l_law_row : K.lookup f_law_row = some ⟨oc_law_row, od_law_row, .func (PySem.W.fnOf "_law_row" "_law_row" (defArgs s_law_row) (defBody s_law_row) (defScope s_law_row) .none kV_law_row dc_law_row pm_law_row an_law_row cd_law_row ct_law_row), sl_law_row⟩)
    (c_law_row : PySem.W.codeIn K cd_law_row "_law_row" = true)
    (k_law_row : PySem.W.keepIn K (.ref f_law_row) = true)
    (a_law_rope : PySem.W.nsIn K mainGlobals "_law_rope" = some (some (.ref f_law_rope)))
    (l_law_rope : K.lookup f_law_rope = some ⟨oc_law_rope, od_law_rope, .func (PySem.W.fnOf "_law_rope" "_law_rope" (defArgs s_law_rope) (defBody s_law_rope) (defScope s_law_rope) .none kV_law_rope dc_law_rope pm_law_rope an_law_rope cd_law_rope ct_law_rope), sl_law_rope⟩)
    (c_law_rope : PySem.W.codeIn K cd_law_rope "_law_rope" = true)
    (k_law_rope : PySem.W.keepIn K (.ref f_law_rope) = true)
    (a_law_widths : PySem.W.nsIn K mainGlobals "_law_widths" = some (some (.ref f_law_widths)))
    (l_law_widths : K.lookup f_law_widths = some ⟨oc_law_widths, od_law_widths, .func (PySem.W.fnOf "_law_widths" "_law_widths" (defArgs s_law_widths) (defBody s_law_widths) (defScope s_law_widths) .none kV_law_widths dc_law_widths pm_law_widths an_law_widths cd_law_widths ct_law_widths), sl_law_widths⟩)
    (c_law_widths : PySem.W.codeIn K cd_law_widths "_law_widths" = true)
    (k_law_widths : PySem.W.keepIn K (.ref f_law_widths) = true)
    (a_law_knots_lie : PySem.W.nsIn K mainGlobals "_law_knots_lie" = some (some (.ref f_law_knots_lie)))
    (l_law_knots_lie : K.lookup f_law_knots_lie = some ⟨oc_law_knots_lie, od_law_knots_lie, .func (PySem.W.fnOf "_law_knots_lie" "_law_knots_lie" (defArgs s_law_knots_lie) (defBody s_law_knots_lie) (defScope s_law_knots_lie) .none kV_law_knots_lie dc_law_knots_lie pm_law_knots_lie an_law_knots_lie cd_law_knots_lie ct_law_knots_lie), sl_law_knots_lie⟩)
    (c_law_knots_lie : PySem.W.codeIn K cd_law_knots_lie "_law_knots_lie" = true)
    (k_law_knots_lie : PySem.W.keepIn K (.ref f_law_knots_lie) = true)
    (a_law_drawn : PySem.W.nsIn K mainGlobals "_law_drawn" = some (some (.ref f_law_drawn)))
    (l_law_drawn : K.lookup f_law_drawn = some ⟨oc_law_drawn, od_law_drawn, .func (PySem.W.fnOf "_law_drawn" "_law_drawn" (defArgs s_law_drawn) (defBody s_law_drawn) (defScope s_law_drawn) .none kV_law_drawn dc_law_drawn pm_law_drawn an_law_drawn cd_law_drawn ct_law_drawn), sl_law_drawn⟩)
    (c_law_drawn : PySem.W.codeIn K cd_law_drawn "_law_drawn" = true)
    (k_law_drawn : PySem.W.keepIn K (.ref f_law_drawn) = true)
    (a_place_at : PySem.W.nsIn K mainGlobals "place_at" = some (some (.ref f_place_at)))
    (l_place_at : K.lookup f_place_at = some ⟨oc_place_at, od_place_at, .func (PySem.W.fnOf "place_at" "place_at" (defArgs s_place_at) (defBody s_place_at) (defScope s_place_at) .none kV_place_at dc_place_at pm_place_at an_place_at cd_place_at ct_place_at), sl_place_at⟩)
    (c_place_at : PySem.W.codeIn K cd_place_at "place_at" = true)
    (k_place_at : PySem.W.keepIn K (.ref f_place_at) = true)
    (a_place_along : PySem.W.nsIn K mainGlobals "place_along" = some (some (.ref f_place_along)))
    (l_place_along : K.lookup f_place_along = some ⟨oc_place_along, od_place_along, .func (PySem.W.fnOf "place_along" "place_along" (defArgs s_place_along) (defBody s_place_along) (defScope s_place_along) .none kV_place_along dc_place_along pm_place_along an_place_along cd_place_along ct_place_along), sl_place_along⟩)
    (c_place_along : PySem.W.codeIn K cd_place_along "place_along" = true)
    (k_place_along : PySem.W.keepIn K (.ref f_place_along) = true)
    (a_is_one_pipe : PySem.W.nsIn K mainGlobals "is_one_pipe" = some (some (.ref f_is_one_pipe)))
    (l_is_one_pipe : K.lookup f_is_one_pipe = some ⟨oc_is_one_pipe, od_is_one_pipe, .func (PySem.W.fnOf "is_one_pipe" "is_one_pipe" (defArgs s_is_one_pipe) (defBody s_is_one_pipe) (defScope s_is_one_pipe) .none kV_is_one_pipe dc_is_one_pipe pm_is_one_pipe an_is_one_pipe cd_is_one_pipe ct_is_one_pipe), sl_is_one_pipe⟩)
    (c_is_one_pipe : PySem.W.codeIn K cd_is_one_pipe "is_one_pipe" = true)
    (k_is_one_pipe : PySem.W.keepIn K (.ref f_is_one_pipe) = true)
    (a_sides_of : PySem.W.nsIn K mainGlobals "sides_of" = some (some (.ref f_sides_of)))
    (l_sides_of : K.lookup f_sides_of = some ⟨oc_sides_of, od_sides_of, .func (PySem.W.fnOf "sides_of" "sides_of" (defArgs s_sides_of) (defBody s_sides_of) (defScope s_sides_of) .none kV_sides_of dc_sides_of pm_sides_of an_sides_of cd_sides_of ct_sides_of), sl_sides_of⟩)
    (c_sides_of : PySem.W.codeIn K cd_sides_of "sides_of" = true)
    (k_sides_of : PySem.W.keepIn K (.ref f_sides_of) = true)
    (a_turned : PySem.W.nsIn K mainGlobals "turned" = some (some (.ref f_turned)))
    (l_turned : K.lookup f_turned = some ⟨oc_turned, od_turned, .func (PySem.W.fnOf "turned" "turned" (defArgs s_turned) (defBody s_turned) (defScope s_turned) .none kV_turned dc_turned pm_turned an_turned cd_turned ct_turned), sl_turned⟩)
    (c_turned : PySem.W.codeIn K cd_turned "turned" = true)
    (k_turned : PySem.W.keepIn K (.ref f_turned) = true)
    (a_between_rooms : PySem.W.nsIn K mainGlobals "between_rooms" = some (some (.ref f_between_rooms)))
    (l_between_rooms : K.lookup f_between_rooms = some ⟨oc_between_rooms, od_between_rooms, .func (PySem.W.fnOf "between_rooms" "between_rooms" (defArgs s_between_rooms) (defBody s_between_rooms) (defScope s_between_rooms) .none kV_between_rooms dc_between_rooms pm_between_rooms an_between_rooms cd_between_rooms ct_between_rooms), sl_between_rooms⟩)
    (c_between_rooms : PySem.W.codeIn K cd_between_rooms "between_rooms" = true)
    (k_between_rooms : PySem.W.keepIn K (.ref f_between_rooms) = true)
    (a_road_in : PySem.W.nsIn K mainGlobals "road_in" = some (some (.ref f_road_in)))
    (l_road_in : K.lookup f_road_in = some ⟨oc_road_in, od_road_in, .func (PySem.W.fnOf "road_in" "road_in" (defArgs s_road_in) (defBody s_road_in) (defScope s_road_in) .none kV_road_in dc_road_in pm_road_in an_road_in cd_road_in ct_road_in), sl_road_in⟩)
    (c_road_in : PySem.W.codeIn K cd_road_in "road_in" = true)
    (k_road_in : PySem.W.keepIn K (.ref f_road_in) = true)
    (a_spot_in : PySem.W.nsIn K mainGlobals "spot_in" = some (some (.ref f_spot_in)))
    (l_spot_in : K.lookup f_spot_in = some ⟨oc_spot_in, od_spot_in, .func (PySem.W.fnOf "spot_in" "spot_in" (defArgs s_spot_in) (defBody s_spot_in) (defScope s_spot_in) .none kV_spot_in dc_spot_in pm_spot_in an_spot_in cd_spot_in ct_spot_in), sl_spot_in⟩)
    (c_spot_in : PySem.W.codeIn K cd_spot_in "spot_in" = true)
    (k_spot_in : PySem.W.keepIn K (.ref f_spot_in) = true)
    (a_pipes_at : PySem.W.nsIn K mainGlobals "pipes_at" = some (some (.ref f_pipes_at)))
    (l_pipes_at : K.lookup f_pipes_at = some ⟨oc_pipes_at, od_pipes_at, .func (PySem.W.fnOf "pipes_at" "pipes_at" (defArgs s_pipes_at) (defBody s_pipes_at) (defScope s_pipes_at) .none kV_pipes_at dc_pipes_at pm_pipes_at an_pipes_at cd_pipes_at ct_pipes_at), sl_pipes_at⟩)
    (c_pipes_at : PySem.W.codeIn K cd_pipes_at "pipes_at" = true)
    (k_pipes_at : PySem.W.keepIn K (.ref f_pipes_at) = true)
    (a_rooms_from : PySem.W.nsIn K mainGlobals "rooms_from" = some (some (.ref f_rooms_from)))
    (l_rooms_from : K.lookup f_rooms_from = some ⟨oc_rooms_from, od_rooms_from, .func (PySem.W.fnOf "rooms_from" "rooms_from" (defArgs s_rooms_from) (defBody s_rooms_from) (defScope s_rooms_from) .none kV_rooms_from dc_rooms_from pm_rooms_from an_rooms_from cd_rooms_from ct_rooms_from), sl_rooms_from⟩)
    (c_rooms_from : PySem.W.codeIn K cd_rooms_from "rooms_from" = true)
    (k_rooms_from : PySem.W.keepIn K (.ref f_rooms_from) = true)
    (a_Web_init : PySem.W.findIn K (.ref C_Web) "__init__" = some (some (.ref f_Web_init)))
    (i_Web_init : PySem.W.isFn K (.ref f_Web_init) = true)
    (l_Web_init : K.lookup f_Web_init = some ⟨oc_Web_init, od_Web_init, .func (PySem.W.fnOf "__init__" "Web.__init__" (defArgs s_Web_init) (defBody s_Web_init) (defScope s_Web_init) .none kV_Web_init dc_Web_init pm_Web_init an_Web_init cd_Web_init ct_Web_init), sl_Web_init⟩)
    (c_Web_init : PySem.W.codeIn K cd_Web_init "Web.__init__" = true)
    (k_Web_init : PySem.W.keepIn K (.ref f_Web_init) = true)
    (a_place_on : PySem.W.nsIn K mainGlobals "place_on" = some (some (.ref f_place_on)))
    (l_place_on : K.lookup f_place_on = some ⟨oc_place_on, od_place_on, .func (PySem.W.fnOf "place_on" "place_on" (defArgs s_place_on) (defBody s_place_on) (defScope s_place_on) .none kV_place_on dc_place_on pm_place_on an_place_on cd_place_on ct_place_on), sl_place_on⟩)
    (c_place_on : PySem.W.codeIn K cd_place_on "place_on" = true)
    (k_place_on : PySem.W.keepIn K (.ref f_place_on) = true)
    (a_bit_at : PySem.W.nsIn K mainGlobals "bit_at" = some (some (.ref f_bit_at)))
    (l_bit_at : K.lookup f_bit_at = some ⟨oc_bit_at, od_bit_at, .func (PySem.W.fnOf "bit_at" "bit_at" (defArgs s_bit_at) (defBody s_bit_at) (defScope s_bit_at) .none kV_bit_at dc_bit_at pm_bit_at an_bit_at cd_bit_at ct_bit_at), sl_bit_at⟩)
    (c_bit_at : PySem.W.codeIn K cd_bit_at "bit_at" = true)
    (k_bit_at : PySem.W.keepIn K (.ref f_bit_at) = true)
    (a_law_small_right : PySem.W.nsIn K mainGlobals "_law_small_right" = some (some (.ref f_law_small_right)))
    (l_law_small_right : K.lookup f_law_small_right = some ⟨oc_law_small_right, od_law_small_right, .func (PySem.W.fnOf "_law_small_right" "_law_small_right" (defArgs s_law_small_right) (defBody s_law_small_right) (defScope s_law_small_right) .none kV_law_small_right dc_law_small_right pm_law_small_right an_law_small_right cd_law_small_right ct_law_small_right), sl_law_small_right⟩)
    (c_law_small_right : PySem.W.codeIn K cd_law_small_right "_law_small_right" = true)
    (k_law_small_right : PySem.W.keepIn K (.ref f_law_small_right) = true)
    (a_law_far : PySem.W.nsIn K mainGlobals "_law_far" = some (some (.ref f_law_far)))
    (l_law_far : K.lookup f_law_far = some ⟨oc_law_far, od_law_far, .func (PySem.W.fnOf "_law_far" "_law_far" (defArgs s_law_far) (defBody s_law_far) (defScope s_law_far) .none kV_law_far dc_law_far pm_law_far an_law_far cd_law_far ct_law_far), sl_law_far⟩)
    (c_law_far : PySem.W.codeIn K cd_law_far "_law_far" = true)
    (k_law_far : PySem.W.keepIn K (.ref f_law_far) = true)
    (a_law_far_house : PySem.W.nsIn K mainGlobals "_law_far_house" = some (some (.ref f_law_far_house)))
    (l_law_far_house : K.lookup f_law_far_house = some ⟨oc_law_far_house, od_law_far_house, .func (PySem.W.fnOf "_law_far_house" "_law_far_house" (defArgs s_law_far_house) (defBody s_law_far_house) (defScope s_law_far_house) .none kV_law_far_house dc_law_far_house pm_law_far_house an_law_far_house cd_law_far_house ct_law_far_house), sl_law_far_house⟩)
    (c_law_far_house : PySem.W.codeIn K cd_law_far_house "_law_far_house" = true)
    (k_law_far_house : PySem.W.keepIn K (.ref f_law_far_house) = true)
    (a_law_rooms_apart : PySem.W.nsIn K mainGlobals "_law_rooms_apart" = some (some (.ref f_law_rooms_apart)))
    (l_law_rooms_apart : K.lookup f_law_rooms_apart = some ⟨oc_law_rooms_apart, od_law_rooms_apart, .func (PySem.W.fnOf "_law_rooms_apart" "_law_rooms_apart" (defArgs s_law_rooms_apart) (defBody s_law_rooms_apart) (defScope s_law_rooms_apart) .none kV_law_rooms_apart dc_law_rooms_apart pm_law_rooms_apart an_law_rooms_apart cd_law_rooms_apart ct_law_rooms_apart), sl_law_rooms_apart⟩)
    (c_law_rooms_apart : PySem.W.codeIn K cd_law_rooms_apart "_law_rooms_apart" = true)
    (k_law_rooms_apart : PySem.W.keepIn K (.ref f_law_rooms_apart) = true)
    (a_law_far_place : PySem.W.nsIn K mainGlobals "_law_far_place" = some (some (.ref f_law_far_place)))
    (l_law_far_place : K.lookup f_law_far_place = some ⟨oc_law_far_place, od_law_far_place, .func (PySem.W.fnOf "_law_far_place" "_law_far_place" (defArgs s_law_far_place) (defBody s_law_far_place) (defScope s_law_far_place) .none kV_law_far_place dc_law_far_place pm_law_far_place an_law_far_place cd_law_far_place ct_law_far_place), sl_law_far_place⟩)
    (c_law_far_place : PySem.W.codeIn K cd_law_far_place "_law_far_place" = true)
    (k_law_far_place : PySem.W.keepIn K (.ref f_law_far_place) = true)
    (a_law_two : PySem.W.nsIn K mainGlobals "_law_two" = some (some (.ref f_law_two)))
    (l_law_two : K.lookup f_law_two = some ⟨oc_law_two, od_law_two, .func (PySem.W.fnOf "_law_two" "_law_two" (defArgs s_law_two) (defBody s_law_two) (defScope s_law_two) .none kV_law_two dc_law_two pm_law_two an_law_two cd_law_two ct_law_two), sl_law_two⟩)
    (c_law_two : PySem.W.codeIn K cd_law_two "_law_two" = true)
    (k_law_two : PySem.W.keepIn K (.ref f_law_two) = true)
    (a_law_rooms_by : PySem.W.nsIn K mainGlobals "_law_rooms_by" = some (some (.ref f_law_rooms_by)))
    (l_law_rooms_by : K.lookup f_law_rooms_by = some ⟨oc_law_rooms_by, od_law_rooms_by, .func (PySem.W.fnOf "_law_rooms_by" "_law_rooms_by" (defArgs s_law_rooms_by) (defBody s_law_rooms_by) (defScope s_law_rooms_by) .none kV_law_rooms_by dc_law_rooms_by pm_law_rooms_by an_law_rooms_by cd_law_rooms_by ct_law_rooms_by), sl_law_rooms_by⟩)
    (c_law_rooms_by : PySem.W.codeIn K cd_law_rooms_by "_law_rooms_by" = true)
    (k_law_rooms_by : PySem.W.keepIn K (.ref f_law_rooms_by) = true)
    (a_law_apart : PySem.W.nsIn K mainGlobals "_law_apart" = some (some (.ref f_law_apart)))
    (l_law_apart : K.lookup f_law_apart = some ⟨oc_law_apart, od_law_apart, .func (PySem.W.fnOf "_law_apart" "_law_apart" (defArgs s_law_apart) (defBody s_law_apart) (defScope s_law_apart) .none kV_law_apart dc_law_apart pm_law_apart an_law_apart cd_law_apart ct_law_apart), sl_law_apart⟩)
    (c_law_apart : PySem.W.codeIn K cd_law_apart "_law_apart" = true)
    (k_law_apart : PySem.W.keepIn K (.ref f_law_apart) = true)
    (a_law_far_spot : PySem.W.nsIn K mainGlobals "_law_far_spot" = some (some (.ref f_law_far_spot)))
    (l_law_far_spot : K.lookup f_law_far_spot = some ⟨oc_law_far_spot, od_law_far_spot, .func (PySem.W.fnOf "_law_far_spot" "_law_far_spot" (defArgs s_law_far_spot) (defBody s_law_far_spot) (defScope s_law_far_spot) .none kV_law_far_spot dc_law_far_spot pm_law_far_spot an_law_far_spot cd_law_far_spot ct_law_far_spot), sl_law_far_spot⟩)
    (c_law_far_spot : PySem.W.codeIn K cd_law_far_spot "_law_far_spot" = true)
    (k_law_far_spot : PySem.W.keepIn K (.ref f_law_far_spot) = true)
    (a_law_on : PySem.W.nsIn K mainGlobals "_law_on" = some (some (.ref f_law_on)))
    (l_law_on : K.lookup f_law_on = some ⟨oc_law_on, od_law_on, .func (PySem.W.fnOf "_law_on" "_law_on" (defArgs s_law_on) (defBody s_law_on) (defScope s_law_on) .none kV_law_on dc_law_on pm_law_on an_law_on cd_law_on ct_law_on), sl_law_on⟩)
    (c_law_on : PySem.W.codeIn K cd_law_on "_law_on" = true)
    (k_law_on : PySem.W.keepIn K (.ref f_law_on) = true)
    (a_law_far_right : PySem.W.nsIn K mainGlobals "_law_far_right" = some (some (.ref f_law_far_right)))
    (l_law_far_right : K.lookup f_law_far_right = some ⟨oc_law_far_right, od_law_far_right, .func (PySem.W.fnOf "_law_far_right" "_law_far_right" (defArgs s_law_far_right) (defBody s_law_far_right) (defScope s_law_far_right) .none kV_law_far_right dc_law_far_right pm_law_far_right an_law_far_right cd_law_far_right ct_law_far_right), sl_law_far_right⟩)
    (c_law_far_right : PySem.W.codeIn K cd_law_far_right "_law_far_right" = true)
    (k_law_far_right : PySem.W.keepIn K (.ref f_law_far_right) = true)
    (a_law : PySem.W.nsIn K mainGlobals "law" = some (some (.ref f_law)))
    (l_law : K.lookup f_law = some ⟨oc_law, od_law, .func (PySem.W.fnOf "law" "law" (defArgs s_law) (defBody s_law) (defScope s_law) .none kV_law dc_law pm_law an_law cd_law ct_law), sl_law⟩)
    (c_law : PySem.W.codeIn K cd_law "law" = true)
    (k_law : PySem.W.keepIn K (.ref f_law) = true)
    (z_abs : PySem.W.nsIn K mainGlobals "abs" = some none)
    (z_enumerate : PySem.W.nsIn K mainGlobals "enumerate" = some none)
    (z_int : PySem.W.nsIn K mainGlobals "int" = some none)
    (z_len : PySem.W.nsIn K mainGlobals "len" = some none)
    (z_max : PySem.W.nsIn K mainGlobals "max" = some none)
    (z_min : PySem.W.nsIn K mainGlobals "min" = some none)
    (z_range : PySem.W.nsIn K mainGlobals "range" = some none)
    (z_repr : PySem.W.nsIn K mainGlobals "repr" = some none)
    (z_reversed : PySem.W.nsIn K mainGlobals "reversed" = some none)
    (z_set : PySem.W.nsIn K mainGlobals "set" = some none)
    (z_sorted : PySem.W.nsIn K mainGlobals "sorted" = some none)
    (z_tuple : PySem.W.nsIn K mainGlobals "tuple" = some none)
    (math : ∀ ns : List Int, ns.length ≤ 63 → ∃ μ, m_law [.frl (ns.map D.int)] [] = .ok (.bl true) μ) :
    ∃ fd : FuncData, (∀ (s : Shared) (v : Value), BindsTo s fd ⟨[v], []⟩ [("_law_script", v)]) ∧ ∀ base : Heap, K.In base → base.Ns mainGlobals mg → FnG l.prog w K mg base (L2.CX l.prog w) 8 fa fd ["_law_script"] (spLaw K) := by
  have e := hfa.symm.trans (PySem.W.mg_of X G a_law)
  cases e
  have T : Txt K mg C_Web := ⟨PySem.W.mg_none_of X G z_abs, PySem.W.mg_none_of X G z_enumerate, PySem.W.mg_none_of X G z_int, PySem.W.mg_none_of X G z_len, PySem.W.mg_none_of X G z_max, PySem.W.mg_none_of X G z_min, PySem.W.mg_none_of X G z_range, PySem.W.mg_none_of X G z_repr, PySem.W.mg_none_of X G z_reversed, PySem.W.mg_none_of X G z_set, PySem.W.mg_none_of X G z_sorted, PySem.W.mg_none_of X G z_tuple, PySem.W.mg_of X G aC_Web, ⟨pg_Web, hd_Web, po_Web, sa_Web⟩, n_Web_own, n_Web_known⟩
  have F_law_stream := fun_mk (st := s_law_stream) l_law_stream c_law_stream k_law_stream
  have b_law_stream := F_law_stream.binds (ps := ["_law_script", "_law_own"]) fun _ _ _ _ _ _ us hl => match us, hl with | [_, _], _ => rfl
  have F_law_take := fun_mk (st := s_law_take) l_law_take c_law_take k_law_take
  have b_law_take := F_law_take.binds (ps := ["_law_stream_here", "_law_below"]) fun _ _ _ _ _ _ us hl => match us, hl with | [_, _], _ => rfl
  have F_law_house := fun_mk (st := s_law_house) l_law_house c_law_house k_law_house
  have b_law_house := F_law_house.binds (ps := ["_law_stream_here", "_law_most", "_law_farthest", "_law_flaps"]) fun _ _ _ _ _ _ us hl => match us, hl with | [_, _, _, _], _ => rfl
  have F_law_places := fun_mk (st := s_law_places) l_law_places c_law_places k_law_places
  have b_law_places := F_law_places.binds (ps := ["_law_house_here"]) fun _ _ _ _ _ _ us hl => match us, hl with | [_], _ => rfl
  have F_law_spot := fun_mk (st := s_law_spot) l_law_spot c_law_spot k_law_spot
  have b_law_spot := F_law_spot.binds (ps := ["_law_house_here", "_law_pipe", "_law_at"]) fun _ _ _ _ _ _ us hl => match us, hl with | [_, _, _], _ => rfl
  have F_law_nexts := fun_mk (st := s_law_nexts) l_law_nexts c_law_nexts k_law_nexts
  have b_law_nexts := F_law_nexts.binds (ps := ["_law_house_here"]) fun _ _ _ _ _ _ us hl => match us, hl with | [_], _ => rfl
  have F_law_row := fun_mk (st := s_law_row) l_law_row c_law_row k_law_row
  have b_law_row := F_law_row.binds (ps := ["_law_nexts_here", "_law_one", "_law_other"]) fun _ _ _ _ _ _ us hl => match us, hl with | [_, _, _], _ => rfl
  have F_law_rope := fun_mk (st := s_law_rope) l_law_rope c_law_rope k_law_rope
  have b_law_rope := F_law_rope.binds (ps := ["_law_stream_here", "_law_length"]) fun _ _ _ _ _ _ us hl => match us, hl with | [_, _], _ => rfl
  have F_law_widths := fun_mk (st := s_law_widths) l_law_widths c_law_widths k_law_widths
  have b_law_widths := F_law_widths.binds (ps := ["_law_house_here"]) fun _ _ _ _ _ _ us hl => match us, hl with | [_], _ => rfl
  have F_law_knots_lie := fun_mk (st := s_law_knots_lie) l_law_knots_lie c_law_knots_lie k_law_knots_lie
  have b_law_knots_lie := F_law_knots_lie.binds (ps := ["_law_house_here", "_law_rope_here", "_law_row_here"]) fun _ _ _ _ _ _ us hl => match us, hl with | [_, _, _], _ => rfl
  have F_law_drawn := fun_mk (st := s_law_drawn) l_law_drawn c_law_drawn k_law_drawn
  have b_law_drawn := F_law_drawn.binds (ps := ["_law_stream_here", "_law_house_here", "_law_nexts_here"]) fun _ _ _ _ _ _ us hl => match us, hl with | [_, _, _], _ => rfl
  have F_place_at := fun_mk (st := s_place_at) l_place_at c_place_at k_place_at
  have b_place_at := F_place_at.binds (ps := ["house", "pipe", "at"]) fun _ _ _ _ _ _ us hl => match us, hl with | [_, _, _], _ => rfl
  have F_place_along := fun_mk (st := s_place_along) l_place_along c_place_along k_place_along
  have b_place_along := F_place_along.binds (ps := ["house", "stretches", "begin", "steps"]) fun _ _ _ _ _ _ us hl => match us, hl with | [_, _, _, _], _ => rfl
  have F_is_one_pipe := fun_mk (st := s_is_one_pipe) l_is_one_pipe c_is_one_pipe k_is_one_pipe
  have b_is_one_pipe := F_is_one_pipe.binds (ps := ["one", "other"]) fun _ _ _ _ _ _ us hl => match us, hl with | [_, _], _ => rfl
  have F_sides_of := fun_mk (st := s_sides_of) l_sides_of c_sides_of k_sides_of
  have b_sides_of := F_sides_of.binds (ps := ["house", "place"]) fun _ _ _ _ _ _ us hl => match us, hl with | [_, _], _ => rfl
  have F_turned := fun_mk (st := s_turned) l_turned c_turned k_turned
  have b_turned := F_turned.binds (ps := ["stretches"]) fun _ _ _ _ _ _ us hl => match us, hl with | [_], _ => rfl
  have F_between_rooms := fun_mk (st := s_between_rooms) l_between_rooms c_between_rooms k_between_rooms
  have b_between_rooms := F_between_rooms.binds (ps := ["known", "room"]) fun _ _ _ _ _ _ us hl => match us, hl with | [_, _], _ => rfl
  have F_road_in := fun_mk (st := s_road_in) l_road_in c_road_in k_road_in
  have b_road_in := F_road_in.binds (ps := ["web", "one", "other"]) fun _ _ _ _ _ _ us hl => match us, hl with | [_, _, _], _ => rfl
  have F_spot_in := fun_mk (st := s_spot_in) l_spot_in c_spot_in k_spot_in
  have b_spot_in := F_spot_in.binds (ps := ["web", "one", "other", "steps"]) fun _ _ _ _ _ _ us hl => match us, hl with | [_, _, _, _], _ => rfl
  have F_pipes_at := fun_mk (st := s_pipes_at) l_pipes_at c_pipes_at k_pipes_at
  have b_pipes_at := F_pipes_at.binds (ps := ["house", "room"]) fun _ _ _ _ _ _ us hl => match us, hl with | [_, _], _ => rfl
  have F_rooms_from := fun_mk (st := s_rooms_from) l_rooms_from c_rooms_from k_rooms_from
  have b_rooms_from := F_rooms_from.binds (ps := ["house", "room"]) fun _ _ _ _ _ _ us hl => match us, hl with | [_, _], _ => rfl
  have F_Web_init := fun_mk (st := s_Web_init) l_Web_init c_Web_init k_Web_init
  have b_Web_init := F_Web_init.binds (ps := ["self", "house"]) fun _ _ _ _ _ _ us hl => match us, hl with | [_, _], _ => rfl
  have F_place_on := fun_mk (st := s_place_on) l_place_on c_place_on k_place_on
  have b_place_on := F_place_on.binds (ps := ["house", "one", "other", "steps"]) fun _ _ _ _ _ _ us hl => match us, hl with | [_, _, _, _], _ => rfl
  have F_bit_at := fun_mk (st := s_bit_at) l_bit_at c_bit_at k_bit_at
  have b_bit_at := F_bit_at.binds (ps := ["house", "stand", "bit"]) fun _ _ _ _ _ _ us hl => match us, hl with | [_, _, _], _ => rfl
  have F_law_small_right := fun_mk (st := s_law_small_right) l_law_small_right c_law_small_right k_law_small_right
  have b_law_small_right := F_law_small_right.binds (ps := ["_law_stream_here"]) fun _ _ _ _ _ _ us hl => match us, hl with | [_], _ => rfl
  have F_law_far := fun_mk (st := s_law_far) l_law_far c_law_far k_law_far
  have b_law_far := F_law_far.binds (ps := ["_law_stream_here", "_law_most"]) fun _ _ _ _ _ _ us hl => match us, hl with | [_, _], _ => rfl
  have F_law_far_house := fun_mk (st := s_law_far_house) l_law_far_house c_law_far_house k_law_far_house
  have b_law_far_house := F_law_far_house.binds (ps := ["_law_stream_here", "_law_flaps"]) fun _ _ _ _ _ _ us hl => match us, hl with | [_, _], _ => rfl
  have F_law_rooms_apart := fun_mk (st := s_law_rooms_apart) l_law_rooms_apart c_law_rooms_apart k_law_rooms_apart
  have b_law_rooms_apart := F_law_rooms_apart.binds (ps := ["_law_house_here"]) fun _ _ _ _ _ _ us hl => match us, hl with | [_], _ => rfl
  have F_law_far_place := fun_mk (st := s_law_far_place) l_law_far_place c_law_far_place k_law_far_place
  have b_law_far_place := F_law_far_place.binds (ps := ["_law_stream_here", "_law_house_here"]) fun _ _ _ _ _ _ us hl => match us, hl with | [_, _], _ => rfl
  have F_law_two := fun_mk (st := s_law_two) l_law_two c_law_two k_law_two
  have b_law_two := F_law_two.binds (ps := ["_law_stream_here", "_law_house_here"]) fun _ _ _ _ _ _ us hl => match us, hl with | [_, _], _ => rfl
  have F_law_rooms_by := fun_mk (st := s_law_rooms_by) l_law_rooms_by c_law_rooms_by k_law_rooms_by
  have b_law_rooms_by := F_law_rooms_by.binds (ps := ["_law_house_here", "_law_place"]) fun _ _ _ _ _ _ us hl => match us, hl with | [_, _], _ => rfl
  have F_law_apart := fun_mk (st := s_law_apart) l_law_apart c_law_apart k_law_apart
  have b_law_apart := F_law_apart.binds (ps := ["_law_house_here", "_law_table", "_law_one", "_law_other"]) fun _ _ _ _ _ _ us hl => match us, hl with | [_, _, _, _], _ => rfl
  have F_law_far_spot := fun_mk (st := s_law_far_spot) l_law_far_spot c_law_far_spot k_law_far_spot
  have b_law_far_spot := F_law_far_spot.binds (ps := ["_law_house_here", "_law_pipe", "_law_at"]) fun _ _ _ _ _ _ us hl => match us, hl with | [_, _, _], _ => rfl
  have F_law_on := fun_mk (st := s_law_on) l_law_on c_law_on k_law_on
  have b_law_on := F_law_on.binds (ps := ["_law_house_here", "_law_table", "_law_begin", "_law_end", "_law_steps"]) fun _ _ _ _ _ _ us hl => match us, hl with | [_, _, _, _, _], _ => rfl
  have F_law_far_right := fun_mk (st := s_law_far_right) l_law_far_right c_law_far_right k_law_far_right
  have b_law_far_right := F_law_far_right.binds (ps := ["_law_stream_here"]) fun _ _ _ _ _ _ us hl => match us, hl with | [_], _ => rfl
  have F_law := fun_mk (st := s_law) l_law c_law k_law
  have b_law := F_law.binds (ps := ["_law_script"]) fun _ _ _ _ _ _ us hl => match us, hl with | [_], _ => rfl
  refine ⟨PySem.W.fnOf "law" "law" (defArgs s_law) (defBody s_law) (defScope s_law) .none kV_law dc_law pm_law an_law cd_law ct_law, fun s v => .of_eq rfl, fun base _ _ => ?_⟩
  have g_law_stream : Fn ⟨l.prog, w, K, mg⟩ base "_law_stream" 1 2 m_law_stream := ⟨f_law_stream, _, _, PySem.W.mg_of X G a_law_stream, F_law_stream.kp, b_law_stream, o_law_stream F_law_stream T⟩
  have g_law_take : Fn ⟨l.prog, w, K, mg⟩ base "_law_take" 1 2 m_law_take := ⟨f_law_take, _, _, PySem.W.mg_of X G a_law_take, F_law_take.kp, b_law_take, o_law_take F_law_take T⟩
  have g_law_house : Fn ⟨l.prog, w, K, mg⟩ base "_law_house" 2 4 m_law_house := ⟨f_law_house, _, _, PySem.W.mg_of X G a_law_house, F_law_house.kp, b_law_house, o_law_house F_law_house T g_law_take⟩
  have g_law_places : Fn ⟨l.prog, w, K, mg⟩ base "_law_places" 1 1 m_law_places := ⟨f_law_places, _, _, PySem.W.mg_of X G a_law_places, F_law_places.kp, b_law_places, o_law_places F_law_places T⟩
  have g_law_spot : Fn ⟨l.prog, w, K, mg⟩ base "_law_spot" 1 3 m_law_spot := ⟨f_law_spot, _, _, PySem.W.mg_of X G a_law_spot, F_law_spot.kp, b_law_spot, o_law_spot F_law_spot T⟩
  have g_law_nexts : Fn ⟨l.prog, w, K, mg⟩ base "_law_nexts" 2 1 m_law_nexts := ⟨f_law_nexts, _, _, PySem.W.mg_of X G a_law_nexts, F_law_nexts.kp, b_law_nexts, o_law_nexts F_law_nexts T g_law_places g_law_spot⟩
  have g_law_row : Fn ⟨l.prog, w, K, mg⟩ base "_law_row" 1 3 m_law_row := ⟨f_law_row, _, _, PySem.W.mg_of X G a_law_row, F_law_row.kp, b_law_row, o_law_row F_law_row T⟩
  have g_law_rope : Fn ⟨l.prog, w, K, mg⟩ base "_law_rope" 2 2 m_law_rope := ⟨f_law_rope, _, _, PySem.W.mg_of X G a_law_rope, F_law_rope.kp, b_law_rope, o_law_rope F_law_rope T g_law_take⟩
  have g_law_widths : Fn ⟨l.prog, w, K, mg⟩ base "_law_widths" 1 1 m_law_widths := ⟨f_law_widths, _, _, PySem.W.mg_of X G a_law_widths, F_law_widths.kp, b_law_widths, o_law_widths F_law_widths T⟩
  have g_law_knots_lie : Fn ⟨l.prog, w, K, mg⟩ base "_law_knots_lie" 2 3 m_law_knots_lie := ⟨f_law_knots_lie, _, _, PySem.W.mg_of X G a_law_knots_lie, F_law_knots_lie.kp, b_law_knots_lie, o_law_knots_lie F_law_knots_lie T g_law_widths⟩
  have g_law_drawn : Fn ⟨l.prog, w, K, mg⟩ base "_law_drawn" 3 3 m_law_drawn := ⟨f_law_drawn, _, _, PySem.W.mg_of X G a_law_drawn, F_law_drawn.kp, b_law_drawn, o_law_drawn F_law_drawn T g_law_places g_law_row g_law_rope g_law_take g_law_knots_lie⟩
  have g_place_at : Fn ⟨l.prog, w, K, mg⟩ base "place_at" 1 3 m_place_at := ⟨f_place_at, _, _, PySem.W.mg_of X G a_place_at, F_place_at.kp, b_place_at, o_place_at F_place_at T⟩
  have g_place_along : Fn ⟨l.prog, w, K, mg⟩ base "place_along" 2 4 m_place_along := ⟨f_place_along, _, _, PySem.W.mg_of X G a_place_along, F_place_along.kp, b_place_along, o_place_along F_place_along T g_place_at⟩
  have g_is_one_pipe : Fn ⟨l.prog, w, K, mg⟩ base "is_one_pipe" 1 2 m_is_one_pipe := ⟨f_is_one_pipe, _, _, PySem.W.mg_of X G a_is_one_pipe, F_is_one_pipe.kp, b_is_one_pipe, o_is_one_pipe F_is_one_pipe T⟩
  have g_sides_of : Fn ⟨l.prog, w, K, mg⟩ base "sides_of" 1 2 m_sides_of := ⟨f_sides_of, _, _, PySem.W.mg_of X G a_sides_of, F_sides_of.kp, b_sides_of, o_sides_of F_sides_of T⟩
  have g_turned : Fn ⟨l.prog, w, K, mg⟩ base "turned" 1 1 m_turned := ⟨f_turned, _, _, PySem.W.mg_of X G a_turned, F_turned.kp, b_turned, o_turned F_turned T⟩
  have g_between_rooms : Fn ⟨l.prog, w, K, mg⟩ base "between_rooms" 1 2 m_between_rooms := ⟨f_between_rooms, _, _, PySem.W.mg_of X G a_between_rooms, F_between_rooms.kp, b_between_rooms, o_between_rooms F_between_rooms T⟩
  have g_road_in : Fn ⟨l.prog, w, K, mg⟩ base "road_in" 2 3 m_road_in := ⟨f_road_in, _, _, PySem.W.mg_of X G a_road_in, F_road_in.kp, b_road_in, o_road_in F_road_in T g_is_one_pipe g_sides_of g_turned g_between_rooms⟩
  have g_spot_in : Fn ⟨l.prog, w, K, mg⟩ base "spot_in" 3 4 m_spot_in := ⟨f_spot_in, _, _, PySem.W.mg_of X G a_spot_in, F_spot_in.kp, b_spot_in, o_spot_in F_spot_in T g_place_along g_road_in⟩
  have g_pipes_at : Fn ⟨l.prog, w, K, mg⟩ base "pipes_at" 1 2 m_pipes_at := ⟨f_pipes_at, _, _, PySem.W.mg_of X G a_pipes_at, F_pipes_at.kp, b_pipes_at, o_pipes_at F_pipes_at T⟩
  have g_rooms_from : Fn ⟨l.prog, w, K, mg⟩ base "rooms_from" 2 2 m_rooms_from := ⟨f_rooms_from, _, _, PySem.W.mg_of X G a_rooms_from, F_rooms_from.kp, b_rooms_from, o_rooms_from F_rooms_from T g_pipes_at⟩
  have g_Web_init : Mks ⟨l.prog, w, K, mg⟩ base "Web" 3 1 m_Web_init := ⟨C_Web, f_Web_init, _, _, T.mc_Web, ⟨mk_Web, a_Web_init, i_Web_init, kc_Web⟩, b_Web_init, fn_noX (o_Web_init F_Web_init T g_rooms_from)⟩
  have g_place_on : Fn ⟨l.prog, w, K, mg⟩ base "place_on" 5 4 m_place_on := ⟨f_place_on, _, _, PySem.W.mg_of X G a_place_on, F_place_on.kp, b_place_on, o_place_on F_place_on T g_spot_in g_Web_init⟩
  have g_bit_at : Fn ⟨l.prog, w, K, mg⟩ base "bit_at" 6 3 m_bit_at := ⟨f_bit_at, _, _, PySem.W.mg_of X G a_bit_at, F_bit_at.kp, b_bit_at, o_bit_at F_bit_at T g_place_on⟩
  have g_law_small_right : Fn ⟨l.prog, w, K, mg⟩ base "_law_small_right" 7 1 m_law_small_right := ⟨f_law_small_right, _, _, PySem.W.mg_of X G a_law_small_right, F_law_small_right.kp, b_law_small_right, o_law_small_right F_law_small_right T g_law_house g_law_nexts g_law_drawn g_law_row g_bit_at⟩
  have g_law_far : Fn ⟨l.prog, w, K, mg⟩ base "_law_far" 2 2 m_law_far := ⟨f_law_far, _, _, PySem.W.mg_of X G a_law_far, F_law_far.kp, b_law_far, o_law_far F_law_far T g_law_take⟩
  have g_law_far_house : Fn ⟨l.prog, w, K, mg⟩ base "_law_far_house" 3 2 m_law_far_house := ⟨f_law_far_house, _, _, PySem.W.mg_of X G a_law_far_house, F_law_far_house.kp, b_law_far_house, o_law_far_house F_law_far_house T g_law_take g_law_far⟩
  have g_law_rooms_apart : Fn ⟨l.prog, w, K, mg⟩ base "_law_rooms_apart" 1 1 m_law_rooms_apart := ⟨f_law_rooms_apart, _, _, PySem.W.mg_of X G a_law_rooms_apart, F_law_rooms_apart.kp, b_law_rooms_apart, o_law_rooms_apart F_law_rooms_apart T⟩
  have g_law_far_place : Fn ⟨l.prog, w, K, mg⟩ base "_law_far_place" 3 2 m_law_far_place := ⟨f_law_far_place, _, _, PySem.W.mg_of X G a_law_far_place, F_law_far_place.kp, b_law_far_place, o_law_far_place F_law_far_place T g_law_take g_law_far⟩
  have g_law_two : Fn ⟨l.prog, w, K, mg⟩ base "_law_two" 4 2 m_law_two := ⟨f_law_two, _, _, PySem.W.mg_of X G a_law_two, F_law_two.kp, b_law_two, o_law_two F_law_two T g_law_far_place⟩
  have g_law_rooms_by : Fn ⟨l.prog, w, K, mg⟩ base "_law_rooms_by" 1 2 m_law_rooms_by := ⟨f_law_rooms_by, _, _, PySem.W.mg_of X G a_law_rooms_by, F_law_rooms_by.kp, b_law_rooms_by, o_law_rooms_by F_law_rooms_by T⟩
  have g_law_apart : Fn ⟨l.prog, w, K, mg⟩ base "_law_apart" 2 4 m_law_apart := ⟨f_law_apart, _, _, PySem.W.mg_of X G a_law_apart, F_law_apart.kp, b_law_apart, o_law_apart F_law_apart T g_law_rooms_by⟩
  have g_law_far_spot : Fn ⟨l.prog, w, K, mg⟩ base "_law_far_spot" 1 3 m_law_far_spot := ⟨f_law_far_spot, _, _, PySem.W.mg_of X G a_law_far_spot, F_law_far_spot.kp, b_law_far_spot, o_law_far_spot F_law_far_spot T⟩
  have g_law_on : Fn ⟨l.prog, w, K, mg⟩ base "_law_on" 3 5 m_law_on := ⟨f_law_on, _, _, PySem.W.mg_of X G a_law_on, F_law_on.kp, b_law_on, o_law_on F_law_on T g_law_apart g_law_far_spot⟩
  have g_law_far_right : Fn ⟨l.prog, w, K, mg⟩ base "_law_far_right" 7 1 m_law_far_right := ⟨f_law_far_right, _, _, PySem.W.mg_of X G a_law_far_right, F_law_far_right.kp, b_law_far_right, o_law_far_right F_law_far_right T g_law_far_house g_law_rooms_apart g_law_two g_law_apart g_law_far g_law_take g_law_on g_bit_at⟩
  exact (o_law (P := l.prog) (w := w) (base := base) F_law T g_law_stream g_law_small_right g_law_far_right).less fun vs H Q E q => law_sp (G := ⟨l.prog, w, K, mg⟩) math q
theorem walk {l : PySem.W.OpenLaw} {q : Program} {loose : List Str} {XP : (Str → Option Value) → Heap → Prop} {YP : World → Heap → Prop} {d : DefRec} {K : Params → PySem.W.Frag} (hn : l.most = some 63) (hdf : d.params.defaults = [])
    (hY : ∀ (w : World) (h : Heap), YP w h → (K w.params).In h)
    (F : ∀ (w : World) (mg : Str → Option Value) (fa : Addr) (h : Heap), (K w.params).In h → h.Ns mainGlobals mg → mg d.name = some (.ref fa) →
      ∃ fd : FuncData, (∀ (s : Shared) (u : Value), BindsTo s fd ⟨[u], []⟩ [("_law_script", u)]) ∧ ∀ base : Heap, (K w.params).In base → base.Ns mainGlobals mg → FnG l.prog w (K w.params) mg base (L2.CX l.prog w) 8 fa fd ["_law_script"] (spLaw (K w.params))) :
    PySem.W.WalkO q loose XP YP l.row.toRowW d [] (fun f vs => PySem.call f vs) :=
  RW.walkG (n := 63) (k := 8) (x := "_law_script") (Z := fun w => L2.CX l.prog w) (pr := fun w => spLaw (K w.params)) hn (by decide) hdf ⟨⟨rfl, by decide, by decide⟩, rfl⟩ hY F (fun _ _ a ns hl hO hS => ⟨a, ns, rfl, only_frl hO hS, hl, fun _ => rfl⟩) fun _ _ _ _ _ ⟨_, _, _, _, _, _, _, _, _, _, _, _, z⟩ => z
end K12

/-! S0: houses as data (for families without family A's deck). -/
namespace K12
open PySem L2 RW
/-! ### pipes -/
structure Pipe where
  a : Int
  b : Int
  len : Int
  nar : List (Int × Int)
  fl : List (Int × Int)
def pairD (p : Int × Int) : D := .tup [.int p.1, .int p.2]
def Pipe.d (p : Pipe) : D := .tup [.int p.a, .int p.b, .int p.len, .tup (p.nar.map pairD), .tup (p.fl.map pairD)]
/-- what stands on a pipe -/
structure Pipe.Ok (p : Pipe) : Prop where
  l1 : 1 ≤ p.len
  l2 : p.len ≤ 1000000000000
  n1 : (p.nar.map (·.1)).Pairwise (· < ·)
  n2 : ∀ x ∈ p.nar, 1 ≤ x.1 ∧ x.1 ≤ p.len - 1 ∧ 1 ≤ x.2 ∧ x.2 ≤ 1000000
  f1 : (p.fl.map (·.1)).Pairwise (· < ·)
  f2 : ∀ x ∈ p.fl, 0 ≤ x.1 ∧ x.1 ≤ p.len - 1 ∧ (x.2 = 1 ∨ x.2 = -1)
/-! ### houses -/
def upTo (n : Nat) : List Int := (List.range n).map fun (i : Nat) => (i : Int)
theorem upTo_succ (n : Nat) : upTo (n + 1) = upTo n ++ [(n : Int)] := by simp [upTo, List.range_succ]
theorem upTo_len (n : Nat) : (upTo n).length = n := by simp [upTo]
theorem mem_upTo {n : Nat} {x : Int} : x ∈ upTo n ↔ 0 ≤ x ∧ x < n := by
  simp only [upTo, List.mem_map, List.mem_range]
  exact ⟨fun ⟨a, h, e⟩ => by omega, fun h => ⟨x.toNat, by omega, by omega⟩⟩
theorem upTo_nodup (n : Nat) : (upTo n).Nodup := by
  induction n with
  | zero => exact .nil
  | succ n ih =>
    rw [upTo_succ, List.nodup_append]
    exact ⟨ih, by simp, fun a ha b hb e => by simp at hb; have := (mem_upTo.mp ha); omega⟩
inductive Tree : List Int → List Pipe → Prop
  | one (x : Int) : Tree [x] []
  | grow {S : List Int} {ps1 ps2 : List Pipe} {p : Pipe} {x y : Int} (t : Tree S (ps1 ++ ps2)) (hy : y ∈ S) (hx : x ∉ S) (he : (p.a = y ∧ p.b = x) ∨ (p.a = x ∧ p.b = y)) (hl : p.a < p.b) : Tree (S ++ [x]) (ps1 ++ p :: ps2)
def houseD (R : Nat) (ps : List Pipe) : D := .tup [.int R, .tup (ps.map Pipe.d)]
structure House (R : Nat) (ps : List Pipe) : Prop where
  r1 : 1 ≤ R
  r2 : R ≤ 16
  tree : ∃ S : List Int, S.Perm (upTo R) ∧ Tree S ps
  len : ps.length + 1 = R
  ok : ∀ p ∈ ps, p.Ok
  rng : ∀ p ∈ ps, 0 ≤ p.a ∧ p.a < p.b ∧ p.b < R
  nar : ((ps.map fun p => (p.nar.length : Int)).sum) ≤ 12
  fla : ((ps.map fun p => (p.fl.length : Int)).sum) ≤ 6
theorem sum_ins (f : Pipe → Int) (l1 l2 : List Pipe) (p : Pipe) : ((l1 ++ [p] ++ l2).map f).sum = ((l1 ++ l2).map f).sum + f p := by
  simp only [List.map_append, List.map_cons, List.map_nil, List.sum_append, List.sum_cons, List.sum_nil]; omega
end K12

/-! S1: the stream and its numbers. -/
namespace K12
open PySem L2 RW
/-- the stream at k, its cells at c; N: its turn is no more than that -/
def Stm (μ : Mem) (k c N : Nat) : Prop := k ≠ c ∧ ∃ (cs : List Int) (a q t : Nat), μ[k]? = some (.lst [.ref c, .int a, .int q, .int t]) ∧ μ[c]? = some (.lst (cs.map .int)) ∧ (∀ x ∈ cs, 0 ≤ x) ∧ cs.length ≤ 63 ∧ t ≤ N
section
variable {μ μ' : Mem} {k c N : Nat} {ex : List Nat}
theorem Stm.mono {M : Nat} (h : Stm μ k c N) (hm : N ≤ M) : Stm μ k c M := by
  obtain ⟨n, cs, a, q, t, e1, e2, h1, h2, h3⟩ := h
  exact ⟨n, cs, a, q, t, e1, e2, h1, h2, by omega⟩
theorem Stm.keep (h : Stm μ k c N) (w : Keep ex μ μ') (h1 : k ∉ ex) (h2 : c ∉ ex) : Stm μ' k c N := by
  obtain ⟨n, cs, a, q, t, e1, e2, h3⟩ := h
  exact ⟨n, cs, a, q, t, w.get e1 h1, w.get e2 h2, h3⟩
theorem Stm.app {cs : List Cell} (h : Stm μ k c N) : Stm (μ ++ cs) k c N := h.keep (ex := []) Keep.app (by simp) (by simp)
theorem Stm.lt (h : Stm μ k c N) : k < μ.length ∧ c < μ.length := by
  obtain ⟨n, cs, a, q, t, e1, e2, h3⟩ := h
  exact ⟨at_lt e1, at_lt e2⟩
theorem lst_ne {cs : List Int} {n : Nat} (e : μ[c]? = some (.lst (cs.map .int))) (e2 : μ[n]? = some (.lst [])) : neD (.ref c) (.ref n) μ = .ok (.bl (!cs.isEmpty)) μ := by
  have pys : ∀ l : List Int, D.pys? 7 μ (l.map D.int) = some (l.map PyData.int) := fun l => by
    induction l with
    | nil => simp [D.pys?]
    | cons a l ih => simp [D.pys?, D.py?, ih]
  have h1 : D.py? 8 μ (.ref c) = some (.list (cs.map PyData.int)) := by simp [D.py?, e, pys]
  have h2 : D.py? 8 μ (.ref n) = some (.list []) := by simp [D.py?, e2, D.pys?]
  have h3 : SeqAt.shaped (.list []) = true := by rfl
  have h4 : SeqAt.shaped (.list (cs.map PyData.int)) = true := by
    have g1 : ∀ l : List Int, PyData.canLayAll0 (l.map PyData.int) = true := fun l => by
      induction l with
      | nil => rfl
      | cons a l ih => simp [PyData.canLayAll0, PyData.canLay0, ih]
    have g2 : ∀ l : List Int, PyData.depthAll (l.map PyData.int) = 0 := fun l => by
      induction l with
      | nil => rfl
      | cons a l ih => simp [PyData.depthAll, PyData.depth, ih]
    unfold SeqAt.shaped
    refine Bool.and_eq_true_iff.mpr ⟨by simp only [PyData.canLay0, g1], decide_eq_true ?_⟩
    simp only [PyData.depth, g2]; omega
  simp only [neD, h1, h2, h3, h4, Bool.and_self, if_true]
  cases cs <;> simp [PyData.eqv, PyData.eqvAll]
theorem take_spec {j : Int} (h : Stm μ k c N) (hN : N < 1000000) (hj : 0 < j) (hj2 : j < 18446744073709551616) :
    ∃ (x : Int) (μ' : Mem), m_law_take [.ref k, .int j] μ = .ok (.int x) μ' ∧ 0 ≤ x ∧ x < j ∧ Stm μ' k c (N + 1) ∧ Keep [k] μ μ' := by
  obtain ⟨n1, cs, a, q, t, e1, e2, hp, hl, ht⟩ := h
  have l1 := at_lt e1
  -- the turn
  obtain ⟨μ1, hμ1⟩ : ∃ μ1, μ1 = μ.set k (.lst [.ref c, .int a, .int q, .int ((t : Int) + 1)]) := ⟨_, rfl⟩
  have e11 : μ1[k]? = some (.lst [.ref c, .int a, .int q, .int ((t + 1 : Nat) : Int)]) := by rw [hμ1, set_at l1]; rfl
  have e21 : μ1[c]? = some (.lst (cs.map .int)) := by rw [hμ1, set_ne' n1]; exact e2
  have k1 : Keep [k] μ μ1 := by rw [hμ1]; exact Keep.set (by simp)
  have s1 : setDD (.ref k) (.int 3) (.int ((t : Int) + 1)) μ = .ok () μ1 := by rw [hμ1]; exact set_lst' e1 (by decide) (by show (3 : Int) < 4; decide)
  -- the next great cell, perhaps
  obtain ⟨a2, q2, μ2, step, e12, e22, k2, q0⟩ : ∃ (a2 q2 : Nat) (μ2 : Mem), (sIf (mAnd (mTest (mBin eqD (mVar 4) (mC (.int 0)))) (mTest (mBin (cmpI fun i j => decide (i < j)) (mVar 3) (mB lenL (mCons (mVar 2) (mNil)))))) (sSeq (sAsg (mBin addD (mVar 3) (mC (.int 1))) (gSubM setDD (mVar 0) (mC (.int 1))))
      (sSet 4 (mBin mulD (mBin idxA (mVar 2) (mVar 3)) (mB intL (mCons (mBin (cmpI fun i j => decide (j ≤ i)) (mBin idxA (mVar 2) (mVar 3)) (mBin powD (mC (.int 10)) (mC (.int 18)))) (mNil)))))) (sNil)) [some (.ref k), some (.int j), some (.ref c), some (.int a), some (.int q), some (.int t), none] μ1 =
        .ok (.nx [some (.ref k), some (.int j), some (.ref c), some (.int a), some (.int q2), some (.int t), none]) μ2 ∧ (∃ q3 : Nat, μ2[k]? = some (.lst [.ref c, .int a2, .int q3, .int ((t + 1 : Nat) : Int)])) ∧ μ2[c]? = some (.lst (cs.map .int)) ∧ Keep [k] μ1 μ2 ∧ True := by
    by_cases hc : (q : Int) = 0 ∧ (a : Int) < cs.length
    · obtain ⟨hq, ha⟩ := hc
      obtain ⟨μ2, hμ2⟩ : ∃ μ2, μ2 = μ1.set k (.lst [.ref c, .int ((a : Int) + 1), .int q, .int ((t + 1 : Nat) : Int)]) := ⟨_, rfl⟩
      have e12 : μ2[k]? = some (.lst [.ref c, .int ((a + 1 : Nat) : Int), .int q, .int ((t + 1 : Nat) : Int)]) := by rw [hμ2, set_at (at_lt e11)]; rfl
      have e22 : μ2[c]? = some (.lst (cs.map .int)) := by rw [hμ2, set_ne' n1]; exact e21
      have s2 : setDD (.ref k) (.int 1) (.int ((a : Int) + 1)) μ1 = .ok () μ2 := by rw [hμ2]; exact set_lst' e11 (by decide) (by show (1 : Int) < 4; decide)
      obtain ⟨x, ex⟩ : ∃ x, cs[a]? = some x := ⟨_, List.getElem?_eq_getElem (by omega)⟩
      have hx := hp x (List.mem_of_getElem? ex)
      have ix : idxA (.ref c) (.int (a : Int)) μ2 = .ok (.int x) μ2 := ix_lst e22 (by omega) (by rw [Int.toNat_natCast, List.getElem?_map, ex]; rfl)
      have hb : (if decide (1000000000000000000 ≤ x) = true then (1 : Int) else 0).natAbs < 18446744073709551616 := by split <;> decide
      have hnn : 0 ≤ x * (if decide (1000000000000000000 ≤ x) = true then (1 : Int) else 0) := by split <;> omega
      obtain ⟨q2, hq2⟩ : ∃ q2 : Nat, x * (if decide (1000000000000000000 ≤ x) = true then (1 : Int) else 0) = (q2 : Int) := ⟨_, (Int.toNat_of_nonneg hnn).symm⟩
      refine ⟨a + 1, q2, μ2, ?_, ⟨q, e12⟩, e22, by rw [hμ2]; exact Keep.set (by simp), trivial⟩
      refine (if_t (μ1 := μ1) (by simp [eqI, hq, lenL, e21, cmpI, ha])).trans ?_
      refine (seq_asg (d := .int ((a : Int) + 1)) (μ1 := μ1) (ρ2 := [some (.ref k), some (.int j), some (.ref c), some (.int a), some (.int q), some (.int t), none]) (μ2 := μ2) (by simp [add_ok]) (by simp [s2])).trans ?_
      refine (set_is (d := .int q2) (μ' := μ2) ?_).trans rfl
      have hpw : powD (.int 10) (.int 18) μ2 = .ok (.int 1000000000000000000) μ2 := by rfl
      simp only [mBin, mB, mCons, mNil, mC, mVar, List.getElem?_cons_succ, List.getElem?_cons_zero, Res.bind, ix, hpw, cmpI, intL, mul_ok (.inr hb), hq2]
    · refine ⟨a, q, μ1, (if_f (μ1 := μ1) ?_).trans rfl, ⟨q, e11⟩, e21, .refl, trivial⟩
      by_cases hq : (q : Int) = 0
      · have ha : ¬ (a : Int) < cs.length := fun z => hc ⟨hq, z⟩
        simp [eqI, hq, lenL, e21, cmpI, ha]
      · have hq' : ¬ q = 0 := fun z => hq (by rw [z]; rfl)
        simp [eqI, hq']
  obtain ⟨q3, e12⟩ := e12
  obtain ⟨μ3, hμ3⟩ : ∃ μ3, μ3 = μ2.set k (.lst [.ref c, .int a2, .int ((q2 : Int) / j), .int ((t + 1 : Nat) : Int)]) := ⟨_, rfl⟩
  have hd : 0 ≤ (q2 : Int) / j := Int.ediv_nonneg (by omega) (by omega)
  obtain ⟨q4, hq4⟩ : ∃ q4 : Nat, (q2 : Int) / j = (q4 : Int) := ⟨_, (Int.toNat_of_nonneg hd).symm⟩
  have e13 : μ3[k]? = some (.lst [.ref c, .int a2, .int q4, .int ((t + 1 : Nat) : Int)]) := by rw [hμ3, set_at (at_lt e12), hq4]
  have e23 : μ3[c]? = some (.lst (cs.map .int)) := by rw [hμ3, set_ne' n1]; exact e22
  have s3 : setDD (.ref k) (.int 2) (.int ((q2 : Int) / j)) μ2 = .ok () μ3 := by rw [hμ3]; exact set_lst' e12 (by decide) (by show (2 : Int) < 4; decide)
  have k3 : Keep [k] μ2 μ3 := by rw [hμ3]; exact Keep.set (by simp)
  have kk : Keep [k] μ μ3 := (k1.trans k2).trans k3
  have st : Stm μ3 k c (N + 1) := ⟨n1, cs, a2, q4, t + 1, e13, e23, hp, hl, by omega⟩
  have begin_ : ∀ {rest : MS}, (sSeq (sAsg (mVar 0) (gTupM 4 (gConsM (gN 2) (gConsM (gN 3) (gConsM (gN 4) (gConsM (gN 5) (gNilM)))))))
    (sSeq (sAsg (mBin addD (mVar 5) (mC (.int 1))) (gSubM setDD (mVar 0) (mC (.int 3)))) rest)) (startR 7 [.ref k, .int j]) μ = rest [some (.ref k), some (.int j), some (.ref c), some (.int a), some (.int q), some (.int t), none] μ1 := fun {rest} => by
    rw [seq_asg (d := .ref k) (μ1 := μ) (ρ2 := [some (.ref k), some (.int j), some (.ref c), some (.int a), some (.int q), some (.int t), none]) (μ2 := μ) rfl (by simp [e1, startR])]
    rw [seq_asg (d := .int ((t : Int) + 1)) (μ1 := μ) (ρ2 := [some (.ref k), some (.int j), some (.ref c), some (.int a), some (.int q), some (.int t), none]) (μ2 := μ1) rfl (by simp [s1])]
  have third : ∀ {rest : MS}, (sSeq (sAsg (mBin fdivD (mVar 4) (mVar 1)) (gSubM setDD (mVar 0) (mC (.int 2)))) rest) [some (.ref k), some (.int j), some (.ref c), some (.int a), some (.int q2), some (.int t), none] μ2 = rest [some (.ref k), some (.int j), some (.ref c), some (.int a), some (.int q2), some (.int t), none] μ3 := fun {rest} =>
    seq_asg (d := .int ((q2 : Int) / j)) (μ1 := μ2) (by simp [fdiv_ok hj hj2]) (by simp [s3])
  by_cases hr : (0 : Int) < q2
  · obtain ⟨r1, r2⟩ := mod_rng (i := (q2 : Int)) hj
    refine ⟨(q2 : Int) % j, μ3, run_is (begin_.trans ((seq_run step).trans (third.trans (seq_ret ((if_t (μ1 := μ3) (by simp [cmpI]; omega)).trans (ret_is ?_)))))), r1, r2, st, kk⟩
    simp [mod_ok hj]
  · have hb : ∀ {x : Int}, 0 ≤ x → x < 2305843009213693951 → x.natAbs < 18446744073709551616 := fun h1 h2 => by omega
    have hp3 : ((t : Int) * 48271 + 12345).natAbs < 18446744073709551616 := by omega
    obtain ⟨a1, b1⟩ := mod_rng (i := ((t : Int) * 48271 + 12345) ^ 3) (j := 2305843009213693951) (by decide)
    generalize hx1 : ((t : Int) * 48271 + 12345) ^ 3 % 2305843009213693951 = x1 at a1 b1
    let ρ (v : Option D) : Rho := [some (.ref k), some (.int j), some (.ref c), some (.int a), some (.int q2), some (.int t), v]
    have w1 : ∀ {rest : MS}, (sSeq (sSet 6 (mBin modD (mBin powD (mBin addD (mBin mulD (mVar 5) (mC (.int 48271))) (mC (.int 12345))) (mC (.int 3))) (mC (.int 2305843009213693951)))) rest) (ρ none) μ3 = rest (ρ (some (.int x1))) μ3 := fun {rest} => by
      have pw : powD (.int ((t : Int) * 48271 + 12345)) (.int 3) μ3 = .ok (.int (((t : Int) * 48271 + 12345) ^ 3)) μ3 := by
        simp only [powD]
        rw [if_pos ⟨by decide, by decide, hp3⟩]; rfl
      exact (seq_set (d := .int x1) (μ1 := μ3) (by simp [ρ, mul_ok, add_ok, pw, mod_ok, hx1])).trans rfl
    -- mixed with a cell
    obtain ⟨x2, w2⟩ : ∃ x2 : Int, ∀ {rest : MS}, (sSeq (sIf (mTest (mBin neD (mVar 2) (mLst (mNil)))) (sSet 6 (mBin addD (mVar 6) (mBin mulD (mBin modD (mBin idxA (mVar 2) (mBin modD (mBin mulD (mVar 5) (mC (.int 7))) (mB lenL (mCons (mVar 2) (mNil))))) (mC (.int 2305843009213693951))) (mBin addD (mVar 5) (mC (.int 3)))))) (sNil)) rest) (ρ (some (.int x1))) μ3 = rest (ρ (some (.int x2))) (μ3 ++ [.lst []]) := by
      have e24 : (μ3 ++ [Cell.lst []])[c]? = some (.lst (cs.map .int)) := app_at e23
      have ne := lst_ne (n := μ3.length) e24 app_new
      cases hcs : cs.isEmpty with
      | true =>
        rw [hcs] at ne
        refine ⟨x1, fun {rest} => seq_skip (μ1 := μ3 ++ [.lst []]) ?_⟩
        simp [ρ, ne]
      | false =>
        rw [hcs] at ne
        have hpos : (0 : Int) < cs.length := by
          cases cs with
          | nil => cases hcs
          | cons a l => simp
        obtain ⟨m1, m2⟩ := mod_rng (i := (t : Int) * 7) hpos
        obtain ⟨y, ey⟩ : ∃ y, cs[((t : Int) * 7 % cs.length).toNat]? = some y := ⟨_, List.getElem?_eq_getElem (by omega)⟩
        have ix : idxA (.ref c) (.int ((t : Int) * 7 % cs.length)) (μ3 ++ [.lst []]) = .ok (.int y) (μ3 ++ [.lst []]) := ix_lst e24 m1 (by rw [List.getElem?_map, ey]; rfl)
        have h3 : ((t : Int) + 3).natAbs < 18446744073709551616 := by omega
        refine ⟨x1 + y % 2305843009213693951 * ((t : Int) + 3), fun {rest} => (seq_run ((if_t (μ1 := μ3 ++ [.lst []]) ?_).trans (set_is (d := .int (x1 + y % 2305843009213693951 * ((t : Int) + 3))) (μ' := μ3 ++ [.lst []]) ?_))).trans rfl⟩
        · simp [ρ, ne]
        · have ll : lenL [.ref c] (μ3 ++ [.lst []]) = .ok (.int cs.length) (μ3 ++ [.lst []]) := by simp only [lenL, e24, List.length_map]
          have mm : mulD (.int (t : Int)) (.int 7) (μ3 ++ [.lst []]) = .ok (.int ((t : Int) * 7)) (μ3 ++ [.lst []]) := mul_ok (.inr (by decide))
          have md : modD (.int ((t : Int) * 7)) (.int cs.length) (μ3 ++ [.lst []]) = .ok (.int ((t : Int) * 7 % cs.length)) (μ3 ++ [.lst []]) := mod_ok hpos
          have md2 : modD (.int y) (.int 2305843009213693951) (μ3 ++ [.lst []]) = .ok (.int (y % 2305843009213693951)) (μ3 ++ [.lst []]) := mod_ok (by decide)
          have mm2 : mulD (.int (y % 2305843009213693951)) (.int ((t : Int) + 3)) (μ3 ++ [.lst []]) = .ok (.int (y % 2305843009213693951 * ((t : Int) + 3))) (μ3 ++ [.lst []]) := mul_ok (.inr h3)
          simp only [mBin, mB, mCons, mNil, mC, mVar, ρ, List.getElem?_cons_succ, List.getElem?_cons_zero, Res.bind, mm, ll, md, ix, md2, add_ok, mm2]
    obtain ⟨a3, b3⟩ := mod_rng (i := x2) (j := 2305843009213693951) (by decide)
    generalize hx3 : x2 % 2305843009213693951 = x3 at a3 b3
    obtain ⟨r1, r2⟩ := mod_rng (i := x3 * x3 % 2305843009213693951 / 16) hj
    refine ⟨_, μ3 ++ [.lst []], run_is (begin_.trans ((seq_run step).trans (third.trans ((seq_skip (μ1 := μ3) (by simp [cmpI]; omega)).trans (w1.trans (w2.trans ?_)))))), r1, r2, st.app, kk.trans Keep.app⟩
    refine (seq_set (d := .int x3) (μ1 := μ3 ++ [.lst []]) (by simp [ρ, mod_ok, hx3])).trans ?_
    exact ret_is (by simp [ρ, mul_ok (.inl (hb a3 b3)), fdiv_ok, mod_ok, mod_ok hj])
end
end K12

/-! Q4B: comprehensions over ints, ranges. -/
namespace K12
open PySem L2 RW
namespace Q
theorem comp_mapD {chk : Mem → Prop} {te : MD} {ρ0 : Rho} {i : Nat} (xs : List Int) (f : Int → D) (μ : Mem) (hc : chk μ) (ht : ∀ x ∈ xs, te (ρ0.set i (some (.int x))) μ = .ok (f x) μ) (hl : xs.length < 100000) :
    compL chk (gN i) mYes te ρ0 (xs.map D.int) [] μ = .ok (xs.map f) μ := by
  have key := compL_ok (chk := chk) (g := gN i) (tt := mYes) (te := te) (ρ0 := ρ0) (xs.map D.int) (fun j acc μ' => j ≤ xs.length ∧ acc = (xs.take j).map f ∧ μ' = μ) 0 (acc := []) (μ := μ) ⟨Nat.zero_le _, by simp, rfl⟩
    (fun _ _ _ ⟨_, _, e⟩ => e ▸ hc) (fun j d acc μ' e ⟨hj, ea, em⟩ => by
      simp only [Nat.zero_add] at hj ea em ⊢
      subst em
      rw [List.getElem?_map] at e
      obtain ⟨x, ex, rfl⟩ := Option.map_eq_some_iff.mp e
      have hj2 := (List.getElem?_eq_some_iff.mp ex).1
      refine .mk (μ := μ') rfl (.mk (μ := μ') rfl ?_)
      rw [if_pos rfl]
      refine ⟨by rw [ea, List.length_map, List.length_take, sizeLine_eq]; omega, .mk (ht x (List.mem_of_getElem? ex)) ⟨by omega, ?_, rfl⟩⟩
      rw [ea, List.take_add_one, ex]; simp)
  rw [List.length_map, Nat.zero_add] at key
  obtain ⟨l, μ', e, _, rfl, rfl⟩ := key
  rw [e, List.take_length]
theorem range_at {lo : Int} {n i : Nat} {d : D} (e : (rangeItems lo n)[i]? = some d) : i < n ∧ d = .int (lo + (i : Int)) := by
  unfold rangeItems at e
  rw [List.getElem?_map] at e
  obtain ⟨x, ex, rfl⟩ := Option.map_eq_some_iff.mp e
  obtain ⟨h1, h2⟩ := List.getElem?_eq_some_iff.mp ex
  rw [List.length_range] at h1
  rw [List.getElem_range] at h2
  exact ⟨h1, by rw [h2]⟩
theorem range_len {lo : Int} {n : Nat} : (rangeItems lo n).length = n := by unfold rangeItems; simp
end Q
end K12

/-! S2: the stream made; numbers of a range, drawn. -/
namespace K12
open PySem L2 RW
theorem cut63 (ns : List Int) (hn : ns.length ≤ 63) : cutD (ns.map D.int) none (some 63) = ns.map D.int := by
  have e : HT.sIx ns.length ns.length (some 63) = min 63 ns.length := HT.sIx_nat _ _ 63
  unfold cutD
  rw [List.length_map, HT.sIx_none, e, Nat.min_eq_right hn]
  simp only [List.drop_zero, Nat.sub_zero]
  rw [List.take_of_length_le (by simp)]
theorem stream_spec (ns : List Int) (own : Nat) (hn : ns.length ≤ 63) : ∃ (k c : Nat) (μ : Mem), m_law_stream [.frl (ns.map D.int), .int own] [] = .ok (.ref k) μ ∧ Stm μ k c own := by
  let as : List Int := ns.map fun x => if x < 0 then -x else x
  have hs : mSlc (mVar 0) oNone (oSome (mC (.int 63))) (startR 3 [.frl (ns.map D.int), .int own]) [] = .ok (.ref 0) [.lst (ns.map D.int)] := by
    simp [startR, slcD, cut63 ns hn]
  have hc := comp_map (chk := fun μ' => μ'[0]? = some (.lst (ns.map D.int))) (i := 2) (te := mB absL (mCons (mVar 2) (mNil))) (ρ0 := wipeR (startR 3 [.frl (ns.map D.int), .int own]) [2]) ns (fun x => if x < 0 then -x else x) [.lst (ns.map D.int)] rfl (fun x _ => by simp [wipeR, startR, absL]) (by omega)
  have c1 := comp_is (tt := mYes) (own := [2]) (seq_lst hs rfl) hc
  have e1 : ([Cell.lst (ns.map D.int)] ++ [.lst (as.map D.int), .lst [.ref 1, .int 0, .int 0, .int own]])[2]? = some (.lst [.ref 1, .int 0, .int 0, .int own]) := rfl
  refine ⟨2, 1, [.lst (ns.map D.int)] ++ [.lst (as.map D.int), .lst [.ref 1, .int 0, .int 0, .int own]], run_is (ret_is ?_), by decide, as, 0, 0, own, rfl, rfl, fun x hx => ?_, by simp [as, hn], Nat.le_refl _⟩
  · rw [mLst, mCons, c1]
    rfl
  · obtain ⟨y, -, rfl⟩ := List.mem_map.mp hx
    split <;> omega
/-- numbers of a range, each where a draw says so -/
theorem pick_spec {μ : Mem} {k c N : Nat} {ρ0 : Rho} {te : MD} {P : Int → Prop} {e : Int → Int → D} {i n : Nat} {lo : Int} (h : Stm μ k c N) (hN : N + 2 * n < 1000000) (hk : ρ0[0]? = some (some (.ref k))) (hi : i ≠ 0)
    (ht : ∀ (x : Int) (μ1 : Mem) (M : Nat), lo ≤ x → x < lo + n → Stm μ1 k c M → M < 1000000 → ∃ (v : Int) (μ2 : Mem), te (ρ0.set i (some (.int x))) μ1 = .ok (e x v) μ2 ∧ P v ∧ Stm μ2 k c (M + 1) ∧ Keep [k] μ1 μ2) :
    ∃ (xs : List (Int × Int)) (μ' : Mem), compL (fun _ => True) (gN i) (mTest (mBin eqD (mB m_law_take (mCons (mVar 0) (mCons (mC (.int 4)) (mNil)))) (mC (.int 0)))) te ρ0 (rangeItems lo n) [] μ = .ok (xs.map fun p => e p.1 p.2) μ' ∧
      (xs.map (·.1)).Pairwise (· < ·) ∧ (∀ x ∈ xs, lo ≤ x.1 ∧ x.1 < lo + n ∧ P x.2) ∧ xs.length ≤ n ∧ Stm μ' k c (N + 2 * n) ∧ Keep [k] μ μ' := by
  have key := compL_ok (chk := fun _ => True) (g := gN i) (tt := mTest (mBin eqD (mB m_law_take (mCons (mVar 0) (mCons (mC (.int 4)) (mNil)))) (mC (.int 0)))) (te := te) (ρ0 := ρ0) (rangeItems lo n)
    (fun j acc μ' => j ≤ n ∧ ∃ xs : List (Int × Int), acc = (xs.map fun p => e p.1 p.2) ∧ (xs.map (·.1)).Pairwise (· < ·) ∧ (∀ x ∈ xs, lo ≤ x.1 ∧ x.1 < lo + j ∧ P x.2) ∧ xs.length ≤ j ∧ Stm μ' k c (N + 2 * j) ∧ Keep [k] μ μ') 0 (acc := []) (μ := μ)
    ⟨Nat.zero_le _, [], rfl, .nil, by simp, Nat.le_refl _, h, .refl⟩ (fun _ _ _ _ => trivial)
    (fun j d acc μ' ed ⟨hj, xs, ea, pw, ha, hl, hs, kk⟩ => by
      simp only [Nat.zero_add] at hj ha hl hs ⊢
      obtain ⟨hj2, rfl⟩ := Q.range_at ed
      obtain ⟨y, μ1, q, y0, y1, s1, k1⟩ := take_spec (j := 4) hs (by omega) (by decide) (by decide)
      have v0 : (ρ0.set i (some (.int (lo + (j : Int)))))[0]? = some (some (.ref k)) := by rw [List.getElem?_set_ne hi]; exact hk
      refine .mk (μ := μ') rfl (.mk (a := decide (y = 0)) (μ := μ1) ?_ ?_)
      · simp only [mTest, mBin, mB, mCons, mVar, mC, mNil, v0, Res.bind, q, eqI]
      · by_cases hy : y = 0
        · rw [if_pos (by simpa using hy)]
          obtain ⟨v, μ2, w, hv, s2, k2⟩ := ht (lo + (j : Int)) μ1 (N + 2 * j + 1) (by omega) (by omega) s1 (by omega)
          refine ⟨by rw [ea, List.length_map, sizeLine_eq]; omega, .mk w ⟨by omega, xs ++ [(lo + (j : Int), v)], by rw [ea]; simp, ?_, fun x hx => ?_, by simp; omega, s2.mono (by omega), (kk.trans k1).trans k2⟩⟩
          · rw [List.map_append, List.pairwise_append]
            refine ⟨pw, by simp, fun a ha' b hb => ?_⟩
            obtain ⟨x, hx, rfl⟩ := List.mem_map.mp ha'
            simp at hb
            have := (ha x hx).2.1
            omega
          · rcases List.mem_append.mp hx with hx | hx
            · obtain ⟨a1, a2, a3⟩ := ha x hx
              exact ⟨a1, by omega, a3⟩
            · simp at hx
              subst hx
              exact ⟨by simp; omega, by simp; omega, hv⟩
        · rw [if_neg (by simpa using hy)]
          exact ⟨by omega, xs, ea, pw, fun x hx => (by obtain ⟨a1, a2, a3⟩ := ha x hx; exact ⟨a1, by omega, a3⟩), by omega, s1.mono (by omega), kk.trans k1⟩)
  rw [Q.range_len, Nat.zero_add] at key
  obtain ⟨l, μ', w, _, xs, rfl, pw, ha, hl, hs, kk⟩ := key
  exact ⟨xs, μ', w, pw, ha, hl, hs, kk⟩
end K12

/-! S3: family B's house. -/
namespace K12
open PySem L2 RW
theorem cut_to {l : List D} {n : Nat} : cutD l none (some (n : Int)) = l.take n := by
  have e : HT.sIx l.length l.length (some (n : Int)) = min n l.length := HT.sIx_nat _ _ n
  unfold cutD
  rw [HT.sIx_none, e]
  simp only [List.drop_zero, Nat.sub_zero]
  by_cases h : n ≤ l.length
  · rw [Nat.min_eq_left h]
  · rw [Nat.min_eq_right (by omega), List.take_of_length_le (by omega), List.take_of_length_le (by omega)]
structure LaidB (far fl : Int) (i : Nat) (ps : List Pipe) (left : Nat) : Prop where
  len : ps.length = i
  tree : Tree (upTo (i + 1)) ps
  ok : ∀ p ∈ ps, p.Ok
  rng : ∀ p ∈ ps, 0 ≤ p.a ∧ p.a < p.b ∧ p.b < 1 + (i : Int)
  nar : ((ps.map fun p => (p.nar.length : Int)).sum) ≤ 3 * (i : Int)
  fla : ((ps.map fun p => (p.fl.length : Int)).sum) + left = fl
  lng : ∀ p ∈ ps, p.len ≤ far
theorem LaidB.more {far fl : Int} {i left w : Nat} {ps : List Pipe} {p : Pipe} (L : LaidB far fl i ps left) (hw : w ≤ i) (pa : 0 ≤ p.a ∧ p.a < 1 + (i : Int)) (pb : p.b = 1 + (i : Int)) (pok : p.Ok) (plen : p.len ≤ far) (pn : p.nar.length ≤ 3) (pf : p.fl.length ≤ left) :
    LaidB far fl (i + 1) (ps.take w ++ [p] ++ ps.drop w) (left - p.fl.length) := by
  have hmem : ∀ q ∈ ps.take w ++ [p] ++ ps.drop w, q = p ∨ q ∈ ps := fun q hq => by
    rcases List.mem_append.mp hq with hq | hq
    · rcases List.mem_append.mp hq with hq | hq
      · exact .inr (List.mem_of_mem_take hq)
      · simp at hq; exact .inl hq
    · exact .inr (List.mem_of_mem_drop hq)
  have hl := L.len
  refine ⟨by simp; omega, ?_, fun q hq => ?_, fun q hq => ?_, ?_, ?_, fun q hq => ?_⟩
  · have ht' : Tree (upTo (i + 1)) (ps.take w ++ ps.drop w) := by rw [List.take_append_drop]; exact L.tree
    have := Tree.grow (p := p) (x := ((i + 1 : Nat) : Int)) (y := p.a) ht' (mem_upTo.mpr ⟨pa.1, by omega⟩) (fun z => by have := (mem_upTo.mp z).2; omega) (.inl ⟨rfl, by omega⟩) (by omega)
    rw [upTo_succ, List.append_assoc]
    exact this
  · rcases hmem q hq with rfl | hq
    · exact pok
    · exact L.ok q hq
  · rcases hmem q hq with rfl | hq
    · omega
    · have := L.rng q hq; omega
  · have := L.nar
    rw [sum_ins, List.take_append_drop]; omega
  · have := L.fla
    rw [sum_ins, List.take_append_drop]; omega
  · rcases hmem q hq with rfl | hq
    · exact plen
    · exact L.lng q hq
noncomputable def layB : MS := sSeq (sSet 8 (mBin addD (mC (.int 1)) (mB m_law_take (mCons (mVar 0) (mCons (mVar 2) (mNil))))))
    (sSeq (sSet 9 (mComp (iRange2 (mCons (mC (.int 1)) (mCons (mVar 8) (mNil)))) (gN 12) (mTest (mBin eqD (mB m_law_take (mCons (mVar 0) (mCons (mC (.int 4)) (mNil)))) (mC (.int 0)))) (mTup (mCons (mVar 12) (mCons (mBin addD (mC (.int 1)) (mB m_law_take (mCons (mVar 0) (mCons (mC (.int 3)) (mNil))))) (mNil)))) [12]))
    (sSeq (sSet 10 (mSlc (mComp (iRange1 (mCons (mVar 8) (mNil))) (gN 12) (mTest (mBin eqD (mB m_law_take (mCons (mVar 0) (mCons (mC (.int 4)) (mNil)))) (mC (.int 0)))) (mTup (mCons (mVar 12) (mCons (mBin idxA (mLst (mCons (mC (.int 1)) (mCons (mUn negD (mC (.int 1))) (mNil)))) (mB m_law_take (mCons (mVar 0) (mCons (mC (.int 2)) (mNil))))) (mNil)))) [12]) oNone (oSome (mVar 6))))
    (sSeq (sSet 6 (mBin subD (mVar 6) (mB lenL (mCons (mVar 10) (mNil)))))
    (sSeq (sSet 11 (mTup (mCons (mB m_law_take (mCons (mVar 0) (mCons (mVar 7) (mNil)))) (mCons (mVar 7) (mCons (mVar 8) (mCons (mB tupleL (mCons (mSlc (mVar 9) oNone (oSome (mC (.int 3)))) (mNil))) (mCons (mB tupleL (mCons (mVar 10) (mNil))) (mNil))))))))
    (sExpr (mMt isLst insertM (mVar 5) (mCons (mB m_law_take (mCons (mVar 0) (mCons (mBin addD (mB lenL (mCons (mVar 5) (mNil))) (mC (.int 1))) (mNil)))) (mCons (mVar 11) (mNil)))))))))
theorem houseB_eq : b_law_house = sSeq (sSet 4 (mBin addD (mC (.int 2)) (mB m_law_take (mCons (mVar 0) (mCons (mBin subD (mVar 1) (mC (.int 1))) (mNil))))))
    (sSeq (sSet 5 (mLst (mNil)))
    (sSeq (sSet 6 (mVar 3))
    (sSeq (sFor (iRange2 (mCons (mC (.int 1)) (mCons (mVar 4) (mNil)))) (gN 7) layB)
    (sRet (mTup (mCons (mVar 4) (mCons (mB tupleL (mCons (mVar 5) (mNil))) (mNil)))))))) := rfl
theorem lay_stepB {μ : Mem} {k c N pp i left : Nat} {far fl : Int} {v1 v3 v4 a8 a9 a10 a11 : Option D} {ps : List Pipe} (h : Stm μ k c N) (hN : N + 200 < 1000000) (hf : 1 ≤ far) (hf2 : far ≤ 20) (hi : i < 1000) (L : LaidB far fl i ps left) (hfl : fl ≤ 6)
    (ep : μ[pp]? = some (.lst (ps.map Pipe.d))) (a3 : pp ≠ k) (a4 : pp ≠ c) :
    ∃ (b8 b9 b10 b11 : Option D) (ps' : List Pipe) (left' : Nat) (μ' : Mem), layB [some (.ref k), v1, some (.int far), v3, v4, some (.ref pp), some (.int left), some (.int (1 + (i : Int))), a8, a9, a10, a11, none] μ =
      .ok (.nx [some (.ref k), v1, some (.int far), v3, v4, some (.ref pp), some (.int left'), some (.int (1 + (i : Int))), b8, b9, b10, b11, none]) μ' ∧ LaidB far fl (i + 1) ps' left' ∧
      μ'[pp]? = some (.lst (ps'.map Pipe.d)) ∧ Stm μ' k c (N + 200) ∧ Keep [k, pp] μ μ' := by
  obtain ⟨x, μ1, q1, x0, x1, s1, k1⟩ := take_spec (j := far) h (by omega) (by omega) (by omega)
  obtain ⟨n, hn⟩ : ∃ n : Nat, 1 + x = (n : Int) := ⟨(1 + x).toNat, by omega⟩
  let ρ1 : Rho := [some (.ref k), v1, some (.int far), v3, v4, some (.ref pp), some (.int left), some (.int (1 + (i : Int))), some (.int n), a9, a10, a11, none]
  -- narrow places
  obtain ⟨xs, μ2, q2, pw2, ha2, hl2, s2, k2⟩ := pick_spec (ρ0 := wipeR ρ1 [12]) (te := mTup (mCons (mVar 12) (mCons (mBin addD (mC (.int 1)) (mB m_law_take (mCons (mVar 0) (mCons (mC (.int 3)) (mNil))))) (mNil)))) (P := fun v => 1 ≤ v ∧ v ≤ 3) (e := fun x v => .tup [.int x, .int v]) (i := 12) (n := n - 1) (lo := 1) s1 (by omega) rfl (by decide)
    (fun x μ1 M _ _ hs hM => by
      obtain ⟨v, μ2, q, v0, v1', s, kk⟩ := take_spec (j := 3) hs hM (by decide) (by decide)
      exact ⟨1 + v, μ2, by simp [wipeR, ρ1, q, add_ok], ⟨by omega, by omega⟩, s, kk⟩)
  have c9 : mComp (iRange2 (mCons (mC (.int 1)) (mCons (mVar 8) (mNil)))) (gN 12) (mTest (mBin eqD (mB m_law_take (mCons (mVar 0) (mCons (mC (.int 4)) (mNil)))) (mC (.int 0)))) (mTup (mCons (mVar 12) (mCons (mBin addD (mC (.int 1)) (mB m_law_take (mCons (mVar 0) (mCons (mC (.int 3)) (mNil))))) (mNil)))) [12] ρ1 μ1 = .ok (.ref μ2.length) (μ2 ++ [.lst (xs.map pairD)]) :=
    comp_is (ir2 (m := 1) (n := n) (e := mC (.int 1)) (f := mVar 8) rfl rfl (by omega) (by omega)) q2
  let ρ2 : Rho := [some (.ref k), v1, some (.int far), v3, v4, some (.ref pp), some (.int left), some (.int (1 + (i : Int))), some (.int n), some (.ref μ2.length), a10, a11, none]
  have s2' : Stm (μ2 ++ [Cell.lst (xs.map pairD)]) k c (N + 1 + 2 * (n - 1)) := s2.app
  -- flaps
  obtain ⟨hs, μ3, q3, pw3, ha3, hl3, s3, k3⟩ := pick_spec (ρ0 := wipeR ρ2 [12]) (te := mTup (mCons (mVar 12) (mCons (mBin idxA (mLst (mCons (mC (.int 1)) (mCons (mUn negD (mC (.int 1))) (mNil)))) (mB m_law_take (mCons (mVar 0) (mCons (mC (.int 2)) (mNil))))) (mNil)))) (P := fun v => v = 1 ∨ v = -1) (e := fun x v => .tup [.int x, .int v]) (i := 12) (n := n) (lo := 0) s2' (by omega) rfl (by decide)
    (fun x μ1 M _ _ hs hM => by
      have hl := hs.lt
      have hs' : Stm (μ1 ++ [Cell.lst [.int 1, .int (-1)]]) k c M := hs.app
      obtain ⟨y, μ2, q, y0, y1, s, kk⟩ := take_spec (j := 2) hs' hM (by decide) (by decide)
      have e2 : μ2[μ1.length]? = some (.lst [.int 1, .int (-1)]) := kk.get app_new (by simp; omega)
      obtain ⟨v, ev, hv⟩ : ∃ v : Int, ([D.int 1, .int (-1)] : List D)[y.toNat]? = some (.int v) ∧ (v = 1 ∨ v = -1) := by
        have : y = 0 ∨ y = 1 := by omega
        rcases this with rfl | rfl
        · exact ⟨1, rfl, .inl rfl⟩
        · exact ⟨-1, rfl, .inr rfl⟩
      have ix : idxA (.ref μ1.length) (.int y) μ2 = .ok (.int v) μ2 := ix_lst e2 y0 ev
      exact ⟨v, μ2, by simp [wipeR, ρ2, negD, q, ix], hv, s, Keep.trans Keep.app kk⟩)
  have c10 : mComp (iRange1 (mCons (mVar 8) (mNil))) (gN 12) (mTest (mBin eqD (mB m_law_take (mCons (mVar 0) (mCons (mC (.int 4)) (mNil)))) (mC (.int 0)))) (mTup (mCons (mVar 12) (mCons (mBin idxA (mLst (mCons (mC (.int 1)) (mCons (mUn negD (mC (.int 1))) (mNil)))) (mB m_law_take (mCons (mVar 0) (mCons (mC (.int 2)) (mNil))))) (mNil)))) [12] ρ2 (μ2 ++ [Cell.lst (xs.map pairD)]) = .ok (.ref μ3.length) (μ3 ++ [.lst (hs.map pairD)]) :=
    comp_is (ir1 (n := n) (e := mVar 8) rfl (by omega)) q3
  let μ4 : Mem := (μ3 ++ [Cell.lst (hs.map pairD)]) ++ [.lst ((hs.take left).map pairD)]
  have sl10 : slcD (.ref μ3.length) none (some (left : Int)) (μ3 ++ [Cell.lst (hs.map pairD)]) = .ok (.ref (μ3 ++ [Cell.lst (hs.map pairD)]).length) μ4 := by
    simp only [slcD, app_new, cut_to, μ4, List.map_take]
  have e4 : μ4[(μ3 ++ [Cell.lst (hs.map pairD)]).length]? = some (.lst ((hs.take left).map pairD)) := app_new
  have s4 : Stm μ4 k c (N + 1 + 2 * (n - 1) + 2 * n) := (s3.app).app
  obtain ⟨y, μ5, q5, y0, y1, s5, k5⟩ := take_spec (j := 1 + (i : Int)) s4 (by omega) (by omega) (by omega)
  have l2 := s2.lt
  have l3 := s3.lt
  have z23 : (μ2 ++ [Cell.lst (xs.map pairD)]).length ≤ μ3.length := k3.1
  have z23' : μ2.length + 1 ≤ μ3.length := by simpa using z23
  have e5n : μ5[μ2.length]? = some (.lst (xs.map pairD)) := k5.get (app_at (app_at (k3.get app_new (by simp; omega)))) (by simp; omega)
  have e5h : μ5[(μ3 ++ [Cell.lst (hs.map pairD)]).length]? = some (.lst ((hs.take left).map pairD)) := k5.get e4 (by simp; omega)
  let μ6 : Mem := μ5 ++ [.lst ((xs.take 3).map pairD)]
  have sl9 : slcD (.ref μ2.length) none (some 3) μ5 = .ok (.ref μ5.length) μ6 := by
    have := cut_to (l := xs.map pairD) (n := 3)
    simp only [slcD, e5n, μ6, List.map_take]
    rw [show (3 : Int) = ((3 : Nat) : Int) by rfl, this]
  have t9 : tupleL [.ref μ5.length] μ6 = .ok (.tup ((xs.take 3).map pairD)) μ6 := by simp only [tupleL, μ6, app_new]
  have t10 : tupleL [.ref (μ3 ++ [Cell.lst (hs.map pairD)]).length] μ6 = .ok (.tup ((hs.take left).map pairD)) μ6 := by
    have : μ6[(μ3 ++ [Cell.lst (hs.map pairD)]).length]? = some (.lst ((hs.take left).map pairD)) := app_at e5h
    simp only [tupleL, this]
  let p : Pipe := ⟨y, 1 + (i : Int), n, xs.take 3, hs.take left⟩
  have ll : (hs.take left).length ≤ left := by rw [List.length_take]; omega
  have hp : p.Ok := ⟨by show (1 : Int) ≤ n; omega, by show (n : Int) ≤ _; omega, by
      show ((xs.take 3).map (·.1)).Pairwise _
      rw [List.map_take]
      exact pw2.sublist (List.take_sublist _ _), fun z hz => by
      obtain ⟨b1, b2, b3⟩ := ha2 z (List.mem_of_mem_take hz)
      exact ⟨b1, by show z.1 ≤ (n : Int) - 1; omega, by omega, by omega⟩, by
      show ((hs.take left).map (·.1)).Pairwise _
      rw [List.map_take]
      exact pw3.sublist (List.take_sublist _ _), fun z hz => by
      obtain ⟨b1, b2, b3⟩ := ha3 z (List.mem_of_mem_take hz)
      exact ⟨b1, by show z.1 ≤ (n : Int) - 1; omega, b3⟩⟩
  have s6 : Stm μ6 k c (N + 1 + 2 * (n - 1) + 2 * n + 1) := s5.app
  have hpl := L.len
  obtain ⟨w, μ7, q7, w0, w1, s7, k7⟩ := take_spec (j := (ps.length : Int) + 1) s6 (by omega) (by omega) (by omega)
  have kA : Keep [k] μ μ4 := ((((k1.trans k2).trans Keep.app).trans k3).trans Keep.app).trans Keep.app
  have kB : Keep [k] μ μ6 := (kA.trans k5).trans Keep.app
  have ep6 : μ6[pp]? = some (.lst (ps.map Pipe.d)) := kB.get ep (by simp [a3])
  have ep7 : μ7[pp]? = some (.lst (ps.map Pipe.d)) := k7.get ep6 (by simp [a3])
  have hpd : (ps.map Pipe.d).take w.toNat ++ [p.d] ++ (ps.map Pipe.d).drop w.toNat = (ps.take w.toNat ++ [p] ++ ps.drop w.toNat).map Pipe.d := by simp [List.map_take, List.map_drop]
  let μ8 : Mem := μ7.set pp (.lst ((ps.take w.toNat ++ [p] ++ ps.drop w.toNat).map Pipe.d))
  refine ⟨some (.int n), some (.ref μ2.length), some (.ref (μ3 ++ [Cell.lst (hs.map pairD)]).length), some p.d, ps.take w.toNat ++ [p] ++ ps.drop w.toNat, left - p.fl.length, μ8, ?_, L.more (by omega) ⟨y0, y1⟩ rfl hp (by show (n : Int) ≤ far; omega) (by show (xs.take 3).length ≤ 3; rw [List.length_take]; omega) ll, set_at (at_lt ep7), ?_, ?_⟩
  · unfold layB
    have lf : ((left - p.fl.length : Nat) : Int) = (left : Int) - ((hs.take left).length : Int) := by
      show ((left - (hs.take left).length : Nat) : Int) = _
      omega
    rw [lf]
    refine (seq_set (d := .int n) (μ1 := μ1) (by simp [q1, add_ok, hn])).trans ?_
    refine (seq_set (d := .ref μ2.length) (μ1 := μ2 ++ [.lst (xs.map pairD)]) c9).trans ?_
    refine (seq_set (d := .ref (μ3 ++ [Cell.lst (hs.map pairD)]).length) (μ1 := μ4) ?_).trans ?_
    · show mSlc _ oNone (oSome (mVar 6)) ρ2 _ = _
      rw [mSlc, c10]
      exact sl10
    have l10 : lenL [.ref (μ3 ++ [Cell.lst (hs.map pairD)]).length] μ4 = .ok (.int ((hs.take left).length : Int)) μ4 := by simp only [lenL, e4, List.length_map]
    refine (seq_set (d := .int ((left : Int) - ((hs.take left).length : Int))) (μ1 := μ4) (by simp only [mBin, mVar, mB, mCons, mNil, List.set_cons_succ, List.set_cons_zero, List.getElem?_cons_succ, List.getElem?_cons_zero, Res.bind, l10, subD])).trans ?_
    refine (seq_set (d := p.d) (μ1 := μ6) ?_).trans ?_
    · have v7 : ∀ {ρ : Rho} {μ : Mem}, ρ[7]? = some (some (.int (1 + (i : Int)))) → mVar 7 ρ μ = .ok (.int (1 + (i : Int))) μ := fun e => by simp only [mVar, e]
      simp only [mTup, mB, mCons, mNil, mVar, mSlc, oNone, oSome, mC, List.set_cons_succ, List.set_cons_zero, List.getElem?_cons_succ, List.getElem?_cons_zero, Res.bind, q5, sl9, t9, t10]
      rfl
    · have ls : lenL [.ref pp] μ6 = .ok (.int ps.length) μ6 := by simp only [lenL, ep6, List.length_map]
      have isl : isLst (.ref pp) μ6 = true := by simp only [isLst, ep6]
      have ins := ins_ok (y := p.d) ep7 w0 (by omega) (by rw [List.length_map]; omega)
      simp only [sExpr, mMt, mVar, mB, mCons, mNil, mC, mBin, List.set_cons_succ, List.set_cons_zero, List.getElem?_cons_succ, List.getElem?_cons_zero, Res.bind, isl, if_true, ls, add_ok, q7, ins]
      rw [hpd]
      rfl
  · exact (s7.keep (ex := [pp]) (Keep.set (by simp)) (by simp [Ne.symm a3]) (by simp [Ne.symm a4])).mono (by omega)
  · have m1 : ∀ {μ μ' : Mem}, Keep [k] μ μ' → Keep [k, pp] μ μ' := fun q => q.mono fun i hi => .inl (by simp at hi ⊢; omega)
    exact ((m1 kB).trans (m1 k7)).trans (Keep.set (by simp))
end K12

/-! S4: family B's house, whole. -/
namespace K12
open PySem L2 RW
theorem house_spec {μ : Mem} {k c N : Nat} {most far fl : Int} (h : Stm μ k c N) (hN : N + 1000 < 1000000) (hm : 2 ≤ most) (hm2 : most ≤ 5) (hf : 1 ≤ far) (hf2 : far ≤ 20) (g0 : 0 ≤ fl) (g1 : fl ≤ 6) :
    ∃ (R : Nat) (ps : List Pipe) (μ' : Mem), m_law_house [.ref k, .int most, .int far, .int fl] μ = .ok (houseD R ps) μ' ∧ House R ps ∧ 2 ≤ R ∧ (R : Int) ≤ most ∧ (∀ p ∈ ps, p.len ≤ far) ∧ Stm μ' k c (N + 1000) ∧ Keep [k] μ μ' := by
  obtain ⟨x, μ1, q1, x0, x1, s1, k1⟩ := take_spec (j := most - 1) h (by omega) (by omega) (by omega)
  obtain ⟨R, hR⟩ : ∃ R : Nat, 2 + x = (R : Int) := ⟨(2 + x).toNat, by omega⟩
  obtain ⟨fn, rfl⟩ : ∃ fn : Nat, fl = (fn : Int) := ⟨fl.toNat, by omega⟩
  have l1 := s1.lt
  have s1' : Stm (μ1 ++ [Cell.lst []]) k c (N + 1) := s1.app
  let ρ (b7 b8 b9 b10 b11 : Option D) (ln : Nat) : Rho := [some (.ref k), some (.int most), some (.int far), some (.int fn), some (.int R), some (.ref μ1.length), some (.int ln), b7, b8, b9, b10, b11, none]
  have loop := forL_ok (chk := fun _ => True) (g := gN 7) (body := layB) (rangeItems 1 (R - 1))
    (fun i ρ' μ' => i ≤ R - 1 ∧ ∃ (b7 b8 b9 b10 b11 : Option D) (ps : List Pipe) (left : Nat), ρ' = ρ b7 b8 b9 b10 b11 left ∧ LaidB far (fn : Int) i ps left ∧ μ'[μ1.length]? = some (.lst (ps.map Pipe.d)) ∧ Stm μ' k c (N + 1 + 200 * i) ∧ Keep [k, μ1.length] (μ1 ++ [Cell.lst []]) μ') 0
    (ρ := ρ none none none none none fn) (μ := μ1 ++ [Cell.lst []]) ⟨Nat.zero_le _, none, none, none, none, none, [], fn, rfl, ⟨rfl, .one 0, by simp, by simp, by simp, by simp, by simp⟩, app_new, s1', .refl⟩ (fun _ _ _ _ => trivial)
    (fun i d ρ' μ' ed ⟨hi, b7, b8, b9, b10, b11, ps, left, eρ, L, ep, hs, hk⟩ => by
      simp only [Nat.zero_add] at hi L hs ⊢
      obtain ⟨hi2, rfl⟩ := Q.range_at ed
      subst eρ
      obtain ⟨c8, c9, c10, c11, ps', left', μ2, q, L', ep', s', k'⟩ := lay_stepB (v1 := some (.int most)) (v3 := some (.int fn)) (v4 := some (.int R)) (a8 := b8) (a9 := b9) (a10 := b10) (a11 := b11) hs (by omega) hf hf2 (by omega) L g1 ep (by omega) (by omega)
      exact .mk (μ := μ') rfl (.mk q ⟨_, .inl rfl, by omega, some (.int (1 + (i : Int))), c8, c9, c10, c11, ps', left', rfl, L', ep', s'.mono (by omega), hk.trans k'⟩))
  rw [Q.range_len, Nat.zero_add] at loop
  obtain ⟨f, μ2, w, ρ2, rfl, _, b7, b8, b9, b10, b11, ps, left, rfl, L, ep, s2, k2⟩ := loop
  have ht := L.tree
  rw [show R - 1 + 1 = R by omega] at ht
  have n0 := L.nar
  have f0 := L.fla
  have hl := L.len
  refine ⟨R, ps, μ2, run_is ?_, ⟨by omega, by omega, ⟨upTo R, .refl _, ht⟩, by omega, L.ok, fun p hp => ?_, by omega, by omega⟩, by omega, by omega, L.lng, s2.mono (by omega), ?_⟩
  · rw [houseB_eq]
    refine (seq_set (d := .int R) (μ1 := μ1) (by simp [startR, subD, q1, add_ok, hR])).trans ?_
    refine (seq_set (d := .ref μ1.length) (μ1 := μ1 ++ [.lst []]) (by simp)).trans ?_
    refine (seq_set (d := .int fn) (μ1 := μ1 ++ [.lst []]) (by simp [startR])).trans ?_
    refine (seq_run (for_run (ir2 (m := 1) (n := R) (e := mC (.int 1)) (f := mVar 4) rfl rfl (by omega) (by omega)) w)).trans ?_
    refine ret_is ?_
    simp [tupleL, ep, houseD, ρ]
  · have := L.rng p hp; omega
  · exact ((k1.trans Keep.app).mono (ex' := [k, μ1.length]) fun i hi => .inl (by simp at hi ⊢; omega)).trans k2 |>.mono fun i hi => by
      have := k1.1
      simp at hi ⊢; omega
end K12

namespace K12
open PySem L2 RW
/-! ### distances of rooms in a tree -/
/-- at room s, pipe p leads nearer to room r -/
def Cls' (g : Int → Int → Int) (r s : Int) (p : Pipe) : Prop := (p.a = s ∧ g r p.b + p.len = g r s) ∨ (p.b = s ∧ g r p.a + p.len = g r s)
structure Metric (g : Int → Int → Int) (S : List Int) (ps : List Pipe) : Prop where
  ends : ∀ p ∈ ps, p.a ∈ S ∧ p.b ∈ S ∧ p.a < p.b
  nd : ps.Nodup
  m0 : ∀ r ∈ S, g r r = 0
  ms : ∀ r ∈ S, ∀ s ∈ S, g r s = g s r
  mn : ∀ r ∈ S, ∀ s ∈ S, 0 ≤ g r s
  mp : ∀ r ∈ S, ∀ p ∈ ps, g r p.b = g r p.a + p.len ∨ g r p.a = g r p.b + p.len
  me : ∀ r ∈ S, ∀ s ∈ S, r ≠ s → ∃ p ∈ ps, Cls' g r s p
  mu : ∀ r ∈ S, ∀ s ∈ S, ∀ p ∈ ps, ∀ q ∈ ps, Cls' g r s p → Cls' g r s q → p = q
  side : ∀ p ∈ ps, ∀ q ∈ ps, p ≠ q → (g p.a q.a < g p.b q.a ↔ g p.a q.b < g p.b q.b)
/-- room x put on room y by a pipe of length l -/
def gX (g : Int → Int → Int) (x y l : Int) (u v : Int) : Int := if u = x then (if v = x then 0 else l + g y v) else if v = x then g u y + l else g u v
theorem mem_mid {p q : Pipe} {ps1 ps2 : List Pipe} : q ∈ ps1 ++ p :: ps2 ↔ q = p ∨ q ∈ ps1 ++ ps2 := by
  simp only [List.mem_append, List.mem_cons]
  constructor
  · rintro (h | h | h)
    · exact .inr (.inl h)
    · exact .inl h
    · exact .inr (.inr h)
  · rintro (h | h | h)
    · exact .inr (.inl h)
    · exact .inl h
    · exact .inr (.inr h)
section
variable {g : Int → Int → Int} {x y l u v : Int}
theorem gX_old (hu : u ≠ x) (hv : v ≠ x) : gX g x y l u v = g u v := by unfold gX; rw [if_neg hu, if_neg hv]
theorem gX_new (hv : v ≠ x) : gX g x y l x v = l + g y v := by unfold gX; rw [if_pos rfl, if_neg hv]
theorem gX_to (hu : u ≠ x) : gX g x y l u x = g u y + l := by unfold gX; rw [if_neg hu, if_pos rfl]
theorem gX_self : gX g x y l x x = 0 := by unfold gX; rw [if_pos rfl, if_pos rfl]
end
theorem Metric.grow {g : Int → Int → Int} {S : List Int} {ps1 ps2 : List Pipe} {p : Pipe} {x y : Int} (M : Metric g S (ps1 ++ ps2)) (hy : y ∈ S) (hx : x ∉ S) (he : (p.a = y ∧ p.b = x) ∨ (p.a = x ∧ p.b = y)) (hl : p.a < p.b) (h1 : 1 ≤ p.len) (hok : ∀ q ∈ ps1 ++ ps2, 1 ≤ q.len) :
    Metric (gX g x y p.len) (S ++ [x]) (ps1 ++ p :: ps2) := by
  have ne : ∀ {r : Int}, r ∈ S → r ≠ x := fun h e => hx (e ▸ h)
  have nyx : y ≠ x := ne hy
  have hm : ∀ {r : Int}, r ∈ S ++ [x] → r = x ∨ r ∈ S := fun h => by simp at h; exact h.symm
  have oldp : ∀ q ∈ ps1 ++ ps2, q ≠ p := fun q hq e => by
    obtain ⟨e1, e2, _⟩ := M.ends q hq
    rcases he with ⟨_, h⟩ | ⟨h, _⟩
    · exact hx (by rw [← h, ← e]; exact e2)
    · exact hx (by rw [← h, ← e]; exact e1)
  -- the new distances at old rooms
  have qO : ∀ {r s : Int}, r ∈ S → s ∈ S → gX g x y p.len r s = g r s := fun hr hs => gX_old (ne hr) (ne hs)
  have qN : ∀ {s : Int}, s ∈ S → gX g x y p.len x s = p.len + g y s := fun hs => gX_new (ne hs)
  have qT : ∀ {r : Int}, r ∈ S → gX g x y p.len r x = g r y + p.len := fun hr => gX_to (ne hr)
  -- closer by an old pipe at an old room
  have clsO : ∀ {r s : Int} {q : Pipe}, r ∈ S → s ∈ S → q ∈ ps1 ++ ps2 → (Cls' (gX g x y p.len) r s q ↔ Cls' g r s q) := fun {r s q} hr hs hq => by
    obtain ⟨e1, e2, _⟩ := M.ends q hq
    unfold Cls'
    rw [qO hr e2, qO hr e1, qO hr hs]
  have clsX : ∀ {s : Int} {q : Pipe}, s ∈ S → q ∈ ps1 ++ ps2 → (Cls' (gX g x y p.len) x s q ↔ Cls' g y s q) := fun {s q} hs hq => by
    obtain ⟨e1, e2, _⟩ := M.ends q hq
    unfold Cls'
    rw [qN e2, qN e1, qN hs]
    constructor
    · rintro (⟨h, h'⟩ | ⟨h, h'⟩)
      · exact .inl ⟨h, by omega⟩
      · exact .inr ⟨h, by omega⟩
    · rintro (⟨h, h'⟩ | ⟨h, h'⟩)
      · exact .inl ⟨h, by omega⟩
      · exact .inr ⟨h, by omega⟩
  -- old pipes don't touch x
  have notx : ∀ {q : Pipe} {r : Int}, q ∈ ps1 ++ ps2 → ¬ Cls' (gX g x y p.len) r x q := fun {q r} hq h => by
    obtain ⟨e1, e2, _⟩ := M.ends q hq
    rcases h with ⟨h, _⟩ | ⟨h, _⟩
    · exact hx (h ▸ e1)
    · exact hx (h ▸ e2)
  -- the new pipe is nearer only at x (for old r), at y (for x)
  have newO : ∀ {r s : Int}, r ∈ S → s ∈ S → ¬ Cls' (gX g x y p.len) r s p := fun {r s} hr hs h => by
    have hn := M.mn r hr y hy
    rcases he with ⟨ha, hb⟩ | ⟨ha, hb⟩
    · rcases h with ⟨h, h'⟩ | ⟨h, h'⟩
      · rw [hb, qT hr, ← h, ha, qO hr hy] at h'; omega
      · exact hx (by rw [← hb, h]; exact hs)
    · rcases h with ⟨h, h'⟩ | ⟨h, h'⟩
      · exact hx (by rw [← ha, h]; exact hs)
      · rw [ha, qT hr, ← h, hb, qO hr hy] at h'; omega
  refine ⟨fun q hq => ?_, ?_, fun r hr => ?_, fun r hr s hs => ?_, fun r hr s hs => ?_, fun r hr q hq => ?_, fun r hr s hs hne => ?_, fun r hr s hs q hq q' hq' c c' => ?_, fun q hq q' hq' hne => ?_⟩
  · have hm' := mem_mid.mp hq; clear hq; rcases hm' with rfl | hq
    · rcases he with ⟨ha, hb⟩ | ⟨ha, hb⟩
      · exact ⟨by rw [ha]; simp [hy], by rw [hb]; simp, hl⟩
      · exact ⟨by rw [ha]; simp, by rw [hb]; simp [hy], hl⟩
    · obtain ⟨e1, e2, e3⟩ := M.ends q hq
      exact ⟨by simp [e1], by simp [e2], e3⟩
  · have h2 := M.nd
    rw [List.nodup_append] at h2 ⊢
    refine ⟨h2.1, List.nodup_cons.mpr ⟨fun h => oldp p (by simp [h]) rfl, h2.2.1⟩, fun a ha b hb e => ?_⟩
    rcases List.mem_cons.mp hb with rfl | hb
    · exact oldp a (by simp [ha]) e
    · exact h2.2.2 a ha b hb e
  · have hm' := hm hr; clear hr; rcases hm' with rfl | hr
    · exact gX_self
    · rw [qO hr hr]; exact M.m0 r hr
  · have hm' := hm hr; clear hr; rcases hm' with rfl | hr
    · have hm' := hm hs; clear hs; rcases hm' with rfl | hs
      · rfl
      · rw [qN hs, qT hs, M.ms y hy s hs]; omega
    · have hm' := hm hs; clear hs; rcases hm' with rfl | hs
      · rw [qN hr, qT hr, M.ms r hr y hy]; omega
      · rw [qO hr hs, qO hs hr]; exact M.ms r hr s hs
  · have hm' := hm hr; clear hr; rcases hm' with rfl | hr
    · have hm' := hm hs; clear hs; rcases hm' with rfl | hs
      · rw [gX_self]; omega
      · rw [qN hs]; have := M.mn y hy s hs; omega
    · have hm' := hm hs; clear hs; rcases hm' with rfl | hs
      · rw [qT hr]; have := M.mn r hr y hy; omega
      · rw [qO hr hs]; exact M.mn r hr s hs
  · have hm' := mem_mid.mp hq; clear hq; rcases hm' with rfl | hq
    · have hm' := hm hr; clear hr; rcases hm' with rfl | hr
      · rcases he with ⟨ha, hb⟩ | ⟨ha, hb⟩
        · rw [ha, hb, gX_self, qN hy, M.m0 y hy]; exact .inr (by omega)
        · rw [ha, hb, gX_self, qN hy, M.m0 y hy]; exact .inl (by omega)
      · rcases he with ⟨ha, hb⟩ | ⟨ha, hb⟩
        · rw [ha, hb, qT hr, qO hr hy]; exact .inl rfl
        · rw [ha, hb, qT hr, qO hr hy]; exact .inr rfl
    · obtain ⟨e1, e2, _⟩ := M.ends q hq
      have hm' := hm hr; clear hr; rcases hm' with rfl | hr
      · rw [qN e1, qN e2]
        rcases M.mp y hy q hq with h | h
        · exact .inl (by omega)
        · exact .inr (by omega)
      · rw [qO hr e1, qO hr e2]; exact M.mp r hr q hq
  · have hm' := hm hr; clear hr; rcases hm' with rfl | hr
    · have hm' := hm hs; clear hs; rcases hm' with rfl | hs
      · exact absurd rfl hne
      · by_cases hsy : s = y
        · subst hsy
          refine ⟨p, mem_mid.mpr (.inl rfl), ?_⟩
          rcases he with ⟨ha, hb⟩ | ⟨ha, hb⟩
          · exact .inl ⟨ha, by rw [hb, gX_self, qN hs, M.m0 s hs]; omega⟩
          · exact .inr ⟨hb, by rw [ha, gX_self, qN hs, M.m0 s hs]; omega⟩
        · obtain ⟨q, hq, c⟩ := M.me y hy s hs (Ne.symm hsy)
          exact ⟨q, mem_mid.mpr (.inr hq), (clsX hs hq).mpr c⟩
    · have hm' := hm hs; clear hs; rcases hm' with rfl | hs
      · refine ⟨p, mem_mid.mpr (.inl rfl), ?_⟩
        rcases he with ⟨ha, hb⟩ | ⟨ha, hb⟩
        · exact .inr ⟨hb, by rw [ha, qO hr hy, qT hr]⟩
        · exact .inl ⟨ha, by rw [hb, qO hr hy, qT hr]⟩
      · obtain ⟨q, hq, c⟩ := M.me r hr s hs hne
        exact ⟨q, mem_mid.mpr (.inr hq), (clsO hr hs hq).mpr c⟩
  · -- only one
    have atX : ∀ {q : Pipe} {s : Int}, s ∈ S → Cls' (gX g x y p.len) x s p → s = y := fun {q s} hs h => by
      rcases he with ⟨ha, hb⟩ | ⟨ha, hb⟩
      · rcases h with ⟨h, _⟩ | ⟨h, _⟩
        · exact h.symm.trans ha
        · exact (hx (by rw [← hb, h]; exact hs)).elim
      · rcases h with ⟨h, _⟩ | ⟨h, _⟩
        · exact (hx (by rw [← ha, h]; exact hs)).elim
        · exact h.symm.trans hb
    have atY : ∀ {q : Pipe}, q ∈ ps1 ++ ps2 → ¬ Cls' g y y q := fun {q} hq h => by
      obtain ⟨e1, e2, _⟩ := M.ends q hq
      have hq1 := hok q hq
      rw [Cls', M.m0 y hy] at h
      rcases h with ⟨_, h⟩ | ⟨_, h⟩
      · have := M.mn y hy q.b e2; omega
      · have := M.mn y hy q.a e1; omega
    have hm' := mem_mid.mp hq; clear hq; rcases hm' with hq | hq
    · have hm' := mem_mid.mp hq'; clear hq'; rcases hm' with hq' | hq'
      · rw [hq, hq']
      · subst hq
        exfalso
        have hm' := hm hs; clear hs; rcases hm' with rfl | hs
        · exact notx hq' c'
        · have hm' := hm hr; clear hr; rcases hm' with rfl | hr
          · have e := atX (q := q) hs c
            subst e
            exact atY hq' ((clsX hs hq').mp c')
          · exact newO hr hs c
    · have hm' := mem_mid.mp hq'; clear hq'; rcases hm' with hq' | hq'
      · subst hq'
        exfalso
        have hm' := hm hs; clear hs; rcases hm' with rfl | hs
        · exact notx hq c
        · have hm' := hm hr; clear hr; rcases hm' with rfl | hr
          · have e := atX (q := q') hs c'
            subst e
            exact atY hq ((clsX hs hq).mp c)
          · exact newO hr hs c'
      · have hm' := hm hs; clear hs; rcases hm' with rfl | hs
        · exact (notx hq c).elim
        · have hm' := hm hr; clear hr; rcases hm' with rfl | hr
          · exact M.mu y hy s hs q hq q' hq' ((clsX hs hq).mp c) ((clsX hs hq').mp c')
          · exact M.mu r hr s hs q hq q' hq' ((clsO hr hs hq).mp c) ((clsO hr hs hq').mp c')
  · have hm' := mem_mid.mp hq; clear hq; rcases hm' with hq | hq
    · have hm' := mem_mid.mp hq'; clear hq'; rcases hm' with hq' | hq'
      · exact absurd (hq.trans hq'.symm) hne
      · obtain ⟨e1, e2, _⟩ := M.ends q' hq'
        rw [hq]
        rcases he with ⟨ha, hb⟩ | ⟨ha, hb⟩
        · rw [ha, hb, qN e1, qN e2, qO hy e1, qO hy e2]
          exact ⟨fun _ => by omega, fun _ => by omega⟩
        · rw [ha, hb, qN e1, qN e2, qO hy e1, qO hy e2]
          exact ⟨fun _ => by omega, fun _ => by omega⟩
    · obtain ⟨f1, f2, _⟩ := M.ends q hq
      have hm' := mem_mid.mp hq'; clear hq'; rcases hm' with hq' | hq'
      · rw [hq']
        rcases he with ⟨ha, hb⟩ | ⟨ha, hb⟩
        · rw [ha, hb, qT f1, qT f2, qO f1 hy, qO f2 hy]
          exact ⟨fun _ => by omega, fun _ => by omega⟩
        · rw [ha, hb, qT f1, qT f2, qO f1 hy, qO f2 hy]
          exact ⟨fun _ => by omega, fun _ => by omega⟩
      · obtain ⟨e1, e2, _⟩ := M.ends q' hq'
        rw [qO f1 e1, qO f2 e1, qO f1 e2, qO f2 e2]
        exact M.side q hq q' hq' hne
theorem Tree.metric {S : List Int} {ps : List Pipe} (t : Tree S ps) (hok : ∀ q ∈ ps, 1 ≤ q.len) : ∃ g, Metric g S ps := by
  induction t with
  | one x => exact ⟨fun _ _ => 0, by simp, .nil, fun _ _ => rfl, fun _ _ _ _ => rfl, fun _ _ _ _ => Int.le_refl _, by simp, fun r hr s hs hne => (hne (by simp at hr hs; rw [hr, hs])).elim, by simp, by simp⟩
  | @grow S ps1 ps2 p x y t hy hx he hl ih =>
    obtain ⟨g, M⟩ := ih fun q hq => hok q (mem_mid.mpr (.inr hq))
    exact ⟨_, M.grow hy hx he hl (hok p (mem_mid.mpr (.inl rfl))) fun q hq => hok q (mem_mid.mpr (.inr hq))⟩
end K12

namespace K12
open PySem L2 RW
/-! ### places -/
inductive Pl where
  | room (r : Int) | on (i : Nat) (k : Int)
  deriving DecidableEq
/-- the place k steps along pipe i -/
def ln (p : Pipe) (i : Nat) (k : Int) : Pl := if k = 0 then .room p.a else if k = p.len then .room p.b else .on i k
def hOf (g : Int → Int → Int) (ps : List Pipe) (a : Pl) (r : Int) : Int := match a with
  | .room s => g s r
  | .on i j => match ps[i]? with
    | some p => min (j + g p.a r) (p.len - j + g p.b r)
    | none => 0
def IsPl (S : List Int) (ps : List Pipe) : Pl → Prop
  | .room r => r ∈ S
  | .on i k => ∃ p, ps[i]? = some p ∧ 0 < k ∧ k < p.len
/-- pipe q at room x leads nearer to the place a -/
def Cl (h : Int → Int) (a : Pl) (q : Nat) (p : Pipe) (x : Int) : Prop := (p.a = x ∨ p.b = x) ∧ ((∃ j, a = .on q j) ∨ (p.a = x ∧ h p.b + p.len = h x) ∨ (p.b = x ∧ h p.a + p.len = h x))
structure Root (S : List Int) (ps : List Pipe) (a : Pl) (h : Int → Int) : Prop where
  h1 : ∀ q p, ps[q]? = some p → (∀ j, a ≠ .on q j) → h p.b = h p.a + p.len ∨ h p.a = h p.b + p.len
  h2 : ∀ i j p, a = .on i j → ps[i]? = some p → h p.a = j ∧ h p.b = p.len - j ∧ 0 < j ∧ j < p.len
  he : ∀ x ∈ S, a ≠ .room x → ∃ q p, ps[q]? = some p ∧ Cl h a q p x
  hu : ∀ x ∈ S, ∀ q p q' p', ps[q]? = some p → ps[q']? = some p' → Cl h a q p x → Cl h a q' p' x → q = q'
  h4 : ∀ x ∈ S, 0 ≤ h x ∧ (h x = 0 → a = .room x)
  h5 : ∀ s, a = .room s → h s = 0
theorem ix_inj {ps : List Pipe} (nd : ps.Nodup) {i j : Nat} {p : Pipe} (h : ps[i]? = some p) (h' : ps[j]? = some p) : i = j := by
  obtain ⟨h1, e1⟩ := List.getElem?_eq_some_iff.mp h
  obtain ⟨h2, e2⟩ := List.getElem?_eq_some_iff.mp h'
  exact (List.getElem_inj nd).mp (e1.trans e2.symm)
theorem root_room {g : Int → Int → Int} {S : List Int} {ps : List Pipe} (M : Metric g S ps) (hok : ∀ q ∈ ps, 1 ≤ q.len) {s : Int} (hs : s ∈ S) : Root S ps (.room s) (hOf g ps (.room s)) := by
  have cl : ∀ {x : Int} {q : Nat} {p : Pipe}, Cl (hOf g ps (.room s)) (.room s) q p x ↔ Cls' g s x p := fun {x q p} => by
    unfold Cl Cls'
    constructor
    · rintro ⟨_, ⟨_, h⟩ | h⟩
      · cases h
      · exact h
    · intro h
      exact ⟨h.imp (·.1) (·.1), .inr h⟩
  refine ⟨fun q p e _ => M.mp s hs p (List.mem_of_getElem? e), fun i j p e => (nomatch e), fun x hx hne => ?_, fun x hx q p q' p' e e' c c' => ?_, fun x hx => ⟨M.mn s hs x hx, fun h0 => ?_⟩, fun r e => by cases e; exact M.m0 s hs⟩
  · obtain ⟨p, hp, c⟩ := M.me s hs x hx (fun e => hne (by rw [e]))
    obtain ⟨q, e⟩ := List.mem_iff_getElem?.mp hp
    exact ⟨q, p, e, cl.mpr c⟩
  · have := M.mu s hs x hx p (List.mem_of_getElem? e) p' (List.mem_of_getElem? e') (cl.mp c) (cl.mp c')
    subst this
    exact ix_inj M.nd e e'
  · by_cases hsx : s = x
    · rw [hsx]
    · exfalso
      obtain ⟨p, hp, c⟩ := M.me s hs x hx hsx
      obtain ⟨e1, e2, _⟩ := M.ends p hp
      have := hok p hp
      have h0' : g s x = 0 := h0
      rcases c with ⟨_, c⟩ | ⟨_, c⟩
      · have := M.mn s hs p.b e2; omega
      · have := M.mn s hs p.a e1; omega
theorem root_on {g : Int → Int → Int} {S : List Int} {ps : List Pipe} (M : Metric g S ps) (hok : ∀ q ∈ ps, 1 ≤ q.len) {i : Nat} {j : Int} {P : Pipe} (hP : ps[i]? = some P) (j0 : 0 < j) (j1 : j < P.len) : Root S ps (.on i j) (hOf g ps (.on i j)) := by
  have hm := List.mem_of_getElem? hP
  obtain ⟨hu, hv, _⟩ := M.ends P hm
  have hh : ∀ r, hOf g ps (.on i j) r = min (j + g P.a r) (P.len - j + g P.b r) := fun r => by simp only [hOf, hP]
  have guv : g P.a P.b = P.len := by
    have := M.mp P.a hu P hm
    rw [M.m0 P.a hu] at this
    have := M.mn P.a hu P.b hv
    have := hok P hm
    omega
  have gvu : g P.b P.a = P.len := by rw [M.ms P.b hv P.a hu]; exact guv
  -- the two sides
  have side : ∀ r ∈ S, (g P.b r = g P.a r + P.len ∧ hOf g ps (.on i j) r = j + g P.a r) ∨ (g P.a r = g P.b r + P.len ∧ hOf g ps (.on i j) r = P.len - j + g P.b r) := fun r hr => by
    rw [hh]
    have h1 := M.mp r hr P hm
    rw [M.ms r hr P.b hv, M.ms r hr P.a hu] at h1
    rcases h1 with h1 | h1
    · exact .inl ⟨h1, by omega⟩
    · exact .inr ⟨h1, by omega⟩
  have same : ∀ p ∈ ps, p ≠ P → (g P.a p.a < g P.b p.a ↔ g P.a p.b < g P.b p.b) := fun p hp hne => M.side P hm p hp (Ne.symm hne)
  have hl := hok P hm
  -- of another pipe: both ends on one side
  have both : ∀ p ∈ ps, p ≠ P → ∃ (w : Int) (c : Int), w ∈ S ∧ (w = P.a ∨ w = P.b) ∧ 0 < c ∧ hOf g ps (.on i j) p.a = c + g w p.a ∧ hOf g ps (.on i j) p.b = c + g w p.b := fun p hp hne => by
    obtain ⟨e1, e2, _⟩ := M.ends p hp
    have hs := same p hp hne
    rcases side p.a e1 with ⟨a1, a2⟩ | ⟨a1, a2⟩
    · rcases side p.b e2 with ⟨b1, b2⟩ | ⟨b1, b2⟩
      · exact ⟨P.a, j, hu, .inl rfl, j0, a2, b2⟩
      · exfalso; have : g P.a p.a < g P.b p.a := by omega
        have := hs.mp this; omega
    · rcases side p.b e2 with ⟨b1, b2⟩ | ⟨b1, b2⟩
      · exfalso; have : g P.a p.b < g P.b p.b := by omega
        have := hs.mpr this; omega
      · exact ⟨P.b, P.len - j, hv, .inr rfl, by omega, a2, b2⟩
  have hpos : ∀ x ∈ S, 0 < hOf g ps (.on i j) x := fun x hx => by
    have g1 := M.mn P.a hu x hx
    have g2 := M.mn P.b hv x hx
    rw [hh]; omega
  have hua : hOf g ps (.on i j) P.a = j := by rw [hh, M.m0 P.a hu, gvu]; omega
  have hvb : hOf g ps (.on i j) P.b = P.len - j := by rw [hh, M.m0 P.b hv, guv]; omega
  have other : ∀ {q : Nat} {p : Pipe}, ps[q]? = some p → q ≠ i → p ≠ P := fun {q p} e hq hp => hq (ix_inj M.nd (hp ▸ e) hP)
  have clO : ∀ {x : Int} {q : Nat} {p : Pipe}, ps[q]? = some p → q ≠ i → Cl (hOf g ps (.on i j)) (.on i j) q p x → (p.a = x ∧ hOf g ps (.on i j) p.b + p.len = hOf g ps (.on i j) x) ∨ (p.b = x ∧ hOf g ps (.on i j) p.a + p.len = hOf g ps (.on i j) x) := fun {x q p} e hq ⟨_, c⟩ => by
    rcases c with ⟨_, c⟩ | c
    · cases c; exact absurd rfl hq
    · exact c
  -- closer by another pipe: closer to w, with x on w's side
  have near : ∀ {x : Int} {q : Nat} {p : Pipe}, x ∈ S → ps[q]? = some p → q ≠ i → Cl (hOf g ps (.on i j)) (.on i j) q p x → ∃ w c, w ∈ S ∧ (w = P.a ∨ w = P.b) ∧ hOf g ps (.on i j) x = c + g w x ∧ Cls' g w x p ∧ 0 < c ∧ x ≠ w := fun {x q p} hx e hq c => by
    have hp := List.mem_of_getElem? e
    obtain ⟨e1, e2, _⟩ := M.ends p hp
    have hl := hok p hp
    obtain ⟨w, c', hw, hw2, c0, a1, a2⟩ := both p hp (other e hq)
    rcases clO e hq c with ⟨h, h'⟩ | ⟨h, h'⟩
    · subst h
      have := M.mn w hw p.b e2
      exact ⟨w, c', hw, hw2, a1, .inl ⟨rfl, by omega⟩, c0, fun z => absurd (show g w p.a = 0 from (congrArg (g w) z).trans (M.m0 w hw)) (by omega)⟩
    · subst h
      have := M.mn w hw p.a e1
      exact ⟨w, c', hw, hw2, a2, .inr ⟨rfl, by omega⟩, c0, fun z => absurd (show g w p.b = 0 from (congrArg (g w) z).trans (M.m0 w hw)) (by omega)⟩
  refine ⟨fun q p e hne => ?_, fun i' j' p e ep => ?_, fun x hx _ => ?_, fun x hx q p q' p' e e' c c' => ?_, fun x hx => ⟨Int.le_of_lt (hpos x hx), fun h0 => by have := hpos x hx; omega⟩, fun s e => nomatch e⟩
  · have hp := List.mem_of_getElem? e
    obtain ⟨w, c, hw, _, _, a1, a2⟩ := both p hp (other e fun z => hne j (by rw [z]))
    rw [a1, a2]
    rcases M.mp w hw p hp with h | h
    · exact .inl (by omega)
    · exact .inr (by omega)
  · cases e
    rw [hP] at ep; cases ep
    exact ⟨hua, hvb, j0, j1⟩
  · by_cases hxu : x = P.a
    · exact ⟨i, P, hP, .inl hxu.symm, .inl ⟨j, rfl⟩⟩
    · by_cases hxv : x = P.b
      · exact ⟨i, P, hP, .inr hxv.symm, .inl ⟨j, rfl⟩⟩
      · have find : ∀ w ∈ S, (w = P.a ∨ w = P.b) → ∀ c, hOf g ps (.on i j) x = c + g w x → (∀ p ∈ ps, p ≠ P → Cls' g w x p → (p.a = x → hOf g ps (.on i j) p.b = c + g w p.b) ∧ (p.b = x → hOf g ps (.on i j) p.a = c + g w p.a)) → ∃ q p, ps[q]? = some p ∧ Cl (hOf g ps (.on i j)) (.on i j) q p x := fun w hw hw2 c hc hb => by
          obtain ⟨p, hp, cl⟩ := M.me w hw x hx (fun z => by rcases hw2 with h | h <;> (rw [h] at z; first | exact hxu z.symm | exact hxv z.symm))
          have hpP : p ≠ P := fun z => by
            subst z
            rcases cl with ⟨h, _⟩ | ⟨h, _⟩
            · exact hxu h.symm
            · exact hxv h.symm
          obtain ⟨q, e⟩ := List.mem_iff_getElem?.mp hp
          obtain ⟨b1, b2⟩ := hb p hp hpP cl
          rcases cl with ⟨h, h'⟩ | ⟨h, h'⟩
          · exact ⟨q, p, e, .inl h, .inr (.inl ⟨h, by rw [b1 h, hc]; omega⟩)⟩
          · exact ⟨q, p, e, .inr h, .inr (.inr ⟨h, by rw [b2 h, hc]; omega⟩)⟩
        rcases side x hx with ⟨a1, a2⟩ | ⟨a1, a2⟩
        · refine find P.a hu (.inl rfl) j a2 fun p hp hne _ => ?_
          obtain ⟨e1, e2, _⟩ := M.ends p hp
          have hs := same p hp hne
          refine ⟨fun h => ?_, fun h => ?_⟩
          · rw [h] at hs
            have := hs.mp (by omega)
            rcases side p.b e2 with ⟨b1, b2⟩ | ⟨b1, b2⟩
            · exact b2
            · omega
          · rw [h] at hs
            have := hs.mpr (by omega)
            rcases side p.a e1 with ⟨b1, b2⟩ | ⟨b1, b2⟩
            · exact b2
            · omega
        · refine find P.b hv (.inr rfl) (P.len - j) a2 fun p hp hne _ => ?_
          obtain ⟨e1, e2, _⟩ := M.ends p hp
          have hs := same p hp hne
          refine ⟨fun h => ?_, fun h => ?_⟩
          · rw [h] at hs
            rcases side p.b e2 with ⟨b1, b2⟩ | ⟨b1, b2⟩
            · have := hs.mpr (by omega); omega
            · exact b2
          · rw [h] at hs
            rcases side p.a e1 with ⟨b1, b2⟩ | ⟨b1, b2⟩
            · have := hs.mp (by omega); omega
            · exact b2
  · -- only one
    have at_end : ∀ {x : Int}, (P.a = x ∨ P.b = x) → ∀ {w c : Int}, w ∈ S → (w = P.a ∨ w = P.b) → hOf g ps (.on i j) x = c + g w x → 0 < c → x ≠ w → x ∈ S → (∃ p ∈ ps, Cls' g w x p ∧ p ≠ P) → False := fun {x} hxe {w c} hw hw2 hc c0 hne hx ⟨p, hp, cl, hpP⟩ => by
      -- x and w are the two ends of P: P itself is closer at x
      have : Cls' g w x P := by
        rcases hxe with rfl | rfl
        · rcases hw2 with rfl | rfl
          · exact absurd rfl hne
          · exact .inl ⟨rfl, by rw [M.m0 P.b hv, gvu]; omega⟩
        · rcases hw2 with rfl | rfl
          · exact .inr ⟨rfl, by rw [M.m0 P.a hu, guv]; omega⟩
          · exact absurd rfl hne
      exact hpP (M.mu w hw x hx p hp P hm cl this)
    by_cases hq : q = i
    · by_cases hq' : q' = i
      · rw [hq, hq']
      · exfalso
        subst hq
        rw [hP] at e; cases e
        obtain ⟨w, cc, hw, hw2, hc, cl, c0, hne⟩ := near hx e' hq' c'
        exact at_end c.1 hw hw2 hc c0 hne hx ⟨p', List.mem_of_getElem? e', cl, other e' hq'⟩
    · by_cases hq' : q' = i
      · exfalso
        subst hq'
        rw [hP] at e'; cases e'
        obtain ⟨w, cc, hw, hw2, hc, cl, c0, hne⟩ := near hx e hq c
        exact at_end c'.1 hw hw2 hc c0 hne hx ⟨p, List.mem_of_getElem? e, cl, other e hq⟩
      · have hp := List.mem_of_getElem? e
        have hp' := List.mem_of_getElem? e'
        -- both on x's side
        have key : ∀ {q : Nat} {p : Pipe}, ps[q]? = some p → q ≠ i → Cl (hOf g ps (.on i j)) (.on i j) q p x → ∀ w ∈ S, (w = P.a ∨ w = P.b) → ∀ c, hOf g ps (.on i j) x = c + g w x → ((w = P.a ∧ g P.b x = g P.a x + P.len ∧ c = j) ∨ (w = P.b ∧ g P.a x = g P.b x + P.len ∧ c = P.len - j)) → Cls' g w x p := fun {q p} e hq cl w hw hw2 c hc hside => by
          have hp := List.mem_of_getElem? e
          obtain ⟨e1, e2, _⟩ := M.ends p hp
          have hs := same p hp (other e hq)
          rcases clO e hq cl with ⟨h, h'⟩ | ⟨h, h'⟩
          · refine .inl ⟨h, ?_⟩
            rw [h] at hs
            rcases hside with ⟨rfl, s1, s2⟩ | ⟨rfl, s1, s2⟩
            · have := hs.mp (by omega)
              rcases side p.b e2 with ⟨b1, b2⟩ | ⟨b1, b2⟩
              · omega
              · omega
            · rcases side p.b e2 with ⟨b1, b2⟩ | ⟨b1, b2⟩
              · have := hs.mpr (by omega); omega
              · omega
          · refine .inr ⟨h, ?_⟩
            rw [h] at hs
            rcases hside with ⟨rfl, s1, s2⟩ | ⟨rfl, s1, s2⟩
            · have := hs.mpr (by omega)
              rcases side p.a e1 with ⟨b1, b2⟩ | ⟨b1, b2⟩
              · omega
              · omega
            · rcases side p.a e1 with ⟨b1, b2⟩ | ⟨b1, b2⟩
              · have := hs.mp (by omega); omega
              · omega
        have done : p = p' := by
          rcases side x hx with ⟨a1, a2⟩ | ⟨a1, a2⟩
          · exact M.mu P.a hu x hx p hp p' hp' (key e hq c P.a hu (.inl rfl) j a2 (.inl ⟨rfl, a1, rfl⟩)) (key e' hq' c' P.a hu (.inl rfl) j a2 (.inl ⟨rfl, a1, rfl⟩))
          · exact M.mu P.b hv x hx p hp p' hp' (key e hq c P.b hv (.inr rfl) _ a2 (.inr ⟨rfl, a1, rfl⟩)) (key e' hq' c' P.b hv (.inr rfl) _ a2 (.inr ⟨rfl, a1, rfl⟩))
        subst done
        exact ix_inj M.nd e e'
end K12

namespace K12
open PySem L2 RW
/-! ### the distance from a place to the places -/
def lane (h : Int → Int) (a : Pl) (q : Nat) (p : Pipe) (k : Int) : Int := match a with
  | .on i j => if i = q then (if j ≤ k then k - j else j - k) else min (h p.a + k) (h p.b + p.len - k)
  | .room _ => min (h p.a + k) (h p.b + p.len - k)
def fOf (h : Int → Int) (ps : List Pipe) (a x : Pl) : Int := match x with
  | .room r => h r
  | .on q k => match ps[q]? with
    | some p => lane h a q p k
    | none => 0
/-- places one step apart -/
def E (ps : List Pipe) (x y : Pl) : Prop := ∃ q p k, ps[q]? = some p ∧ 0 ≤ k ∧ k < p.len ∧ ((x = ln p q k ∧ y = ln p q (k + 1)) ∨ (x = ln p q (k + 1) ∧ y = ln p q k))
section
variable {S : List Int} {ps : List Pipe} {a : Pl} {h : Int → Int} {q : Nat} {p : Pipe} {k : Int}
theorem lane_own {j : Int} (e : a = .on q j) : lane h a q p k = if j ≤ k then k - j else j - k := by subst e; simp [lane]
theorem lane_far (hn : ∀ j, a ≠ .on q j) : lane h a q p k = min (h p.a + k) (h p.b + p.len - k) := by
  cases a with
  | room r => rfl
  | on i j =>
    have : i ≠ q := fun e => hn j (by rw [e])
    simp [lane, this]
theorem own_or (a : Pl) (q : Nat) : (∃ j, a = .on q j) ∨ ∀ j, a ≠ .on q j := by
  cases a with
  | room r => exact .inr fun j e => nomatch e
  | on i j =>
    by_cases h : i = q
    · exact .inl ⟨j, by rw [h]⟩
    · exact .inr fun j' e => by cases e; exact h rfl
theorem ln_0 : ln p q 0 = .room p.a := by simp [ln]
theorem ln_len (h1 : 1 ≤ p.len) : ln p q p.len = .room p.b := by unfold ln; rw [if_neg (by omega), if_pos rfl]
theorem ln_on (h0 : 0 < k) (h1 : k < p.len) : ln p q k = .on q k := by unfold ln; rw [if_neg (by omega), if_neg (by omega)]
theorem f_ln (R : Root S ps a h) (e : ps[q]? = some p) (hl : 1 ≤ p.len) (h0 : 0 ≤ k) (h1 : k ≤ p.len) : fOf h ps a (ln p q k) = lane h a q p k := by
  by_cases hk : k = 0
  · subst hk
    rw [ln_0]
    show h p.a = _
    rcases own_or a q with ⟨j, ea⟩ | hn
    · obtain ⟨g1, g2, g3, g4⟩ := R.h2 q j p ea e
      rw [lane_own ea, if_neg (by omega), g1]; omega
    · rw [lane_far hn]
      rcases R.h1 q p e hn with g | g <;> omega
  · by_cases hk2 : k = p.len
    · subst hk2
      rw [ln_len hl]
      show h p.b = _
      rcases own_or a q with ⟨j, ea⟩ | hn
      · obtain ⟨g1, g2, g3, g4⟩ := R.h2 q j p ea e
        rw [lane_own ea, if_pos (by omega), g2]
      · rw [lane_far hn]
        rcases R.h1 q p e hn with g | g <;> omega
    · rw [ln_on (by omega) (by omega)]
      simp only [fOf, e]
/-- along a pipe: one up or one down -/
theorem lane_step (R : Root S ps a h) (e : ps[q]? = some p) (h0 : 0 ≤ k) (h1 : k < p.len) : lane h a q p (k + 1) = lane h a q p k + 1 ∨ lane h a q p (k + 1) = lane h a q p k - 1 := by
  rcases own_or a q with ⟨j, ea⟩ | hn
  · rw [lane_own ea, lane_own ea]
    by_cases hj : j ≤ k
    · rw [if_pos hj, if_pos (by omega)]; exact .inl (by omega)
    · rw [if_neg hj]
      by_cases hj2 : j ≤ k + 1
      · rw [if_pos hj2]; exact .inr (by omega)
      · rw [if_neg hj2]; exact .inr (by omega)
  · rw [lane_far hn, lane_far hn]
    rcases R.h1 q p e hn with g | g
    · exact .inl (by omega)
    · exact .inr (by omega)
/-- never down on both sides -/
theorem lane_cave (R : Root S ps a h) (e : ps[q]? = some p) (h0 : 0 < k) (h1 : k < p.len) (d1 : lane h a q p (k + 1) = lane h a q p k - 1) (d2 : lane h a q p (k - 1) = lane h a q p k - 1) : False := by
  rcases own_or a q with ⟨j, ea⟩ | hn
  · rw [lane_own ea, lane_own ea] at d1 d2
    split at d1 <;> split at d1 <;> split at d2 <;> omega
  · rw [lane_far hn, lane_far hn] at d1 d2
    rcases R.h1 q p e hn with g | g <;> omega
theorem ln_pl (hS : p.a ∈ S ∧ p.b ∈ S) (e : ps[q]? = some p) (h0 : 0 ≤ k) (h1 : k ≤ p.len) : IsPl S ps (ln p q k) := by
  unfold ln
  split
  · exact hS.1
  · split
    · exact hS.2
    · exact ⟨p, e, by omega, by omega⟩
theorem E.pl (hS : ∀ p ∈ ps, p.a ∈ S ∧ p.b ∈ S) {x y : Pl} (he : E ps x y) : IsPl S ps x ∧ IsPl S ps y := by
  obtain ⟨q, p, k, e, h0, h1, ⟨rfl, rfl⟩ | ⟨rfl, rfl⟩⟩ := he
  · exact ⟨ln_pl (hS p (List.mem_of_getElem? e)) e h0 (by omega), ln_pl (hS p (List.mem_of_getElem? e)) e (by omega) (by omega)⟩
  · exact ⟨ln_pl (hS p (List.mem_of_getElem? e)) e (by omega) (by omega), ln_pl (hS p (List.mem_of_getElem? e)) e h0 (by omega)⟩
theorem E.symm {x y : Pl} (he : E ps x y) : E ps y x := by
  obtain ⟨q, p, k, e, h0, h1, h⟩ := he
  exact ⟨q, p, k, e, h0, h1, h.symm.imp (fun h => ⟨h.2, h.1⟩) (fun h => ⟨h.2, h.1⟩)⟩
/-- neighbours of a place along a pipe -/
theorem E_on {k : Int} {y : Pl} (e : ps[q]? = some p) (h0 : 0 < k) (h1 : k < p.len) (he : E ps (.on q k) y) : y = ln p q (k + 1) ∨ y = ln p q (k - 1) := by
  obtain ⟨q', p', k', e', g0, g1, ⟨hx, hy⟩ | ⟨hx, hy⟩⟩ := he
  · unfold ln at hx
    split at hx
    · cases hx
    · split at hx
      · cases hx
      · cases hx
        rw [e] at e'; cases e'
        exact .inl hy
  · unfold ln at hx
    split at hx
    · cases hx
    · split at hx
      · cases hx
      · cases hx
        rw [e] at e'; cases e'
        exact .inr (by rw [hy]; congr 1; omega)
/-- neighbours of a room -/
theorem E_room (hl : ∀ p ∈ ps, 1 ≤ p.len) {r : Int} {y : Pl} (he : E ps (.room r) y) : ∃ q p, ps[q]? = some p ∧ ((p.a = r ∧ y = ln p q 1) ∨ (p.b = r ∧ y = ln p q (p.len - 1))) := by
  obtain ⟨q, p, k, e, g0, g1, ⟨hx, hy⟩ | ⟨hx, hy⟩⟩ := he
  · unfold ln at hx
    split at hx
    · cases hx
      rename_i hk
      subst hk
      exact ⟨q, p, e, .inl ⟨rfl, by simpa using hy⟩⟩
    · split at hx
      · cases hx; omega
      · cases hx
  · have := hl p (List.mem_of_getElem? e)
    unfold ln at hx
    split at hx
    · cases hx; omega
    · split at hx
      · cases hx
        rename_i hk
        exact ⟨q, p, e, .inr ⟨rfl, by rw [hy]; congr 1; omega⟩⟩
      · cases hx
/-- what a walk that begins at a asks of a distance f -/
structure Dist (S : List Int) (ps : List Pipe) (a : Pl) (f : Pl → Int) : Prop where
  f0 : f a = 0
  pos : ∀ x, IsPl S ps x → 0 ≤ f x
  step : ∀ x y, E ps x y → f y = f x + 1 ∨ f y = f x - 1
  ex : ∀ x, IsPl S ps x → x ≠ a → ∃ y, E ps x y ∧ f y = f x - 1
  un : ∀ x y y', IsPl S ps x → E ps x y → E ps x y' → f y = f x - 1 → f y' = f x - 1 → y = y'
theorem dist_of (R : Root S ps a h) (hl : ∀ p ∈ ps, 1 ≤ p.len) (hS : ∀ p ∈ ps, p.a ∈ S ∧ p.b ∈ S ∧ p.a < p.b) (ha : IsPl S ps a) : Dist S ps a (fOf h ps a) := by
  have L : ∀ {q : Nat} {p : Pipe}, ps[q]? = some p → 1 ≤ p.len := fun e => hl _ (List.mem_of_getElem? e)
  -- a pipe at a room leads nearer there
  have near : ∀ {r : Int} {q : Nat} {p : Pipe} {y : Pl}, ps[q]? = some p → ((p.a = r ∧ y = ln p q 1) ∨ (p.b = r ∧ y = ln p q (p.len - 1))) → (Cl h a q p r ↔ fOf h ps a y = h r - 1) := fun {r q p y} e hy => by
    have hl1 := L e
    rcases hy with ⟨rfl, rfl⟩ | ⟨rfl, rfl⟩
    · rw [f_ln R e hl1 (by omega) (by omega)]
      rcases own_or a q with ⟨j, ea⟩ | hn
      · obtain ⟨g1, g2, g3, g4⟩ := R.h2 q j p ea e
        rw [lane_own ea]
        refine ⟨fun _ => ?_, fun _ => ⟨.inl rfl, .inl ⟨j, ea⟩⟩⟩
        split <;> omega
      · rw [lane_far hn]
        refine ⟨fun ⟨_, c⟩ => ?_, fun c => ⟨.inl rfl, .inr (.inl ⟨rfl, ?_⟩)⟩⟩
        · rcases c with ⟨j, ea⟩ | ⟨_, c⟩ | ⟨c, _⟩
          · exact absurd ea (hn j)
          · omega
          · obtain ⟨_, _, h3⟩ := hS p (List.mem_of_getElem? e); omega
        · rcases R.h1 q p e hn with g | g <;> omega
    · rw [f_ln R e hl1 (by omega) (by omega)]
      rcases own_or a q with ⟨j, ea⟩ | hn
      · obtain ⟨g1, g2, g3, g4⟩ := R.h2 q j p ea e
        rw [lane_own ea]
        refine ⟨fun _ => ?_, fun _ => ⟨.inr rfl, .inl ⟨j, ea⟩⟩⟩
        split <;> omega
      · rw [lane_far hn]
        refine ⟨fun ⟨_, c⟩ => ?_, fun c => ⟨.inr rfl, .inr (.inr ⟨rfl, ?_⟩)⟩⟩
        · rcases c with ⟨j, ea⟩ | ⟨c, _⟩ | ⟨_, c⟩
          · exact absurd ea (hn j)
          · obtain ⟨_, _, h3⟩ := hS p (List.mem_of_getElem? e); omega
          · omega
        · rcases R.h1 q p e hn with g | g <;> omega
  refine ⟨?_, fun x hx => ?_, fun x y he => ?_, fun x hx hne => ?_, fun x y y' hx he he' d d' => ?_⟩
  · cases a with
    | room s => exact R.h5 s rfl
    | on i j =>
      obtain ⟨p, e, _, _⟩ := ha
      simp only [fOf, e]
      rw [lane_own rfl, if_pos (Int.le_refl _)]; omega
  · cases x with
    | room r => exact (R.h4 r hx).1
    | on q k =>
      obtain ⟨p, e, h0, h1⟩ := hx
      simp only [fOf, e]
      rcases own_or a q with ⟨j, ea⟩ | hn
      · rw [lane_own ea]; split <;> omega
      · obtain ⟨e1, e2, _⟩ := hS p (List.mem_of_getElem? e)
        have := (R.h4 _ e1).1
        have := (R.h4 _ e2).1
        rw [lane_far hn]; omega
  · obtain ⟨q, p, k, e, h0, h1, ⟨rfl, rfl⟩ | ⟨rfl, rfl⟩⟩ := he
    · rw [f_ln R e (L e) h0 (by omega), f_ln R e (L e) (by omega) (by omega)]
      exact lane_step R e h0 h1
    · rw [f_ln R e (L e) h0 (by omega), f_ln R e (L e) (by omega) (by omega)]
      rcases lane_step R e h0 h1 with g | g
      · exact .inr (by omega)
      · exact .inl (by omega)
  · cases x with
    | room r =>
      obtain ⟨q, p, e, c⟩ := R.he r hx (Ne.symm hne)
      have hl1 := L e
      rcases c.1 with hr | hr
      · exact ⟨ln p q 1, ⟨q, p, 0, e, by omega, by omega, .inl ⟨by rw [ln_0, hr], rfl⟩⟩, (near e (.inl ⟨hr, rfl⟩)).mp c⟩
      · exact ⟨ln p q (p.len - 1), ⟨q, p, p.len - 1, e, by omega, by omega, .inr ⟨by rw [show p.len - 1 + 1 = p.len by omega, ln_len hl1, hr], rfl⟩⟩, (near e (.inr ⟨hr, rfl⟩)).mp c⟩
    | on q k =>
      obtain ⟨p, e, h0, h1⟩ := hx
      have hl1 := L e
      have up : E ps (.on q k) (ln p q (k + 1)) := ⟨q, p, k, e, by omega, h1, .inl ⟨(ln_on h0 h1).symm, rfl⟩⟩
      have dn : E ps (.on q k) (ln p q (k - 1)) := ⟨q, p, k - 1, e, by omega, by omega, .inr ⟨by rw [show k - 1 + 1 = k by omega, ln_on h0 h1], rfl⟩⟩
      have fx : fOf h ps a (.on q k) = lane h a q p k := by simp only [fOf, e]
      rcases own_or a q with ⟨j, ea⟩ | hn
      · by_cases hj : j < k
        · refine ⟨_, dn, ?_⟩
          rw [fx, f_ln R e hl1 (by omega) (by omega), lane_own ea, lane_own ea, if_pos (by omega), if_pos (by omega)]; omega
        · have hjk : j ≠ k := fun z => hne (by rw [ea, z])
          refine ⟨_, up, ?_⟩
          rw [fx, f_ln R e hl1 (by omega) (by omega), lane_own ea, lane_own ea]
          split <;> split <;> omega
      · rcases R.h1 q p e hn with g | g
        · refine ⟨_, dn, ?_⟩
          rw [fx, f_ln R e hl1 (by omega) (by omega), lane_far hn, lane_far hn]; omega
        · refine ⟨_, up, ?_⟩
          rw [fx, f_ln R e hl1 (by omega) (by omega), lane_far hn, lane_far hn]; omega
  · cases x with
    | room r =>
      obtain ⟨q, p, e, c⟩ := E_room hl he
      obtain ⟨q', p', e', c'⟩ := E_room hl he'
      have hq := R.hu r hx q p q' p' e e' ((near e c).mpr d) ((near e' c').mpr d')
      subst hq
      rw [e] at e'; cases e'
      obtain ⟨_, _, h3⟩ := hS p (List.mem_of_getElem? e)
      rcases c with ⟨c1, c2⟩ | ⟨c1, c2⟩
      · rcases c' with ⟨c3, c4⟩ | ⟨c3, c4⟩
        · rw [c2, c4]
        · omega
      · rcases c' with ⟨c3, c4⟩ | ⟨c3, c4⟩
        · omega
        · rw [c2, c4]
    | on q k =>
      obtain ⟨p, e, h0, h1⟩ := hx
      have hl1 := L e
      have fx : fOf h ps a (.on q k) = lane h a q p k := by simp only [fOf, e]
      rw [fx] at d d'
      rcases E_on e h0 h1 he with rfl | rfl
      · rcases E_on e h0 h1 he' with rfl | rfl
        · rfl
        · rw [f_ln R e hl1 (by omega) (by omega)] at d d'
          exact (lane_cave R e h0 h1 d d').elim
      · rcases E_on e h0 h1 he' with rfl | rfl
        · rw [f_ln R e hl1 (by omega) (by omega)] at d d'
          exact (lane_cave R e h0 h1 d' d).elim
        · rfl
end
end K12

namespace K12
open PySem L2 RW
def Pl.d : Pl → D
  | .room r => .tup [.int r]
  | .on i k => .tup [.int i, .int k]
theorem Pl.nk (x : Pl) : x.d.nk? = some (match x with
  | .room r => .tup [.num r]
  | .on i k => .tup [.num i, .num k]) := by cases x <;> rfl
theorem Pl.nk_inj {x y : Pl} : x.d.nk? = y.d.nk? ↔ x = y := by
  rw [Pl.nk, Pl.nk]
  cases x <;> cases y <;> simp
  intro _; exact Int.ofNat_inj
theorem Pl.isT (x : Pl) : RW.isT x.d = true := by cases x <;> rfl
/-! ### places beside places, as a dict -/
def getA : List (Pl × List Pl) → Pl → Option (List Pl)
  | [], _ => none
  | (a, ys) :: r, x => if a = x then some ys else getA r x
def repA (x : Pl) (ys : List Pl) : List (Pl × List Pl) → List (Pl × List Pl)
  | [] => []
  | (a, zs) :: r => (if a = x then (a, ys) else (a, zs)) :: repA x ys r
def putA (adj : List (Pl × List Pl)) (x : Pl) (ys : List Pl) : List (Pl × List Pl) := if (getA adj x).isSome = true then repA x ys adj else adj ++ [(x, ys)]
def Cellp (μ : Mem) (F : Nat) : D × D → Pl × List Pl → Prop := fun p x => p.1 = x.1.d ∧ ∃ n, p.2 = .ref n ∧ n ≠ F ∧ μ[n]? = some (.lst (x.2.map Pl.d))
structure Adj (μ : Mem) (F : Nat) (l : List (D × D)) (adj : List (Pl × List Pl)) : Prop where
  at_ : μ[F]? = some (.tdic l)
  pr : Paired (Cellp μ F) l adj
theorem adj_get {μ : Mem} {F : Nat} {x : Pl} : ∀ {l : List (D × D)} {adj : List (Pl × List Pl)}, Paired (Cellp μ F) l adj → (dGet l x.d = none ∧ getA adj x = none) ∨ ∃ n ys, dGet l x.d = some (.ref n) ∧ getA adj x = some ys ∧ n ≠ F ∧ μ[n]? = some (.lst (ys.map Pl.d))
  | _, _, .nil => .inl ⟨rfl, rfl⟩
  | (a, d) :: l, (z, ys) :: adj, .cons ⟨h1, n, h2, h3, h4⟩ t => by
    have h1 : a = z.d := h1
    have h2 : d = .ref n := h2
    subst h1 h2
    by_cases hz : z = x
    · exact .inr ⟨n, ys, by simp [dGet, hz], by simp [getA, hz], h3, h4⟩
    · have hne : ¬ (z.d.nk? = x.d.nk?) := fun e => hz (Pl.nk_inj.mp e)
      rcases adj_get (x := x) t with ⟨g1, g2⟩ | ⟨n', ys', g1, g2, g3, g4⟩
      · exact .inl ⟨by simp [dGet, hne, g1], by simp [getA, hz, g2]⟩
      · exact .inr ⟨n', ys', by simp [dGet, hne, g1], by simp [getA, hz, g2], g3, g4⟩
theorem adj_rep {μ : Mem} {F n : Nat} {x : Pl} {ys : List Pl} (hn : n ≠ F) (e : μ[n]? = some (.lst (ys.map Pl.d))) : ∀ {l : List (D × D)} {adj : List (Pl × List Pl)}, Paired (Cellp μ F) l adj → Paired (Cellp μ F) (dRep x.d (.ref n) l) (repA x ys adj)
  | _, _, .nil => .nil
  | (a, d) :: l, (z, zs) :: adj, .cons ⟨h1, m, h2, h3, h4⟩ t => by
    have h1 : a = z.d := h1
    subst h1
    unfold dRep repA
    by_cases hz : z = x
    · rw [if_pos (Pl.nk_inj.mpr hz), if_pos hz]
      exact .cons ⟨rfl, n, rfl, hn, e⟩ (adj_rep hn e t)
    · rw [if_neg (fun e => hz (Pl.nk_inj.mp e)), if_neg hz]
      exact .cons ⟨rfl, m, h2, h3, h4⟩ (adj_rep hn e t)
theorem adj_put {μ : Mem} {F n : Nat} {x : Pl} {ys : List Pl} {l : List (D × D)} {adj : List (Pl × List Pl)} (p : Paired (Cellp μ F) l adj) (hn : n ≠ F) (e : μ[n]? = some (.lst (ys.map Pl.d))) : Paired (Cellp μ F) (dPut l x.d (.ref n)) (putA adj x ys) := by
  unfold dPut putA dHas
  rcases adj_get (x := x) p with ⟨g1, g2⟩ | ⟨n', ys', g1, g2, _⟩
  · rw [g1, g2]; exact RW.Paired.snoc p ⟨rfl, n, rfl, hn, e⟩
  · rw [g1, g2]; exact adj_rep hn e p
theorem adj_keep {μ μ' : Mem} {F : Nat} {l : List (D × D)} {adj : List (Pl × List Pl)} (p : Paired (Cellp μ F) l adj) (k : Keep [F] μ μ') : Paired (Cellp μ' F) l adj :=
  Paired.imp' p fun _ _ ⟨h1, n, h2, h3, h4⟩ => ⟨h1, n, h2, h3, k.get h4 (by simp [h3])⟩
theorem Adj.keep {μ μ' : Mem} {F : Nat} {l : List (D × D)} {adj : List (Pl × List Pl)} (A : Adj μ F l adj) (k : Keep [] μ μ') : Adj μ' F l adj :=
  ⟨k.get A.at_ (by simp), adj_keep A.pr (k.mono (by simp))⟩
theorem Adj.store {μ : Mem} {F n : Nat} {l : List (D × D)} {adj : List (Pl × List Pl)} {x : Pl} {ys : List Pl} (A : Adj μ F l adj) (hl : adj.length < 10000) (hn : n ≠ F) (e : μ[n]? = some (.lst (ys.map Pl.d))) :
    setDD (.ref F) x.d (.ref n) μ = .ok () (μ.set F (.tdic (dPut l x.d (.ref n)))) ∧ Adj (μ.set F (.tdic (dPut l x.d (.ref n)))) F (dPut l x.d (.ref n)) (putA adj x ys) := by
  have hz : l.length < sizeLine := by rw [Paired.length A.pr, sizeLine_eq]; omega
  refine ⟨by simp only [setDD, A.at_, if_pos (And.intro (Pl.isT x) hz)], set_at (at_lt A.at_), adj_keep (adj_put A.pr hn e) (Keep.set (by simp))⟩
/-- found[x] = found.get(x, []) + [y] -/
def bump (adj : List (Pl × List Pl)) (x y : Pl) : List (Pl × List Pl) := putA adj x ((getA adj x).getD [] ++ [y])
theorem putA_len {adj : List (Pl × List Pl)} {x : Pl} {ys : List Pl} : (putA adj x ys).length ≤ adj.length + 1 := by
  have h : ∀ adj : List (Pl × List Pl), (repA x ys adj).length = adj.length := fun adj => by
    induction adj with
    | nil => rfl
    | cons a r ih => simp [repA, ih]
  unfold putA
  split
  · rw [h]; omega
  · simp
theorem bump_len {adj : List (Pl × List Pl)} {x y : Pl} : (bump adj x y).length ≤ adj.length + 1 := putA_len
theorem bump_spec {μ : Mem} {F : Nat} {l : List (D × D)} {adj : List (Pl × List Pl)} {x y : Pl} {ρ : Rho} {mx my : MD} (A : Adj μ F l adj) (hl : adj.length < 10000) (hd : ∀ ys, getA adj x = some ys → ys.length < 1000) (hF : ρ[1]? = some (some (.ref F)))
    (hx : ∀ μ', Keep [F] μ μ' → mx ρ μ' = .ok x.d μ') (hy : ∀ μ', Keep [F] μ μ' → my ρ μ' = .ok y.d μ') :
    ∃ (l' : List (D × D)) (μ' : Mem), sAsg (mBin addD (mMt isDic getM (mVar 1) (mCons mx (mCons (mLst (mNil)) (mNil)))) (mLst (mCons my (mNil)))) (gSubM setDD (mVar 1) mx) ρ μ = .ok (.nx ρ) μ' ∧ Adj μ' F l' (bump adj x y) ∧ Keep [F] μ μ' := by
  have hv : ∀ μ', mVar 1 ρ μ' = .ok (.ref F) μ' := fun μ' => by simp only [mVar, hF]
  have hlt := at_lt A.at_
  have dic : isDic (.ref F) μ = true := by simp only [isDic, A.at_]
  obtain ⟨μ1, h1⟩ : ∃ μ1, μ1 = μ ++ [Cell.lst []] := ⟨_, rfl⟩
  have A1 : Adj μ1 F l adj := by rw [h1]; exact A.keep Keep.app
  have z1 : μ1.length = μ.length + 1 := by rw [h1]; simp
  -- what get answers
  obtain ⟨n, ys, hg, hys, hn, en⟩ : ∃ n ys, getM (.ref F) [x.d, .ref μ.length] μ1 = .ok (.ref n) μ1 ∧ (getA adj x).getD [] = ys ∧ n ≠ F ∧ μ1[n]? = some (.lst (ys.map Pl.d)) := by
    have ea : dictAt (.ref F) x.d μ1 = some (dGet l x.d) := by simp only [dictAt, A1.at_, if_pos (Pl.isT x)]
    rcases adj_get (x := x) A1.pr with ⟨g1, g2⟩ | ⟨n, ys, g1, g2, g3, g4⟩
    · exact ⟨μ.length, [], by simp only [getM, ea, g1, Option.getD_none], by rw [g2]; rfl, by omega, by rw [h1]; exact app_new⟩
    · exact ⟨n, ys, by simp only [getM, ea, g1, Option.getD_some], by rw [g2]; rfl, g3, g4⟩
  have hyl : ys.length < 1000 := by
    cases e : getA adj x with
    | none => rw [e] at hys; rw [← hys]; simp
    | some zs => rw [e] at hys; rw [← hys]; exact hd zs e
  obtain ⟨μ2, h2⟩ : ∃ μ2, μ2 = μ1 ++ [Cell.lst [y.d]] := ⟨_, rfl⟩
  obtain ⟨μ3, h3⟩ : ∃ μ3, μ3 = μ2 ++ [Cell.lst (ys.map Pl.d ++ [y.d])] := ⟨_, rfl⟩
  have k1 : Keep [F] μ μ1 := by rw [h1]; exact Keep.app
  have k2 : Keep [F] μ μ2 := by rw [h2]; exact k1.trans Keep.app
  have k3 : Keep [F] μ μ3 := by rw [h3]; exact k2.trans Keep.app
  have z2 : μ2.length = μ.length + 2 := by rw [h2]; simp [z1]
  have cat : addD (.ref n) (.ref μ1.length) μ2 = .ok (.ref μ2.length) μ3 := by
    rw [h3]
    exact catL_ok (by rw [h2]; exact app_at en) (by rw [h2]; exact app_new) (by simp; omega)
  have A3 : Adj μ3 F l adj := by rw [h3, h2]; exact (A1.keep Keep.app).keep Keep.app
  obtain ⟨s1, s2⟩ := A3.store (x := x) (ys := ys ++ [y]) (n := μ2.length) hl (by omega) (by rw [h3]; simp)
  refine ⟨_, _, ?_, by unfold bump; rw [hys]; exact s2, k3.trans (Keep.set (by simp))⟩
  have ev : mBin addD (mMt isDic getM (mVar 1) (mCons mx (mCons (mLst (mNil)) (mNil)))) (mLst (mCons my (mNil))) ρ μ = .ok (.ref μ2.length) μ3 := by
    have e1 : mMt isDic getM (mVar 1) (mCons mx (mCons (mLst (mNil)) (mNil))) ρ μ = .ok (.ref n) μ1 := by
      simp only [mMt, hv, Res.bind, dic, if_true, mCons, hx μ .refl, mLst, mNil, List.length_nil, Nat.zero_le, ← h1, hg]
    have e2 : mLst (mCons my (mNil)) ρ μ1 = .ok (.ref μ1.length) μ2 := by
      simp only [mLst, mCons, hy μ1 k1, Res.bind, mNil, List.length_cons, List.length_nil, h2]
      rfl
    simp only [mBin, e1, e2, Res.bind, cat]
  simp only [sAsg, ev, onE, gSubM, hv, hx μ3 k3, Res.bind, s1, pureE]
end K12

namespace K12
open PySem L2 RW
structure Good (adj : List (Pl × List Pl)) (T : Pl → Pl → Prop) (K : Pl → Prop) (N : Nat) : Prop where
  keys : ∀ x, (getA adj x).isSome = true ↔ K x
  val : ∀ x ys, getA adj x = some ys → ∀ y, y ∈ ys ↔ T x y
  nd : (adj.map (·.1)).Nodup
  sub : ∀ x y, T x y → K x
  sz : ∀ x ys, getA adj x = some ys → ys.length ≤ N
  len : adj.length ≤ N
  nd2 : ∀ x ys, getA adj x = some ys → ys.Nodup
theorem getA_none : ∀ {adj : List (Pl × List Pl)} {x : Pl}, getA adj x = none ↔ x ∉ adj.map (·.1)
  | [], x => by simp [getA]
  | (a, ys) :: r, x => by
    by_cases h : a = x
    · simp [getA, h]
    · simp only [getA, if_neg h, getA_none, List.map_cons, List.mem_cons, not_or]
      exact ⟨fun q => ⟨fun e => h e.symm, q⟩, fun q => q.2⟩
theorem repA_keys {x : Pl} {ys : List Pl} : ∀ {adj : List (Pl × List Pl)}, (repA x ys adj).map (·.1) = adj.map (·.1)
  | [] => rfl
  | (a, zs) :: r => by
    unfold repA
    rw [List.map_cons, List.map_cons, repA_keys]
    split <;> rfl
theorem getA_rep {x z : Pl} {ys : List Pl} : ∀ {adj : List (Pl × List Pl)}, (getA adj x).isSome = true → getA (repA x ys adj) z = if z = x then some ys else getA adj z
  | [], h => by simp [getA] at h
  | (a, zs) :: r, h => by
    unfold repA
    by_cases ha : a = x
    · rw [if_pos ha]
      by_cases hz : z = x
      · simp [getA, ha, hz]
      · have h1 : ¬ a = z := fun e => hz (e ▸ ha)
        rw [if_neg hz]
        simp only [getA, if_neg h1]
        cases hs : (getA r x).isSome with
        | true => rw [getA_rep hs, if_neg hz]
        | false =>
          -- x isn't in r: nothing replaced there
          have hn : getA r x = none := by cases e : getA r x with | none => rfl | some _ => rw [e] at hs; cases hs
          have : ∀ {r : List (Pl × List Pl)}, getA r x = none → getA (repA x ys r) z = getA r z := fun {r} => by
            induction r with
            | nil => intro _; rfl
            | cons b r ih =>
              obtain ⟨b, bs⟩ := b
              intro h
              by_cases hb : b = x
              · simp [getA, hb] at h
              · simp only [getA, if_neg hb] at h
                simp only [repA, if_neg hb, getA]
                split
                · rfl
                · exact ih h
          exact this hn
    · rw [if_neg ha]
      simp only [getA, if_neg ha] at h
      by_cases hz : a = z
      · have : ¬ z = x := fun e => ha (hz.trans e)
        simp [getA, hz, this]
      · simp only [getA, if_neg hz]
        exact getA_rep h
theorem getA_app {x z : Pl} {ys : List Pl} : ∀ {adj : List (Pl × List Pl)}, getA adj x = none → getA (adj ++ [(x, ys)]) z = if z = x then some ys else getA adj z
  | [], _ => by
    by_cases h : z = x
    · simp [getA, h]
    · have : ¬ x = z := fun e => h e.symm
      simp [getA, h, this]
  | (a, zs) :: r, h => by
    by_cases ha : a = x
    · simp [getA, ha] at h
    · simp only [getA, if_neg ha] at h
      simp only [List.cons_append, getA]
      by_cases hz : a = z
      · have : ¬ z = x := fun e => ha (hz.trans e)
        simp [hz, this]
      · simp only [if_neg hz]
        exact getA_app h
theorem getA_put {adj : List (Pl × List Pl)} {x z : Pl} {ys : List Pl} : getA (putA adj x ys) z = if z = x then some ys else getA adj z := by
  unfold putA
  cases hs : (getA adj x).isSome with
  | true => rw [if_pos rfl]; exact getA_rep hs
  | false =>
    rw [if_neg (by simp)]
    exact getA_app (by cases e : getA adj x with | none => rfl | some _ => rw [e] at hs; cases hs)
theorem putA_nd {adj : List (Pl × List Pl)} {x : Pl} {ys : List Pl} (h : (adj.map (·.1)).Nodup) : ((putA adj x ys).map (·.1)).Nodup := by
  unfold putA
  cases hs : (getA adj x).isSome with
  | true => rw [if_pos rfl, repA_keys]; exact h
  | false =>
    rw [if_neg (by simp), List.map_append, List.nodup_append]
    have hn : getA adj x = none := by cases e : getA adj x with | none => rfl | some _ => rw [e] at hs; cases hs
    refine ⟨h, by simp, fun a ha b hb e => ?_⟩
    simp at hb
    exact getA_none.mp hn (hb ▸ e ▸ ha)
theorem Good.congr {adj : List (Pl × List Pl)} {T T' : Pl → Pl → Prop} {K K' : Pl → Prop} {N N' : Nat} (g : Good adj T K N) (hT : ∀ x y, T x y ↔ T' x y) (hK : ∀ x, K x ↔ K' x) (hN : N ≤ N') : Good adj T' K' N' :=
  ⟨fun x => (g.keys x).trans (hK x), fun x ys e y => (g.val x ys e y).trans (hT x y), g.nd, fun x y h => (hK x).mp (g.sub x y ((hT x y).mpr h)), fun x ys e => Nat.le_trans (g.sz x ys e) hN, Nat.le_trans g.len hN, g.nd2⟩
theorem Good.bump {adj : List (Pl × List Pl)} {T : Pl → Pl → Prop} {K : Pl → Prop} {N : Nat} (g : Good adj T K N) (x y : Pl) (hxy : ¬ T x y) : Good (bump adj x y) (fun u v => T u v ∨ (u = x ∧ v = y)) (fun u => K u ∨ u = x) (N + 1) := by
  have hget : ∀ z, getA (K12.bump adj x y) z = if z = x then some ((getA adj x).getD [] ++ [y]) else getA adj z := fun z => getA_put
  have hx : ∀ v, v ∈ (getA adj x).getD [] ↔ T x v := fun v => by
    cases e : getA adj x with
    | some ys => exact g.val x ys e v
    | none =>
      refine ⟨fun h => by simp at h, fun h => ?_⟩
      have := (g.keys x).mpr (g.sub x v h)
      rw [e] at this; cases this
  have hl : ((getA adj x).getD []).length ≤ N := by
    cases e : getA adj x with
    | some ys => exact g.sz x ys e
    | none => simp
  refine ⟨fun z => ?_, fun z ys e v => ?_, putA_nd g.nd, fun u v h => ?_, fun z ys e => ?_, Nat.le_trans bump_len (by have := g.len; omega), fun z ys e => ?_⟩
  · rw [hget]
    by_cases hz : z = x
    · simp [hz]
    · rw [if_neg hz]; simp [hz, g.keys z]
  · rw [hget] at e
    by_cases hz : z = x
    · rw [if_pos hz] at e
      cases e
      rw [List.mem_append, hx, hz]; simp
    · rw [if_neg hz] at e
      rw [g.val z ys e v]; simp [hz]
  · rcases h with h | ⟨h, _⟩
    · exact .inl (g.sub u v h)
    · exact .inr h
  · rw [hget] at e
    by_cases hz : z = x
    · rw [if_pos hz] at e
      cases e
      simp; omega
    · rw [if_neg hz] at e
      have := g.sz z ys e; omega
  · rw [hget] at e
    by_cases hz : z = x
    · rw [if_pos hz] at e
      cases e
      rw [List.nodup_append]
      refine ⟨?_, by simp, fun u hu v hv e => ?_⟩
      · cases ex : getA adj x with
        | some ys => exact g.nd2 x ys ex
        | none => exact .nil
      · simp at hv
        subst hv
        subst e
        exact hxy ((hx u).mp hu)
    · rw [if_neg hz] at e
      exact g.nd2 z ys e
theorem Good.fresh {adj : List (Pl × List Pl)} {K : Pl → Prop} {N : Nat} (g : Good adj (fun _ _ => False) K N) (x : Pl) : Good (putA adj x []) (fun _ _ => False) (fun u => K u ∨ u = x) (N + 1) := by
  have hget : ∀ z, getA (putA adj x []) z = if z = x then some [] else getA adj z := fun z => getA_put
  refine ⟨fun z => ?_, fun z ys e v => ?_, putA_nd g.nd, fun u v h => h.elim, fun z ys e => ?_, Nat.le_trans putA_len (by have := g.len; omega), fun z ys e => ?_⟩
  · rw [hget]
    by_cases hz : z = x
    · simp [hz]
    · rw [if_neg hz]; simp [hz, g.keys z]
  · rw [hget] at e
    by_cases hz : z = x
    · rw [if_pos hz] at e
      cases e; simp
    · rw [if_neg hz] at e
      exact g.val z ys e v
  · rw [hget] at e
    by_cases hz : z = x
    · rw [if_pos hz] at e
      cases e; simp
    · rw [if_neg hz] at e
      have := g.sz z ys e; omega
  · rw [hget] at e
    by_cases hz : z = x
    · rw [if_pos hz] at e
      cases e; exact .nil
    · rw [if_neg hz] at e
      exact g.nd2 z ys e
/-- each step of the pipes stands there once -/
def Once (ps : List Pipe) : Prop := ∀ q p k q' p' k', ps[q]? = some p → ps[q']? = some p' → 0 ≤ k → k < p.len → 0 ≤ k' → k' < p'.len →
  ((ln p q k = ln p' q' k' ∧ ln p q (k + 1) = ln p' q' (k' + 1)) ∨ (ln p q k = ln p' q' (k' + 1) ∧ ln p q (k + 1) = ln p' q' k')) → q = q' ∧ k = k'
theorem ln_ne {p : Pipe} {q : Nat} {k : Int} (hab : p.a < p.b) (h0 : 0 ≤ k) (h1 : k < p.len) : ln p q k ≠ ln p q (k + 1) := by
  unfold ln
  by_cases h : k = 0
  · rw [if_pos h, if_neg (show ¬ k + 1 = 0 by omega)]
    by_cases h2 : k + 1 = p.len
    · rw [if_pos h2]; intro z; injection z; omega
    · rw [if_neg h2]; intro z; cases z
  · rw [if_neg h, if_neg (show ¬ k = p.len by omega), if_neg (show ¬ k + 1 = 0 by omega)]
    by_cases h2 : k + 1 = p.len
    · rw [if_pos h2]; intro z; cases z
    · rw [if_neg h2]; intro z; injection z; omega
/-- the steps of the pipes ahead of q0, and of the first k0 of q0 -/
def Ahead (q0 k0 : Nat) (q : Nat) (k : Int) : Prop := q < q0 ∨ (q = q0 ∧ k < k0)
def TE (ps : List Pipe) (q0 k0 : Nat) (x y : Pl) : Prop := ∃ q p k, ps[q]? = some p ∧ 0 ≤ k ∧ k < p.len ∧ Ahead q0 k0 q k ∧ ((x = ln p q k ∧ y = ln p q (k + 1)) ∨ (x = ln p q (k + 1) ∧ y = ln p q k))
def KE (R : Nat) (ps : List Pipe) (q0 k0 : Nat) (x : Pl) : Prop := (∃ r : Int, 0 ≤ r ∧ r < R ∧ x = .room r) ∨ ∃ q p k, ps[q]? = some p ∧ 0 ≤ k ∧ k < p.len ∧ Ahead q0 k0 q k ∧ (x = ln p q k ∨ x = ln p q (k + 1))
theorem TE_succ {ps : List Pipe} {q k : Nat} {p : Pipe} (e : ps[q]? = some p) (hk : (k : Int) < p.len) (x y : Pl) : ((TE ps q k x y ∨ (x = ln p q k ∧ y = ln p q (k + 1))) ∨ (x = ln p q (k + 1) ∧ y = ln p q k)) ↔ TE ps q (k + 1) x y := by
  constructor
  · rintro ((⟨q', p', k', e', h0, h1, ha, h⟩ | h) | h)
    · exact ⟨q', p', k', e', h0, h1, ha.imp id (fun ⟨a, b⟩ => ⟨a, by push_cast; omega⟩), h⟩
    · exact ⟨q, p, k, e, by omega, hk, .inr ⟨rfl, by push_cast; omega⟩, .inl h⟩
    · exact ⟨q, p, k, e, by omega, hk, .inr ⟨rfl, by push_cast; omega⟩, .inr h⟩
  · rintro ⟨q', p', k', e', h0, h1, ha | ⟨rfl, ha⟩, h⟩
    · exact .inl (.inl ⟨q', p', k', e', h0, h1, .inl ha, h⟩)
    · rw [e] at e'; cases e'
      by_cases hk' : k' < k
      · exact .inl (.inl ⟨q', p, k', e, h0, h1, .inr ⟨rfl, hk'⟩, h⟩)
      · obtain rfl : k' = (k : Int) := by push_cast at ha; omega
        rcases h with h | h
        · exact .inl (.inr h)
        · exact .inr h
theorem KE_succ {R : Nat} {ps : List Pipe} {q k : Nat} {p : Pipe} (e : ps[q]? = some p) (hk : (k : Int) < p.len) (x : Pl) : ((KE R ps q k x ∨ x = ln p q k) ∨ x = ln p q (k + 1)) ↔ KE R ps q (k + 1) x := by
  constructor
  · rintro ((h | h) | h)
    · rcases h with h | ⟨q', p', k', e', h0, h1, ha, h⟩
      · exact .inl h
      · exact .inr ⟨q', p', k', e', h0, h1, ha.imp id (fun ⟨a, b⟩ => ⟨a, by push_cast; omega⟩), h⟩
    · exact .inr ⟨q, p, k, e, by omega, hk, .inr ⟨rfl, by push_cast; omega⟩, .inl h⟩
    · exact .inr ⟨q, p, k, e, by omega, hk, .inr ⟨rfl, by push_cast; omega⟩, .inr h⟩
  · rintro (h | ⟨q', p', k', e', h0, h1, ha | ⟨rfl, ha⟩, h⟩)
    · exact .inl (.inl (.inl h))
    · exact .inl (.inl (.inr ⟨q', p', k', e', h0, h1, .inl ha, h⟩))
    · rw [e] at e'; cases e'
      by_cases hk' : k' < k
      · exact .inl (.inl (.inr ⟨q', p, k', e, h0, h1, .inr ⟨rfl, hk'⟩, h⟩))
      · obtain rfl : k' = (k : Int) := by push_cast at ha; omega
        rcases h with h | h
        · exact .inl (.inr h)
        · exact .inr h
theorem ahead_next {ps : List Pipe} {q q' : Nat} {p p' : Pipe} {k' : Int} {n : Nat} (e : ps[q]? = some p) (hn : (n : Int) = p.len) (e' : ps[q']? = some p') (h0 : 0 ≤ k') (h1 : k' < p'.len) : Ahead q n q' k' ↔ Ahead (q + 1) 0 q' k' := by
  unfold Ahead
  constructor
  · rintro (h | ⟨h, _⟩)
    · exact .inl (by omega)
    · exact .inl (by omega)
  · rintro (h | ⟨_, h⟩)
    · by_cases hq : q' = q
      · subst hq
        rw [e] at e'; cases e'
        exact .inr ⟨rfl, by omega⟩
      · exact .inl (by omega)
    · simp at h; omega
theorem TE_next {ps : List Pipe} {q n : Nat} {p : Pipe} (e : ps[q]? = some p) (hn : (n : Int) = p.len) (x y : Pl) : TE ps q n x y ↔ TE ps (q + 1) 0 x y := by
  unfold TE
  exact ⟨fun ⟨q', p', k', e', h0, h1, ha, h⟩ => ⟨q', p', k', e', h0, h1, (ahead_next e hn e' h0 h1).mp ha, h⟩, fun ⟨q', p', k', e', h0, h1, ha, h⟩ => ⟨q', p', k', e', h0, h1, (ahead_next e hn e' h0 h1).mpr ha, h⟩⟩
theorem KE_next {R : Nat} {ps : List Pipe} {q n : Nat} {p : Pipe} (e : ps[q]? = some p) (hn : (n : Int) = p.len) (x : Pl) : KE R ps q n x ↔ KE R ps (q + 1) 0 x := by
  unfold KE
  refine or_congr Iff.rfl ?_
  exact ⟨fun ⟨q', p', k', e', h0, h1, ha, h⟩ => ⟨q', p', k', e', h0, h1, (ahead_next e hn e' h0 h1).mp ha, h⟩, fun ⟨q', p', k', e', h0, h1, ha, h⟩ => ⟨q', p', k', e', h0, h1, (ahead_next e hn e' h0 h1).mpr ha, h⟩⟩
theorem TE_all {ps : List Pipe} {n : Nat} (hn : n = ps.length) (x y : Pl) : TE ps n 0 x y ↔ E ps x y := by
  constructor
  · rintro ⟨q, p, k, e, h0, h1, _, h⟩
    exact ⟨q, p, k, e, h0, h1, h⟩
  · rintro ⟨q, p, k, e, h0, h1, h⟩
    exact ⟨q, p, k, e, h0, h1, .inl (by rw [hn]; exact (List.getElem?_eq_some_iff.mp e).1), h⟩
theorem KE_all {R : Nat} {ps : List Pipe} {S : List Int} {n : Nat} (hn : n = ps.length) (hS : ∀ x, x ∈ S ↔ 0 ≤ x ∧ x < R) (hps : ∀ p ∈ ps, p.a ∈ S ∧ p.b ∈ S) (x : Pl) : KE R ps n 0 x ↔ IsPl S ps x := by
  constructor
  · rintro (⟨r, h0, h1, rfl⟩ | ⟨q, p, k, e, h0, h1, _, rfl | rfl⟩)
    · exact (hS r).mpr ⟨h0, h1⟩
    · exact ln_pl (hps p (List.mem_of_getElem? e)) e h0 (by omega)
    · exact ln_pl (hps p (List.mem_of_getElem? e)) e (by omega) (by omega)
  · intro h
    cases x with
    | room r =>
      have := (hS r).mp h
      exact .inl ⟨r, this.1, this.2, rfl⟩
    | on q k =>
      obtain ⟨p, e, h0, h1⟩ := h
      exact .inr ⟨q, p, k, e, by omega, h1, .inl (by rw [hn]; exact (List.getElem?_eq_some_iff.mp e).1), .inl (ln_on h0 h1).symm⟩
theorem TE_0 {ps : List Pipe} (x y : Pl) : ¬ TE ps 0 0 x y := by
  rintro ⟨q, p, k, e, h0, h1, h | ⟨_, h⟩, _⟩
  · omega
  · simp at h; omega
theorem KE_0 {R : Nat} {ps : List Pipe} (x : Pl) : KE R ps 0 0 x ↔ ∃ r : Int, 0 ≤ r ∧ r < R ∧ x = .room r := by
  constructor
  · rintro (h | ⟨q, p, k, e, h0, h1, h | ⟨_, h⟩, _⟩)
    · exact h
    · omega
    · simp at h; omega
  · exact .inl
end K12

namespace K12
open PySem L2 RW
theorem rng_get {n i : Nat} {d : D} (e : (rangeItems 0 n)[i]? = some d) : i < n ∧ d = .int (i : Int) := by
  have h := (List.getElem?_eq_some_iff.mp e).1
  have h : i < n := by simpa [rangeItems] using h
  rw [rangeItems, List.getElem?_map, List.getElem?_range h] at e
  exact ⟨h, by simpa using e.symm⟩
theorem rng_len {n : Nat} : (rangeItems 0 n).length = n := by simp [rangeItems]
end K12

namespace K12
open PySem L2 RW
/-! ### the walk over all places -/
structure AdjL (μ : Mem) (F : Nat) (l : List (D × D)) (adj : List (Pl × List Pl)) : Prop where
  at_ : μ[F]? = some (.lck true l) ∨ μ[F]? = some (.tdic l)
  pr : Paired (Cellp μ F) l adj
theorem AdjL.keep {μ μ' : Mem} {F : Nat} {l : List (D × D)} {adj : List (Pl × List Pl)} (A : AdjL μ F l adj) (k : Keep [] μ μ') : AdjL μ' F l adj := ⟨A.at_.imp (fun h => k.get h (by simp)) (fun h => k.get h (by simp)), adj_keep A.pr (k.mono (by simp))⟩
theorem AdjL.lt {μ : Mem} {F : Nat} {l : List (D × D)} {adj : List (Pl × List Pl)} (A : AdjL μ F l adj) : F < μ.length := A.at_.elim at_lt at_lt
theorem AdjL.get {μ : Mem} {F : Nat} {l : List (D × D)} {adj : List (Pl × List Pl)} {x : Pl} {ys : List Pl} (A : AdjL μ F l adj) (h : getA adj x = some ys) : ∃ n, idxA (.ref F) x.d μ = .ok (.ref n) μ ∧ μ[n]? = some (.lst (ys.map Pl.d)) ∧ dGet l x.d = some (.ref n) := by
  rcases adj_get (x := x) A.pr with ⟨_, g⟩ | ⟨n, ys', g1, g2, _, g4⟩
  · rw [g] at h; cases h
  · rw [g2] at h; cases h
    refine ⟨n, ?_, g4, g1⟩
    rcases A.at_ with e | e
    · simp only [idxA, e, idxDD, dictAt, if_pos (Pl.isT x), g1]
    · simp only [idxA, e, idxDD, dictAt, if_pos (Pl.isT x), g1]
/-- from where one comes to x -/
def Par (ps : List Pipe) (a : Pl) (f : Pl → Int) (x : Pl) (w : D) : Prop := (x = a ∧ w = .non) ∨ ∃ y, w = y.d ∧ E ps x y ∧ f y = f x - 1
/-- what the found dict holds: the places ws, each with its distance -/
def Fd (ps : List Pipe) (a : Pl) (f : Pl → Int) : D × D → Pl → Prop := fun p x => p.1 = x.d ∧ ∃ w, p.2 = .tup [.int (f x), w] ∧ Par ps a f x w
theorem fd_get {ps : List Pipe} {a0 : Pl} {f : Pl → Int} {x : Pl} : ∀ {fl : List (D × D)} {ws : List Pl}, Paired (Fd ps a0 f) fl ws → (x ∉ ws ∧ dGet fl x.d = none) ∨ (x ∈ ws ∧ ∃ w, dGet fl x.d = some (.tup [.int (f x), w]) ∧ Par ps a0 f x w)
  | _, _, .nil => .inl ⟨by simp, rfl⟩
  | (a, d) :: fl, z :: ws, .cons ⟨h1, w, h2, h3⟩ t => by
    have h1 : a = z.d := h1
    have h2 : d = .tup [.int (f z), w] := h2
    subst h1 h2
    by_cases hz : z = x
    · subst hz
      exact .inr ⟨by simp, w, by simp [dGet], h3⟩
    · have hne : ¬ (z.d.nk? = x.d.nk?) := fun e => hz (Pl.nk_inj.mp e)
      rcases fd_get (x := x) t with ⟨g1, g2⟩ | ⟨g1, w', g2, g3⟩
      · exact .inl ⟨by simp [g1]; exact fun e => hz e.symm, by simp [dGet, hne, g2]⟩
      · exact .inr ⟨by simp [g1], w', by simp [dGet, hne, g2], g3⟩
structure Walk (S : List Int) (ps : List Pipe) (a : Pl) (f : Pl → Int) (ws : List Pl) : Prop where
  nd : ws.Nodup
  pl : ∀ x ∈ ws, IsPl S ps x
  st : a ∈ ws
  cl : ∀ x ∈ ws, x ≠ a → ∀ y, E ps x y → f y = f x - 1 → y ∈ ws
theorem Walk.next {S : List Int} {ps : List Pipe} {a : Pl} {f : Pl → Int} {ws : List Pl} (W : Walk S ps a f ws) (Df : Dist S ps a f) {x y : Pl} (hx : x ∈ ws) (he : E ps x y) (hy : y ∉ ws) (hpl : IsPl S ps y) : f y = f x + 1 ∧ Walk S ps a f (ws ++ [y]) := by
  have hf : f y = f x + 1 := by
    rcases Df.step x y he with h | h
    · exact h
    · exfalso
      by_cases hxa : x = a
      · have := Df.pos y hpl
        rw [h, hxa, Df.f0] at this; omega
      · exact hy (W.cl x hx hxa y he h)
  refine ⟨hf, ?_, fun z hz => ?_, by simp [W.st], fun z hz hza u hu hfu => ?_⟩
  · rw [List.nodup_append]
    exact ⟨W.nd, by simp, fun u hu v hv e => by simp at hv; exact hy (hv ▸ e ▸ hu)⟩
  · rcases List.mem_append.mp hz with hz | hz
    · exact W.pl z hz
    · simp at hz; subst hz; exact hpl
  · rcases List.mem_append.mp hz with hz | hz
    · exact List.mem_append_left _ (W.cl z hz hza u hu hfu)
    · simp at hz; subst hz
      have := Df.un z u x hpl hu he.symm hfu (by omega)
      subst this
      exact List.mem_append_left _ hx
theorem Walk.all {S : List Int} {ps : List Pipe} {a : Pl} {f : Pl → Int} {ws : List Pl} (W : Walk S ps a f ws) (Df : Dist S ps a f) (hS : ∀ p ∈ ps, p.a ∈ S ∧ p.b ∈ S) (h : ∀ x ∈ ws, ∀ y, E ps x y → y ∈ ws) : ∀ x, IsPl S ps x → x ∈ ws := by
  have key : ∀ (n : Nat) (x : Pl), IsPl S ps x → f x = (n : Int) → x ∈ ws := fun n => by
    induction n with
    | zero =>
      intro x hx hf
      by_cases hxa : x = a
      · rw [hxa]; exact W.st
      · obtain ⟨y, he, hy⟩ := Df.ex x hx hxa
        have := Df.pos y (he.pl hS).2
        omega
    | succ n ih =>
      intro x hx hf
      by_cases hxa : x = a
      · rw [hxa]; exact W.st
      · obtain ⟨y, he, hy⟩ := Df.ex x hx hxa
        exact h y (ih y (he.pl hS).2 (by omega)) x he.symm
  intro x hx
  exact key (f x).toNat x hx (by have := Df.pos x hx; omega)
theorem paired_snoc {α β : Type} {F : α → β → Prop} {l : List α} {l' : List β} {a : α} {b : β} (h : Paired F l l') (h2 : F a b) : Paired F (l ++ [a]) (l' ++ [b]) := RW.Paired.snoc h h2
theorem nodup_le : ∀ {l k : List Pl}, l.Nodup → (∀ x ∈ l, x ∈ k) → l.length ≤ k.length
  | [], _, _, _ => Nat.zero_le _
  | x :: l, k, nd, h => by
    have hx := h x (by simp)
    have hn := List.nodup_cons.mp nd
    have ih := nodup_le (l := l) (k := k.erase x) hn.2 fun y hy => (List.mem_erase_of_ne (show y ≠ x from fun e => hn.1 (by rw [← e]; exact hy))).mpr (h y (by simp [hy]))
    have := List.length_erase_of_mem hx
    have := List.length_pos_of_mem hx
    simp only [List.length_cons]; omega
end K12

namespace K12
open PySem L2 RW
/-! ### the walk over all rooms -/
def paOne (x : Int) (q : Nat) (p : Pipe) : List D := if p.a = x then [.tup [.int q, .int 0, .int p.len, .int p.b]] else if p.b = x then [.tup [.int q, .int p.len, .int 0, .int p.a]] else []
def pa (x : Int) : Nat → List Pipe → List D
  | _, [] => []
  | k, p :: r => paOne x k p ++ pa x (k + 1) r
theorem pa_snoc (x : Int) : ∀ (l : List Pipe) (k : Nat) (p : Pipe), pa x k (l ++ [p]) = pa x k l ++ paOne x (k + l.length) p
  | [], k, p => by simp [pa]
  | q :: l, k, p => by
    simp only [List.cons_append, pa, pa_snoc x l (k + 1) p, List.append_assoc, List.length_cons]
    rw [show k + 1 + l.length = k + (l.length + 1) by omega]
theorem pa_len (x : Int) : ∀ (l : List Pipe) (k : Nat), (pa x k l).length ≤ l.length
  | [], k => Nat.le_refl _
  | p :: l, k => by
    have := pa_len x l (k + 1)
    have h1 : (paOne x k p).length ≤ 1 := by
      unfold paOne
      split
      · simp
      · split <;> simp
    simp only [pa, List.length_append, List.length_cons]; omega
theorem pa_mem (x : Int) : ∀ (l : List Pipe) (k : Nat) (d : D), d ∈ pa x k l ↔ ∃ i p, l[i]? = some p ∧ d ∈ paOne x (k + i) p
  | [], k, d => by simp [pa]
  | p :: l, k, d => by
    rw [pa, List.mem_append, pa_mem x l (k + 1) d]
    constructor
    · rintro (h | ⟨i, q, h1, h2⟩)
      · exact ⟨0, p, rfl, h⟩
      · exact ⟨i + 1, q, h1, by rw [show k + (i + 1) = k + 1 + i by omega]; exact h2⟩
    · rintro ⟨i, q, h1, h2⟩
      cases i with
      | zero => simp at h1; subst h1; exact .inl h2
      | succ i => exact .inr ⟨i, q, h1, by rw [show k + 1 + i = k + (i + 1) by omega]; exact h2⟩
theorem pipes_at_spec {R : Nat} {ps : List Pipe} {x : Int} {μ : Mem} (hp : ps.length ≤ 16) : ∃ (n : Nat) (μ' : Mem), m_pipes_at [houseD R ps, .int x] μ = .ok (.ref n) μ' ∧ μ.length ≤ n ∧ μ'[n]? = some (.lst (pa x 0 ps)) ∧ Keep [] μ μ' := by
  obtain ⟨n, hn⟩ : ∃ n, n = μ.length := ⟨_, rfl⟩
  have i1 : ∀ μ, idxA (houseD R ps) (.int 1) μ = .ok (.tup (ps.map Pipe.d)) μ := fun μ => ix_tup (by decide) rfl
  have loop := forL_ok (chk := fun _ => True) (g := gTupM 2 (gConsM (gN 3) (gConsM (gTupM 5 (gConsM (gN 4) (gConsM (gN 5) (gConsM (gN 6) (gConsM (gN 7) (gConsM (gN 8) (gNilM))))))) (gNilM)))) (body := sIf (mTest (mBin eqD (mVar 4) (mVar 1))) (sExpr (mMt isLst appendM (mVar 2) (mCons (mTup (mCons (mVar 3) (mCons (mC (.int 0)) (mCons (mVar 6) (mCons (mVar 5) (mNil)))))) (mNil)))) (sIf (mTest (mBin eqD (mVar 5) (mVar 1))) (sExpr (mMt isLst appendM (mVar 2) (mCons (mTup (mCons (mVar 3) (mCons (mVar 6) (mCons (mC (.int 0)) (mCons (mVar 4) (mNil)))))) (mNil)))) (sNil))) (enItems 0 (ps.map Pipe.d))
    (fun i ρ μ' => i ≤ ps.length ∧ ∃ (o3 o4 o5 o6 o7 o8 : Option D), ρ = [some (houseD R ps), some (.int x), some (.ref n), o3, o4, o5, o6, o7, o8] ∧ μ'[n]? = some (.lst (pa x 0 (ps.take i))) ∧ Keep [n] (μ ++ [.lst []]) μ') 0
    (ρ := [some (houseD R ps), some (.int x), some (.ref n), none, none, none, none, none, none]) (μ := μ ++ [.lst []]) ⟨Nat.zero_le _, none, none, none, none, none, none, rfl, by rw [hn]; exact app_new, .refl⟩ (fun _ _ _ _ => trivial)
    (fun i d ρ μ' ed ⟨hi, o3, o4, o5, o6, o7, o8, eρ, en, k⟩ => by
      simp only [Nat.zero_add] at hi eρ en k ⊢
      subst eρ
      obtain ⟨d', ed', rfl⟩ := enItems_get _ 0 i d ed
      rw [List.getElem?_map] at ed'
      obtain ⟨p, ep, rfl⟩ := Option.map_eq_some_iff.mp ed'
      have hi2 := (List.getElem?_eq_some_iff.mp ep).1
      have hlen := pa_len x (ps.take i) 0
      rw [List.length_take] at hlen
      have tk : pa x 0 (ps.take (i + 1)) = pa x 0 (ps.take i) ++ paOne x i p := by
        rw [List.take_add_one, ep]
        show pa x 0 (ps.take i ++ [p]) = _
        rw [pa_snoc, List.length_take, Nat.min_eq_left (by omega), Nat.zero_add]
      have ap : ∀ d, appendM (.ref n) [d] μ' = .ok .non (μ'.set n (.lst (pa x 0 (ps.take i) ++ [d]))) := fun d => by
        have : (pa x 0 (ps.take i)).length < sizeLine := by rw [sizeLine_eq]; omega
        simp only [appendM, en, if_pos this]
      have il : isLst (.ref n) μ' = true := by simp only [isLst, en]
      refine .mk (a := [some (houseD R ps), some (.int x), some (.ref n), some (.int (i : Int)), some (.int p.a), some (.int p.b), some (.int p.len), some (.tup (p.nar.map pairD)), some (.tup (p.fl.map pairD))]) (μ := μ') (by rw [Nat.zero_add]; rfl) ?_
      by_cases ha : p.a = x
      · refine .mk (a := .nx [some (houseD R ps), some (.int x), some (.ref n), some (.int (i : Int)), some (.int p.a), some (.int p.b), some (.int p.len), some (.tup (p.nar.map pairD)), some (.tup (p.fl.map pairD))]) (μ := μ'.set n (.lst (pa x 0 (ps.take i) ++ [.tup [.int i, .int 0, .int p.len, .int p.b]]))) ?_ ⟨_, .inl rfl, by omega, _, _, _, _, _, _, rfl, ?_, k.trans (Keep.set (by simp))⟩
        · exact (if_t (μ1 := μ') (by simp [eqI, ha])).trans (by simp [il, ap])
        · rw [set_at (at_lt en), tk, paOne, if_pos ha]
      · by_cases hb : p.b = x
        · refine .mk (a := .nx [some (houseD R ps), some (.int x), some (.ref n), some (.int (i : Int)), some (.int p.a), some (.int p.b), some (.int p.len), some (.tup (p.nar.map pairD)), some (.tup (p.fl.map pairD))]) (μ := μ'.set n (.lst (pa x 0 (ps.take i) ++ [.tup [.int i, .int p.len, .int 0, .int p.a]]))) ?_ ⟨_, .inl rfl, by omega, _, _, _, _, _, _, rfl, ?_, k.trans (Keep.set (by simp))⟩
          · exact (if_f (μ1 := μ') (by simp [eqI, ha])).trans ((if_t (μ1 := μ') (by simp [eqI, hb])).trans (by simp [il, ap]))
          · rw [set_at (at_lt en), tk, paOne, if_neg ha, if_pos hb]
        · refine .mk (μ := μ') ((if_f (μ1 := μ') (by simp [eqI, ha])).trans ((if_f (μ1 := μ') (by simp [eqI, hb])).trans rfl)) ⟨_, .inl rfl, by omega, _, _, _, _, _, _, rfl, ?_, k⟩
          rw [tk, paOne, if_neg ha, if_neg hb, List.append_nil]; exact en)
  rw [enItems_len, List.length_map, Nat.zero_add] at loop
  obtain ⟨f, μ', w, ρ', rfl, _, o3, o4, o5, o6, o7, o8, rfl, en, k⟩ := loop
  rw [List.take_length] at en
  refine ⟨n, μ', run_is ?_, by omega, en, (Keep.trans Keep.app k).mono fun i hi => .inr (by simp at hi; omega)⟩
  unfold b_pipes_at
  rw [seq_set (d := .ref n) (μ1 := μ ++ [.lst []]) (by simp [hn])]
  refine (seq_run (for_run (chk := fun _ => True) (items := enItems 0 (ps.map Pipe.d)) (μ1 := μ ++ [.lst []]) (by simp [startR, i1, enumD, itSeq]) w)).trans ?_
  exact ret_is rfl
theorem int_isK (x : Int) : isK (.int x) = true := rfl
theorem int_nk {x y : Int} : (D.int x).nk? = (D.int y).nk? ↔ x = y := by simp [D.nk?]
/-- pipe q leads from y to x, from b to e along it -/
def Via (ps : List Pipe) (q : Nat) (p : Pipe) (b e : Int) (y x : Int) : Prop := ps[q]? = some p ∧ ((p.a = y ∧ p.b = x ∧ b = 0 ∧ e = p.len) ∨ (p.b = y ∧ p.a = x ∧ b = p.len ∧ e = 0))
/-- from where one comes to room x -/
def Bk (ps : List Pipe) (g : Int → Int → Int) (r x : Int) (u w : D) : Prop := (x = r ∧ u = .non ∧ w = .non) ∨ (x ≠ r ∧ ∃ q p b e y, Via ps q p b e y x ∧ u = .tup [.int q, .int b, .int e] ∧ w = .int y ∧ g r y + p.len = g r x)
def Fr (ps : List Pipe) (g : Int → Int → Int) (r : Int) : D × D → Int → Prop := fun p x => p.1 = .int x ∧ ∃ u w, p.2 = .tup [.int (g r x), u, w] ∧ Bk ps g r x u w
theorem fr_get {ps : List Pipe} {g : Int → Int → Int} {r : Int} {x : Int} : ∀ {fl : List (D × D)} {ws : List Int}, Paired (Fr ps g r) fl ws → (x ∉ ws ∧ dGet fl (.int x) = none) ∨ (x ∈ ws ∧ ∃ u w, dGet fl (.int x) = some (.tup [.int (g r x), u, w]) ∧ Bk ps g r x u w)
  | _, _, .nil => .inl ⟨by simp, rfl⟩
  | (a, d) :: fl, z :: ws, .cons ⟨h1, u, w, h2, h3⟩ t => by
    have h1 : a = .int z := h1
    have h2 : d = .tup [.int (g r z), u, w] := h2
    subst h1 h2
    by_cases hz : z = x
    · subst hz
      exact .inr ⟨by simp, u, w, by simp [dGet], h3⟩
    · have hne : ¬ ((D.int z).nk? = (D.int x).nk?) := fun e => hz (int_nk.mp e)
      rcases fr_get (x := x) t with ⟨g1, g2⟩ | ⟨g1, u', w', g2, g3⟩
      · exact .inl ⟨by simp [g1]; exact fun e => hz e.symm, by simp [dGet, hne, g2]⟩
      · exact .inr ⟨by simp [g1], u', w', by simp [dGet, hne, g2], g3⟩
structure WalkR (g : Int → Int → Int) (S : List Int) (ps : List Pipe) (r : Int) (ws : List Int) : Prop where
  nd : ws.Nodup
  pl : ∀ x ∈ ws, x ∈ S
  st : r ∈ ws
  cl : ∀ x ∈ ws, x ≠ r → ∀ p ∈ ps, Cls' g r x p → p.a ∈ ws ∧ p.b ∈ ws
/-- p joins x and y -/
def Joins (p : Pipe) (x y : Int) : Prop := (p.a = x ∧ p.b = y) ∨ (p.b = x ∧ p.a = y)
theorem WalkR.next {g : Int → Int → Int} {S : List Int} {ps : List Pipe} {r : Int} {ws : List Int} (W : WalkR g S ps r ws) (M : Metric g S ps) (hok : ∀ p ∈ ps, 1 ≤ p.len) (hr : r ∈ S) {x y : Int} {p : Pipe} (hx : x ∈ ws) (hp : p ∈ ps) (hj : Joins p x y) (hy : y ∉ ws) : g r y = g r x + p.len ∧ WalkR g S ps r (ws ++ [y]) := by
  obtain ⟨e1, e2, e3⟩ := M.ends p hp
  have h1 := hok p hp
  have hyS : y ∈ S := by rcases hj with ⟨_, h⟩ | ⟨_, h⟩ <;> (rw [← h]; assumption)
  have hf : g r y = g r x + p.len := by
    have hmp := M.mp r hr p hp
    have no : ¬ Cls' g r x p := fun c => by
      by_cases hxr : x = r
      · have c0 := M.m0 r hr
        have := M.mn r hr y hyS
        rcases c with ⟨c1, c2⟩ | ⟨c1, c2⟩
        · rcases hj with ⟨j1, j2⟩ | ⟨j1, j2⟩
          · rw [j2, hxr] at c2; omega
          · omega
        · rcases hj with ⟨j1, j2⟩ | ⟨j1, j2⟩
          · omega
          · rw [j2, hxr] at c2; omega
      · have := W.cl x hx hxr p hp c
        rcases hj with ⟨j1, j2⟩ | ⟨j1, j2⟩
        · exact hy (j2 ▸ this.2)
        · exact hy (j2 ▸ this.1)
    rcases hj with ⟨j1, j2⟩ | ⟨j1, j2⟩
    · rw [j1, j2] at hmp
      rcases hmp with h | h
      · exact h
      · exact absurd (.inl ⟨j1, by rw [j2]; omega⟩) no
    · rw [j1, j2] at hmp
      rcases hmp with h | h
      · exact absurd (.inr ⟨j1, by rw [j2]; omega⟩) no
      · exact h
  refine ⟨hf, ?_, fun z hz => ?_, by simp [W.st], fun z hz hzr q hq c => ?_⟩
  · rw [List.nodup_append]
    exact ⟨W.nd, by simp, fun u hu v hv e => by simp at hv; exact hy (hv ▸ e ▸ hu)⟩
  · rcases List.mem_append.mp hz with hz | hz
    · exact W.pl z hz
    · simp at hz; subst hz; exact hyS
  · rcases List.mem_append.mp hz with hz | hz
    · have := W.cl z hz hzr q hq c
      exact ⟨List.mem_append_left _ this.1, List.mem_append_left _ this.2⟩
    · simp at hz; subst hz
      have cp : Cls' g r z p := by
        rcases hj with ⟨j1, j2⟩ | ⟨j1, j2⟩
        · exact .inr ⟨j2, by rw [j1]; omega⟩
        · exact .inl ⟨j2, by rw [j1]; omega⟩
      have := M.mu r hr z hyS q hq p hp c cp
      subst this
      rcases hj with ⟨j1, j2⟩ | ⟨j1, j2⟩
      · exact ⟨by rw [j1]; exact List.mem_append_left _ hx, by rw [j2]; simp⟩
      · exact ⟨by rw [j2]; simp, by rw [j1]; exact List.mem_append_left _ hx⟩
theorem WalkR.all {g : Int → Int → Int} {S : List Int} {ps : List Pipe} {r : Int} {ws : List Int} (W : WalkR g S ps r ws) (M : Metric g S ps) (hok : ∀ p ∈ ps, 1 ≤ p.len) (hr : r ∈ S) (h : ∀ x ∈ ws, ∀ p ∈ ps, ∀ y, Joins p x y → y ∈ ws) : ∀ x ∈ S, x ∈ ws := by
  have key : ∀ (n : Nat) (x : Int), x ∈ S → g r x ≤ (n : Int) → x ∈ ws := fun n => by
    induction n with
    | zero =>
      intro x hx hf
      by_cases hxr : r = x
      · rw [← hxr]; exact W.st
      · exfalso
        obtain ⟨p, hp, c⟩ := M.me r hr x hx hxr
        obtain ⟨e1, e2, _⟩ := M.ends p hp
        have := hok p hp
        rcases c with ⟨_, c⟩ | ⟨_, c⟩
        · have := M.mn r hr _ e2; omega
        · have := M.mn r hr _ e1; omega
    | succ n ih =>
      intro x hx hf
      by_cases hxr : r = x
      · rw [← hxr]; exact W.st
      · obtain ⟨p, hp, c⟩ := M.me r hr x hx hxr
        obtain ⟨e1, e2, _⟩ := M.ends p hp
        have := hok p hp
        rcases c with ⟨c1, c⟩ | ⟨c1, c⟩
        · exact h p.b (ih p.b e2 (by omega)) p hp x (.inr ⟨rfl, c1⟩)
        · exact h p.a (ih p.a e1 (by omega)) p hp x (.inl ⟨rfl, c1⟩)
  intro x hx
  exact key (g r x).toNat x hx (by omega)
end K12

namespace K12
open PySem L2 RW
noncomputable abbrev seeR : MS := sIf (mTest (mBin notInDD (mVar 9) (mVar 2))) (sSeq (sAsg (mTup (mCons (mBin addD (mBin idxA (mBin idxA (mVar 2) (mVar 5)) (mC (.int 0))) (mB absL (mCons (mBin subD (mVar 8) (mVar 7)) (mNil)))) (mCons (mTup (mCons (mVar 6) (mCons (mVar 7) (mCons (mVar 8) (mNil))))) (mCons (mVar 5) (mNil))))) (gSubM setDD (mVar 2) (mVar 9)))
    (sExpr (mMt isLst appendM (mVar 3) (mCons (mVar 9) (mNil))))) (sNil)
theorem seeR_spec {g : Int → Int → Int} {S : List Int} {ps : List Pipe} {r x y b e : Int} {p : Pipe} {ws : List Int} {μ : Mem} {G Wc : Nat} {fl : List (D × D)} {o0 o1 o4 o6 : Option D} {qq : Nat} (W : WalkR g S ps r ws) (M : Metric g S ps) (hok : ∀ p ∈ ps, 1 ≤ p.len) (hr : r ∈ S) (hx : x ∈ ws) (hp : p ∈ ps) (hv : Via ps qq p b e x y)
    (hbe : (if e - b < 0 then -(e - b) else e - b) = p.len) (eG : μ[G]? = some (.dic fl)) (pf : Paired (Fr ps g r) fl ws) (eW : μ[Wc]? = some (.lst (ws.map D.int))) (hGW : G ≠ Wc) (hl : ws.length ≤ 1000) (h6 : o6 = some (.int (qq : Int))) :
    ∃ (ws' : List Int) (fl' : List (D × D)) (μ' : Mem), seeR [o0, o1, some (.ref G), some (.ref Wc), o4, some (.int x), o6, some (.int b), some (.int e), some (.int y)] μ = .ok (.nx [o0, o1, some (.ref G), some (.ref Wc), o4, some (.int x), o6, some (.int b), some (.int e), some (.int y)]) μ' ∧ WalkR g S ps r ws' ∧ (∀ z ∈ ws, z ∈ ws') ∧ ws <+: ws' ∧ y ∈ ws' ∧
      μ'[G]? = some (.dic fl') ∧ Paired (Fr ps g r) fl' ws' ∧ μ'[Wc]? = some (.lst (ws'.map D.int)) ∧ Keep [G, Wc] μ μ' := by
  subst h6
  have hj : Joins p x y := hv.2.elim (fun h => .inl ⟨h.1, h.2.1⟩) (fun h => .inr ⟨h.1, h.2.1⟩)
  have da : ∀ z : Int, dictAt (.ref G) (.int z) μ = some (dGet fl (.int z)) := fun z => by simp only [dictAt, eG, if_pos (int_isK z)]
  rcases fr_get (x := y) pf with ⟨hy, gg⟩ | ⟨hy, u, w, gg, _⟩
  · obtain ⟨hf, W'⟩ := W.next M hok hr hx hp hj hy
    rcases fr_get (x := x) pf with ⟨hx', _⟩ | ⟨_, u, w, gx, _⟩
    · exact absurd hx hx'
    · obtain ⟨v, hvv⟩ : ∃ v, v = D.tup [.int (g r y), .tup [.int (qq : Int), .int b, .int e], .int x] := ⟨_, rfl⟩
      have t1 : notInDD (.int y) (.ref G) μ = .ok (.bl true) μ := by simp only [notInDD, da, gg]; rfl
      have ix : idxA (.ref G) (.int x) μ = .ok (.tup [.int (g r x), u, w]) μ := by simp only [idxA, eG, idxDD, da, gx]
      have i0 : idxA (.tup [.int (g r x), u, w]) (.int 0) μ = .ok (.int (g r x)) μ := ix_tup (by decide) rfl
      have hz : fl.length < sizeLine := by rw [Paired.length pf, sizeLine_eq]; omega
      have hput : dPut fl (.int y) v = fl ++ [(.int y, v)] := by unfold dPut dHas; rw [gg]; rfl
      have s1 : setDD (.ref G) (.int y) v μ = .ok () (μ.set G (.dic (fl ++ [(.int y, v)]))) := by
        rw [← hput]; simp only [setDD, eG, if_pos (And.intro (int_isK y) hz)]
      have eW' : (μ.set G (.dic (fl ++ [(.int y, v)])))[Wc]? = some (.lst (ws.map D.int)) := by rw [set_ne' hGW]; exact eW
      have ap : appendM (.ref Wc) [.int y] (μ.set G (.dic (fl ++ [(.int y, v)]))) = .ok .non ((μ.set G (.dic (fl ++ [(.int y, v)]))).set Wc (.lst (ws.map D.int ++ [.int y]))) := by
        have : (ws.map D.int).length < sizeLine := by rw [List.length_map, sizeLine_eq]; omega
        simp only [appendM, eW', if_pos this]
      have ev : mTup (mCons (mBin addD (mBin idxA (mBin idxA (mVar 2) (mVar 5)) (mC (.int 0))) (mB absL (mCons (mBin subD (mVar 8) (mVar 7)) (mNil)))) (mCons (mTup (mCons (mVar 6) (mCons (mVar 7) (mCons (mVar 8) (mNil))))) (mCons (mVar 5) (mNil)))) [o0, o1, some (.ref G), some (.ref Wc), o4, some (.int x), some (.int (qq : Int)), some (.int b), some (.int e), some (.int y)] μ = .ok v μ := by
        rw [hvv, hf, ← hbe]
        simp [ix, i0, subD, absL, add_ok]
      refine ⟨ws ++ [y], fl ++ [(.int y, v)], (μ.set G (.dic (fl ++ [(.int y, v)]))).set Wc (.lst (ws.map D.int ++ [.int y])), ?_, W', fun z hz => List.mem_append_left _ hz, List.prefix_append _ _, by simp, ?_, paired_snoc pf ⟨rfl, _, _, hvv, .inr ⟨fun z => hy (z ▸ W.st), qq, p, b, e, x, hv, rfl, rfl, by omega⟩⟩, ?_, (Keep.set (by simp)).trans (Keep.set (by simp))⟩
      · refine (if_t (μ1 := μ) (by simp [t1])).trans ?_
        rw [seq_asg (d := v) (μ1 := μ) (ρ2 := [o0, o1, some (.ref G), some (.ref Wc), o4, some (.int x), some (.int (qq : Int)), some (.int b), some (.int e), some (.int y)]) (μ2 := μ.set G (.dic (fl ++ [(.int y, v)]))) ev (by simp [s1])]
        simp [isLst, eW', ap]
      · rw [set_ne' (Ne.symm hGW), set_at (at_lt eG)]
      · rw [set_at (by simp; exact at_lt eW), List.map_append]; rfl
  · have t1 : notInDD (.int y) (.ref G) μ = .ok (.bl false) μ := by simp only [notInDD, da, gg]; rfl
    exact ⟨ws, fl, μ, (if_f (μ1 := μ) (by simp [t1])).trans rfl, W, fun z hz => hz, List.prefix_refl _, hy, eG, pf, eW, .refl⟩
theorem pa_joins {ps : List Pipe} {x : Int} {d : D} (hends : ∀ p ∈ ps, p.a < p.b) (hok : ∀ p ∈ ps, 1 ≤ p.len) (h : d ∈ pa x 0 ps) : ∃ (q : Nat) (p : Pipe) (b e y : Int), p ∈ ps ∧ d = .tup [.int q, .int b, .int e, .int y] ∧ Via ps q p b e x y ∧ (if e - b < 0 then -(e - b) else e - b) = p.len := by
  obtain ⟨i, p, e, hd⟩ := (pa_mem x ps 0 d).mp h
  rw [Nat.zero_add] at hd
  have hp := List.mem_of_getElem? e
  have := hok p hp
  unfold paOne at hd
  split at hd
  · simp at hd; rename_i ha
    exact ⟨i, p, 0, p.len, p.b, hp, hd, ⟨e, .inl ⟨ha, rfl, rfl, rfl⟩⟩, by rw [if_neg (by omega)]; omega⟩
  · split at hd
    · simp at hd; rename_i hb
      exact ⟨i, p, p.len, 0, p.a, hp, hd, ⟨e, .inr ⟨hb, rfl, rfl, rfl⟩⟩, by rw [if_pos (by omega)]; omega⟩
    · simp at hd
theorem joins_pa {ps : List Pipe} {x y : Int} {p : Pipe} (hends : ∀ p ∈ ps, p.a < p.b) (hp : p ∈ ps) (hj : Joins p x y) : ∃ (q : Nat) (b e : Int), D.tup [.int q, .int b, .int e, .int y] ∈ pa x 0 ps := by
  obtain ⟨i, e⟩ := List.mem_iff_getElem?.mp hp
  have h3 := hends p hp
  rcases hj with ⟨j1, j2⟩ | ⟨j1, j2⟩
  · exact ⟨i, 0, p.len, (pa_mem x ps 0 _).mpr ⟨i, p, e, by rw [Nat.zero_add, paOne, if_pos j1, j2]; simp⟩⟩
  · exact ⟨i, p.len, 0, (pa_mem x ps 0 _).mpr ⟨i, p, e, by rw [Nat.zero_add, paOne, if_neg (by omega), if_pos j1, j2]; simp⟩⟩
theorem nodup_leI : ∀ {l k : List Int}, l.Nodup → (∀ x ∈ l, x ∈ k) → l.length ≤ k.length
  | [], _, _, _ => Nat.zero_le _
  | x :: l, k, nd, h => by
    have hx := h x (by simp)
    have hn := List.nodup_cons.mp nd
    have ih := nodup_leI (l := l) (k := k.erase x) hn.2 fun y hy => (List.mem_erase_of_ne (show y ≠ x from fun e => hn.1 (by rw [← e]; exact hy))).mpr (h y (by simp [hy]))
    have := List.length_erase_of_mem hx
    have := List.length_pos_of_mem hx
    simp only [List.length_cons]; omega
theorem rooms_spec {g : Int → Int → Int} {S : List Int} {R : Nat} {ps : List Pipe} {r : Int} {μ : Mem} (M : Metric g S ps) (hok : ∀ p ∈ ps, 1 ≤ p.len) (hps : ps.length ≤ 16) (hS : S.length ≤ 16) (hr : r ∈ S) :
    ∃ (G : Nat) (fl : List (D × D)) (μ' : Mem), m_rooms_from [houseD R ps, .int r] μ = .ok (.ref G) μ' ∧ μ.length ≤ G ∧ μ'[G]? = some (.dic fl) ∧ (∀ x ∈ S, ∃ u w, dGet fl (.int x) = some (.tup [.int (g r x), u, w]) ∧ Bk ps g r x u w) ∧ Keep [] μ μ' := by
  obtain ⟨G, hG⟩ : ∃ G, G = μ.length := ⟨_, rfl⟩
  obtain ⟨Wc, hW⟩ : ∃ Wc, Wc = μ.length + 1 := ⟨_, rfl⟩
  obtain ⟨μ0, h0⟩ : ∃ μ0, μ0 = μ ++ [Cell.dic [(.int r, .tup [.int 0, .non, .non])]] ++ [Cell.lst [.int r]] := ⟨_, rfl⟩
  have k0 : Keep [] μ μ0 := by rw [h0]; exact Keep.trans Keep.app Keep.app
  have eG0 : μ0[G]? = some (.dic [(.int r, .tup [.int 0, .non, .non])]) := by rw [h0, hG]; exact app_at app_new
  have eW0 : μ0[Wc]? = some (.lst ([r].map D.int)) := by rw [h0, hW, show μ.length + 1 = (μ ++ [Cell.dic [(D.int r, D.tup [.int 0, .non, .non])]]).length by simp]; exact app_new
  have hends : ∀ p ∈ ps, p.a < p.b := fun p hp => (M.ends p hp).2.2
  have bound : ∀ {ws : List Int}, WalkR g S ps r ws → ws.length ≤ 16 := fun {ws} W => Nat.le_trans (nodup_leI W.nd W.pl) hS
  have W0 : WalkR g S ps r [r] := ⟨by simp, by simpa using hr, by simp, fun x hx hne => by simp at hx; exact absurd hx hne⟩
  have loop := whileL_ok (c := mTest (mBin (cmpI fun i j => decide (i < j)) (mVar 4) (mB lenL (mCons (mVar 3) (mNil))))) (body := sSeq (sSet 5 (mBin idxA (mVar 3) (mVar 4))) (sSeq (sFor (iSeq (mB m_pipes_at (mCons (mVar 0) (mCons (mVar 5) (mNil))))) (gTupM 4 (gConsM (gN 6) (gConsM (gN 7) (gConsM (gN 8) (gConsM (gN 9) (gNilM)))))) seeR) (sAug 4 iaddD (mC (.int 1)))))
    (fun m ρ μ' => ∃ (t : Nat) (ws : List Int) (fl : List (D × D)) (o5 o6 o7 o8 o9 : Option D), ρ = [some (houseD R ps), some (.int r), some (.ref G), some (.ref Wc), some (.int (t : Int)), o5, o6, o7, o8, o9] ∧ m + t = 201 ∧ t ≤ ws.length ∧ WalkR g S ps r ws ∧ (∀ j x, j < t → ws[j]? = some x → ∀ p ∈ ps, ∀ y, Joins p x y → y ∈ ws) ∧
      μ'[G]? = some (.dic fl) ∧ Paired (Fr ps g r) fl ws ∧ μ'[Wc]? = some (.lst (ws.map D.int)) ∧ Keep [] μ μ') 201 (n := 1000) (ρ := [some (houseD R ps), some (.int r), some (.ref G), some (.ref Wc), some (.int 0), none, none, none, none, none]) (μ := μ0) (by decide)
    ⟨0, [r], _, none, none, none, none, none, rfl, rfl, Nat.zero_le _, W0, fun j x hj => by omega, eG0, .cons ⟨rfl, .non, .non, by rw [M.m0 r hr], .inl ⟨rfl, rfl, rfl⟩⟩ .nil, eW0, k0⟩
    (fun ρ μ' => ∃ (fl : List (D × D)) (o4 o5 o6 o7 o8 o9 : Option D), ρ = [some (houseD R ps), some (.int r), some (.ref G), some (.ref Wc), o4, o5, o6, o7, o8, o9] ∧ μ'[G]? = some (.dic fl) ∧ (∀ x ∈ S, ∃ u w, dGet fl (.int x) = some (.tup [.int (g r x), u, w]) ∧ Bk ps g r x u w) ∧ Keep [] μ μ')
    (fun m ρ μ' ⟨t, ws, fl, o5, o6, o7, o8, o9, eρ, hm, ht, W, hc, eG, pf, eW, k⟩ => by
      subst eρ
      refine .mk (a := decide ((t : Int) < (ws.length : Int))) (μ := μ') (by simp [lenL, eW, cmpI]) ?_
      by_cases hlt : t < ws.length
      · rw [if_pos (by simp; exact hlt)]
        have hb200 := bound W
        obtain ⟨x, hx⟩ : ∃ x, ws[t]? = some x := ⟨_, List.getElem?_eq_getElem hlt⟩
        have hxm : x ∈ ws := List.mem_of_getElem? hx
        have iw : idxA (.ref Wc) (.int (t : Int)) μ' = .ok (.int x) μ' := ix_lst eW (by omega) (by rw [Int.toNat_natCast, List.getElem?_map, hx]; rfl)
        obtain ⟨n, μ1, q1, hn1, en1, k1⟩ := pipes_at_spec (R := R) (ps := ps) (x := x) (μ := μ') hps
        have lG := at_lt eG
        have lW := at_lt eW
        have eG1 := k1.get eG (by simp)
        have eW1 := k1.get eW (by simp)
        have inner := forL_ok (chk := fun μ2 => μ2[n]? = some (.lst (pa x 0 ps))) (g := gTupM 4 (gConsM (gN 6) (gConsM (gN 7) (gConsM (gN 8) (gConsM (gN 9) (gNilM)))))) (body := seeR) (pa x 0 ps)
          (fun i ρ μ2 => ∃ (ws' : List Int) (fl' : List (D × D)) (o6 o7 o8 o9 : Option D), ρ = [some (houseD R ps), some (.int r), some (.ref G), some (.ref Wc), some (.int (t : Int)), some (.int x), o6, o7, o8, o9] ∧ WalkR g S ps r ws' ∧ ws <+: ws' ∧ (∀ j q b e y, j < i → (pa x 0 ps)[j]? = some (D.tup [q, b, e, .int y]) → y ∈ ws') ∧
            μ2[G]? = some (.dic fl') ∧ Paired (Fr ps g r) fl' ws' ∧ μ2[Wc]? = some (.lst (ws'.map D.int)) ∧ Keep [G, Wc] μ1 μ2) 0
          (ρ := [some (houseD R ps), some (.int r), some (.ref G), some (.ref Wc), some (.int (t : Int)), some (.int x), o6, o7, o8, o9]) (μ := μ1)
          ⟨ws, fl, o6, o7, o8, o9, rfl, W, List.prefix_refl _, fun j q b e y hj => by omega, eG1, pf, eW1, .refl⟩ (fun i ρ μ2 ⟨_, _, _, _, _, _, _, _, _, _, _, _, _, k2⟩ => k2.get en1 (by simp; omega))
          (fun i d ρ μ2 ed ⟨ws', fl', o6', o7', o8', o9', eρ', W', pre, hseen, eG', pf', eW', k2⟩ => by
            simp only [Nat.zero_add] at hseen ⊢
            subst eρ'
            obtain ⟨qq, p, b, e, y, hp, rfl, hj, hbe⟩ := pa_joins hends hok (List.mem_of_getElem? ed)
            obtain ⟨ws2, fl2, μ3, q, W2, hsub, pre2, hy2, eG2, pf2, eW2, k3⟩ := seeR_spec (o0 := some (houseD R ps)) (o1 := some (.int r)) (o4 := some (.int (t : Int))) (o6 := some (.int (qq : Int))) W' M hok hr (pre.subset hxm) hp hj hbe eG' pf' eW' (by omega) (by have := bound W'; omega) rfl
            exact .mk (a := [some (houseD R ps), some (.int r), some (.ref G), some (.ref Wc), some (.int (t : Int)), some (.int x), some (.int (qq : Int)), some (.int b), some (.int e), some (.int y)]) (μ := μ2) rfl (.mk q ⟨_, .inl rfl, ws2, fl2, _, _, _, _, rfl, W2, pre.trans pre2, fun j q' b' e' z hj' hz => by
              by_cases hji : j < i
              · exact hsub z (hseen j q' b' e' z hji hz)
              · obtain rfl : j = i := by omega
                rw [ed] at hz; cases hz; exact hy2, eG2, pf2, eW2, k2.trans k3⟩))
        rw [Nat.zero_add] at inner
        obtain ⟨f1, μ2, w1, ρ1, rfl, ws', fl', o6', o7', o8', o9', rfl, W', pre, hseen, eG', pf', eW', k2⟩ := inner
        have kk : Keep [] μ μ2 := ((k.trans k1).mono (ex' := [G, Wc]) (by simp)).trans k2 |>.mono fun i hi => .inr (by simp at hi; omega)
        refine .mk (a := .nx [some (houseD R ps), some (.int r), some (.ref G), some (.ref Wc), some (.int ((t : Int) + 1)), some (.int x), o6', o7', o8', o9']) (μ := μ2) ?_ ⟨_, 201 - (t + 1), .inl rfl, by omega, t + 1, ws', fl', some (.int x), o6', o7', o8', o9', by simp, by omega, by have := pre.length_le; omega, W', fun j z hj hz p hp y hJ => ?_, eG', pf', eW', kk⟩
        · rw [seq_set (d := .int x) (μ1 := μ') (by simp [iw])]
          refine (seq_run (for_run (chk := fun μ2 => μ2[n]? = some (.lst (pa x 0 ps))) (items := pa x 0 ps) (μ1 := μ1) (seq_lst (n := n) (by simp [q1]) en1) w1)).trans ?_
          simp [iaddD]
        · have hz' : ws[j]? = some z := by
            obtain ⟨rr, hrr⟩ := pre
            rw [← hrr, List.getElem?_append_left (by omega)] at hz
            exact hz
          by_cases hjt : j < t
          · exact pre.subset (hc j z hjt hz' p hp y hJ)
          · obtain rfl : j = t := by omega
            rw [hx] at hz'; cases hz'
            obtain ⟨qq, b, e, hin⟩ := joins_pa hends hp hJ
            obtain ⟨i, hi⟩ := List.mem_iff_getElem?.mp hin
            exact hseen i _ _ _ y (List.getElem?_eq_some_iff.mp hi).1 hi
      · rw [if_neg (by simp; omega)]
        have hall := W.all M hok hr fun x hx p hp y hJ => by
          obtain ⟨j, hj⟩ := List.mem_iff_getElem?.mp hx
          exact hc j x (by have := (List.getElem?_eq_some_iff.mp hj).1; omega) hj p hp y hJ
        exact ⟨fl, _, _, _, _, _, _, rfl, eG, fun x hx => by
          rcases fr_get (x := x) pf with ⟨h, _⟩ | ⟨_, h⟩
          · exact absurd (hall x hx) h
          · exact h, k⟩)
  obtain ⟨f1, μ', w1, ρ', rfl, fl, o4, o5, o6, o7, o8, o9, rfl, eG, hall, k⟩ := loop
  refine ⟨G, fl, μ', run_is ?_, by omega, eG, hall, k⟩
  unfold b_rooms_from
  rw [seq_set (d := .ref G) (μ1 := μ ++ [Cell.dic [(.int r, .tup [.int 0, .non, .non])]]) (by
    have : isK (D.int r) = true := rfl
    simp [startR, mDic, mPairs, this, dicOf, dPut, dHas, dGet, hG])]
  rw [seq_set (d := .ref Wc) (μ1 := μ0) (by simp [startR, hW, h0])]
  rw [seq_set (d := .int 0) (μ1 := μ0) rfl]
  refine (seq_run w1).trans ?_
  exact ret_is rfl
end K12

namespace K12
open PySem L2 RW
theorem setF_ok {μ : Mem} {n : Nat} {c f : Str} {fs : List (Str × D)} {v : D} (e : μ[n]? = some (.ins c fs)) (hl : fs.length < 1000) : setFD c f (.ref n) v μ = .ok () (μ.set n (.ins c (putD f v fs))) := by
  simp only [setFD, e, if_pos (And.intro True.intro hl)]
theorem fld_ok {μ : Mem} {n : Nat} {c f : Str} {fs : List (Str × D)} {d : D} (e : μ[n]? = some (.ins c fs)) (hl : fs.lookup f = some d) : fldD c f (.ref n) μ = .ok d μ := by
  simp only [fldD, e, if_true, hl]
theorem fldM_is {c f : Str} {o v : MD} {ρ : Rho} {μ μ1 μ2 μ3 : Mem} {x y : D} (h1 : v ρ μ = .ok y μ1) (h2 : o ρ μ1 = .ok x μ2) (h3 : setFD c f x y μ2 = .ok () μ3) : sFldM c f o v ρ μ = .ok (.nx ρ) μ3 := by
  simp only [sFldM, h1, onE, h2, h3, pureE]
/-- the Web at w knows the distances of all rooms -/
def RoomsAt (ps : List Pipe) (g : Int → Int → Int) (S : List Int) (r : Int) (μ : Mem) (G : Nat) : Prop := ∃ fl, μ[G]? = some (.dic fl) ∧ ∀ x ∈ S, ∃ u w, dGet fl (.int x) = some (.tup [.int (g r x), u, w]) ∧ Bk ps g r x u w
theorem RoomsAt.keep {ps : List Pipe} {g : Int → Int → Int} {S : List Int} {r : Int} {μ μ' : Mem} {G : Nat} (h : RoomsAt ps g S r μ G) (k : Keep [] μ μ') : RoomsAt ps g S r μ' G := let ⟨fl, h1, h2⟩ := h; ⟨fl, k.get h1 (by simp), h2⟩
structure WebAt (ps : List Pipe) (g : Int → Int → Int) (S : List Int) (R : Nat) (h : D) (μ : Mem) (w kn : Nat) (gs : List Nat) : Prop where
  ins : μ[w]? = some (.ins "Web" [("own", h), ("known", .ref kn)])
  lst : μ[kn]? = some (.lst (gs.map D.ref))
  len : gs.length = R
  at_ : ∀ (i G : Nat), gs[i]? = some G → RoomsAt ps g S (i : Int) μ G
theorem WebAt.keep {ps : List Pipe} {g : Int → Int → Int} {S : List Int} {R : Nat} {h : D} {μ μ' : Mem} {w kn : Nat} {gs : List Nat} (W : WebAt ps g S R h μ w kn gs) (k : Keep [] μ μ') : WebAt ps g S R h μ' w kn gs :=
  ⟨k.get W.ins (by simp), k.get W.lst (by simp), W.len, fun i G e => (W.at_ i G e).keep k⟩
theorem own_known : ¬ (("own" : Str) = "known") := by decide +kernel
theorem web_spec {g : Int → Int → Int} {S : List Int} {R : Nat} {ps : List Pipe} {μ : Mem} (M : Metric g S ps) (hok : ∀ p ∈ ps, 1 ≤ p.len) (hps : ps.length ≤ 16) (hSl : S.length ≤ 16) (hR : R ≤ 16) (hS : ∀ x : Int, x ∈ S ↔ 0 ≤ x ∧ x < R) :
    ∃ (w kn : Nat) (gs : List Nat) (μ' : Mem), mMake "Web" (noX m_Web_init) (mCons (mVar 0) (mNil)) [some (houseD R ps)] μ = .ok (.ref w) μ' ∧ WebAt ps g S R (houseD R ps) μ' w kn gs ∧ Keep [] μ μ' := by
  obtain ⟨w, hw⟩ : ∃ w, w = μ.length := ⟨_, rfl⟩
  obtain ⟨μ1, h1⟩ : ∃ μ1, μ1 = (μ ++ [Cell.ins "Web" []]).set w (.ins "Web" [("own", houseD R ps)]) := ⟨_, rfl⟩
  have e0 : (μ ++ [Cell.ins "Web" []])[w]? = some (.ins "Web" []) := by rw [hw]; exact app_new
  have e1 : μ1[w]? = some (.ins "Web" [("own", houseD R ps)]) := by rw [h1]; exact set_at (at_lt e0)
  have f1 : setFD "Web" "own" (.ref w) (houseD R ps) (μ ++ [Cell.ins "Web" []]) = .ok () μ1 := by
    rw [h1]; exact setF_ok e0 (by decide)
  have i0 : idxA (houseD R ps) (.int 0) μ1 = .ok (.int (R : Int)) μ1 := ix_tup (by decide) rfl
  have key := compL_ok (chk := fun _ => True) (g := gN 2) (tt := mYes) (te := mB m_rooms_from (mCons (mVar 1) (mCons (mVar 2) (mNil)))) (ρ0 := [some (.ref w), some (houseD R ps), none]) (rangeItems 0 R)
    (fun i acc μ' => i ≤ R ∧ ∃ gs : List Nat, acc = gs.map D.ref ∧ gs.length = i ∧ (∀ (j G : Nat), gs[j]? = some G → RoomsAt ps g S (j : Int) μ' G) ∧ Keep [] μ1 μ') 0 (acc := []) (μ := μ1) ⟨Nat.zero_le _, [], rfl, rfl, fun j G e => by simp at e, .refl⟩ (fun _ _ _ _ => trivial)
    (fun i d acc μ' ed ⟨hi, gs, ea, hl, hg, k⟩ => by
      simp only [Nat.zero_add] at hi ea hl hg k ⊢
      obtain ⟨hi2, rfl⟩ := rng_get ed
      obtain ⟨G, fl, μ2, q, hG, eG, hall, k2⟩ := rooms_spec (R := R) (r := (i : Int)) (μ := μ') M hok hps hSl ((hS _).mpr ⟨by omega, by omega⟩)
      refine .mk (μ := μ') rfl (.mk (μ := μ') rfl ?_)
      rw [if_pos rfl]
      refine ⟨by rw [ea, List.length_map, hl, sizeLine_eq]; omega, .mk (a := .ref G) (μ := μ2) (by simp [q]) ⟨by omega, gs ++ [G], by rw [ea]; simp, by simp [hl], fun j G' e => ?_, k.trans k2⟩⟩
      by_cases hj : j < gs.length
      · rw [List.getElem?_append_left hj] at e
        exact (hg j G' e).keep k2
      · have hj2 : j = gs.length := by
          have := (List.getElem?_eq_some_iff.mp e).1
          simp at this; omega
        subst hj2
        simp at e
        subst e
        rw [hl]
        exact ⟨fl, eG, hall⟩)
  rw [rng_len, Nat.zero_add] at key
  obtain ⟨l, μ2, q2, _, gs, rfl, hl, hg, k2⟩ := key
  obtain ⟨μ3, h3⟩ : ∃ μ3, μ3 = (μ2 ++ [Cell.lst (gs.map D.ref)]).set w (.ins "Web" [("own", houseD R ps), ("known", .ref μ2.length)]) := ⟨_, rfl⟩
  have e2 : (μ2 ++ [Cell.lst (gs.map D.ref)])[w]? = some (.ins "Web" [("own", houseD R ps)]) := app_at (k2.get e1 (by simp))
  have f2 : setFD "Web" "known" (.ref w) (.ref μ2.length) (μ2 ++ [Cell.lst (gs.map D.ref)]) = .ok () μ3 := by
    have hp : putD "known" (D.ref μ2.length) [(("own" : Str), houseD R ps)] = [(("own" : Str), houseD R ps), (("known" : Str), .ref μ2.length)] := by
      simp only [putD, if_neg own_known]
    rw [h3, ← hp]
    exact setF_ok e2 (by show 1 < 1000; decide)
  have k3 : Keep [w] μ2 μ3 := by rw [h3]; exact Keep.trans Keep.app (Keep.set (by simp))
  have hwl := at_lt (k2.get e1 (by simp))
  have k01 : Keep [w] μ μ1 := by rw [h1]; exact Keep.trans Keep.app (Keep.set (by simp))
  refine ⟨w, μ2.length, gs, μ3, ?_, ⟨by rw [h3]; exact set_at (at_lt e2), by rw [h3, set_ne' (by omega)]; exact app_new, hl, fun i G e => ?_⟩, ((k01.trans (k2.mono (by simp))).trans k3).mono fun i hi => .inr (by simp at hi; omega)⟩
  · have run : m_Web_init [.ref w, houseD R ps] (μ ++ [Cell.ins "Web" []]) = .ok .non μ3 := by
      have b : b_Web_init (startR 3 [.ref w, houseD R ps]) (μ ++ [Cell.ins "Web" []]) = .ok (.nx [some (.ref w), some (houseD R ps), none]) μ3 := by
        unfold b_Web_init
        have s1 : sFldM "Web" "own" (mVar 0) (mVar 1) (startR 3 [.ref w, houseD R ps]) (μ ++ [Cell.ins "Web" []]) = .ok (.nx [some (.ref w), some (houseD R ps), none]) μ1 := by
          simp [startR, f1]
        refine (seq_run s1).trans ?_
        have c : mComp (iRange1 (mCons (mBin idxA (mVar 1) (mC (.int 0))) (mNil))) (gN 2) (mYes) (mB m_rooms_from (mCons (mVar 1) (mCons (mVar 2) (mNil)))) [2] [some (.ref w), some (houseD R ps), none] μ1 = .ok (.ref μ2.length) (μ2 ++ [Cell.lst (gs.map D.ref)]) :=
          comp_is (ir1 (n := R) (by simp [i0]) (by omega)) q2
        exact fldM_is c rfl f2
      simp only [m_Web_init, runB, b, pureE, endB]
    simp only [mMake, mCons, mNil, mVar, List.getElem?_cons_zero, Res.bind, ← hw, noX, run]
  · obtain ⟨fl, a1, a2⟩ := hg i G e
    exact ⟨fl, k3.get a1 (by
      simp
      intro hGw
      have : (μ2 : Mem)[w]? = some (.ins "Web" [("own", houseD R ps)]) := k2.get e1 (by simp)
      rw [hGw, this] at a1
      cases a1), a2⟩
def endsOf (ps : List Pipe) : Pl → List (Int × Int)
  | .room r => [(r, 0)]
  | .on i j => match ps[i]? with
    | some p => [(p.a, j), (p.b, p.len - j)]
    | none => []
/-- the ways by the ends -/
def ways (g : Int → Int → Int) (ea eb : List (Int × Int)) : List Int := (ea.map fun x => eb.map fun y => x.2 + g x.1 y.1 + y.2).flatten
theorem minI_one {x : Int} : minI [x] = x := rfl
theorem minI_two {x y : Int} {l : List Int} : minI (x :: y :: l) = min x (minI (y :: l)) := by
  rw [minI]
  · by_cases h : minI (y :: l) < x
    · rw [if_pos h]; omega
    · rw [if_neg h]; omega
  · simp
theorem ways_min {g : Int → Int → Int} {S : List Int} {ps : List Pipe} {a b : Pl} (ha : IsPl S ps a) (hb : IsPl S ps b) (hne : ∀ i j k, a = .on i j → b = .on i k → False) : minI (ways g (endsOf ps a) (endsOf ps b)) = fOf (hOf g ps a) ps a b := by
  cases a with
  | room s =>
    cases b with
    | room r => simp [endsOf, ways, minI, fOf, hOf]
    | on q k =>
      obtain ⟨p, e, _, _⟩ := hb
      simp only [endsOf, ways, e, fOf, hOf, lane, List.map_cons, List.map_nil, List.flatten_cons, List.flatten_nil, List.append_nil, minI_one, minI_two]
      omega
  | on i j =>
    obtain ⟨p, e, _, _⟩ := ha
    cases b with
    | room r =>
      simp only [endsOf, ways, e, fOf, hOf, List.map_cons, List.map_nil, List.flatten_cons, List.flatten_nil, List.append_nil, List.cons_append, List.nil_append, minI_one, minI_two]
      omega
    | on q k =>
      obtain ⟨p', e', _, _⟩ := hb
      have hiq : ¬ i = q := fun h => hne i j k rfl (by rw [h])
      simp only [endsOf, ways, e, e', fOf, hOf, lane, if_neg hiq, List.map_cons, List.map_nil, List.flatten_cons, List.flatten_nil, List.append_nil, List.cons_append, List.nil_append, minI_one, minI_two]
      omega
theorem ends_room {S : List Int} {ps : List Pipe} {a : Pl} (hS : ∀ p ∈ ps, p.a ∈ S ∧ p.b ∈ S) (ha : IsPl S ps a) : (∀ x ∈ endsOf ps a, x.1 ∈ S) ∧ (endsOf ps a).length ≤ 2 ∧ endsOf ps a ≠ [] := by
  cases a with
  | room r => exact ⟨by simp [endsOf]; exact ha, by simp [endsOf], by simp [endsOf]⟩
  | on i j =>
    obtain ⟨p, e, _, _⟩ := ha
    have := hS p (List.mem_of_getElem? e)
    simp only [endsOf, e]
    exact ⟨by simp [this], by simp, by simp⟩
end K12

namespace K12
open PySem L2 RW
def samePipe : Pl → Pl → Bool
  | .on i _, .on q _ => decide (i = q)
  | _, _ => false
theorem one_pipe {a b : Pl} {μ : Mem} : m_is_one_pipe [a.d, b.d] μ = .ok (.bl (samePipe a b)) μ := by
  have l1 : ∀ r μ, lenL [(Pl.room r).d] μ = .ok (.int 1) μ := fun _ _ => rfl
  have l2 : ∀ i k μ, lenL [(Pl.on i k).d] μ = .ok (.int 2) μ := fun _ _ _ => rfl
  have j0 : ∀ (i : Nat) k μ, idxA (Pl.on i k).d (.int 0) μ = .ok (.int (i : Int)) μ := fun _ _ _ => ix_tup (by decide) rfl
  refine run_is (ret_is ?_)
  cases a with
  | room r => simp [startR, l1, eqI, samePipe]
  | on i j =>
    cases b with
    | room r => simp [startR, l1, l2, eqI, samePipe]
    | on q k =>
      have : decide ((i : Int) = (q : Int)) = decide (i = q) := by
        rw [decide_eq_decide]; exact Int.ofNat_inj
      simp [startR, l2, eqI, j0, samePipe, this]
theorem more_comp {ps : List Pipe} {g : Int → Int → Int} {S : List Int} {eb : List (Int × Int)} {r far : Int} {μ : Mem} {G n : Nat} {ρ0 : Rho} (hr : RoomsAt ps g S r μ G) (hb : ∀ y ∈ eb, y.1 ∈ S) (hl : eb.length ≤ 2) (hn : μ[n]? = some (.lst (eb.map pairD))) (h6 : ρ0[6]? = some (some (.int far))) (h7 : ρ0[7]? = some (some (.ref G))) (hz : ρ0.length = 10) :
    compL (fun μ' => μ'[n]? = some (.lst (eb.map pairD))) (gTupM 2 (gConsM (gN 8) (gConsM (gN 9) (gNilM)))) mYes (mBin addD (mBin addD (mVar 6) (mBin idxA (mBin idxA (mVar 7) (mVar 8)) (mC (.int 0)))) (mVar 9)) ρ0 (eb.map pairD) [] μ = .ok ((eb.map fun y => far + g r y.1 + y.2).map D.int) μ := by
  obtain ⟨fl, eG, hall⟩ := hr
  have key := compL_ok (chk := fun μ' => μ'[n]? = some (.lst (eb.map pairD))) (g := gTupM 2 (gConsM (gN 8) (gConsM (gN 9) (gNilM)))) (tt := mYes) (te := mBin addD (mBin addD (mVar 6) (mBin idxA (mBin idxA (mVar 7) (mVar 8)) (mC (.int 0)))) (mVar 9)) (ρ0 := ρ0) (eb.map pairD)
    (fun i acc μ' => i ≤ eb.length ∧ acc = ((eb.take i).map fun y => far + g r y.1 + y.2).map D.int ∧ μ' = μ) 0 (acc := []) (μ := μ) ⟨Nat.zero_le _, by simp, rfl⟩ (fun _ _ _ ⟨_, _, e⟩ => e ▸ hn)
    (fun i d acc μ' ed ⟨hi, ea, em⟩ => by
      simp only [Nat.zero_add] at hi ea em ⊢
      subst em
      rw [List.getElem?_map] at ed
      obtain ⟨y, ey, rfl⟩ := Option.map_eq_some_iff.mp ed
      have hi2 := (List.getElem?_eq_some_iff.mp ey).1
      obtain ⟨u, w, hd⟩ := hall y.1 (hb y (List.mem_of_getElem? ey))
      have ix : idxA (.ref G) (.int y.1) μ' = .ok (.tup [.int (g r y.1), u, w]) μ' := by simp only [idxA, eG, idxDD, dictAt, if_pos (int_isK y.1), hd]
      have i0 : idxA (.tup [.int (g r y.1), u, w]) (.int 0) μ' = .ok (.int (g r y.1)) μ' := ix_tup (by decide) rfl
      have q6 : ((ρ0.set 8 (some (.int y.1))).set 9 (some (.int y.2)))[6]? = some (some (.int far)) := by rw [List.getElem?_set_ne (by decide), List.getElem?_set_ne (by decide)]; exact h6
      have q7 : ((ρ0.set 8 (some (.int y.1))).set 9 (some (.int y.2)))[7]? = some (some (.ref G)) := by rw [List.getElem?_set_ne (by decide), List.getElem?_set_ne (by decide)]; exact h7
      have q8 : ((ρ0.set 8 (some (.int y.1))).set 9 (some (.int y.2)))[8]? = some (some (.int y.1)) := by rw [List.getElem?_set_ne (by decide), List.getElem?_set_self (by omega)]
      have q9 : ((ρ0.set 8 (some (.int y.1))).set 9 (some (.int y.2)))[9]? = some (some (.int y.2)) := List.getElem?_set_self (by simp; omega)
      refine .mk (a := (ρ0.set 8 (some (.int y.1))).set 9 (some (.int y.2))) (μ := μ') rfl (.mk (μ := μ') rfl ?_)
      rw [if_pos rfl]
      refine ⟨by rw [ea, List.length_map, List.length_map, List.length_take, sizeLine_eq]; omega, .mk (a := .int (far + g r y.1 + y.2)) (μ := μ') ?_ ⟨by omega, ?_, rfl⟩⟩
      · simp only [mBin, mVar, mC, q6, q7, q8, q9, Res.bind, ix, i0, add_ok]
      · rw [ea, List.take_add_one, ey]; simp)
  rw [List.length_map, Nat.zero_add] at key
  obtain ⟨l, μ', e, _, rfl, rfl⟩ := key
  rw [e, List.take_length]
end K12

namespace K12
open PySem L2 RW
/-! ### the distance of any two places -/
inductive Path (ps : List Pipe) : Nat → Pl → Pl → Prop
  | nil (x : Pl) : Path ps 0 x x
  | cons {n : Nat} {x y z : Pl} (h : E ps x y) (t : Path ps n y z) : Path ps (n + 1) x z
theorem Path.app {ps : List Pipe} {n m : Nat} {x y z : Pl} (h : Path ps n x y) (h' : Path ps m y z) : Path ps (n + m) x z := by
  induction h with
  | nil x => rw [Nat.zero_add]; exact h'
  | cons e _ ih => rw [Nat.add_right_comm]; exact .cons e (ih h')
theorem Path.symm {ps : List Pipe} {n : Nat} {x y : Pl} (h : Path ps n x y) : Path ps n y x := by
  induction h with
  | nil x => exact .nil x
  | cons e _ ih => exact ih.app (.cons e.symm (.nil _))
structure Geo (S : List Int) (ps : List Pipe) (d : Pl → Pl → Int) : Prop where
  ends : ∀ p ∈ ps, p.a ∈ S ∧ p.b ∈ S
  dist : ∀ a, IsPl S ps a → Dist S ps a (d a)
section
variable {S : List Int} {ps : List Pipe} {d : Pl → Pl → Int} {a b x x' y z p : Pl} {n : Nat}
theorem Path.pl (hS : ∀ p ∈ ps, p.a ∈ S ∧ p.b ∈ S) (h : Path ps n x y) (hx : IsPl S ps x) : IsPl S ps y := by
  induction h with
  | nil x => exact hx
  | cons e _ ih => exact ih (e.pl hS).2
theorem Path.le {f : Pl → Int} (hs : ∀ x y, E ps x y → f y = f x + 1 ∨ f y = f x - 1) (h : Path ps n x y) : f y ≤ f x + n := by
  induction h with
  | nil x => omega
  | cons e _ ih =>
    have := hs _ _ e
    omega
namespace Geo
variable (G : Geo S ps d)
include G
theorem self (ha : IsPl S ps a) : d a a = 0 := (G.dist a ha).f0
theorem pos (ha : IsPl S ps a) (hx : IsPl S ps x) : 0 ≤ d a x := (G.dist a ha).pos x hx
theorem step (ha : IsPl S ps a) (e : E ps x y) : d a y = d a x + 1 ∨ d a y = d a x - 1 := (G.dist a ha).step x y e
theorem near (ha : IsPl S ps a) (hx : IsPl S ps x) (h : x ≠ a) : ∃ y, E ps x y ∧ d a y = d a x - 1 := (G.dist a ha).ex x hx h
theorem one (ha : IsPl S ps a) (hx : IsPl S ps x) (e : E ps x y) (e' : E ps x z) (h : d a y = d a x - 1) (h' : d a z = d a x - 1) : y = z := (G.dist a ha).un x y z hx e e' h h'
theorem pl (e : E ps x y) : IsPl S ps x ∧ IsPl S ps y := e.pl G.ends
theorem le (ha : IsPl S ps a) (h : Path ps n x y) : d a y ≤ d a x + n := h.le (f := d a) fun _ _ => (G.dist a ha).step _ _
theorem path (ha : IsPl S ps a) (hx : IsPl S ps x) : Path ps (d a x).toNat x a := by
  have key : ∀ (n : Nat) (x : Pl), IsPl S ps x → (d a x).toNat = n → Path ps n x a := fun n => by
    induction n with
    | zero =>
      intro x hx h
      by_cases hxa : x = a
      · rw [hxa]; exact .nil a
      · obtain ⟨y, e, hy⟩ := G.near ha hx hxa
        have := G.pos ha (G.pl e).2
        omega
    | succ n ih =>
      intro x hx h
      by_cases hxa : x = a
      · rw [hxa, G.self ha] at h; simp at h
      · obtain ⟨y, e, hy⟩ := G.near ha hx hxa
        exact .cons e (ih y (G.pl e).2 (by omega))
  exact key _ x hx rfl
theorem le0 (ha : IsPl S ps a) (h : Path ps n a y) : d a y ≤ n := by
  have := G.le ha h
  rw [G.self ha] at this; omega
theorem symm (ha : IsPl S ps a) (hb : IsPl S ps b) : d a b = d b a := by
  have h1 := G.le0 ha (G.path hb ha)
  have h2 := G.le0 hb (G.path ha hb)
  have h3 := G.pos ha hb
  have h4 := G.pos hb ha
  omega
theorem tri (ha : IsPl S ps a) (hx : IsPl S ps x) (hy : IsPl S ps y) : d a y ≤ d a x + d x y := by
  have h1 := G.le ha (G.path hx hy).symm
  have h2 := G.pos hx hy
  omega
theorem eq_of (ha : IsPl S ps a) (hb : IsPl S ps b) (h : d a b = 0) : a = b := by
  have q := G.path ha hb
  rw [h] at q
  cases q; rfl
theorem zero_iff (ha : IsPl S ps a) (hb : IsPl S ps b) : d a b = 0 ↔ a = b := ⟨G.eq_of ha hb, fun h => h ▸ G.self ha⟩
theorem edge (e : E ps x y) : d x y = 1 := by
  obtain ⟨hx, hy⟩ := G.pl e
  have h1 := G.self hx
  have h2 := G.step hx e
  have h3 := G.pos hx hy
  omega
theorem edge_of (hx : IsPl S ps x) (hy : IsPl S ps y) (h : d x y = 1) : E ps x y := by
  obtain ⟨z, e, hz⟩ := G.near hx hy (fun z => by rw [z, G.self hx] at h; omega)
  have := G.eq_of hx (G.pl e).2 (by omega)
  subst this
  exact e.symm
/-- the place that lies so far on the row from a to b -/
theorem amid (ha : IsPl S ps a) (hb : IsPl S ps b) {k : Int} (h0 : 0 ≤ k) (h1 : k ≤ d a b) : ∃ x, IsPl S ps x ∧ d a x = k ∧ d x b = d a b - k := by
  have key : ∀ (m : Nat) (b : Pl), IsPl S ps b → k + m = d a b → ∃ x, IsPl S ps x ∧ d a x = k ∧ d x b = d a b - k := fun m => by
    induction m with
    | zero => intro b hb h; exact ⟨b, hb, by omega, by rw [G.self hb]; omega⟩
    | succ m ih =>
      intro b hb h
      obtain ⟨z, e, hz⟩ := G.near ha hb (fun z => by rw [z, G.self ha] at h; omega)
      obtain ⟨x, hx, q1, q2⟩ := ih z (G.pl e).2 (by omega)
      refine ⟨x, hx, q1, ?_⟩
      have h2 := G.step hx e
      have h3 := G.tri ha hx hb
      omega
  exact key (d a b - k).toNat b hb (by omega)
theorem amid_one (ha : IsPl S ps a) (hb : IsPl S ps b) (hx : IsPl S ps x) (hx' : IsPl S ps x') {k : Int} (h1 : d a x = k) (h2 : d x b = d a b - k) (h1' : d a x' = k) (h2' : d x' b = d a b - k) : x = x' := by
  have key : ∀ (m : Nat) (b : Pl), IsPl S ps b → d x b = m → d x b = d a b - k → d x' b = d a b - k → x = x' := fun m => by
    induction m with
    | zero =>
      intro b hb h g g'
      rw [G.eq_of hx hb (by omega), G.eq_of hx' hb (by omega)]
    | succ m ih =>
      intro b hb h g g'
      obtain ⟨z, e, hz⟩ := G.near hx hb (fun z => by rw [z, G.self hx] at h; omega)
      obtain ⟨z', e', hz'⟩ := G.near hx' hb (fun z => by subst z; have := G.self hb; omega)
      have t := G.tri ha hx (G.pl e).2
      have t' := G.tri ha hx' (G.pl e').2
      have s := G.step ha e
      have s' := G.step ha e'
      have : z = z' := G.one ha hb e e' (by omega) (by omega)
      subst this
      exact ih z (G.pl e).2 (by omega) (by omega) (by omega)
  exact key (d x b).toNat b hb (by have := G.pos hx hb; omega) h2 h2'
/-- what lies between a and h, looked at from h's neighbour -/
theorem amid_step (ha : IsPl S ps a) (hp : IsPl S ps p) (e : E ps x y) (hy : d a y = d a x - 1) (hne : x ≠ p) : d a p + d p x = d a x ↔ d a p + d p y = d a y := by
  obtain ⟨hx, hyp⟩ := G.pl e
  have s := G.step hp e
  constructor
  · intro h
    obtain ⟨z, e', hz⟩ := G.near hp hx hne
    have t := G.tri ha hp (G.pl e').2
    have s' := G.step ha e'
    have : z = y := G.one ha hx e' e (by omega) hy
    subst this
    omega
  · intro h
    have t := G.tri ha hp hx
    omega
theorem amid_at (ha : IsPl S ps a) (hp : IsPl S ps p) (h : a ≠ p) : ¬ d a p + d p a = d a a := fun q => by
  have h1 := G.pos ha hp
  have h2 := G.pos hp ha
  rw [G.self ha] at q
  exact h (G.eq_of ha hp (by omega))
/-- a row of places as long as the distance is the row -/
theorem on_row (ha : IsPl S ps a) (hx : IsPl S ps x) (hb : IsPl S ps b) {k m : Nat} (h1 : Path ps k a x) (h2 : Path ps m x b) (h : d a b = (k : Int) + m) : d a x = k ∧ d x b = m := by
  have g1 := G.le0 ha h1
  have g2 := G.le0 hx h2
  have g3 := G.tri ha hx hb
  omega
/-- the parity of three distances; the place amid -/
theorem three (ha : IsPl S ps a) (hb : IsPl S ps b) (hx : IsPl S ps x) : ∃ y, IsPl S ps y ∧ d a y + d y b = d a b ∧ d a y + d y x = d a x ∧ d b y + d y x = d b x := by
  have key : ∀ (m : Nat) (b : Pl), IsPl S ps b → (d a b).toNat = m → ∃ y, IsPl S ps y ∧ d a y + d y b = d a b ∧ d a y + d y x = d a x ∧ d b y + d y x = d b x := fun m => by
    induction m with
    | zero =>
      intro b hb h
      have h0 := G.pos ha hb
      have := G.eq_of ha hb (by omega)
      subst this
      exact ⟨a, ha, by rw [G.self ha]; omega, by rw [G.self ha]; omega, by rw [G.self ha]; omega⟩
    | succ m ih =>
      intro b hb h
      obtain ⟨z, e, hz⟩ := G.near ha hb (fun z => by rw [z, G.self ha] at h; simp at h)
      have hzp := (G.pl e).2
      obtain ⟨y, hy, q1, q2, q3⟩ := ih z hzp (by omega)
      have e1 := G.edge e
      have b1 := G.symm hb hzp
      have b2 := G.symm hb hx
      have b3 := G.symm hzp hx
      have b4 := G.symm hy hb
      have b5 := G.symm hzp hy
      have b6 := G.symm hy hx
      have b7 := G.symm hb hy
      by_cases hzy : z = y
      · subst hzy
        have t0 := G.self hzp
        rcases G.step hx e with s | s
        · -- one step away from x: b lies nearer to x
          have sy : d z x = d b x + 1 := by omega
          refine ⟨b, hb, by rw [G.self hb]; omega, ?_, by rw [G.self hb]; omega⟩
          omega
        · exact ⟨z, hzp, by omega, by omega, by omega⟩
      · refine ⟨y, hy, ?_, q2, ?_⟩
        · have t := G.tri ha hy hb
          have t2 := G.tri hy hzp hb
          omega
        · -- d b y = d z y + 1, d b x = d z x + 1
          have t1 : d y b = d y z + 1 := by
            have t := G.tri ha hy hb
            have t2 := G.tri hy hzp hb
            omega
          rcases G.step hx e with s | s
          · -- b nearer to x than z: then z has two neighbours nearer to x
            exfalso
            obtain ⟨u, eu, hu⟩ := G.near hy hzp hzy
            have t := G.tri hx hy (G.pl eu).2
            have su := G.step hx eu
            have ub : u = b := G.one hx hzp eu e.symm (by omega) (by omega)
            subst ub
            omega
          · omega
  exact key _ b hb rfl
/-- no distance is as great as there are places -/
theorem short (ha : IsPl S ps a) (hb : IsPl S ps b) {keys : List Pl} (hk : ∀ x, IsPl S ps x → x ∈ keys) (hle : ∀ l : List Pl, l.Nodup → (∀ x ∈ l, x ∈ keys) → l.length ≤ keys.length) : d a b < keys.length := by
  have key : ∀ n : Nat, (n : Int) ≤ d a b → ∃ l : List Pl, l.length = n + 1 ∧ l.Nodup ∧ ∀ x ∈ l, IsPl S ps x ∧ d a x ≤ n := fun n => by
    induction n with
    | zero => intro _; exact ⟨[a], rfl, by simp, fun x hx => by simp at hx; subst hx; exact ⟨ha, by rw [G.self ha]; omega⟩⟩
    | succ n ih =>
      intro h
      obtain ⟨l, h1, h2, h3⟩ := ih (by omega)
      obtain ⟨x, hx, q1, _⟩ := G.amid ha hb (k := ((n + 1 : Nat) : Int)) (by omega) h
      refine ⟨x :: l, by simp [h1], List.nodup_cons.mpr ⟨fun z => ?_, h2⟩, fun y hy => ?_⟩
      · have := (h3 x z).2; omega
      · rcases List.mem_cons.mp hy with rfl | hy
        · exact ⟨hx, by omega⟩
        · exact ⟨(h3 y hy).1, by have := (h3 y hy).2; omega⟩
  have h0 := G.pos ha hb
  obtain ⟨l, h1, h2, h3⟩ := key (d a b).toNat (by omega)
  have := hle l h2 fun x hx => hk x (h3 x hx).1
  omega
end Geo
end
/-! ### of a tree -/
def dd (g : Int → Int → Int) (ps : List Pipe) (a x : Pl) : Int := fOf (hOf g ps a) ps a x
theorem geo {g : Int → Int → Int} {S : List Int} {ps : List Pipe} (M : Metric g S ps) (hok : ∀ p ∈ ps, 1 ≤ p.len) : Geo S ps (dd g ps) := by
  refine ⟨fun p hp => ⟨(M.ends p hp).1, (M.ends p hp).2.1⟩, fun a ha => ?_⟩
  refine dist_of ?_ hok M.ends ha
  cases a with
  | room s => exact root_room M hok ha
  | on i j =>
    obtain ⟨p, e, h0, h1⟩ := ha
    exact root_on M hok e h0 h1
end K12

namespace K12
open PySem L2 RW
/-! ### each step once; the neighbours of a place as a row -/
section
variable {S : List Int} {ps : List Pipe} {g : Int → Int → Int} {p p' : Pipe} {q q' : Nat} {k j : Int}
theorem ln_cases (p : Pipe) (q : Nat) (k : Int) : (k = 0 ∧ ln p q k = .room p.a) ∨ (k ≠ 0 ∧ k = p.len ∧ ln p q k = .room p.b) ∨ (k ≠ 0 ∧ k ≠ p.len ∧ ln p q k = .on q k) := by
  unfold ln
  by_cases h : k = 0
  · exact .inl ⟨h, by rw [if_pos h]⟩
  · by_cases h2 : k = p.len
    · exact .inr (.inl ⟨h, h2, by rw [if_neg h, if_pos h2]⟩)
    · exact .inr (.inr ⟨h, h2, by rw [if_neg h, if_neg h2]⟩)
theorem ln_inj (hab : p.a < p.b) (h : ln p q k = ln p q j) : k = j := by
  rcases ln_cases p q k with ⟨h1, e1⟩ | ⟨h1, h2, e1⟩ | ⟨h1, h2, e1⟩ <;> rcases ln_cases p q j with ⟨g1, e2⟩ | ⟨g1, g2, e2⟩ | ⟨g1, g2, e2⟩ <;> rw [e1, e2] at h <;> first | omega | (injection h with _ h; omega) | (injection h with h; omega) | (exact (Pl.on.inj h).2) | (cases h; done)
theorem ln_apart (hq : q ≠ q') (h : ln p q k = ln p' q' j) : (k = 0 ∨ k = p.len) ∧ (j = 0 ∨ j = p'.len) := by
  rcases ln_cases p q k with ⟨h1, e1⟩ | ⟨h1, h2, e1⟩ | ⟨h1, h2, e1⟩ <;> rcases ln_cases p' q' j with ⟨g1, e2⟩ | ⟨g1, g2, e2⟩ | ⟨g1, g2, e2⟩ <;> rw [e1, e2] at h <;> first | omega | (injection h with _ h; omega) | (injection h with h; omega) | (exact (Pl.on.inj h).2) | (cases h; done)
theorem join_len (M : Metric g S ps) (hok : ∀ p ∈ ps, 1 ≤ p.len) (hp : p ∈ ps) : g p.a p.b = p.len := by
  obtain ⟨e1, e2, e3⟩ := M.ends p hp
  have := M.mp p.a e1 p hp
  have := M.m0 p.a e1
  have := M.mn p.a e1 p.b e2
  have := hok p hp
  omega
theorem join_one (M : Metric g S ps) (hok : ∀ p ∈ ps, 1 ≤ p.len) (hp : p ∈ ps) (hp' : p' ∈ ps) (ha : p.a = p'.a) (hb : p.b = p'.b) : p = p' := by
  obtain ⟨e1, e2, e3⟩ := M.ends p hp
  have h0 := M.m0 p.a e1
  have h1 := join_len M hok hp
  have h2 := join_len M hok hp'
  refine M.mu p.a e1 p.b e2 p hp p' hp' (.inr ⟨rfl, by omega⟩) (.inr ⟨hb.symm, ?_⟩)
  rw [← ha, h0, h1]
  rw [← ha, ← hb] at h2
  omega
theorem once (M : Metric g S ps) (hok : ∀ p ∈ ps, 1 ≤ p.len) : Once ps := by
  intro q p k q' p' k' e e' h0 h1 h0' h1' h
  have hp := List.mem_of_getElem? e
  have hp' := List.mem_of_getElem? e'
  have hab := (M.ends p hp).2.2
  have hab' := (M.ends p' hp').2.2
  by_cases hq : q = q'
  · subst hq
    rw [e] at e'; cases e'
    refine ⟨rfl, ?_⟩
    rcases h with ⟨h, _⟩ | ⟨h, h'⟩
    · exact ln_inj hab h
    · have := ln_inj hab h
      have := ln_inj hab h'
      omega
  · exfalso
    have l1 := hok p hp
    have l2 := hok p' hp'
    rcases h with ⟨h, h'⟩ | ⟨h, h'⟩
    · have a1 := ln_apart hq h
      have a2 := ln_apart hq h'
      have k0 : k = 0 := by omega
      have k0' : k' = 0 := by omega
      have z : k + 1 = p.len := by omega
      have z' : k' + 1 = p'.len := by omega
      rw [z, z', ln_len l1, ln_len l2] at h'
      rw [k0, k0', ln_0, ln_0] at h
      injection h with ha
      injection h' with hb
      have := join_one M hok hp hp' ha hb
      subst this
      exact hq (ix_inj M.nd e e')
    · have a1 := ln_apart hq h
      have a2 := ln_apart hq h'
      have k0 : k = 0 := by omega
      have k0' : k' = 0 := by omega
      have z : k + 1 = p.len := by omega
      have z' : k' + 1 = p'.len := by omega
      rw [z, k0', ln_len l1, ln_0] at h'
      rw [k0, z', ln_0, ln_len l2] at h
      injection h with ha
      injection h' with hb
      omega
/-! the neighbours in the program's order -/
def nbOne (x : Int) (q : Nat) (p : Pipe) : List Pl := if p.a = x then [ln p q 1] else if p.b = x then [ln p q (p.len - 1)] else []
def nbs (x : Int) : Nat → List Pipe → List Pl
  | _, [] => []
  | k, p :: r => nbOne x k p ++ nbs x (k + 1) r
theorem nbs_mem (x : Int) : ∀ (l : List Pipe) (k : Nat) (d : Pl), d ∈ nbs x k l ↔ ∃ i p, l[i]? = some p ∧ d ∈ nbOne x (k + i) p
  | [], k, d => by simp [nbs]
  | p :: l, k, d => by
    rw [nbs, List.mem_append, nbs_mem x l (k + 1) d]
    constructor
    · rintro (h | ⟨i, q, h1, h2⟩)
      · exact ⟨0, p, rfl, h⟩
      · exact ⟨i + 1, q, h1, by rw [show k + (i + 1) = k + 1 + i by omega]; exact h2⟩
    · rintro ⟨i, q, h1, h2⟩
      cases i with
      | zero => simp at h1; subst h1; exact .inl h2
      | succ i => exact .inr ⟨i, q, h1, by rw [show k + 1 + i = k + (i + 1) by omega]; exact h2⟩
def nbr (ps : List Pipe) : Pl → List Pl
  | .room x => nbs x 0 ps
  | .on q k => match ps[q]? with
    | some p => [ln p q (k - 1), ln p q (k + 1)]
    | none => []
theorem nbOne_E (hl : 1 ≤ p.len) (e : ps[q]? = some p) {x : Int} {y : Pl} (h : y ∈ nbOne x q p) : E ps (.room x) y := by
  unfold nbOne at h
  split at h
  · rename_i ha
    simp at h; subst h
    exact ⟨q, p, 0, e, by omega, by omega, .inl ⟨by rw [ln_0, ha], rfl⟩⟩
  · split at h
    · rename_i hb
      simp at h; subst h
      exact ⟨q, p, p.len - 1, e, by omega, by omega, .inr ⟨by rw [show p.len - 1 + 1 = p.len by omega, ln_len hl, hb], rfl⟩⟩
    · simp at h
theorem mem_nbr (M : Metric g S ps) (hok : ∀ p ∈ ps, 1 ≤ p.len) {x y : Pl} (hx : IsPl S ps x) : y ∈ nbr ps x ↔ E ps x y := by
  cases x with
  | room r =>
    show y ∈ nbs r 0 ps ↔ _
    rw [nbs_mem]
    constructor
    · rintro ⟨i, p, e, h⟩
      rw [Nat.zero_add] at h
      exact nbOne_E (hok p (List.mem_of_getElem? e)) e h
    · intro h
      obtain ⟨q, p, e, h⟩ := E_room hok h
      have hab := (M.ends p (List.mem_of_getElem? e)).2.2
      refine ⟨q, p, e, ?_⟩
      rw [Nat.zero_add]
      unfold nbOne
      rcases h with ⟨h1, h2⟩ | ⟨h1, h2⟩
      · rw [if_pos h1, h2]; simp
      · rw [if_neg (by omega), if_pos h1, h2]; simp
  | on q k =>
    obtain ⟨p, e, h0, h1⟩ := hx
    simp only [nbr, e]
    constructor
    · intro h
      simp at h
      rcases h with rfl | rfl
      · exact ⟨q, p, k - 1, e, by omega, by omega, .inr ⟨by rw [show k - 1 + 1 = k by omega, ln_on h0 h1], rfl⟩⟩
      · exact ⟨q, p, k, e, by omega, by omega, .inl ⟨(ln_on h0 h1).symm, rfl⟩⟩
    · intro h
      rcases E_on e h0 h1 h with rfl | rfl <;> simp
theorem nbr_room_one (M : Metric g S ps) (hok : ∀ p ∈ ps, 1 ≤ p.len) {x : Int} {y : Pl} (e : ps[q]? = some p) (e' : ps[q']? = some p') (h : y ∈ nbOne x q p) (h' : y ∈ nbOne x q' p') : q = q' := by
  have hp := List.mem_of_getElem? e
  have hp' := List.mem_of_getElem? e'
  have l1 := hok p hp
  have l2 := hok p' hp'
  have key : ∀ {q : Nat} {p : Pipe}, ps[q]? = some p → 1 ≤ p.len → y ∈ nbOne x q p → (ln p q 0 = .room x ∧ ln p q (0 + 1) = y ∧ (0 : Int) < p.len) ∨ (ln p q (p.len - 1) = y ∧ ln p q (p.len - 1 + 1) = .room x) := fun {q p} e hl h => by
    unfold nbOne at h
    split at h
    · rename_i ha
      simp at h
      exact .inl ⟨by rw [ln_0, ha], h.symm, by omega⟩
    · split at h
      · rename_i hb
        simp at h
        exact .inr ⟨h.symm, by rw [show p.len - 1 + 1 = p.len by omega, ln_len hl, hb]⟩
      · simp at h
  have O := once M hok
  rcases key e l1 h with ⟨a1, a2, a3⟩ | ⟨a1, a2⟩ <;> rcases key e' l2 h' with ⟨b1, b2, b3⟩ | ⟨b1, b2⟩
  · exact (O q p 0 q' p' 0 e e' (by omega) (by omega) (by omega) (by omega) (.inl ⟨a1.trans b1.symm, a2.trans b2.symm⟩)).1
  · exact (O q p 0 q' p' (p'.len - 1) e e' (by omega) (by omega) (by omega) (by omega) (.inr ⟨a1.trans b2.symm, a2.trans b1.symm⟩)).1
  · exact (O q p (p.len - 1) q' p' 0 e e' (by omega) (by omega) (by omega) (by omega) (.inr ⟨a1.trans b2.symm, a2.trans b1.symm⟩)).1
  · exact (O q p (p.len - 1) q' p' (p'.len - 1) e e' (by omega) (by omega) (by omega) (by omega) (.inl ⟨a1.trans b1.symm, a2.trans b2.symm⟩)).1
theorem nbs_nodup {x : Int} : ∀ (l : List Pipe) (k : Nat), (∀ i j p p' y, l[i]? = some p → l[j]? = some p' → y ∈ nbOne x (k + i) p → y ∈ nbOne x (k + j) p' → i = j) → (nbs x k l).Nodup
  | [], k, _ => .nil
  | p :: l, k, h => by
    rw [nbs, List.nodup_append]
    refine ⟨?_, nbs_nodup l (k + 1) fun i j p1 p2 y e1 e2 m1 m2 => ?_, fun u hu v hv e => ?_⟩
    · unfold nbOne
      split
      · simp
      · split <;> simp
    · have := h (i + 1) (j + 1) p1 p2 y e1 e2 (by rw [show k + (i + 1) = k + 1 + i by omega]; exact m1) (by rw [show k + (j + 1) = k + 1 + j by omega]; exact m2)
      omega
    · subst e
      obtain ⟨i, p', e', m⟩ := (nbs_mem x l (k + 1) u).mp hv
      have := h 0 (i + 1) p p' u rfl e' hu (by rw [show k + (i + 1) = k + 1 + i by omega]; exact m)
      omega
theorem nbr_nodup (M : Metric g S ps) (hok : ∀ p ∈ ps, 1 ≤ p.len) {x : Pl} (hx : IsPl S ps x) : (nbr ps x).Nodup := by
  cases x with
  | room r =>
    refine nbs_nodup ps 0 fun i j p p' y e e' h h' => ?_
    rw [Nat.zero_add] at h h'
    exact nbr_room_one M hok e e' h h'
  | on q k =>
    obtain ⟨p, e, h0, h1⟩ := hx
    simp only [nbr, e]
    have hab := (M.ends p (List.mem_of_getElem? e)).2.2
    simp
    intro z
    have := ln_inj hab z
    omega
end
end K12

namespace K12
open PySem L2 RW
/-! ### places as data -/
def penc : Pl → PyData
  | .room r => .tuple [.int r]
  | .on q k => .tuple [.int q, .int k]
theorem pl_py (x : Pl) (μ : Mem) : D.py? 8 μ x.d = some (penc x) := by cases x <;> simp [Pl.d, penc, D.py?, D.pys?]
theorem pl_depth (x : Pl) : (penc x).depth ≤ 32 := by cases x <;> simp [penc, PyData.depth, PyData.depthAll]
theorem pl_isTup (x : Pl) : isTupD (penc x) = true := by cases x <;> rfl
theorem pl_shaped (x : Pl) : SeqAt.shaped (penc x) = true := by cases x <;> simp [penc, SeqAt.shaped, PyData.canLay0, PyData.canLayAll0, PyData.depth, PyData.depthAll]
theorem pl_alike (x y : Pl) : PySem.W.alike (penc x) (penc y) = true := by cases x <;> cases y <;> simp [penc, PySem.W.alike, PySem.W.alikeAll]
theorem pl_toks (x y : Pl) (h : PySem.W.keyToks (penc x) = PySem.W.keyToks (penc y)) : x = y := by
  cases x <;> cases y <;> simp [penc, PySem.W.keyToks, PySem.W.keyToksAll] at h
  · rw [h]
  · obtain ⟨h1, h2⟩ := h
    rw [Int.ofNat_inj.mp h1, h2]
theorem pl_eqv (x y : Pl) : PyData.eqv (penc x) (penc y) = decide (x = y) := by
  cases x <;> cases y <;> simp [penc, PyData.eqv, PyData.eqvAll]
  · rfl
  · rename_i i k j l
    by_cases h : i = j
    · by_cases h2 : k = l <;> simp [h, h2]
    · have h' : ¬ (i : Int) = j := fun z => h (Int.ofNat_inj.mp z)
      by_cases h2 : k = l <;> simp [h, h', h2]
theorem eqP {x y : Pl} {μ : Mem} : eqD x.d y.d μ = .ok (.bl (decide (x = y))) μ := by
  simp only [eqD, pl_py, pl_shaped, Bool.and_self, if_true, pl_eqv]
theorem sorted_pl {μ : Mem} {n : Nat} {l : List Pl} (e : μ[n]? = some (.lst (l.map Pl.d))) (hl : l.length ≤ 1000) : sortedA [.ref n] μ = .ok (.ref μ.length) (μ ++ [.lst ((sortE penc l).map Pl.d)]) :=
  sorted_tup e (by omega) (fun x _ => ⟨pl_py x μ, pl_depth x, pl_isTup x⟩) fun x _ y _ => pl_alike x y
theorem sortP_eq {l l' : List Pl} (h : l.Perm l') : sortE penc l = sortE penc l' := sortE_eq h fun x _ y _ => pl_toks x y
theorem paired_at {α β : Type} {F : α → β → Prop} : ∀ {l : List α} {l' : List β} {i : Nat} {a : α}, Paired F l l' → l[i]? = some a → ∃ b, l'[i]? = some b ∧ F a b
  | _, _, _, _, .nil, e => by simp at e
  | _ :: _, _ :: _, 0, _, .cons h _, e => by simp at e; subst e; exact ⟨_, rfl, h⟩
  | _ :: _, _ :: _, i + 1, _, .cons _ t, e => by simpa using paired_at t (by simpa using e)
/-! ### the program's place_at, next_to -/
section
variable {S : List Int} {ps : List Pipe} {g : Int → Int → Int} {p : Pipe} {q R : Nat} {k : Int} {μ : Mem}
theorem place_at_spec (e : ps[q]? = some p) : m_place_at [houseD R ps, .int q, .int k] μ = .ok (ln p q k).d μ := by
  have i1 : idxA (houseD R ps) (.int 1) μ = .ok (.tup (ps.map Pipe.d)) μ := ix_tup (by decide) rfl
  have i2 : idxA (.tup (ps.map Pipe.d)) (.int (q : Int)) μ = .ok p.d μ := ix_tup (by omega) (by rw [Int.toNat_natCast, List.getElem?_map, e]; rfl)
  have start : b_place_at (startR 8 [houseD R ps, .int q, .int k]) μ = sSeq (sIf (mTest (mBin eqD (mVar 2) (mC (.int 0)))) (sRet (mTup (mCons (mVar 3) (mNil)))) (sNil))
    (sSeq (sIf (mTest (mBin eqD (mVar 2) (mVar 5))) (sRet (mTup (mCons (mVar 4) (mNil)))) (sNil))
    (sRet (mTup (mCons (mVar 1) (mCons (mVar 2) (mNil)))))) [some (houseD R ps), some (.int q), some (.int k), some (.int p.a), some (.int p.b), some (.int p.len), some (.tup (p.nar.map pairD)), some (.tup (p.fl.map pairD))] μ := by
    unfold b_place_at
    rw [seq_asg (d := p.d) (μ1 := μ) (ρ2 := [some (houseD R ps), some (.int q), some (.int k), some (.int p.a), some (.int p.b), some (.int p.len), some (.tup (p.nar.map pairD)), some (.tup (p.fl.map pairD))]) (μ2 := μ) (by simp [startR, i1, i2]) rfl]
  refine run_is (start.trans ?_)
  rcases ln_cases p q k with ⟨h1, e1⟩ | ⟨h1, h2, e1⟩ | ⟨h1, h2, e1⟩
  · exact seq_ret ((if_t (μ1 := μ) (by simp [eqI, h1])).trans (ret_is (by rw [e1]; simp [Pl.d])))
  · refine (seq_skip (μ1 := μ) (by simp [eqI, h1])).trans ?_
    exact seq_ret ((if_t (μ1 := μ) (by simp [eqI, h2])).trans (ret_is (by rw [e1]; simp [Pl.d])))
  · refine (seq_skip (μ1 := μ) (by simp [eqI, h1])).trans ?_
    refine (seq_skip (μ1 := μ) (by simp [eqI, h2])).trans (ret_is (by rw [e1]; simp [Pl.d]))
end
end K12

namespace K12
open PySem L2 RW
/-! ### stretches of pipes -/
abbrev Stc := Nat × Int × Int
def stD (s : Stc) : D := .tup [.int s.1, .int s.2.1, .int s.2.2]
def absI (i : Int) : Int := if i < 0 then -i else i
def stLen (s : Stc) : Int := absI (s.2.2 - s.2.1)
def runLen : List Stc → Int
  | [] => 0
  | s :: t => stLen s + runLen t
inductive Run (ps : List Pipe) : List Stc → Pl → Pl → Prop
  | nil (x : Pl) : Run ps [] x x
  | cons {q : Nat} {b e : Int} {p : Pipe} {t : List Stc} {y : Pl} (ep : ps[q]? = some p) (hb : 0 ≤ b ∧ b ≤ p.len) (he : 0 ≤ e ∧ e ≤ p.len) (h : Run ps t (ln p q e) y) : Run ps ((q, b, e) :: t) (ln p q b) y
theorem absI_pos (i : Int) : 0 ≤ absI i := by unfold absI; split <;> omega
theorem runLen_pos : ∀ t : List Stc, 0 ≤ runLen t
  | [] => Int.le_refl _
  | s :: t => by
    have := runLen_pos t
    have := absI_pos (s.2.2 - s.2.1)
    unfold runLen stLen; omega
theorem runLen_app : ∀ t u : List Stc, runLen (t ++ u) = runLen t + runLen u
  | [], u => by simp [runLen]
  | s :: t, u => by simp only [List.cons_append, runLen, runLen_app t u]; omega
section
variable {S : List Int} {ps : List Pipe} {g : Int → Int → Int} {p : Pipe} {q : Nat} {x y z : Pl} {t u : List Stc}
theorem Run.app (h : Run ps t x y) (h' : Run ps u y z) : Run ps (t ++ u) x z := by
  induction h with
  | nil x => exact h'
  | cons ep hb he _ ih => exact .cons ep hb he (ih h')
def turnS (s : Stc) : Stc := (s.1, s.2.2, s.2.1)
theorem Run.turn (h : Run ps t x y) : Run ps (t.reverse.map turnS) y x := by
  induction h with
  | nil x => exact .nil x
  | @cons q b e p t y ep hb he _ ih =>
    rw [List.reverse_cons, List.map_append]
    exact ih.app (.cons ep he hb (.nil _))
theorem turn_len : ∀ t : List Stc, runLen (t.reverse.map turnS) = runLen t
  | [] => rfl
  | s :: t => by
    rw [List.reverse_cons, List.map_append, runLen_app, turn_len t]
    simp only [List.map_cons, List.map_nil, runLen, turnS, stLen, absI]
    split <;> split <;> omega
theorem lane_up (ep : ps[q]? = some p) : ∀ (n : Nat) {b : Int}, 0 ≤ b → b + n ≤ p.len → Path ps n (ln p q b) (ln p q (b + n))
  | 0, b, _, _ => by simp; exact .nil _
  | n + 1, b, h0, h1 => by
    have := lane_up ep n (b := b + 1) (by omega) (by push_cast at h1; omega)
    rw [show b + 1 + (n : Int) = b + ((n + 1 : Nat) : Int) by push_cast; omega] at this
    exact .cons ⟨q, p, b, ep, h0, by push_cast at h1; omega, .inl ⟨rfl, rfl⟩⟩ this
theorem lane_path (ep : ps[q]? = some p) {b e : Int} (hb : 0 ≤ b ∧ b ≤ p.len) (he : 0 ≤ e ∧ e ≤ p.len) : Path ps (absI (e - b)).toNat (ln p q b) (ln p q e) := by
  unfold absI
  by_cases h : e - b < 0
  · rw [if_pos h]
    have := lane_up ep (b - e).toNat (b := e) he.1 (by omega)
    rw [show e + ((b - e).toNat : Int) = b by omega] at this
    rw [show -(e - b) = b - e by omega]
    exact this.symm
  · rw [if_neg h]
    have := lane_up ep (e - b).toNat (b := b) hb.1 (by omega)
    rw [show b + ((e - b).toNat : Int) = e by omega] at this
    exact this
theorem Run.path (h : Run ps t x y) : Path ps (runLen t).toNat x y := by
  induction h with
  | nil x => exact .nil x
  | @cons q b e p t y ep hb he _ ih =>
    have h1 := lane_path ep hb he
    have h2 := runLen_pos t
    have h3 := absI_pos (e - b)
    have := h1.app ih
    rw [show (runLen ((q, b, e) :: t)).toNat = (absI (e - b)).toNat + (runLen t).toNat by simp only [runLen, stLen]; omega]
    exact this
/-! the place so far along -/
theorem along_spec {R : Nat} {a : Pl} {k : Int} {n : Nat} {μ : Mem} (h : Run ps t x y) (hx : a = x) (en : μ[n]? = some (.lst (t.map stD))) (h0 : 0 ≤ k) (h1 : k ≤ runLen t) :
    ∃ z : Pl, m_place_along [houseD R ps, .ref n, a.d, .int k] μ = .ok z.d μ ∧ Path ps k.toNat x z ∧ Path ps (runLen t - k).toNat z y := by
  -- the loop, from any part of the stretches on
  have loop : ∀ (t : List Stc) (x : Pl) (k0 k : Int) (o5 o6 o7 : Option D) (chk : Mem → Prop), chk μ → Run ps t x y → 0 ≤ k → k ≤ runLen t → t ≠ [] → ∃ z : Pl, forL chk (gTupM 3 (gConsM (gN 5) (gConsM (gN 6) (gConsM (gN 7) (gNilM))))) (sSeq (sIf (mTest (mBin (cmpI fun i j => decide (i ≤ j)) (mVar 4) (mB absL (mCons (mBin subD (mVar 7) (mVar 6)) (mNil))))) (sRet (mB m_place_at (mCons (mVar 0) (mCons (mVar 5) (mCons (mIfE (mTest (mBin (cmpI fun i j => decide (i < j)) (mVar 6) (mVar 7))) (mBin addD (mVar 6) (mVar 4)) (mBin subD (mVar 6) (mVar 4))) (mNil)))))) (sNil))
      (sAug 4 subD (mB absL (mCons (mBin subD (mVar 7) (mVar 6)) (mNil))))) (t.map stD) [some (houseD R ps), some (.ref n), some a.d, some (.int k0), some (.int k), o5, o6, o7] μ = .ok (.ret z.d) μ ∧ Path ps k.toNat x z ∧ Path ps (runLen t - k).toNat z y := by
    intro t
    induction t with
    | nil => intro _ _ _ _ _ _ _ _ _ _ _ h; exact absurd rfl h
    | cons s t ih =>
      intro x k0 k o5 o6 o7 chk hc h h0 h1 _
      cases h with
      | @cons q b e p _ _ ep hb he h =>
        have hl := runLen_pos t
        have ha : absL [.int (e - b)] μ = .ok (.int (absI (e - b))) μ := rfl
        rw [List.map_cons, forL, if_pos hc]
        show ∃ z : Pl, pureE (.ok [some (houseD R ps), some (.ref n), some a.d, some (.int k0), some (.int k), some (.int q), some (.int b), some (.int e)] μ) _ = _ ∧ _
        simp only [pureE]
        by_cases hk : k ≤ absI (e - b)
        · by_cases hbe : b < e
          · have hz : absI (e - b) = e - b := by unfold absI; rw [if_neg (by omega)]
            refine ⟨ln p q (b + k), ?_, ?_, ?_⟩
            · rw [seq_ret (d := (ln p q (b + k)).d) (μ1 := μ) ((if_t (μ1 := μ) (by simp [subD, ha, cmpI, hk])).trans (ret_is (by simp [cmpI, hbe, add_ok, place_at_spec ep])))]
              rfl
            · have := lane_up ep k.toNat (b := b) hb.1 (by omega)
              rw [show b + (k.toNat : Int) = b + k by omega] at this
              exact this
            · have h2 := lane_up ep (e - b - k).toNat (b := b + k) (by omega) (by omega)
              rw [show b + k + ((e - b - k).toNat : Int) = e by omega] at h2
              have := h2.app h.path
              rw [show (runLen ((q, b, e) :: t) - k).toNat = (e - b - k).toNat + (runLen t).toNat by simp only [runLen, stLen, hz]; omega]
              exact this
          · have hz : absI (e - b) = b - e := by unfold absI; split <;> omega
            refine ⟨ln p q (b - k), ?_, ?_, ?_⟩
            · rw [seq_ret (d := (ln p q (b - k)).d) (μ1 := μ) ((if_t (μ1 := μ) (by simp [subD, ha, cmpI, hk])).trans (ret_is (by simp [cmpI, hbe, subD, place_at_spec ep])))]
              rfl
            · have := lane_up ep k.toNat (b := b - k) (by omega) (by omega)
              rw [show b - k + (k.toNat : Int) = b by omega] at this
              exact this.symm
            · have h2 := lane_up ep (b - e - k).toNat (b := e) he.1 (by omega)
              rw [show e + ((b - e - k).toNat : Int) = b - k by omega] at h2
              have := h2.symm.app h.path
              rw [show (runLen ((q, b, e) :: t) - k).toNat = (b - e - k).toNat + (runLen t).toNat by simp only [runLen, stLen, hz]; omega]
              exact this
        · have hne : t ≠ [] := fun z => by
            subst z
            simp only [runLen, stLen] at h1; omega
          have hr : runLen ((q, b, e) :: t) = absI (e - b) + runLen t := rfl
          obtain ⟨z, q1, p1, p2⟩ := ih (ln p q e) k0 (k - absI (e - b)) (some (.int q)) (some (.int b)) (some (.int e)) chk hc h (by omega) (by omega) hne
          refine ⟨z, ?_, ?_, ?_⟩
          · have : (sSeq (sIf (mTest (mBin (cmpI fun i j => decide (i ≤ j)) (mVar 4) (mB absL (mCons (mBin subD (mVar 7) (mVar 6)) (mNil))))) (sRet (mB m_place_at (mCons (mVar 0) (mCons (mVar 5) (mCons (mIfE (mTest (mBin (cmpI fun i j => decide (i < j)) (mVar 6) (mVar 7))) (mBin addD (mVar 6) (mVar 4)) (mBin subD (mVar 6) (mVar 4))) (mNil)))))) (sNil))
      (sAug 4 subD (mB absL (mCons (mBin subD (mVar 7) (mVar 6)) (mNil))))) [some (houseD R ps), some (.ref n), some a.d, some (.int k0), some (.int k), some (.int q), some (.int b), some (.int e)] μ = .ok (.nx [some (houseD R ps), some (.ref n), some a.d, some (.int k0), some (.int (k - absI (e - b))), some (.int q), some (.int b), some (.int e)]) μ := by
              refine (seq_skip (μ1 := μ) (by simp [subD, ha, cmpI, hk])).trans ?_
              simp [subD, ha]
            rw [this]
            exact q1
          · have := (lane_path ep hb he).app p1
            rw [show (absI (e - b)).toNat + (k - absI (e - b)).toNat = k.toNat by have := absI_pos (e - b); omega] at this
            exact this
          · rw [show (runLen ((q, b, e) :: t) - k).toNat = (runLen t - (k - absI (e - b))).toNat by omega]
            exact p2
  by_cases ht : t = []
  · subst ht
    cases h
    have hk : k = 0 := by simp only [runLen] at h1; omega
    subst hk
    refine ⟨a, run_is ?_, by rw [hx]; exact .nil _, by rw [hx]; exact .nil _⟩
    unfold b_place_along
    refine (seq_set (d := .int 0) (μ1 := μ) rfl).trans ?_
    refine (seq_run (for_run (chk := fun μ' => μ'[n]? = some (.lst [])) (items := []) (μ1 := μ) (seq_lst (n := n) rfl en) (ρ' := [some (houseD R ps), some (.ref n), some a.d, some (.int 0), some (.int 0), none, none, none]) (μ' := μ) (by unfold forL; rw [if_pos (show μ[n]? = some (.lst []) from en)]; rfl))).trans ?_
    exact ret_is rfl
  · obtain ⟨z, q1, p1, p2⟩ := loop t x k k none none none (fun μ' => μ'[n]? = some (.lst (t.map stD))) en h h0 h1 ht
    refine ⟨z, run_is ?_, p1, p2⟩
    unfold b_place_along
    refine (seq_set (d := .int k) (μ1 := μ) rfl).trans ?_
    refine seq_ret ?_
    rw [sFor, seq_lst (n := n) rfl en]
    exact q1
end
end K12

namespace K12
open PySem L2 RW
/-! ### the road between two places -/
abbrev Sd := Int × Int × List Stc
def sidesOf (ps : List Pipe) : Pl → List Sd
  | .room r => [(r, 0, [])]
  | .on q k => match ps[q]? with
    | some p => [(p.a, k, [(q, k, 0)]), (p.b, p.len - k, [(q, k, p.len)])]
    | none => []
def SideD (μ : Mem) (d : D) (s : Sd) : Prop := ∃ f, d = .tup [.int s.1, .int s.2.1, .ref f] ∧ μ[f]? = some (.lst (s.2.2.map stD))
theorem SideD.keep {μ μ' : Mem} {d : D} {s : Sd} (h : SideD μ d s) (k : Keep [] μ μ') : SideD μ' d s := let ⟨f, h1, h2⟩ := h; ⟨f, h1, k.get h2 (by simp)⟩
section
variable {S : List Int} {R : Nat} {ps : List Pipe} {g : Int → Int → Int} {μ : Mem} {a b : Pl}
theorem sides_spec (ha : IsPl S ps a) : ∃ (n : Nat) (ds : List D) (μ' : Mem), m_sides_of [houseD R ps, a.d] μ = .ok (.ref n) μ' ∧ μ'[n]? = some (.lst ds) ∧ Paired (SideD μ') ds (sidesOf ps a) ∧ Keep [] μ μ' := by
  cases a with
  | room r =>
    have l1 : lenL [(Pl.room r).d] μ = .ok (.int 1) μ := rfl
    have i0 : ∀ μ, idxA (Pl.room r).d (.int 0) μ = .ok (.int r) μ := fun μ => ix_tup (by decide) rfl
    refine ⟨μ.length + 1, [.tup [.int r, .int 0, .ref μ.length]], μ ++ [.lst []] ++ [.lst [.tup [.int r, .int 0, .ref μ.length]]], run_is (seq_ret ((if_t (μ1 := μ) (by simp [startR, l1, eqI])).trans (ret_is ?_))), ?_, .cons ⟨μ.length, rfl, app_at app_new⟩ .nil, Keep.trans Keep.app Keep.app⟩
    · simp [startR, i0]
    · rw [show μ.length + 1 = (μ ++ [Cell.lst []]).length by simp]; exact app_new
  | on q k =>
    obtain ⟨p, e, h0, h1⟩ := ha
    have l1 : lenL [(Pl.on q k).d] μ = .ok (.int 2) μ := rfl
    have i1 : idxA (houseD R ps) (.int 1) μ = .ok (.tup (ps.map Pipe.d)) μ := ix_tup (by decide) rfl
    have i2 : idxA (.tup (ps.map Pipe.d)) (.int (q : Int)) μ = .ok p.d μ := ix_tup (by omega) (by rw [Int.toNat_natCast, List.getElem?_map, e]; rfl)
    obtain ⟨c1, hc1⟩ : ∃ c1, c1 = Cell.lst [stD (q, k, 0)] := ⟨_, rfl⟩
    obtain ⟨c2, hc2⟩ : ∃ c2, c2 = Cell.lst [stD (q, k, p.len)] := ⟨_, rfl⟩
    have hs : sidesOf ps (.on q k) = [(p.a, k, [(q, k, 0)]), (p.b, p.len - k, [(q, k, p.len)])] := by simp only [sidesOf, e]
    refine ⟨μ.length + 2, [.tup [.int p.a, .int k, .ref μ.length], .tup [.int p.b, .int (p.len - k), .ref (μ.length + 1)]], μ ++ [c1] ++ [c2] ++ [.lst [.tup [.int p.a, .int k, .ref μ.length], .tup [.int p.b, .int (p.len - k), .ref (μ.length + 1)]]], run_is ?_, ?_, ?_, Keep.trans (Keep.trans Keep.app Keep.app) Keep.app⟩
    · unfold b_sides_of
      refine (seq_skip (μ1 := μ) (by simp [startR, l1, eqI])).trans ?_
      refine (seq_asg (d := (Pl.on q k).d) (μ1 := μ) (ρ2 := [some (houseD R ps), some (Pl.on q k).d, some (.int q), some (.int k), none, none, none, none, none]) (μ2 := μ) rfl rfl).trans ?_
      refine (seq_asg (d := p.d) (μ1 := μ) (ρ2 := [some (houseD R ps), some (Pl.on q k).d, some (.int q), some (.int k), some (.int p.a), some (.int p.b), some (.int p.len), some (.tup (p.nar.map pairD)), some (.tup (p.fl.map pairD))]) (μ2 := μ) (by simp [i1, i2]) rfl).trans (ret_is ?_)
      rw [hc1, hc2]
      simp [subD, stD]
    · rw [show μ.length + 2 = (μ ++ [c1] ++ [c2]).length by simp]; exact app_new
    · rw [hs]
      refine .cons ⟨μ.length, rfl, ?_⟩ (.cons ⟨μ.length + 1, rfl, ?_⟩ .nil)
      · rw [hc1]; exact app_at (app_at app_new)
      · rw [hc2, show μ.length + 1 = (μ ++ [c1]).length by simp]; exact app_at app_new
theorem sides_run (hok : ∀ p ∈ ps, 1 ≤ p.len) (hS : ∀ p ∈ ps, p.a ∈ S ∧ p.b ∈ S) (ha : IsPl S ps a) {s : Sd} (h : s ∈ sidesOf ps a) : s.1 ∈ S ∧ Run ps s.2.2 a (.room s.1) ∧ runLen s.2.2 = s.2.1 := by
  cases a with
  | room r => simp [sidesOf] at h; subst h; exact ⟨ha, .nil _, rfl⟩
  | on q k =>
    obtain ⟨p, e, h0, h1⟩ := ha
    have hp := List.mem_of_getElem? e
    have hl := hok p hp
    simp only [sidesOf, e, List.mem_cons, List.not_mem_nil, or_false] at h
    rw [← ln_on h0 h1]
    rcases h with rfl | rfl
    · refine ⟨(hS p hp).1, .cons e ⟨by omega, by omega⟩ ⟨by omega, by omega⟩ ?_, ?_⟩
      · rw [ln_0]; exact .nil _
      · show absI (0 - k) + 0 = k
        unfold absI; rw [if_pos (by omega)]; omega
    · refine ⟨(hS p hp).2, .cons e ⟨by omega, by omega⟩ ⟨by omega, by omega⟩ ?_, ?_⟩
      · rw [ln_len hl]; exact .nil _
      · show absI (p.len - k) + 0 = p.len - k
        unfold absI; rw [if_neg (by omega)]; omega
theorem sides_ends : endsOf ps a = (sidesOf ps a).map fun s => (s.1, s.2.1) := by
  cases a with
  | room r => rfl
  | on q k =>
    cases e : ps[q]? with
    | none => simp only [endsOf, sidesOf, e, List.map_nil]
    | some p => simp only [endsOf, sidesOf, e, List.map_cons, List.map_nil]
theorem turned_spec {n : Nat} {t : List Stc} (e : μ[n]? = some (.lst (t.map stD))) (hl : t.length ≤ 1000) : ∃ (m : Nat) (μ' : Mem), m_turned [.ref n] μ = .ok (.ref m) μ' ∧ μ'[m]? = some (.lst ((t.reverse.map turnS).map stD)) ∧ Keep [] μ μ' := by
  have key := compL_ok (chk := fun μ' => μ'[n]? = some (.lst (t.map stD))) (g := gTupM 3 (gConsM (gN 1) (gConsM (gN 2) (gConsM (gN 3) (gNilM))))) (tt := mYes) (te := mTup (mCons (mVar 1) (mCons (mVar 3) (mCons (mVar 2) (mNil))))) (ρ0 := [some (.ref n), none, none, none]) (t.reverse.map stD)
    (fun i acc μ' => i ≤ t.length ∧ acc = ((t.reverse.take i).map turnS).map stD ∧ μ' = μ) 0 (acc := []) (μ := μ) ⟨Nat.zero_le _, by simp, rfl⟩ (fun _ _ _ ⟨_, _, em⟩ => em ▸ e) (fun i d acc μ' ed ⟨hi, ea, em⟩ => by
      simp only [Nat.zero_add] at hi ea em ⊢
      subst em
      rw [List.getElem?_map] at ed
      obtain ⟨s, es, rfl⟩ := Option.map_eq_some_iff.mp ed
      have hi2 := (List.getElem?_eq_some_iff.mp es).1
      rw [List.length_reverse] at hi2
      refine .mk (a := [some (.ref n), some (.int s.1), some (.int s.2.1), some (.int s.2.2)]) (μ := μ') rfl (.mk (μ := μ') rfl ?_)
      rw [if_pos rfl]
      refine ⟨by rw [ea, List.length_map, List.length_map, List.length_take, sizeLine_eq]; omega, .mk (a := stD (turnS s)) (μ := μ') rfl ⟨by omega, ?_, rfl⟩⟩
      rw [ea, List.take_add_one, es]; simp)
  obtain ⟨l, μ', q, _, rfl, rfl⟩ := key
  rw [Nat.zero_add, List.length_map, List.take_length] at q
  refine ⟨μ'.length, μ' ++ [.lst ((t.reverse.map turnS).map stD)], run_is (ret_is ?_), app_new, Keep.app⟩
  refine comp_is (chk := fun μ2 => μ2[n]? = some (.lst (t.map stD))) (items := t.reverse.map stD) (μ1 := μ') ?_ q
  simp only [iRevD, mCons, mNil, mVar, startR, List.map, List.length_cons, List.length_nil, List.replicate, List.cons_append, List.nil_append, List.getElem?_cons_zero, Res.bind, itSeq, e, List.map_reverse]
theorem count_lt {α : Type} {P Q : α → Bool} (h : ∀ z, P z = true → Q z = true) : ∀ {l : List α} {y : α}, y ∈ l → Q y = true → P y = false → l.countP P < l.countP Q
  | x :: l, y, hy, hq, hp => by
    have le : l.countP P ≤ l.countP Q := List.countP_mono_left fun z _ => h z
    rw [List.countP_cons, List.countP_cons]
    rcases List.mem_cons.mp hy with rfl | hy
    · rw [hq, hp]; simp; omega
    · have := count_lt h hy hq hp
      cases hx : P x with
      | false => cases Q x <;> simp <;> omega
      | true => rw [h x hx]; simp; omega
theorem between_spec (hok : ∀ p ∈ ps, 1 ≤ p.len) (hS : ∀ p ∈ ps, p.a ∈ S ∧ p.b ∈ S) (hSl : S.length ≤ 16) {r x : Int} {G : Nat} (h0 : g r r = 0) (K : RoomsAt ps g S r μ G) (hx : x ∈ S) :
    ∃ (m : Nat) (t : List Stc) (μ' : Mem), m_between_rooms [.ref G, .int x] μ = .ok (.ref m) μ' ∧ μ'[m]? = some (.lst (t.map stD)) ∧ Run ps t (.room r) (.room x) ∧ runLen t = g r x ∧ t.length ≤ 16 ∧ Keep [] μ μ' := by
  obtain ⟨n, hn⟩ : ∃ n, n = μ.length := ⟨_, rfl⟩
  obtain ⟨fl, eG, hall⟩ := K
  obtain ⟨cn, hcn⟩ : ∃ cn : Int → Nat, cn = fun c => S.countP fun z => decide (g r z < g r c) := ⟨_, rfl⟩
  have cn16 : ∀ c, cn c ≤ 16 := fun c => by rw [hcn]; exact Nat.le_trans List.countP_le_length hSl
  have loop := whileL_ok (c := mTest (mBin isNotD (mBin idxA (mBin idxA (mVar 0) (mVar 1)) (mC (.int 1))) (mC .non))) (body := sSeq (sExpr (mMt isLst appendM (mVar 2) (mCons (mBin idxA (mBin idxA (mVar 0) (mVar 1)) (mC (.int 1))) (mNil)))) (sSet 1 (mBin idxA (mBin idxA (mVar 0) (mVar 1)) (mC (.int 2)))))
    (fun m ρ μ' => ∃ (c : Int) (A : List Stc), ρ = [some (.ref G), some (.int c), some (.ref n)] ∧ c ∈ S ∧ cn c = m ∧ A.length + m ≤ 16 ∧ μ'[n]? = some (.lst (A.map stD)) ∧ Run ps A.reverse (.room c) (.room x) ∧ runLen A.reverse + g r c = g r x ∧ Keep [n] (μ ++ [.lst []]) μ') (cn x) (n := 1000)
    (ρ := [some (.ref G), some (.int x), some (.ref n)]) (μ := μ ++ [.lst []]) (by have := cn16 x; omega) ⟨x, [], rfl, hx, rfl, by have := cn16 x; simpa using this, by rw [hn]; exact app_new, .nil _, by simp [runLen], .refl⟩
    (fun ρ μ' => ∃ (o : Option D) (A : List Stc), ρ = [some (.ref G), o, some (.ref n)] ∧ A.length ≤ 16 ∧ μ'[n]? = some (.lst (A.map stD)) ∧ Run ps A.reverse (.room r) (.room x) ∧ runLen A.reverse = g r x ∧ Keep [n] (μ ++ [.lst []]) μ')
    (fun m ρ μ' ⟨c, A, eρ, hc, hm, hA, en, hr, hl, k⟩ => by
      subst eρ
      obtain ⟨u, w, hd, bk⟩ := hall c hc
      have eG' : μ'[G]? = some (.dic fl) := k.get (app_at eG) (by have := at_lt eG; simp; omega)
      have ix : idxA (.ref G) (.int c) μ' = .ok (.tup [.int (g r c), u, w]) μ' := by simp only [idxA, eG', idxDD, dictAt, if_pos (int_isK c), hd]
      have i1 : idxA (.tup [.int (g r c), u, w]) (.int 1) μ' = .ok u μ' := ix_tup (by decide) rfl
      rcases bk with ⟨rfl, rfl, rfl⟩ | ⟨hne, q, p, b, e, y, via, rfl, rfl, hg⟩
      · refine .mk (a := false) (μ := μ') (by simp [ix, i1, isNotD, isNonD]) ?_
        rw [if_neg (by simp)]
        exact ⟨_, A, rfl, by omega, en, hr, by omega, k⟩
      · refine .mk (a := true) (μ := μ') (by simp [ix, i1, isNotD, isNonD]) ?_
        rw [if_pos rfl]
        have hp := List.mem_of_getElem? via.1
        have hl1 := hok p hp
        have hy : y ∈ S := by
          rcases via.2 with ⟨h1, _⟩ | ⟨h1, _⟩
          · rw [← h1]; exact (hS p hp).1
          · rw [← h1]; exact (hS p hp).2
        have hlt : cn y < cn c := by
          rw [hcn]
          refine count_lt (fun z hz => ?_) hy (decide_eq_true (by omega)) (decide_eq_false (by omega))
          have := of_decide_eq_true hz
          exact decide_eq_true (by omega)
        have ap : appendM (.ref n) [.tup [.int (q : Int), .int b, .int e]] μ' = .ok .non (μ'.set n (.lst (A.map stD ++ [.tup [.int (q : Int), .int b, .int e]]))) := by
          have : (A.map stD).length < sizeLine := by rw [List.length_map, sizeLine_eq]; omega
          simp only [appendM, en, if_pos this]
        have il : isLst (.ref n) μ' = true := by simp only [isLst, en]
        obtain ⟨μ2, h2⟩ : ∃ μ2, μ2 = μ'.set n (.lst (A.map stD ++ [.tup [.int (q : Int), .int b, .int e]])) := ⟨_, rfl⟩
        rw [← h2] at ap
        have k2 : Keep [n] μ' μ2 := by rw [h2]; exact Keep.set (by simp)
        have eG2 : μ2[G]? = some (.dic fl) := k2.get eG' (by have := at_lt eG; simp; omega)
        have ix2 : idxA (.ref G) (.int c) μ2 = .ok (.tup [.int (g r c), .tup [.int (q : Int), .int b, .int e], .int y]) μ2 := by simp only [idxA, eG2, idxDD, dictAt, if_pos (int_isK c), hd]
        have i2 : idxA (.tup [.int (g r c), .tup [.int (q : Int), .int b, .int e], .int y]) (.int 2) μ2 = .ok (.int y) μ2 := ix_tup (by decide) rfl
        refine .mk (a := .nx [some (.ref G), some (.int y), some (.ref n)]) (μ := μ2) ((seq_expr (d := .non) (μ1 := μ2) (by simp [il, ix, i1, ap])).trans (set_is (d := .int y) (by simp [ix2, i2]))) ⟨_, cn y, .inl rfl, by omega, y, A ++ [(q, b, e)], rfl, hy, rfl, by simp; omega, ?_, ?_, ?_, k.trans k2⟩
        · rw [h2, set_at (at_lt en)]; simp [stD]
        · rw [List.reverse_append]
          rcases via.2 with ⟨h1, h3, rfl, rfl⟩ | ⟨h1, h3, rfl, rfl⟩
          · have := Run.cons (y := .room x) via.1 (b := 0) (e := p.len) ⟨by omega, by omega⟩ ⟨by omega, by omega⟩ (by rw [ln_len hl1, h3]; exact hr)
            rw [ln_0, h1] at this
            exact this
          · have := Run.cons (y := .room x) via.1 (b := p.len) (e := 0) ⟨by omega, by omega⟩ ⟨by omega, by omega⟩ (by rw [ln_0, h3]; exact hr)
            rw [ln_len hl1, h1] at this
            exact this
        · rw [List.reverse_append, runLen_app]
          have : runLen [((q, b, e) : Stc)] = p.len := by
            rcases via.2 with ⟨_, _, rfl, rfl⟩ | ⟨_, _, rfl, rfl⟩
            · show absI (p.len - 0) + 0 = _
              unfold absI; split <;> omega
            · show absI (0 - p.len) + 0 = _
              unfold absI; split <;> omega
          simp only [List.reverse_cons, List.reverse_nil, List.nil_append, this]; omega)
  obtain ⟨f, μ', w, ρ', rfl, o, A, rfl, hA, en, hr, hl, k⟩ := loop
  refine ⟨μ'.length, A.reverse, μ' ++ [.lst ((A.map stD).reverse)], run_is ?_, by rw [← List.map_reverse]; exact app_new, hr, hl, by simpa using hA, ?_⟩
  · unfold b_between_rooms
    refine (seq_set (d := .ref n) (μ1 := μ ++ [.lst []]) (by simp [hn])).trans ?_
    refine (seq_run w).trans (ret_is ?_)
    simp [backD, revD, lstAt, en]
  · exact ((Keep.trans Keep.app k).mono fun i hi => .inr (by simp at hi; omega)).trans Keep.app
end
end K12

namespace K12
open PySem L2 RW
section
variable {S : List Int} {R : Nat} {ps : List Pipe} {g : Int → Int → Int} {μ : Mem} {a b : Pl}
def wayL (g : Int → Int → Int) (s t : Sd) : Int := s.2.1 + g s.1 t.1 + t.2.1
/-- the best of the pairs looked at -/
def Best (S : List Int) (ps : List Pipe) (g : Int → Int → Int) (A B : List Sd) (vis : List (Sd × Sd)) (μ : Mem) (o : D) : Prop := (vis = [] ∧ o = .non) ∨
  ∃ s t f G e, s ∈ A ∧ t ∈ B ∧ o = .tup [.int (wayL g s t), .ref f, .ref G, .int t.1, .ref e] ∧ μ[f]? = some (.lst (s.2.2.map stD)) ∧ RoomsAt ps g S s.1 μ G ∧ μ[e]? = some (.lst (t.2.2.map stD)) ∧ ∀ v ∈ vis, wayL g s t ≤ wayL g v.1 v.2
theorem Best.keep {A B : List Sd} {vis : List (Sd × Sd)} {μ μ' : Mem} {o : D} (h : Best S ps g A B vis μ o) (k : Keep [] μ μ') : Best S ps g A B vis μ' o := by
  rcases h with h | ⟨s, t, f, G, e, h1, h2, h3, h4, h5, h6, h7⟩
  · exact .inl h
  · exact .inr ⟨s, t, f, G, e, h1, h2, h3, k.get h4 (by simp), h5.keep k, k.get h6 (by simp), h7⟩
noncomputable abbrev bestB : MS := sSeq (sSet 11 (mBin addD (mBin addD (mVar 5) (mBin idxA (mBin idxA (mVar 7) (mVar 8)) (mC (.int 0)))) (mVar 9)))
    (sIf (mOr (mTest (mBin isD (mVar 3) (mC .non))) (mTest (mBin (cmpI fun i j => decide (i < j)) (mVar 11) (mBin idxA (mVar 3) (mC (.int 0)))))) (sSet 3 (mTup (mCons (mVar 11) (mCons (mVar 6) (mCons (mVar 7) (mCons (mVar 8) (mCons (mVar 10) (mNil)))))))) (sNil))
theorem best_step {A B : List Sd} {vis : List (Sd × Sd)} {o : D} {s t : Sd} {f G e : Nat} {o0 o1 o2 o11 : Option D} (h : Best S ps g A B vis μ o) (hs : s ∈ A) (ht : t ∈ B) (htS : t.1 ∈ S) (ef : μ[f]? = some (.lst (s.2.2.map stD))) (K : RoomsAt ps g S s.1 μ G) (ee : μ[e]? = some (.lst (t.2.2.map stD))) :
    ∃ o' v, bestB [o0, o1, o2, some o, some (.int s.1), some (.int s.2.1), some (.ref f), some (.ref G), some (.int t.1), some (.int t.2.1), some (.ref e), o11] μ = .ok (.nx [o0, o1, o2, some o', some (.int s.1), some (.int s.2.1), some (.ref f), some (.ref G), some (.int t.1), some (.int t.2.1), some (.ref e), v]) μ ∧ Best S ps g A B (vis ++ [(s, t)]) μ o' := by
  obtain ⟨fl, eG, hall⟩ := id K
  obtain ⟨u, w, hd, _⟩ := hall t.1 htS
  have ix : idxA (.ref G) (.int t.1) μ = .ok (.tup [.int (g s.1 t.1), u, w]) μ := by simp only [idxA, eG, idxDD, dictAt, if_pos (int_isK t.1), hd]
  have i0 : idxA (.tup [.int (g s.1 t.1), u, w]) (.int 0) μ = .ok (.int (g s.1 t.1)) μ := ix_tup (by decide) rfl
  have first : bestB [o0, o1, o2, some o, some (.int s.1), some (.int s.2.1), some (.ref f), some (.ref G), some (.int t.1), some (.int t.2.1), some (.ref e), o11] μ =
      sIf (mOr (mTest (mBin isD (mVar 3) (mC .non))) (mTest (mBin (cmpI fun i j => decide (i < j)) (mVar 11) (mBin idxA (mVar 3) (mC (.int 0)))))) (sSet 3 (mTup (mCons (mVar 11) (mCons (mVar 6) (mCons (mVar 7) (mCons (mVar 8) (mCons (mVar 10) (mNil)))))))) (sNil)
        [o0, o1, o2, some o, some (.int s.1), some (.int s.2.1), some (.ref f), some (.ref G), some (.int t.1), some (.int t.2.1), some (.ref e), some (.int (wayL g s t))] μ := by
    exact (seq_set (d := .int (wayL g s t)) (μ1 := μ) (by simp [ix, i0, add_ok, wayL])).trans rfl
  rw [first]
  rcases h with ⟨rfl, rfl⟩ | ⟨s', t', f', G', e', h1, h2, rfl, h4, h5, h6, h7⟩
  · refine ⟨_, _, (if_t (μ1 := μ) (by simp [isD, isNonD])).trans (set_is (d := .tup [.int (wayL g s t), .ref f, .ref G, .int t.1, .ref e]) (by simp)), .inr ⟨s, t, f, G, e, hs, ht, rfl, ef, K, ee, fun v hv => ?_⟩⟩
    simp at hv; subst hv; exact Int.le_refl _
  · have i0' : idxA (.tup [.int (wayL g s' t'), .ref f', .ref G', .int t'.1, .ref e']) (.int 0) μ = .ok (.int (wayL g s' t')) μ := ix_tup (by decide) rfl
    by_cases hlt : wayL g s t < wayL g s' t'
    · refine ⟨_, _, (if_t (μ1 := μ) (by simp [isD, isNonD, i0', cmpI, hlt])).trans (set_is (d := .tup [.int (wayL g s t), .ref f, .ref G, .int t.1, .ref e]) (by simp)), .inr ⟨s, t, f, G, e, hs, ht, rfl, ef, K, ee, fun v hv => ?_⟩⟩
      rcases List.mem_append.mp hv with hv | hv
      · have := h7 v hv; omega
      · simp at hv; subst hv; exact Int.le_refl _
    · refine ⟨_, _, (if_f (μ1 := μ) (by simp [isD, isNonD, i0', cmpI, hlt])).trans rfl, .inr ⟨s', t', f', G', e', h1, h2, rfl, h4, h5, h6, fun v hv => ?_⟩⟩
      rcases List.mem_append.mp hv with hv | hv
      · exact h7 v hv
      · simp at hv; subst hv
        show wayL g s' t' ≤ wayL g s t
        omega
theorem side_at {μ : Mem} {ds : List D} {A : List Sd} {i : Nat} {d : D} (P : Paired (SideD μ) ds A) (e : ds[i]? = some d) : ∃ s f, A[i]? = some s ∧ d = .tup [.int s.1, .int s.2.1, .ref f] ∧ μ[f]? = some (.lst (s.2.2.map stD)) := by
  obtain ⟨s, h1, f, h2, h3⟩ := paired_at P e
  exact ⟨s, f, h1, h2, h3⟩
theorem sides_keep {μ μ' : Mem} {ds : List D} {A : List Sd} (P : Paired (SideD μ) ds A) (k : Keep [] μ μ') : Paired (SideD μ') ds A := Paired.imp' P fun _ _ h => h.keep k
theorem dd_one {q : Nat} {j k : Int} {p : Pipe} (e : ps[q]? = some p) : dd g ps (.on q j) (.on q k) = absI (k - j) := by
  unfold dd
  simp only [fOf, e]
  rw [lane_own rfl]
  unfold absI
  by_cases h : j ≤ k
  · rw [if_pos h, if_neg (by omega)]
  · rw [if_neg h, if_pos (by omega)]; omega
theorem road_spec {w kn : Nat} {gs : List Nat} (M : Metric g S ps) (hok : ∀ p ∈ ps, 1 ≤ p.len) (hSl : S.length ≤ 16) (W : WebAt ps g S R (houseD R ps) μ w kn gs) (hS : ∀ x : Int, x ∈ S ↔ 0 ≤ x ∧ x < R) (ha : IsPl S ps a) (hb : IsPl S ps b) :
    ∃ (m : Nat) (t : List Stc) (μ' : Mem), m_road_in [.ref w, a.d, b.d] μ = .ok (.ref m) μ' ∧ μ'[m]? = some (.lst (t.map stD)) ∧ Run ps t a b ∧ runLen t = dd g ps a b ∧ Keep [] μ μ' := by
  have hps : ∀ p ∈ ps, p.a ∈ S ∧ p.b ∈ S := fun p hp => ⟨(M.ends p hp).1, (M.ends p hp).2.1⟩
  have own : ∀ {μ'}, Keep [] μ μ' → fldD "Web" "own" (.ref w) μ' = .ok (houseD R ps) μ' := fun {μ'} k => fld_ok (W.keep k).ins rfl
  have known : ∀ {μ'}, Keep [] μ μ' → fldD "Web" "known" (.ref w) μ' = .ok (.ref kn) μ' := fun {μ'} k => fld_ok (W.keep k).ins (by
    simp only [List.lookup]
    rw [show ((("known" : Str) == "own") = false) by decide +kernel, show ((("known" : Str) == "known") = true) by decide +kernel])
  by_cases hab : a = b
  · subst hab
    refine ⟨μ.length, [], μ ++ [.lst []], run_is (seq_ret ((if_t (μ1 := μ) (by simp [startR, eqP])).trans (ret_is (by simp)))), app_new, .nil _, ?_, Keep.app⟩
    rw [(geo M hok).self ha]; rfl
  have start : b_road_in (startR 12 [.ref w, a.d, b.d]) μ = sSeq (sIf (mTest (mB m_is_one_pipe (mCons (mVar 1) (mCons (mVar 2) (mNil))))) (sRet (mLst (mCons (mTup (mCons (mBin idxA (mVar 1) (mC (.int 0))) (mCons (mBin idxA (mVar 1) (mC (.int 1))) (mCons (mBin idxA (mVar 2) (mC (.int 1))) (mNil))))) (mNil)))) (sNil))
    (sSeq (sSet 3 (mC .non))
    (sSeq (sFor (iSeq (mB m_sides_of (mCons (mUn (fldD "Web" "own") (mVar 0)) (mCons (mVar 1) (mNil))))) (gTupM 3 (gConsM (gN 4) (gConsM (gN 5) (gConsM (gN 6) (gNilM))))) (sSeq (sSet 7 (mBin idxA (mUn (fldD "Web" "known") (mVar 0)) (mVar 4)))
    (sFor (iSeq (mB m_sides_of (mCons (mUn (fldD "Web" "own") (mVar 0)) (mCons (mVar 2) (mNil))))) (gTupM 3 (gConsM (gN 8) (gConsM (gN 9) (gConsM (gN 10) (gNilM))))) bestB)))
    (sSeq (sAsg (mVar 3) (gTupM 5 (gConsM (gN 11) (gConsM (gN 6) (gConsM (gN 7) (gConsM (gN 8) (gConsM (gN 10) (gNilM))))))))
    (sRet (mBin addD (mBin addD (mVar 6) (mB m_between_rooms (mCons (mVar 7) (mCons (mVar 8) (mNil))))) (mB m_turned (mCons (mVar 10) (mNil)))))))) [some (.ref w), some a.d, some b.d, none, none, none, none, none, none, none, none, none] μ := by
    unfold b_road_in
    exact seq_skip (μ1 := μ) (by simp [startR, eqP, hab])
  by_cases hs : samePipe a b = true
  · cases a with
    | room r => cases hs
    | on i j =>
      cases b with
      | room r => cases hs
      | on q k =>
        have hiq : i = q := of_decide_eq_true hs
        subst hiq
        obtain ⟨p, e, h0, h1⟩ := hb
        obtain ⟨p', e', h0', h1'⟩ := ha
        rw [e] at e'; cases e'
        have j0 : ∀ k μ, idxA (Pl.on i k).d (.int 0) μ = .ok (.int i) μ := fun _ _ => ix_tup (by decide) rfl
        have j1 : ∀ k μ, idxA (Pl.on i k).d (.int 1) μ = .ok (.int k) μ := fun _ _ => ix_tup (by decide) rfl
        refine ⟨μ.length, [(i, j, k)], μ ++ [.lst [stD (i, j, k)]], run_is (start.trans (seq_ret ((if_t (μ1 := μ) (by simp [one_pipe, hs])).trans (ret_is ?_)))), app_new, ?_, ?_, Keep.app⟩
        · simp [j0, j1, stD]
        · have := Run.cons (t := []) (y := .on i k) e (b := j) (e := k) ⟨by omega, by omega⟩ ⟨by omega, by omega⟩ (by rw [ln_on h0 h1]; exact .nil _)
          rw [ln_on h0' h1'] at this
          exact this
        · rw [dd_one e]
          show absI (k - j) + 0 = absI (k - j)
          omega
  have hs' : samePipe a b = false := by cases h : samePipe a b with | true => exact absurd h hs | false => rfl
  obtain ⟨n, ds, μ1, q1, en, P, k1⟩ := sides_spec (R := R) (μ := μ) ha
  obtain ⟨A, hA⟩ : ∃ A, A = sidesOf ps a := ⟨_, rfl⟩
  obtain ⟨B, hB⟩ : ∃ B, B = sidesOf ps b := ⟨_, rfl⟩
  rw [← hA] at P
  have runA : ∀ s ∈ A, s.1 ∈ S ∧ Run ps s.2.2 a (.room s.1) ∧ runLen s.2.2 = s.2.1 := fun s h => sides_run hok hps ha (hA ▸ h)
  have runB : ∀ s ∈ B, s.1 ∈ S ∧ Run ps s.2.2 b (.room s.1) ∧ runLen s.2.2 = s.2.1 := fun s h => sides_run hok hps hb (hB ▸ h)
  have hlen : ∀ {x : Pl}, (sidesOf ps x).length ≤ 2 ∧ ∀ s ∈ sidesOf ps x, s.2.2.length ≤ 1 := fun {x} => by
    cases x with
    | room r => simp [sidesOf]
    | on q k =>
      simp only [sidesOf]
      cases ps[q]? <;> simp
  have dl : ds.length = A.length := Paired.length P
  have outer := forL_ok (chk := fun μ' => μ'[n]? = some (.lst ds)) (g := gTupM 3 (gConsM (gN 4) (gConsM (gN 5) (gConsM (gN 6) (gNilM))))) (body := sSeq (sSet 7 (mBin idxA (mUn (fldD "Web" "known") (mVar 0)) (mVar 4)))
    (sFor (iSeq (mB m_sides_of (mCons (mUn (fldD "Web" "own") (mVar 0)) (mCons (mVar 2) (mNil))))) (gTupM 3 (gConsM (gN 8) (gConsM (gN 9) (gConsM (gN 10) (gNilM))))) bestB)) ds
    (fun i ρ μ' => i ≤ A.length ∧ ∃ (o : D) (o4 o5 o6 o7 o8 o9 o10 o11 : Option D), ρ = [some (.ref w), some a.d, some b.d, some o, o4, o5, o6, o7, o8, o9, o10, o11] ∧ Best S ps g A B ((A.take i).map fun s => B.map fun t => (s, t)).flatten μ' o ∧ Keep [] μ1 μ') 0
    (ρ := [some (.ref w), some a.d, some b.d, some .non, none, none, none, none, none, none, none, none]) (μ := μ1) ⟨Nat.zero_le _, .non, none, none, none, none, none, none, none, none, rfl, .inl ⟨rfl, rfl⟩, .refl⟩ (fun i ρ μ' ⟨_, _, _, _, _, _, _, _, _, _, _, _, k⟩ => k.get en (by simp))
    (fun i d ρ μ' ed ⟨hi, o, o4, o5, o6, o7, o8, o9, o10, o11, eρ, hbest, k⟩ => by
      simp only [Nat.zero_add] at hi eρ hbest ⊢
      subst eρ
      obtain ⟨s, f, es, rfl, ef⟩ := side_at P ed
      have hsm := List.mem_of_getElem? es
      have hi2 := (List.getElem?_eq_some_iff.mp es).1
      have hsS := runA s hsm
      have kk : Keep [] μ μ' := k1.trans k
      have W' := W.keep kk
      have hxS := (hS s.1).mp hsS.1
      obtain ⟨G, hG⟩ : ∃ G, gs[s.1.toNat]? = some G := ⟨_, List.getElem?_eq_getElem (by rw [W.len]; omega)⟩
      have hroom := W'.at_ _ G hG
      rw [show ((s.1.toNat : Nat) : Int) = s.1 by omega] at hroom
      have ig : idxA (.ref kn) (.int s.1) μ' = .ok (.ref G) μ' := ix_lst W'.lst hxS.1 (by rw [List.getElem?_map, hG]; rfl)
      obtain ⟨n2, ds2, μ2, q2, en2, P2, k2⟩ := sides_spec (R := R) (μ := μ') hb
      rw [← hB] at P2
      have ef2 : μ2[f]? = some (.lst (s.2.2.map stD)) := (k.trans k2).get ef (by simp)
      have dl2 : ds2.length = B.length := Paired.length P2
      have inner := forL_ok (chk := fun μ' => μ'[n2]? = some (.lst ds2)) (g := gTupM 3 (gConsM (gN 8) (gConsM (gN 9) (gConsM (gN 10) (gNilM))))) (body := bestB) ds2
        (fun j ρ μ3 => j ≤ B.length ∧ μ3 = μ2 ∧ ∃ (o : D) (o8 o9 o10 o11 : Option D), ρ = [some (.ref w), some a.d, some b.d, some o, some (.int s.1), some (.int s.2.1), some (.ref f), some (.ref G), o8, o9, o10, o11] ∧ Best S ps g A B (((A.take i).map fun s => B.map fun t => (s, t)).flatten ++ (B.take j).map fun t => (s, t)) μ2 o) 0
        (ρ := [some (.ref w), some a.d, some b.d, some o, some (.int s.1), some (.int s.2.1), some (.ref f), some (.ref G), o8, o9, o10, o11]) (μ := μ2) ⟨Nat.zero_le _, rfl, o, o8, o9, o10, o11, rfl, by simpa using hbest.keep k2⟩ (fun j ρ μ3 ⟨_, em, _⟩ => em ▸ en2)
        (fun j d ρ μ3 ed2 ⟨hj, em, o, o8, o9, o10, o11, eρ, hbest2⟩ => by
          simp only [Nat.zero_add] at hj eρ hbest2 ⊢
          subst eρ em
          obtain ⟨t, e, et, rfl, ee⟩ := side_at P2 ed2
          have htm := List.mem_of_getElem? et
          have hj2 := (List.getElem?_eq_some_iff.mp et).1
          obtain ⟨o', v, qq, hb'⟩ := best_step (o0 := some (.ref w)) (o1 := some a.d) (o2 := some b.d) (o11 := o11) hbest2 hsm htm (runB t htm).1 ef2 (hroom.keep k2) ee
          refine .mk (a := [some (.ref w), some a.d, some b.d, some o, some (.int s.1), some (.int s.2.1), some (.ref f), some (.ref G), some (.int t.1), some (.int t.2.1), some (.ref e), o11]) (μ := μ3) rfl (.mk qq ⟨_, .inl rfl, by omega, rfl, o', _, _, _, _, rfl, ?_⟩)
          rw [List.take_add_one, et]
          simpa using hb')
      rw [dl2, Nat.zero_add] at inner
      obtain ⟨f1, μ3, wl, ρ1, rfl, _, rfl, o', p8, p9, p10, p11, rfl, hbest3⟩ := inner
      refine .mk (a := [some (.ref w), some a.d, some b.d, some o, some (.int s.1), some (.int s.2.1), some (.ref f), o7, o8, o9, o10, o11]) (μ := μ') rfl (.mk (a := .nx [some (.ref w), some a.d, some b.d, some o', some (.int s.1), some (.int s.2.1), some (.ref f), some (.ref G), p8, p9, p10, p11]) (μ := μ3) ?_ ⟨_, .inl rfl, by omega, o', _, _, _, _, _, _, _, _, rfl, ?_, k.trans k2⟩)
      · refine (seq_set (d := .ref G) (μ1 := μ') (by simp [known kk, ig])).trans ?_
        exact for_run (chk := fun μ' => μ'[n2]? = some (.lst ds2)) (items := ds2) (μ1 := μ3) (seq_lst (n := n2) (by simp [own kk, q2]) en2) wl
      · rw [List.take_add_one, es]
        rw [List.take_length] at hbest3
        simpa using hbest3)
  rw [dl, Nat.zero_add] at outer
  obtain ⟨f2, μ2, w2, ρ2, rfl, _, o, p4, p5, p6, p7, p8, p9, p10, p11, rfl, hbest, k2⟩ := outer
  rw [List.take_length] at hbest
  have vis : ∀ s ∈ A, ∀ t ∈ B, (s, t) ∈ (A.map fun s => B.map fun t => (s, t)).flatten := fun s hs t ht => by
    simp only [List.mem_flatten, List.mem_map]
    exact ⟨_, ⟨s, hs, rfl⟩, List.mem_map.mpr ⟨t, ht, rfl⟩⟩
  -- the least way is the distance
  have hne : ∀ i j k, a = .on i j → b = .on i k → False := fun i j k e1 e2 => by
    subst e1 e2; simp [samePipe] at hs
  have hmin := ways_min (g := g) ha hb hne
  obtain ⟨_, _, neA⟩ := ends_room hps ha
  obtain ⟨_, _, neB⟩ := ends_room hps hb
  rw [sides_ends, ← hA] at neA hmin
  rw [sides_ends, ← hB] at neB hmin
  have mem_w : ∀ z, z ∈ ways g (A.map fun s => (s.1, s.2.1)) (B.map fun s => (s.1, s.2.1)) ↔ ∃ s ∈ A, ∃ t ∈ B, z = wayL g s t := fun z => by
    unfold ways wayL
    simp only [List.mem_flatten, List.mem_map]
    constructor
    · rintro ⟨l, ⟨x, ⟨s, hs, rfl⟩, rfl⟩, hz⟩
      obtain ⟨y, hy, rfl⟩ := List.mem_map.mp hz
      obtain ⟨t, ht, rfl⟩ := List.mem_map.mp hy
      exact ⟨s, hs, t, ht, rfl⟩
    · rintro ⟨s, hs, t, ht, rfl⟩
      exact ⟨_, ⟨_, ⟨s, hs, rfl⟩, rfl⟩, List.mem_map.mpr ⟨_, List.mem_map.mpr ⟨t, ht, rfl⟩, rfl⟩⟩
  have hwne : ways g (A.map fun s => (s.1, s.2.1)) (B.map fun s => (s.1, s.2.1)) ≠ [] := fun z => by
    obtain ⟨s, hs⟩ := List.exists_mem_of_ne_nil A (fun e => neA (by rw [e]; rfl))
    obtain ⟨t, ht⟩ := List.exists_mem_of_ne_nil B (fun e => neB (by rw [e]; rfl))
    have := (mem_w _).mpr ⟨s, hs, t, ht, rfl⟩
    rw [z] at this; simp at this
  obtain ⟨hm1, hm2⟩ := minI_spec hwne
  rcases hbest with ⟨hv, _⟩ | ⟨s, t, f, G, e, hsA, htB, rfl, ef, K, ee, hle⟩
  · exfalso
    obtain ⟨s, hs, t, ht, _⟩ := (mem_w _).mp hm1
    have := vis s hs t ht
    rw [hv] at this; simp at this
  have hW : wayL g s t = dd g ps a b := by
    unfold dd
    rw [← hmin]
    have h1 := hm2 _ ((mem_w _).mpr ⟨s, hsA, t, htB, rfl⟩)
    obtain ⟨s', hs', t', ht', e'⟩ := (mem_w _).mp hm1
    have h2 := hle (s', t') (vis s' hs' t' ht')
    rw [e'] at h1 ⊢
    exact Int.le_antisymm h2 h1
  obtain ⟨rs1, rs2, rs3⟩ := runA s hsA
  obtain ⟨rt1, rt2, rt3⟩ := runB t htB
  obtain ⟨m3, t3, μ3, q3, e3, r3, l3, z3, k3⟩ := between_spec hok hps hSl (M.m0 s.1 rs1) K rt1
  have ef3 := k3.get ef (by simp)
  have hsl : s.2.2.length ≤ 1 := (hlen (x := a)).2 s (hA ▸ hsA)
  have htl : t.2.2.length ≤ 1 := (hlen (x := b)).2 t (hB ▸ htB)
  obtain ⟨μ4, h4⟩ : ∃ μ4, μ4 = μ3 ++ [Cell.lst (s.2.2.map stD ++ t3.map stD)] := ⟨_, rfl⟩
  have c4 : addD (.ref f) (.ref m3) μ3 = .ok (.ref μ3.length) μ4 := by rw [h4]; exact catL_ok ef3 e3 (by rw [List.length_map, List.length_map]; omega)
  have k4 : Keep [] μ3 μ4 := by rw [h4]; exact Keep.app
  have e4 : μ4[μ3.length]? = some (.lst (s.2.2.map stD ++ t3.map stD)) := by rw [h4]; exact app_new
  have ee4 := (k3.trans k4).get ee (by simp)
  obtain ⟨m5, μ5, q5, e5, k5⟩ := turned_spec ee4 (by omega)
  have c5 : addD (.ref μ3.length) (.ref m5) μ5 = .ok (.ref μ5.length) (μ5 ++ [.lst (s.2.2.map stD ++ t3.map stD ++ (t.2.2.reverse.map turnS).map stD)]) := catL_ok (k5.get e4 (by simp)) e5 (by rw [List.length_append, List.length_map, List.length_map, List.length_map, List.length_map, List.length_reverse]; omega)
  refine ⟨μ5.length, s.2.2 ++ t3 ++ t.2.2.reverse.map turnS, μ5 ++ [.lst (s.2.2.map stD ++ t3.map stD ++ (t.2.2.reverse.map turnS).map stD)], run_is (start.trans ?_), ?_, (rs2.app r3).app rt2.turn, ?_, (((((k1.trans k2).trans k3).trans k4).trans k5).trans Keep.app)⟩
  · refine (seq_skip (μ1 := μ) (by simp [one_pipe, hs'])).trans ?_
    refine (seq_set (d := .non) (μ1 := μ) rfl).trans ?_
    refine (seq_run (for_run (chk := fun μ' => μ'[n]? = some (.lst ds)) (items := ds) (μ1 := μ1) (seq_lst (n := n) (by simp [own Keep.refl, q1]) en) w2)).trans ?_
    refine (seq_asg (d := .tup [.int (wayL g s t), .ref f, .ref G, .int t.1, .ref e]) (μ1 := μ2) (ρ2 := [some (.ref w), some a.d, some b.d, some (.tup [.int (wayL g s t), .ref f, .ref G, .int t.1, .ref e]), p4, p5, some (.ref f), some (.ref G), some (.int t.1), p9, some (.ref e), some (.int (wayL g s t))]) (μ2 := μ2) rfl rfl).trans (ret_is ?_)
    simp [q3, c4, q5, c5]
  · simp only [List.map_append]; exact app_new
  · rw [runLen_app, runLen_app, turn_len, rs3, rt3, l3, ← hW]; rfl
theorem spot_spec {w kn : Nat} {gs : List Nat} {k : Int} (M : Metric g S ps) (hok : ∀ p ∈ ps, 1 ≤ p.len) (hSl : S.length ≤ 16) (W : WebAt ps g S R (houseD R ps) μ w kn gs) (hS : ∀ x : Int, x ∈ S ↔ 0 ≤ x ∧ x < R) (ha : IsPl S ps a) (hb : IsPl S ps b) (h0 : 0 ≤ k) (h1 : k ≤ dd g ps a b) :
    ∃ (z : Pl) (μ' : Mem), m_spot_in [.ref w, a.d, b.d, .int k] μ = .ok z.d μ' ∧ IsPl S ps z ∧ dd g ps a z = k ∧ dd g ps z b = dd g ps a b - k ∧ Keep [] μ μ' := by
  obtain ⟨m, t, μ1, q1, e1, r, l, k1⟩ := road_spec M hok hSl W hS ha hb
  obtain ⟨z, q2, p1, p2⟩ := along_spec (R := R) (a := a) (k := k) r rfl e1 h0 (by omega)
  have G := geo M hok
  have hz := p1.pl G.ends ha
  have row := G.on_row ha hz hb p1 p2 (by omega)
  refine ⟨z, μ1, run_is (ret_is ?_), hz, by omega, by omega, k1⟩
  have own : fldD "Web" "own" (.ref w) μ = .ok (houseD R ps) μ := fld_ok W.ins rfl
  simp [startR, own, q1, q2]
theorem place_on_spec {k : Int} (M : Metric g S ps) (hok : ∀ p ∈ ps, 1 ≤ p.len) (hps : ps.length ≤ 16) (hSl : S.length ≤ 16) (hR : R ≤ 16) (hS : ∀ x : Int, x ∈ S ↔ 0 ≤ x ∧ x < R) (ha : IsPl S ps a) (hb : IsPl S ps b) (h0 : 0 ≤ k) (h1 : k ≤ dd g ps a b) :
    ∃ (z : Pl) (μ' : Mem), m_place_on [houseD R ps, a.d, b.d, .int k] μ = .ok z.d μ' ∧ IsPl S ps z ∧ dd g ps a z = k ∧ dd g ps z b = dd g ps a b - k ∧ Keep [] μ μ' := by
  obtain ⟨w, kn, gs, μ1, e1, W, k1⟩ := web_spec (μ := μ) M hok hps hSl hR hS
  obtain ⟨z, μ2, e2, hz, d1, d2, k2⟩ := spot_spec M hok hSl W hS ha hb h0 h1
  have e1' : mMake "Web" (noX m_Web_init) (mCons (mVar 0) (mNil)) (startR 4 [houseD R ps, a.d, b.d, .int k]) μ = .ok (.ref w) μ1 := e1
  refine ⟨z, μ2, run_is (ret_is ?_), hz, d1, d2, k1.trans k2⟩
  have v1 : mVar 1 (startR 4 [houseD R ps, a.d, b.d, .int k]) μ1 = .ok a.d μ1 := rfl
  have v2 : mVar 2 (startR 4 [houseD R ps, a.d, b.d, .int k]) μ1 = .ok b.d μ1 := rfl
  have v3 : mVar 3 (startR 4 [houseD R ps, a.d, b.d, .int k]) μ1 = .ok (.int k) μ1 := rfl
  rw [mB, mCons, e1']
  simp only [Res.bind, mCons, v1, v2, v3, mNil]
  exact e2
end
end K12

/-! S5: family B's spots and places. -/
namespace K12
open PySem L2 RW
theorem call1' {f : Sem} {a : MD} {ρ : Rho} {μ μ1 μ2 : Mem} {d r : D} (h : a ρ μ = .ok d μ1) (h2 : f [d] μ1 = .ok r μ2) : mB f (mCons a mNil) ρ μ = .ok r μ2 := by
  simp only [mB, mCons, mNil, h, Res.bind, h2]
theorem bspot_spec {R : Nat} {ps : List Pipe} {q : Nat} {p : Pipe} {k : Int} {μ : Mem} (e : ps[q]? = some p) (h1 : 1 ≤ p.len) : ∃ μ', m_law_spot [houseD R ps, .int q, .int k] μ = .ok (ln p q k).d μ' ∧ Keep [] μ μ' := by
  have i1 : idxA (houseD R ps) (.int 1) μ = .ok (.tup (ps.map Pipe.d)) μ := ix_tup (by decide) rfl
  have i2 : idxA (.tup (ps.map Pipe.d)) (.int (q : Int)) μ = .ok p.d μ := ix_tup (by omega) (by rw [Int.toNat_natCast, List.getElem?_map, e]; rfl)
  have start : ∀ {rest : MS}, (sSeq (sAsg (mBin idxA (mBin idxA (mVar 0) (mC (.int 1))) (mVar 1)) (gTupM 5 (gConsM (gN 3) (gConsM (gN 4) (gConsM (gN 5) (gConsM (gN 6) (gConsM (gN 7) (gNilM)))))))) rest) (startR 8 [houseD R ps, .int q, .int k]) μ =
      rest [some (houseD R ps), some (.int q), some (.int k), some (.int p.a), some (.int p.b), some (.int p.len), some (.tup (p.nar.map pairD)), some (.tup (p.fl.map pairD))] μ := fun {rest} =>
    seq_asg (d := p.d) (μ1 := μ) (by simp [startR, i1, i2]) rfl
  by_cases h0 : k = 0
  · refine ⟨μ, run_is (start.trans (seq_ret ((if_t (μ1 := μ) (by simp [eqI, h0])).trans (ret_is ?_)))), .refl⟩
    simp [ln, h0, Pl.d]
  · refine ⟨μ ++ [.lst [.tup [.int q, .int k], .tup [.int p.b]]], run_is (start.trans ((seq_skip (μ1 := μ) (by simp [eqI, h0])).trans (ret_is ?_))), Keep.app⟩
    have en : (μ ++ [Cell.lst [.tup [.int q, .int k], .tup [.int p.b]]])[μ.length]? = some (.lst [.tup [.int q, .int k], .tup [.int p.b]]) := app_new
    by_cases hk : k = p.len
    · have ix : idxA (.ref μ.length) (.int 1) (μ ++ [Cell.lst [.tup [.int q, .int k], .tup [.int p.b]]]) = .ok (.tup [.int p.b]) (μ ++ [Cell.lst [.tup [.int q, .int k], .tup [.int p.b]]]) := ix_lst en (by decide) rfl
      have hl : ln p q k = .room p.b := by unfold ln; rw [if_neg h0, if_pos hk]
      rw [hl]
      subst hk
      simp [eqI, intL, ix, Pl.d]
    · have ix : idxA (.ref μ.length) (.int 0) (μ ++ [Cell.lst [.tup [.int q, .int k], .tup [.int p.b]]]) = .ok (.tup [.int q, .int k]) (μ ++ [Cell.lst [.tup [.int q, .int k], .tup [.int p.b]]]) := ix_lst en (by decide) rfl
      have hl : ln p q k = .on q k := by unfold ln; rw [if_neg h0, if_neg hk]
      rw [hl]
      simp [eqI, hk, intL, ix, Pl.d]
def rngI (lo : Int) (n : Nat) : List Int := (List.range n).map fun (i : Nat) => lo + (i : Int)
theorem rng_eq {lo : Int} {n : Nat} : rangeItems lo n = (rngI lo n).map D.int := by simp [rangeItems, rngI]
theorem mem_rngI {lo x : Int} {n : Nat} : x ∈ rngI lo n ↔ lo ≤ x ∧ x < lo + n := by
  simp only [rngI, List.mem_map, List.mem_range]
  exact ⟨fun ⟨a, h, e⟩ => by omega, fun h => ⟨(x - lo).toNat, by omega, by omega⟩⟩
theorem rngI_nd {lo : Int} {n : Nat} : (rngI lo n).Nodup := by
  unfold rngI
  exact List.Pairwise.map _ (fun a b h e => h (by omega)) List.nodup_range
theorem rngI_len {lo : Int} {n : Nat} : (rngI lo n).length = n := by simp [rngI]
/-- the places of the rooms and of the first pipes -/
def InTo (R : Nat) (ps : List Pipe) (j : Nat) : Pl → Prop
  | .room r => 0 ≤ r ∧ r < R
  | .on i k => i < j ∧ ∃ p, ps[i]? = some p ∧ 0 < k ∧ k < p.len
theorem in_all {S : List Int} {R : Nat} {ps : List Pipe} (hS : ∀ x : Int, x ∈ S ↔ 0 ≤ x ∧ x < R) {x : Pl} : InTo R ps ps.length x ↔ IsPl S ps x := by
  cases x with
  | room r => exact (hS r).symm
  | on i k => exact ⟨fun h => h.2, fun ⟨p, e, h⟩ => ⟨(List.getElem?_eq_some_iff.mp e).1, p, e, h⟩⟩
theorem places_spec {R : Nat} {ps : List Pipe} {μ : Mem} (hR : R ≤ 16) (hp : ps.length ≤ 16) (hl : ∀ p ∈ ps, 1 ≤ p.len ∧ p.len ≤ 20) :
    ∃ (m : Nat) (pls : List Pl) (μ' : Mem), m_law_places [houseD R ps] μ = .ok (.ref m) μ' ∧ μ'[m]? = some (.lst (pls.map Pl.d)) ∧ pls.Nodup ∧ (∀ x, x ∈ pls ↔ InTo R ps ps.length x) ∧ pls.length ≤ 400 ∧ μ.length ≤ m ∧ Keep [] μ μ' := by
  have i0 : ∀ μ, idxA (houseD R ps) (.int 0) μ = .ok (.int (R : Int)) μ := fun μ => ix_tup (by decide) rfl
  have i1 : ∀ μ, idxA (houseD R ps) (.int 1) μ = .ok (.tup (ps.map Pipe.d)) μ := fun μ => ix_tup (by decide) rfl
  have ll : ∀ μ, lenL [.tup (ps.map Pipe.d)] μ = .ok (.int ps.length) μ := fun μ => by simp only [lenL, List.length_map]
  have c1 : mComp (iRange1 (mCons (mBin idxA (mVar 0) (mC (.int 0))) (mNil))) (gN 3) (mYes) (mTup (mCons (mVar 3) (mNil))) [3] (startR 5 [houseD R ps]) μ = .ok (.ref μ.length) (μ ++ [.lst ((rngI 0 R).map fun x => .tup [.int x])]) := by
    refine comp_is (ir1 (n := R) (e := mBin idxA (mVar 0) (mC (.int 0))) (by simp [startR, i0]) (by omega)) ?_
    rw [rng_eq]
    exact Q.comp_mapD _ _ μ trivial (fun x _ => by simp [wipeR, startR]) (by rw [rngI_len]; omega)
  have r0 : (rngI 0 R).map (fun x => D.tup [.int x]) = ((rngI 0 R).map Pl.room).map Pl.d := by rw [List.map_map]; rfl
  have loop := forL_ok (chk := fun _ => True) (g := gN 2) (body := sSet 1 (mBin addD (mVar 1) (mComp (iRange2 (mCons (mC (.int 1)) (mCons (mBin idxA (mBin idxA (mBin idxA (mVar 0) (mC (.int 1))) (mVar 2)) (mC (.int 2))) (mNil)))) (gN 4) (mYes) (mTup (mCons (mVar 2) (mCons (mVar 4) (mNil)))) [4]))) (rangeItems 0 ps.length)
    (fun j ρ μ' => j ≤ ps.length ∧ ∃ (m : Nat) (pls : List Pl) (o2 : Option D), ρ = [some (houseD R ps), some (.ref m), o2, none, none] ∧ μ'[m]? = some (.lst (pls.map Pl.d)) ∧ pls.Nodup ∧ (∀ x, x ∈ pls ↔ InTo R ps j x) ∧ pls.length ≤ 16 + 20 * j ∧ μ.length ≤ m ∧ Keep [] μ μ') 0
    (ρ := [some (houseD R ps), some (.ref μ.length), none, none, none]) (μ := μ ++ [.lst ((rngI 0 R).map fun x => .tup [.int x])])
    ⟨Nat.zero_le _, μ.length, (rngI 0 R).map Pl.room, none, rfl, by rw [r0]; exact app_new, List.Pairwise.map _ (fun a b h e => h (by cases e; rfl)) rngI_nd, fun x => by
      cases x with
      | room r => simp [InTo, mem_rngI]
      | on i k => simp [InTo], by rw [List.length_map, rngI_len]; omega, Nat.le_refl _, Keep.app⟩ (fun _ _ _ _ => trivial)
    (fun j d ρ μ' ed ⟨hj, m, pls, o2, eρ, em, nd, hm, hln, hml, kk⟩ => by
      simp only [Nat.zero_add] at hj hm hln ⊢
      obtain ⟨hj2, rfl⟩ := Q.range_at ed
      rw [Int.zero_add]
      subst eρ
      obtain ⟨p, ep⟩ : ∃ p, ps[j]? = some p := ⟨_, List.getElem?_eq_getElem hj2⟩
      obtain ⟨l1, l2⟩ := hl p (List.mem_of_getElem? ep)
      obtain ⟨n, hn⟩ : ∃ n : Nat, p.len = (n : Int) := ⟨p.len.toNat, by omega⟩
      have i2 : idxA (.tup (ps.map Pipe.d)) (.int (j : Int)) μ' = .ok p.d μ' := ix_tup (by omega) (by rw [Int.toNat_natCast, List.getElem?_map, ep]; rfl)
      have i3 : idxA p.d (.int 2) μ' = .ok (.int n) μ' := by rw [← hn]; exact ix_tup (by decide) rfl
      let ys : List Pl := (rngI 1 (n - 1)).map fun k => Pl.on j k
      have cc : mComp (iRange2 (mCons (mC (.int 1)) (mCons (mBin idxA (mBin idxA (mBin idxA (mVar 0) (mC (.int 1))) (mVar 2)) (mC (.int 2))) (mNil)))) (gN 4) (mYes) (mTup (mCons (mVar 2) (mCons (mVar 4) (mNil)))) [4] [some (houseD R ps), some (.ref m), some (.int (j : Int)), none, none] μ' = .ok (.ref μ'.length) (μ' ++ [.lst (ys.map Pl.d)]) := by
        refine comp_is (ir2 (m := 1) (n := n) (e := mC (.int 1)) (f := mBin idxA (mBin idxA (mBin idxA (mVar 0) (mC (.int 1))) (mVar 2)) (mC (.int 2))) rfl (by simp [i1, i2, i3]) (by omega) (by omega)) ?_
        have e1 : ys.map Pl.d = (rngI 1 (n - 1)).map fun k => D.tup [.int (j : Int), .int k] := by simp only [ys, List.map_map]; rfl
        rw [e1]
        show compL (fun _ => True) (gN 4) mYes _ _ (rangeItems (1 : Int) (n - 1)) [] μ' = _
        rw [rng_eq]
        exact Q.comp_mapD _ _ μ' trivial (fun x _ => by simp [wipeR]) (by rw [rngI_len]; omega)
      have yl : ys.length = n - 1 := by simp only [ys, List.length_map, rngI_len]
      have cat := catL_ok (μ := μ' ++ [.lst (ys.map Pl.d)]) (n := m) (m := μ'.length) (app_at em) app_new (by rw [List.length_map, List.length_map]; omega)
      rw [← List.map_append] at cat
      refine .mk (μ := μ') rfl (.mk (a := .nx [some (houseD R ps), some (.ref (μ' ++ [Cell.lst (ys.map Pl.d)]).length), some (.int (j : Int)), none, none]) (μ := (μ' ++ [Cell.lst (ys.map Pl.d)]) ++ [Cell.lst ((pls ++ ys).map Pl.d)]) ?_ ⟨_, .inl rfl, by omega, _, pls ++ ys, _, rfl, app_new, ?_, fun x => ?_, by rw [List.length_append]; omega, by simp; have := kk.1; omega, (kk.trans Keep.app).trans Keep.app⟩)
      · refine (set_is (d := .ref (μ' ++ [Cell.lst (ys.map Pl.d)]).length) (μ' := (μ' ++ [Cell.lst (ys.map Pl.d)]) ++ [Cell.lst ((pls ++ ys).map Pl.d)]) ?_).trans rfl
        have v1 : mVar 1 [some (houseD R ps), some (.ref m), some (.int (j : Int)), none, none] μ' = .ok (.ref m) μ' := rfl
        show mBin addD (mVar 1) _ [some (houseD R ps), some (.ref m), some (.int (j : Int)), none, none] μ' = _
        simp only [mBin, v1, Res.bind, cc, cat]
      · rw [List.nodup_append]
        refine ⟨nd, List.Pairwise.map _ (fun a b h e => h (by cases e; rfl)) rngI_nd, fun a ha b hb e => ?_⟩
        subst e
        obtain ⟨k, hk, rfl⟩ := List.mem_map.mp hb
        have := ((hm _).mp ha).1
        omega
      · rw [List.mem_append, hm]
        cases x with
        | room r => simp [InTo, ys]
        | on i k =>
          simp only [InTo, ys, List.mem_map, Pl.on.injEq, mem_rngI]
          constructor
          · rintro (⟨a, b⟩ | ⟨z, ⟨h0, h1⟩, rfl, rfl⟩)
            · exact ⟨by omega, b⟩
            · exact ⟨by omega, p, ep, by omega, by omega⟩
          · rintro ⟨a, p', ep', h0, h1⟩
            by_cases hij : i = j
            · subst hij
              rw [ep] at ep'; cases ep'
              exact .inr ⟨k, ⟨by omega, by omega⟩, rfl, rfl⟩
            · exact .inl ⟨by omega, p', ep', h0, h1⟩)
  rw [Q.range_len, Nat.zero_add] at loop
  obtain ⟨f, μ', w, ρ', rfl, _, m, pls, o2, rfl, em, nd, hm, hln, hml, kk⟩ := loop
  refine ⟨m, pls, μ', run_is ?_, em, nd, hm, by omega, hml, kk⟩
  unfold b_law_places
  refine (seq_set (d := .ref μ.length) (μ1 := μ ++ [.lst ((rngI 0 R).map fun x => .tup [.int x])]) c1).trans ?_
  refine (seq_run (for_run (ir1 (n := ps.length) (e := mB lenL (mCons (mBin idxA (mVar 0) (mC (.int 1))) (mNil))) (by simp [startR, i1, ll]) (by omega)) w)).trans ?_
  exact ret_is rfl
end K12

/-! S6: family B's dict of the places next to each. -/
namespace K12
open PySem L2 RW
/-- the cells of the dict's rows: each once, all made behind base -/
def Sep (base : Nat) (μ : Mem) (l : List (D × D)) : Prop := (l.map (·.2)).Nodup ∧ ∀ p ∈ l, ∃ n, p.2 = .ref n ∧ base ≤ n ∧ n < μ.length
theorem Sep.grow {base : Nat} {μ μ' : Mem} {l : List (D × D)} (h : Sep base μ l) (k : μ.length ≤ μ'.length) : Sep base μ' l := ⟨h.1, fun p hp => let ⟨n, e, a, b⟩ := h.2 p hp; ⟨n, e, a, by omega⟩⟩
theorem dGet_mem {k v : D} : ∀ {l : List (D × D)}, dGet l k = some v → v ∈ l.map (·.2)
  | (a, d) :: r, h => by
    simp only [dGet] at h
    split at h
    · cases h; simp
    · exact List.mem_cons_of_mem _ (dGet_mem h)
theorem rep_none {x : Pl} {ys : List Pl} : ∀ {adj : List (Pl × List Pl)}, x ∉ adj.map (·.1) → repA x ys adj = adj
  | [], _ => rfl
  | (a, zs) :: r, h => by
    simp only [List.map_cons, List.mem_cons, not_or] at h
    unfold repA
    rw [if_neg (fun e => h.1 e.symm), rep_none h.2]
theorem cell_off {μ : Mem} {F n : Nat} {c : Cell} : ∀ {l : List (D × D)} {adj : List (Pl × List Pl)}, Paired (Cellp μ F) l adj → D.ref n ∉ l.map (·.2) → Paired (Cellp (μ.set n c) F) l adj
  | _, _, .nil, _ => .nil
  | (a, d) :: l, (z, zs) :: adj, .cons ⟨h1, m, h2, h3, h4⟩ t, hn => by
    simp only [List.map_cons, List.mem_cons, not_or] at hn
    refine .cons ⟨h1, m, h2, h3, ?_⟩ (cell_off t hn.2)
    rw [set_ne' (fun e => hn.1 (by rw [e]; exact h2.symm))]
    exact h4
theorem cell_push {μ : Mem} {F n : Nat} {x : Pl} {ys zs : List Pl} : ∀ {l : List (D × D)} {adj : List (Pl × List Pl)}, Paired (Cellp μ F) l adj → (l.map (·.2)).Nodup → (adj.map (·.1)).Nodup → dGet l x.d = some (.ref n) → getA adj x = some ys →
    Paired (Cellp (μ.set n (.lst (zs.map Pl.d))) F) l (repA x zs adj)
  | _, _, .nil, _, _, h, _ => by simp [dGet] at h
  | (a, d) :: l, (z, us) :: adj, .cons ⟨h1, m, h2, h3, h4⟩ t, n1, n2, hd, hg => by
    have h1 : a = z.d := h1
    have h2 : d = .ref m := h2
    subst h1 h2
    simp only [List.map_cons, List.nodup_cons] at n1 n2
    by_cases hz : z = x
    · subst hz
      have : m = n := by simpa [dGet] using hd
      subst this
      unfold repA
      rw [if_pos rfl, rep_none n2.1]
      exact .cons ⟨rfl, m, rfl, h3, set_at (at_lt h4)⟩ (cell_off t n1.1)
    · have hne : ¬ (z.d.nk? = x.d.nk?) := fun e => hz (Pl.nk_inj.mp e)
      simp only [dGet, if_neg hne] at hd
      simp only [getA, if_neg hz] at hg
      unfold repA
      rw [if_neg hz]
      refine .cons ⟨rfl, m, rfl, h3, ?_⟩ (cell_push t n1.2 n2.2 hd hg)
      rw [set_ne' (fun e => n1.1 (by rw [← e]; exact dGet_mem hd))]
      exact h4
/-- found[x].append(y) -/
theorem push_spec {μ : Mem} {F base N : Nat} {l : List (D × D)} {adj : List (Pl × List Pl)} {T : Pl → Pl → Prop} {K : Pl → Prop} {x y : Pl} {ρ : Rho} {mx my : MD} (A : Adj μ F l adj) (sp : Sep base μ l) (g : Good adj T K N) (hN : N ≤ 5000) (hx : K x) (hxy : ¬ T x y) (hF : ρ[1]? = some (some (.ref F)))
    (ex : mx ρ μ = .ok x.d μ) (ey : my ρ μ = .ok y.d μ) (hb : base ≤ F) :
    ∃ (adj' : List (Pl × List Pl)) (μ' : Mem), sExpr (mMt isLst appendM (mBin idxA (mVar 1) mx) (mCons my (mNil))) ρ μ = .ok (.nx ρ) μ' ∧ Adj μ' F l adj' ∧ Sep base μ' l ∧ Good adj' (fun u v => T u v ∨ (u = x ∧ v = y)) K (N + 1) ∧ μ'.length = μ.length ∧ ∀ i, i < base → μ'[i]? = μ[i]? := by
  obtain ⟨ys, hy⟩ : ∃ ys, getA adj x = some ys := Option.isSome_iff_exists.mp ((g.keys x).mpr hx)
  rcases adj_get (x := x) A.pr with ⟨_, q⟩ | ⟨n, ys', g1, g2, g3, g4⟩
  · rw [q] at hy; cases hy
  rw [hy] at g2
  cases g2
  have hv : mVar 1 ρ μ = .ok (.ref F) μ := by simp only [mVar, hF]
  have ix : idxA (.ref F) x.d μ = .ok (.ref n) μ := by simp only [idxA, A.at_, idxDD, dictAt, if_pos (Pl.isT x), g1]
  have sz := g.sz x ys hy
  have ap : appendM (.ref n) [y.d] μ = .ok .non (μ.set n (.lst ((ys ++ [y]).map Pl.d))) := by
    have : (ys.map Pl.d).length < sizeLine := by rw [List.length_map, sizeLine_eq]; omega
    simp only [appendM, g4, if_pos this, List.map_append, List.map_cons, List.map_nil]
  have isl : isLst (.ref n) μ = true := by simp only [isLst, g4]
  have hs : (getA adj x).isSome = true := by rw [hy]; rfl
  have pb : bump adj x y = repA x (ys ++ [y]) adj := by
    unfold bump putA
    rw [hs, if_pos rfl, hy]; rfl
  obtain ⟨m, em, hm1, hm2⟩ : ∃ m, D.ref n = .ref m ∧ base ≤ m ∧ m < μ.length := by
    have := dGet_mem g1
    obtain ⟨p, hp, e⟩ := List.mem_map.mp this
    obtain ⟨m, e2, a, b⟩ := sp.2 p hp
    exact ⟨m, by rw [← e]; exact e2, a, b⟩
  cases em
  refine ⟨bump adj x y, μ.set n (.lst ((ys ++ [y]).map Pl.d)), ?_, ⟨by rw [set_ne' g3]; exact A.at_, by rw [pb]; exact cell_push A.pr sp.1 g.nd g1 hy⟩, sp.grow (by simp), (g.bump x y hxy).congr (fun _ _ => Iff.rfl) (fun u => ⟨fun h => h.elim id fun e => e ▸ hx, .inl⟩) (Nat.le_refl _), by simp, fun i hi => set_ne' (by omega)⟩
  simp only [sExpr, mMt, mBin, hv, Res.bind, ex, ix, isl, if_true, mCons, ey, mNil, ap]
  rfl
theorem fst_map : ∀ l : List Pl, (l.map fun x => (x, ([] : List Pl))).map (·.1) = l
  | [] => rfl
  | a :: l => by rw [List.map_cons, List.map_cons, fst_map l]
noncomputable def nx1B : MS := sAsg (mLst (mNil)) (gSubM setDD (mVar 1) (mVar 2))
theorem nexts_one {R : Nat} {ps : List Pipe} {μ μ1 : Mem} {F base m : Nat} {pls : List Pl} (em : μ1[m]? = some (.lst (pls.map Pl.d))) (nd : pls.Nodup) (hpl : pls.length ≤ 400) (hm1 : F < m) (eF1 : μ1[F]? = some (.tdic [])) (b1 : ∀ i, i < base → μ1[i]? = μ[i]?) (hbF : base ≤ F) :
    ∃ (o2 : Option D) (l : List (D × D)) (μ2 : Mem), forL (fun μ' => μ'[m]? = some (.lst (pls.map Pl.d))) (gN 2) nx1B (pls.map Pl.d) [some (houseD R ps), some (.ref F), none, none, none, none, none] μ1 = .ok (.nx [some (houseD R ps), some (.ref F), o2, none, none, none, none]) μ2 ∧
      Adj μ2 F l (pls.map fun x => (x, [])) ∧ Sep base μ2 l ∧ (∀ i, i < base → μ2[i]? = μ[i]?) ∧ base < μ2.length := by
  have z1 := at_lt eF1
  -- all places, with nothing yet
  have loop1 := forL_ok (chk := fun μ' => μ'[m]? = some (.lst (pls.map Pl.d))) (g := gN 2) (body := nx1B) (pls.map Pl.d)
    (fun j ρ μ' => j ≤ pls.length ∧ ∃ (o2 : Option D) (l : List (D × D)), ρ = [some (houseD R ps), some (.ref F), o2, none, none, none, none] ∧ Adj μ' F l ((pls.take j).map fun x => (x, [])) ∧ Sep base μ' l ∧ μ'[m]? = some (.lst (pls.map Pl.d)) ∧ (∀ i, i < base → μ'[i]? = μ[i]?) ∧ base < μ'.length) 0
    (ρ := [some (houseD R ps), some (.ref F), none, none, none, none, none]) (μ := μ1) ⟨Nat.zero_le _, none, [], rfl, ⟨eF1, .nil⟩, ⟨.nil, by simp⟩, em, b1, by omega⟩ (fun _ _ _ ⟨_, _, _, _, _, _, h, _⟩ => h)
    (fun j d ρ μ' ed ⟨hj, o2, l, eρ, A, sp, em', hb, hlt⟩ => by
      simp only [Nat.zero_add] at hj eρ A ⊢
      subst eρ
      rw [List.getElem?_map] at ed
      obtain ⟨x, ex, rfl⟩ := Option.map_eq_some_iff.mp ed
      have hj2 := (List.getElem?_eq_some_iff.mp ex).1
      have hnot : getA ((pls.take j).map fun x => (x, ([] : List Pl))) x = none := by
        rw [getA_none, List.map_map]
        intro hx
        have hx : x ∈ pls.take j := by
          obtain ⟨z, hz, rfl⟩ := List.mem_map.mp hx
          exact hz
        rw [List.mem_take_iff_getElem] at hx
        obtain ⟨i, hi, e⟩ := hx
        obtain ⟨hj3, e2⟩ := List.getElem?_eq_some_iff.mp ex
        have := (List.getElem_inj nd).mp (e.trans e2.symm)
        omega
      have fl := at_lt A.at_
      have A1 : Adj (μ' ++ [Cell.lst []]) F l ((pls.take j).map fun x => (x, [])) := A.keep Keep.app
      obtain ⟨st, A2⟩ := A1.store (x := x) (ys := []) (n := μ'.length) (by rw [List.length_map, List.length_take]; omega) (by omega) app_new
      have hd : dGet l x.d = none := by
        rcases adj_get (x := x) A.pr with ⟨h, _⟩ | ⟨_, _, _, h, _⟩
        · exact h
        · rw [hnot] at h; cases h
      have pl : dPut l x.d (.ref μ'.length) = l ++ [(x.d, .ref μ'.length)] := by
        unfold dPut dHas
        rw [hd]; rfl
      have pa : putA ((pls.take j).map fun x => (x, ([] : List Pl))) x [] = (pls.take (j + 1)).map fun x => (x, []) := by
        unfold putA
        rw [hnot, List.take_add_one, ex]; simp
      rw [pa] at A2
      rw [pl] at A2 st
      refine .mk (μ := μ') rfl (.mk (a := .nx [some (houseD R ps), some (.ref F), some x.d, none, none, none, none]) (μ := (μ' ++ [Cell.lst []]).set F (.tdic (l ++ [(x.d, .ref μ'.length)]))) ?_ ⟨_, .inl rfl, by omega, some x.d, _, rfl, A2, ⟨?_, fun p hp' => ?_⟩, ?_, fun i hi => ?_, by simp; omega⟩)
      · unfold nx1B
        simp [st]
      · rw [List.map_append, List.nodup_append]
        refine ⟨sp.1, by simp, fun a ha b hb' e => ?_⟩
        obtain ⟨p, hp', rfl⟩ := List.mem_map.mp ha
        obtain ⟨n, e2, _, h2⟩ := sp.2 p hp'
        simp at hb'
        rw [e2, hb'] at e
        injection e with e
        omega
      · rcases List.mem_append.mp hp' with hp' | hp'
        · obtain ⟨n, e, a, b⟩ := sp.2 p hp'
          exact ⟨n, e, a, by simp; omega⟩
        · simp at hp'
          subst hp'
          exact ⟨_, rfl, by omega, by simp⟩
      · rw [set_ne' (by omega)]; exact app_at em'
      · rw [set_ne' (by omega), List.getElem?_append_left (by omega)]
        exact hb i hi)
  rw [List.length_map, Nat.zero_add] at loop1
  obtain ⟨f1, μ2, w1, ρ1, rfl, _, o2, l, rfl, A2, sp2, em2, hb2, hlt2⟩ := loop1
  rw [List.take_length] at A2
  exact ⟨o2, l, μ2, w1, A2, sp2, hb2, hlt2⟩
theorem good_nil {S : List Int} {R : Nat} {ps : List Pipe} {pls : List Pl} (hS : ∀ x : Int, x ∈ S ↔ 0 ≤ x ∧ x < R) (nd : pls.Nodup) (hm : ∀ x, x ∈ pls ↔ InTo R ps ps.length x) (hpl : pls.length ≤ 400) : Good (pls.map fun x => (x, ([] : List Pl))) (fun _ _ => False) (IsPl S ps) 400 := by
  have hkeys : ∀ x, x ∈ pls ↔ IsPl S ps x := fun x => (hm x).trans (in_all hS)
  have fst_ : (pls.map fun x => (x, ([] : List Pl))).map (·.1) = pls := fst_map pls
  have gnil : ∀ x ys, getA (pls.map fun x => (x, ([] : List Pl))) x = some ys → ys = [] := fun x ys => by
    have : ∀ (l : List Pl), getA (l.map fun x => (x, ([] : List Pl))) x = some ys → ys = [] := fun l => by
      induction l with
      | nil => intro h; simp [getA] at h
      | cons a l ih =>
        intro h
        simp only [List.map_cons, getA] at h
        split at h
        · cases h; rfl
        · exact ih h
    exact this pls
  exact ⟨fun x => by
      rw [← hkeys x]
      cases h : getA (pls.map fun x => (x, ([] : List Pl))) x with
      | none => have := getA_none.mp h; rw [fst_] at this; simp [this]
      | some ys =>
        have : x ∈ pls := Classical.byContradiction fun z => by
          have := getA_none.mpr (show x ∉ (pls.map fun x => (x, ([] : List Pl))).map (·.1) by rw [fst_]; exact z)
          rw [h] at this; cases this
        simp [this], fun x ys h y => by rw [gnil x ys h]; simp, by rw [fst_]; exact nd, fun _ _ h => h.elim, fun x ys h => by rw [gnil x ys h]; simp, by rw [List.length_map]; exact hpl, fun x ys h => by rw [gnil x ys h]; exact .nil⟩
noncomputable def nxIn : MS := sSeq (sPar 5 6 (mCons (mB m_law_spot (mCons (mVar 0) (mCons (mVar 3) (mCons (mVar 4) (mNil))))) (mCons (mB m_law_spot (mCons (mVar 0) (mCons (mVar 3) (mCons (mBin addD (mVar 4) (mC (.int 1))) (mNil))))) (mNil))))
    (sSeq (sExpr (mMt isLst appendM (mBin idxA (mVar 1) (mVar 5)) (mCons (mVar 6) (mNil))))
    (sExpr (mMt isLst appendM (mBin idxA (mVar 1) (mVar 6)) (mCons (mVar 5) (mNil)))))
theorem nexts_two {S : List Int} {R : Nat} {ps : List Pipe} {μ μ2 : Mem} {F base : Nat} {o2 : Option D} {l : List (D × D)} {adj0 : List (Pl × List Pl)} (hO : Once ps) (hab : ∀ p ∈ ps, p.a < p.b) (hS : ∀ x : Int, x ∈ S ↔ 0 ≤ x ∧ x < R) (hends : ∀ p ∈ ps, p.a ∈ S ∧ p.b ∈ S) (hR : R ≤ 16) (hp : ps.length ≤ 16) (hl : ∀ p ∈ ps, 1 ≤ p.len ∧ p.len ≤ 20) (A2 : Adj μ2 F l adj0) (sp2 : Sep base μ2 l) (G2 : Good adj0 (fun _ _ => False) (IsPl S ps) 400) (hb2 : ∀ i, i < base → μ2[i]? = μ[i]?) (hlt2 : base < μ2.length) (hbF : base ≤ F) :
    ∃ (o3 o4 o5 o6 : Option D) (adj : List (Pl × List Pl)) (μ3 : Mem), forL (fun _ => True) (gN 3) (sFor (iRange1 (mCons (mBin idxA (mBin idxA (mBin idxA (mVar 0) (mC (.int 1))) (mVar 3)) (mC (.int 2))) (mNil))) (gN 4) nxIn) (rangeItems 0 ps.length) [some (houseD R ps), some (.ref F), o2, none, none, none, none] μ2 = .ok (.nx [some (houseD R ps), some (.ref F), o2, o3, o4, o5, o6]) μ3 ∧
      Adj μ3 F l adj ∧ Good adj (E ps) (IsPl S ps) 2000 ∧ (∀ i, i < base → μ3[i]? = μ[i]?) ∧ base < μ3.length := by
  have i1 : ∀ μ, idxA (houseD R ps) (.int 1) μ = .ok (.tup (ps.map Pipe.d)) μ := fun μ => ix_tup (by decide) rfl
  have loop2 := forL_ok (chk := fun _ => True) (g := gN 3) (body := sFor (iRange1 (mCons (mBin idxA (mBin idxA (mBin idxA (mVar 0) (mC (.int 1))) (mVar 3)) (mC (.int 2))) (mNil))) (gN 4) nxIn) (rangeItems 0 ps.length)
    (fun q ρ μ' => q ≤ ps.length ∧ ∃ (o3 o4 o5 o6 : Option D) (adj : List (Pl × List Pl)), ρ = [some (houseD R ps), some (.ref F), o2, o3, o4, o5, o6] ∧ Adj μ' F l adj ∧ Sep base μ' l ∧ Good adj (TE ps q 0) (IsPl S ps) (400 + 40 * q) ∧ (∀ i, i < base → μ'[i]? = μ[i]?) ∧ base < μ'.length) 0
    (ρ := [some (houseD R ps), some (.ref F), o2, none, none, none, none]) (μ := μ2) ⟨Nat.zero_le _, none, none, none, none, _, rfl, A2, sp2, G2.congr (fun x y => ⟨False.elim, fun ⟨q', p', k', e', h0, h1, ha, h⟩ => by rcases ha with ha | ⟨_, ha⟩ <;> omega⟩) (fun _ => Iff.rfl) (by omega), hb2, hlt2⟩ (fun _ _ _ _ => trivial)
    (fun q d ρ μ' ed ⟨hq, o3, o4, o5, o6, adj, eρ, A, sp, G, hb, hlt⟩ => by
      simp only [Nat.zero_add] at hq G ⊢
      subst eρ
      obtain ⟨hq2, rfl⟩ := Q.range_at ed
      rw [Int.zero_add]
      obtain ⟨p, ep⟩ : ∃ p, ps[q]? = some p := ⟨_, List.getElem?_eq_getElem hq2⟩
      have hpm := List.mem_of_getElem? ep
      obtain ⟨l1, l2⟩ := hl p hpm
      obtain ⟨n, hn⟩ : ∃ n : Nat, p.len = (n : Int) := ⟨p.len.toNat, by omega⟩
      have loop3 := forL_ok (chk := fun _ => True) (g := gN 4) (body := nxIn) (rangeItems 0 n)
        (fun i ρ μ' => i ≤ n ∧ ∃ (o4 o5 o6 : Option D) (adj : List (Pl × List Pl)), ρ = [some (houseD R ps), some (.ref F), o2, some (.int (q : Int)), o4, o5, o6] ∧ Adj μ' F l adj ∧ Sep base μ' l ∧ Good adj (TE ps q i) (IsPl S ps) (400 + 40 * q + 2 * i) ∧ (∀ i, i < base → μ'[i]? = μ[i]?) ∧ base < μ'.length) 0
        (ρ := [some (houseD R ps), some (.ref F), o2, some (.int (q : Int)), o4, o5, o6]) (μ := μ') ⟨Nat.zero_le _, o4, o5, o6, adj, rfl, A, sp, G, hb, hlt⟩ (fun _ _ _ _ => trivial)
        (fun i d ρ μ' ed ⟨hi, o4, o5, o6, adj, eρ, A, sp, G, hb, hlt⟩ => by
          simp only [Nat.zero_add] at hi G ⊢
          subst eρ
          obtain ⟨hi2, rfl⟩ := Q.range_at ed
          rw [Int.zero_add]
          have hik : (i : Int) < p.len := by omega
          obtain ⟨μa, qa, ka⟩ := bspot_spec (R := R) (k := (i : Int)) (μ := μ') ep l1
          obtain ⟨μb, qb, kb⟩ := bspot_spec (R := R) (k := (i : Int) + 1) (μ := μa) ep l1
          have kab : Keep [] μ' μb := ka.trans kb
          have hx : IsPl S ps (ln p q (i : Int)) := ln_pl (hends p hpm) ep (by omega) (by omega)
          have hy : IsPl S ps (ln p q ((i : Int) + 1)) := ln_pl (hends p hpm) ep (by omega) (by omega)
          have nT : ∀ x y, (x = ln p q (i : Int) ∧ y = ln p q ((i : Int) + 1)) ∨ (x = ln p q ((i : Int) + 1) ∧ y = ln p q (i : Int)) → ¬ TE ps q i x y := fun x y hxy ⟨q', p', k', e', h0', h1', hA, h⟩ => by
            have := hO q' p' k' q p i e' ep h0' h1' (by omega) hik (by
              rcases hxy with ⟨rfl, rfl⟩ | ⟨rfl, rfl⟩ <;> rcases h with ⟨h, h'⟩ | ⟨h, h'⟩
              · exact .inl ⟨h.symm, h'.symm⟩
              · exact .inr ⟨h'.symm, h.symm⟩
              · exact .inr ⟨h.symm, h'.symm⟩
              · exact .inl ⟨h'.symm, h.symm⟩)
            rcases hA with hA | ⟨hA, hA'⟩ <;> omega
          have hne : ln p q (i : Int) ≠ ln p q ((i : Int) + 1) := ln_ne (hab p hpm) (by omega) hik
          let ρ5 : Rho := [some (houseD R ps), some (.ref F), o2, some (.int (q : Int)), some (.int (i : Int)), some (ln p q (i : Int)).d, some (ln p q ((i : Int) + 1)).d]
          obtain ⟨adj1, μc, qc, A1, sp1, G1, zc, hbc⟩ := push_spec (x := ln p q (i : Int)) (y := ln p q ((i : Int) + 1)) (ρ := ρ5) (mx := mVar 5) (my := mVar 6) (A.keep kab) (sp.grow kab.1) G (by omega) hx (nT _ _ (.inl ⟨rfl, rfl⟩)) rfl rfl rfl (by omega)
          obtain ⟨adj2, μd, qd, A2, sp2, G2, zd, hbd⟩ := push_spec (x := ln p q ((i : Int) + 1)) (y := ln p q (i : Int)) (ρ := ρ5) (mx := mVar 6) (my := mVar 5) A1 sp1 G1 (by omega) hy (fun z => z.elim (nT _ _ (.inr ⟨rfl, rfl⟩)) fun z => hne z.2) rfl rfl rfl (by omega)
          have zab := kab.1
          refine .mk (μ := μ') rfl (.mk (a := .nx ρ5) (μ := μd) ?_ ⟨_, .inl rfl, by omega, _, _, _, adj2, rfl, A2, sp2, G2.congr (fun x y => TE_succ ep hik x y) (fun _ => Iff.rfl) (by omega), fun j hj => ((hbd j hj).trans (hbc j hj)).trans ((kab.2 j (by omega) (by simp)).trans (hb j hj)), by omega⟩)
          unfold nxIn
          refine (seq_run (ρ' := ρ5) (μ' := μb) ?_).trans ((seq_run qc).trans qd)
          simp [qa, add_ok, qb, ρ5])
      rw [Q.range_len, Nat.zero_add] at loop3
      obtain ⟨f3, μ3, w3, ρ3, rfl, _, p4, p5, p6, adj3, rfl, A3, sp3, G3, hb3, hlt3⟩ := loop3
      have i2 : idxA (.tup (ps.map Pipe.d)) (.int (q : Int)) μ' = .ok p.d μ' := ix_tup (by omega) (by rw [Int.toNat_natCast, List.getElem?_map, ep]; rfl)
      have i3 : idxA p.d (.int 2) μ' = .ok (.int n) μ' := by rw [← hn]; exact ix_tup (by decide) rfl
      exact .mk (μ := μ') rfl (.mk (for_run (ir1 (n := n) (e := mBin idxA (mBin idxA (mBin idxA (mVar 0) (mC (.int 1))) (mVar 3)) (mC (.int 2))) (by simp [i1, i2, i3]) (by omega)) w3) ⟨_, .inl rfl, by omega, _, _, _, _, adj3, rfl, A3, sp3, G3.congr (TE_next ep hn.symm) (fun _ => Iff.rfl) (by omega), hb3, hlt3⟩))
  rw [Q.range_len, Nat.zero_add] at loop2
  obtain ⟨f2, μ3, w2, ρ2, rfl, _, o3, o4, o5, o6, adj, rfl, A, sp, G, hb, hlt⟩ := loop2
  exact ⟨o3, o4, o5, o6, adj, μ3, w2, A, G.congr (TE_all rfl) (fun _ => Iff.rfl) (by omega), hb, hlt⟩
theorem nexts_eq : b_law_nexts = sSeq (sSet 1 (mTdicNew)) (sSeq (sFor (iSeq (mB m_law_places (mCons (mVar 0) (mNil)))) (gN 2) nx1B) (sSeq (sFor (iRange1 (mCons (mB lenL (mCons (mBin idxA (mVar 0) (mC (.int 1))) (mNil))) (mNil))) (gN 3) (sFor (iRange1 (mCons (mBin idxA (mBin idxA (mBin idxA (mVar 0) (mC (.int 1))) (mVar 3)) (mC (.int 2))) (mNil))) (gN 4) nxIn)) (sRet (mVar 1)))) := rfl
theorem nexts_spec {S : List Int} {R : Nat} {ps : List Pipe} {μ : Mem} (hO : Once ps) (hab : ∀ p ∈ ps, p.a < p.b) (hS : ∀ x : Int, x ∈ S ↔ 0 ≤ x ∧ x < R) (hends : ∀ p ∈ ps, p.a ∈ S ∧ p.b ∈ S) (hR : R ≤ 16) (hp : ps.length ≤ 16) (hl : ∀ p ∈ ps, 1 ≤ p.len ∧ p.len ≤ 20) :
    ∃ (F : Nat) (l : List (D × D)) (adj : List (Pl × List Pl)) (μ' : Mem), m_law_nexts [houseD R ps] μ = .ok (.ref F) μ' ∧ μ.length ≤ F ∧ Adj μ' F l adj ∧ Good adj (E ps) (IsPl S ps) 2000 ∧ Keep [] μ μ' := by
  have i1 : ∀ μ, idxA (houseD R ps) (.int 1) μ = .ok (.tup (ps.map Pipe.d)) μ := fun μ => ix_tup (by decide) rfl
  have ll : ∀ μ, lenL [.tup (ps.map Pipe.d)] μ = .ok (.int ps.length) μ := fun μ => by simp only [lenL, List.length_map]
  obtain ⟨F, hF⟩ : ∃ F, F = μ.length := ⟨_, rfl⟩
  obtain ⟨m, pls, μ1, q1, em, nd, hm, hpl, hml, k1⟩ := places_spec (R := R) (ps := ps) (μ := μ ++ [.tdic []]) hR hp hl
  have hm1 : F < m := by simp at hml; omega
  have eF1 : μ1[F]? = some (.tdic []) := k1.get (by rw [hF]; exact app_new) (by simp)
  have b1 : ∀ i, i < F → μ1[i]? = μ[i]? := fun i hi => (k1.2 i (by simp; omega) (by simp)).trans (List.getElem?_append_left (by omega))
  obtain ⟨o2, l, μ2, w1, A2, sp2, hb2, hlt2⟩ := nexts_one (R := R) (ps := ps) em nd hpl hm1 eF1 b1 (Nat.le_refl _)
  obtain ⟨o3, o4, o5, o6, adj, μ3, w2, A, G, hb, hlt⟩ := nexts_two (R := R) (o2 := o2) hO hab hS hends hR hp hl A2 sp2 (good_nil hS nd hm hpl) hb2 hlt2 (Nat.le_refl _)
  refine ⟨F, l, adj, μ3, run_is ?_, by omega, A, G, ⟨by omega, fun i hi _ => hb i (by omega)⟩⟩
  rw [nexts_eq]
  have eρ : (startR 7 [houseD R ps]).set 1 (some (.ref F)) = [some (houseD R ps), some (.ref F), none, none, none, none, none] := by simp [startR]
  have h1 : mB m_law_places (mCons (mVar 0) (mNil)) [some (houseD R ps), some (.ref F), none, none, none, none, none] (μ ++ [.tdic []]) = .ok (.ref m) μ1 := call1' (a := mVar 0) (d := houseD R ps) rfl q1
  have h2 := seq_lst h1 em
  have h3 := ir1 (ρ := [some (houseD R ps), some (.ref F), o2, none, none, none, none]) (μ := μ2) (n := ps.length) (e := mB lenL (mCons (mBin idxA (mVar 0) (mC (.int 1))) (mNil))) (by simp only [mB, mCons, mBin, mVar, mC, mNil, List.getElem?_cons_zero, Res.bind, i1, ll]) (by omega)
  have h0 : (mTdicNew) (startR 7 [houseD R ps]) μ = .ok (.ref F) (μ ++ [.tdic []]) := by rw [hF]; rfl
  refine (seq_set h0).trans ?_
  rw [eρ]
  exact (seq_run (for_run h2 w1)).trans ((seq_run (for_run h3 w2)).trans (ret_is rfl))
end K12

/-! S7: family B's row between two places. -/
namespace K12
open PySem L2 RW
/-- what the dict of those ahead holds -/
def Hd (ps : List Pipe) (b : Pl) (f : Pl → Int) : D × D → Pl → Prop := fun p x => p.1 = x.d ∧ ∃ y : Pl, p.2 = y.d ∧ ((x = b ∧ y = b) ∨ (E ps x y ∧ f y = f x - 1))
theorem hd_get {ps : List Pipe} {b : Pl} {f : Pl → Int} {x : Pl} : ∀ {al : List (D × D)} {ws : List Pl}, Paired (Hd ps b f) al ws → (x ∉ ws ∧ dGet al x.d = none) ∨ (x ∈ ws ∧ ∃ y : Pl, dGet al x.d = some y.d ∧ ((x = b ∧ y = b) ∨ (E ps x y ∧ f y = f x - 1)))
  | _, _, .nil => .inl ⟨by simp, rfl⟩
  | (a, d) :: al, z :: ws, .cons ⟨h1, y, h2, h3⟩ t => by
    have h1 : a = z.d := h1
    have h2 : d = y.d := h2
    subst h1 h2
    by_cases hz : z = x
    · subst hz
      exact .inr ⟨by simp, y, by simp [dGet], h3⟩
    · have hne : ¬ (z.d.nk? = x.d.nk?) := fun e => hz (Pl.nk_inj.mp e)
      rcases hd_get (x := x) t with ⟨g1, g2⟩ | ⟨g1, w', g2, g3⟩
      · exact .inl ⟨by simp [g1]; exact fun e => hz e.symm, by simp [dGet, hne, g2]⟩
      · exact .inr ⟨by simp [g1], w', by simp [dGet, hne, g2], g3⟩
section
variable {S : List Int} {ps : List Pipe} {b x : Pl} {f : Pl → Int} {ws fu : List Pl} {μ : Mem} {G C : Nat} {al : List (D × D)}
theorem not_in (eG : μ[G]? = some (.tdic al)) (pf : Paired (Hd ps b f) al ws) (y : Pl) : notInDD y.d (.ref G) μ = .ok (.bl (decide (y ∉ ws))) μ := by
  have da : dictAt (.ref G) y.d μ = some (dGet al y.d) := by simp only [dictAt, eG, if_pos (Pl.isT y)]
  rcases hd_get (x := y) pf with ⟨h, g⟩ | ⟨h, w, g, _⟩
  · simp [notInDD, da, g, h]
  · simp [notInDD, da, g, h]
noncomputable def nearB : MS := sSeq (sAsg (mVar 6) (gSubM setDD (mVar 3) (mVar 7))) (sExpr (mMt isLst appendM (mVar 5) (mCons (mVar 7) (mNil))))
/-- those near to x that weren't there -/
theorem near_spec {n : Nat} {L : List Pl} {o0 o1 o2 o4 o7 o8 : Option D} (W : Walk S ps b f ws) (Df : Dist S ps b f) (hx : x ∈ ws) (nd : L.Nodup) (hL : ∀ y ∈ L, y ∉ ws ∧ E ps x y ∧ IsPl S ps y) (eG : μ[G]? = some (.tdic al)) (pf : Paired (Hd ps b f) al ws) (eC : μ[C]? = some (.lst (fu.map Pl.d)))
    (en : μ[n]? = some (.lst (L.map Pl.d))) (h1 : G ≠ C) (h2 : n ≠ G) (h3 : n ≠ C) (hw : ws.length ≤ 10000) (hf : fu.length ≤ 10000) (hl : L.length ≤ 3000) :
    ∃ (o7' : Option D) (al' : List (D × D)) (μ' : Mem), forL (fun μ' => μ'[n]? = some (.lst (L.map Pl.d))) (gN 7) nearB (L.map Pl.d) [o0, o1, o2, some (.ref G), o4, some (.ref C), some x.d, o7, o8] μ = .ok (.nx [o0, o1, o2, some (.ref G), o4, some (.ref C), some x.d, o7', o8]) μ' ∧
      Walk S ps b f (ws ++ L) ∧ (∀ y ∈ L, f y = f x + 1) ∧ μ'[G]? = some (.tdic al') ∧ Paired (Hd ps b f) al' (ws ++ L) ∧ μ'[C]? = some (.lst ((fu ++ L).map Pl.d)) ∧ Keep [G, C] μ μ' := by
  have loop := forL_ok (chk := fun μ' => μ'[n]? = some (.lst (L.map Pl.d))) (g := gN 7) (body := nearB) (L.map Pl.d)
    (fun i ρ μ' => i ≤ L.length ∧ ∃ (o7' : Option D) (al' : List (D × D)), ρ = [o0, o1, o2, some (.ref G), o4, some (.ref C), some x.d, o7', o8] ∧ Walk S ps b f (ws ++ L.take i) ∧ (∀ y ∈ L.take i, f y = f x + 1) ∧ μ'[G]? = some (.tdic al') ∧ Paired (Hd ps b f) al' (ws ++ L.take i) ∧ μ'[C]? = some (.lst ((fu ++ L.take i).map Pl.d)) ∧ Keep [G, C] μ μ') 0
    (ρ := [o0, o1, o2, some (.ref G), o4, some (.ref C), some x.d, o7, o8]) (μ := μ) ⟨Nat.zero_le _, o7, al, rfl, by simpa using W, by simp, eG, by simpa using pf, by simpa using eC, .refl⟩ (fun _ _ _ ⟨_, _, _, _, _, _, _, _, _, k⟩ => k.get en (by simp [h2, h3]))
    (fun i d ρ μ' ed ⟨hi, o7', al', eρ, W', hf', eG', pf', eC', k⟩ => by
      simp only [Nat.zero_add] at hi W' hf' pf' eC' ⊢
      subst eρ
      rw [List.getElem?_map] at ed
      obtain ⟨y, ey, rfl⟩ := Option.map_eq_some_iff.mp ed
      have hi2 := (List.getElem?_eq_some_iff.mp ey).1
      obtain ⟨y1, y2, y3⟩ := hL y (List.mem_of_getElem? ey)
      have hyn : y ∉ ws ++ L.take i := fun z => by
        rcases List.mem_append.mp z with z | z
        · exact y1 z
        · rw [List.mem_take_iff_getElem] at z
          obtain ⟨j, hj, e⟩ := z
          obtain ⟨hi3, e2⟩ := List.getElem?_eq_some_iff.mp ey
          have := (List.getElem_inj nd).mp (e.trans e2.symm)
          omega
      obtain ⟨hfy, W2⟩ := W'.next Df (List.mem_append_left _ hx) y2 hyn y3
      have tk : L.take (i + 1) = L.take i ++ [y] := by rw [List.take_add_one, ey]; rfl
      have da : dGet al' y.d = none := by
        rcases hd_get (x := y) pf' with ⟨_, g⟩ | ⟨h, _⟩
        · exact g
        · exact absurd h hyn
      have hput : dPut al' y.d x.d = al' ++ [(y.d, x.d)] := by unfold dPut dHas; rw [da]; rfl
      have hz : al'.length < sizeLine := by rw [Paired.length pf', List.length_append, List.length_take, sizeLine_eq]; omega
      have s1 : setDD (.ref G) y.d x.d μ' = .ok () (μ'.set G (.tdic (al' ++ [(y.d, x.d)]))) := by
        rw [← hput]; simp only [setDD, eG', if_pos (And.intro (Pl.isT y) hz)]
      have eC2 : (μ'.set G (.tdic (al' ++ [(y.d, x.d)])))[C]? = some (.lst ((fu ++ L.take i).map Pl.d)) := by rw [set_ne' h1]; exact eC'
      have ap : appendM (.ref C) [y.d] (μ'.set G (.tdic (al' ++ [(y.d, x.d)]))) = .ok .non ((μ'.set G (.tdic (al' ++ [(y.d, x.d)]))).set C (.lst ((fu ++ L.take i).map Pl.d ++ [y.d]))) := by
        have : ((fu ++ L.take i).map Pl.d).length < sizeLine := by rw [List.length_map, List.length_append, List.length_take, sizeLine_eq]; omega
        simp only [appendM, eC2, if_pos this]
      refine .mk (μ := μ') rfl (.mk (a := .nx [o0, o1, o2, some (.ref G), o4, some (.ref C), some x.d, some y.d, o8]) (μ := (μ'.set G (.tdic (al' ++ [(y.d, x.d)]))).set C (.lst ((fu ++ L.take i).map Pl.d ++ [y.d]))) ?_ ⟨_, .inl rfl, by omega, some y.d, al' ++ [(y.d, x.d)], rfl, ?_, fun z hz => ?_, ?_, ?_, ?_, (k.trans (Keep.set (by simp))).trans (Keep.set (by simp))⟩)
      · unfold nearB
        refine (seq_asg (d := x.d) (μ1 := μ') (ρ2 := [o0, o1, o2, some (.ref G), o4, some (.ref C), some x.d, some y.d, o8]) (μ2 := μ'.set G (.tdic (al' ++ [(y.d, x.d)]))) rfl (by simp [s1])).trans ?_
        simp [isLst, eC2, ap]
      · rw [tk, ← List.append_assoc]; exact W2
      · rw [tk] at hz
        rcases List.mem_append.mp hz with hz | hz
        · exact hf' z hz
        · simp at hz; subst hz; exact hfy
      · rw [set_ne' (Ne.symm h1), set_at (at_lt eG')]
      · rw [tk, ← List.append_assoc]
        exact paired_snoc pf' ⟨rfl, x, rfl, .inr ⟨y2.symm, by omega⟩⟩
      · rw [set_at (by simp; exact at_lt eC'), tk]; simp)
  rw [List.length_map, Nat.zero_add, List.take_length] at loop
  obtain ⟨f1, μ', w, ρ', rfl, _, o7', al', rfl, W', hf', eG', pf', eC', k⟩ := loop
  exact ⟨o7', al', μ', w, W', hf', eG', pf', eC', k⟩
/-- those of a row that aren't there yet -/
theorem filt_spec {n : Nat} {ys : List Pl} {o0 o1 o2 o4 o5 o6 o8 : Option D} (eG : μ[G]? = some (.tdic al)) (pf : Paired (Hd ps b f) al ws) (en : μ[n]? = some (.lst (ys.map Pl.d))) (hl : ys.length ≤ 3000) :
    compL (fun μ' => μ'[n]? = some (.lst (ys.map Pl.d))) (gN 7) (mTest (mBin notInDD (mVar 7) (mVar 3))) (mVar 7) [o0, o1, o2, some (.ref G), o4, o5, o6, none, o8] (ys.map Pl.d) [] μ = .ok ((ys.filter fun y => decide (y ∉ ws)).map Pl.d) μ := by
  have key := compL_ok (chk := fun μ' => μ'[n]? = some (.lst (ys.map Pl.d))) (g := gN 7) (tt := mTest (mBin notInDD (mVar 7) (mVar 3))) (te := mVar 7) (ρ0 := [o0, o1, o2, some (.ref G), o4, o5, o6, none, o8]) (ys.map Pl.d)
    (fun j acc μ' => j ≤ ys.length ∧ acc = ((ys.take j).filter fun y => decide (y ∉ ws)).map Pl.d ∧ μ' = μ) 0 (acc := []) (μ := μ) ⟨Nat.zero_le _, by simp, rfl⟩ (fun _ _ _ ⟨_, _, e⟩ => e ▸ en)
    (fun j d acc μ' ed ⟨hj, ea, em⟩ => by
      simp only [Nat.zero_add] at hj ea ⊢
      subst em
      rw [List.getElem?_map] at ed
      obtain ⟨y, ey, rfl⟩ := Option.map_eq_some_iff.mp ed
      have hj2 := (List.getElem?_eq_some_iff.mp ey).1
      have ni := not_in eG pf y
      have tk : ys.take (j + 1) = ys.take j ++ [y] := by rw [List.take_add_one, ey]; rfl
      refine .mk (μ := μ') rfl (.mk (a := decide (y ∉ ws)) (μ := μ') (by simp [ni]) ?_)
      by_cases hy : y ∉ ws
      · rw [if_pos (by simpa using hy)]
        refine ⟨?_, .mk (a := y.d) (μ := μ') (by simp) ⟨by omega, ?_, rfl⟩⟩
        · have : acc.length ≤ ys.length := by
            rw [ea, List.length_map]
            exact Nat.le_trans (List.length_filter_le _ _) (by rw [List.length_take]; omega)
          rw [sizeLine_eq]; omega
        · rw [ea, tk, List.filter_append, List.map_append]; simp [hy]
      · rw [if_neg (by simpa using hy)]
        exact ⟨by omega, by rw [ea, tk, List.filter_append, List.map_append]; simp [hy], rfl⟩)
  rw [List.length_map, Nat.zero_add, List.take_length] at key
  obtain ⟨l, μ', e, _, rfl, rfl⟩ := key
  exact e
end
end K12

/-! S8: one round outwards. -/
namespace K12
open PySem L2 RW
/-- all within t steps -/
structure Ring (S : List Int) (ps : List Pipe) (b : Pl) (f : Pl → Int) (t : Int) (ws so : List Pl) : Prop where
  W : Walk S ps b f ws
  all : ∀ x, IsPl S ps x → f x ≤ t → x ∈ ws
  top : ∀ x ∈ ws, f x ≤ t
  so : ∀ x, x ∈ so ↔ x ∈ ws ∧ f x = t
noncomputable def placeB : MS := sFor (iSeq (mComp (iSeq (mBin idxA (mVar 0) (mVar 6))) (gN 7) (mTest (mBin notInDD (mVar 7) (mVar 3))) (mVar 7) [7])) (gN 7) nearB
section
variable {S : List Int} {ps : List Pipe} {b x : Pl} {f : Pl → Int} {ws so : List Pl} {μ : Mem} {G C F base M : Nat} {al l : List (D × D)} {adj : List (Pl × List Pl)} {t : Int}
/-- one place of the rim -/
theorem place_round {fu : List Pl} {o1 o2 o4 o7 o8 : Option D} (W : Walk S ps b f ws) (Df : Dist S ps b f) (hS : ∀ p ∈ ps, p.a ∈ S ∧ p.b ∈ S) (A : AdjL μ F l adj) (g : Good adj (E ps) (IsPl S ps) 2000) (hx : x ∈ ws) (eG : μ[G]? = some (.tdic al)) (pf : Paired (Hd ps b f) al ws) (eC : μ[C]? = some (.lst (fu.map Pl.d)))
    (h1 : G ≠ C) (hG : μ.length > G) (hw : ws.length ≤ 2000) (hf : fu.length ≤ 10000) (hAG : ∀ n zs, dGet l zs = some (.ref n) → n ≠ G ∧ n ≠ C) :
    ∃ (L : List Pl) (o7' : Option D) (al' : List (D × D)) (μ' : Mem), placeB [some (.ref F), o1, o2, some (.ref G), o4, some (.ref C), some x.d, o7, o8] μ = .ok (.nx [some (.ref F), o1, o2, some (.ref G), o4, some (.ref C), some x.d, o7', o8]) μ' ∧
      Walk S ps b f (ws ++ L) ∧ (∀ y ∈ L, f y = f x + 1) ∧ (∀ y, E ps x y → y ∈ ws ++ L) ∧ μ'[G]? = some (.tdic al') ∧ Paired (Hd ps b f) al' (ws ++ L) ∧ μ'[C]? = some (.lst ((fu ++ L).map Pl.d)) ∧ Keep [G, C] μ μ' := by
  have hxp := W.pl x hx
  obtain ⟨ys, hys⟩ : ∃ ys, getA adj x = some ys := Option.isSome_iff_exists.mp ((g.keys x).mpr hxp)
  obtain ⟨n, ix, en, ed⟩ := A.get hys
  have sz := g.sz x ys hys
  let L := ys.filter fun y => decide (y ∉ ws)
  have hln : L.length ≤ 2000 := Nat.le_trans (List.length_filter_le _ _) sz
  have yE : ∀ y, y ∈ ys ↔ E ps x y := g.val x ys hys
  have fl := filt_spec (o0 := some (.ref F)) (o1 := o1) (o2 := o2) (o4 := o4) (o5 := some (.ref C)) (o6 := some x.d) (o8 := o8) eG pf en (by omega)
  have cc : mComp (iSeq (mBin idxA (mVar 0) (mVar 6))) (gN 7) (mTest (mBin notInDD (mVar 7) (mVar 3))) (mVar 7) [7] [some (.ref F), o1, o2, some (.ref G), o4, some (.ref C), some x.d, o7, o8] μ = .ok (.ref μ.length) (μ ++ [.lst (L.map Pl.d)]) :=
    comp_is (seq_lst (n := n) (by simp [ix]) en) fl
  have eGn : (μ ++ [Cell.lst (L.map Pl.d)])[G]? = some (.tdic al) := app_at eG
  have hCl := at_lt eC
  obtain ⟨o7', al', μ', w, W', hf', eG', pf', eC', k⟩ := near_spec (n := μ.length) (L := L) (o0 := some (.ref F)) (o1 := o1) (o2 := o2) (o4 := o4) (o7 := o7) (o8 := o8) W Df hx ((g.nd2 x ys hys).filter _) (fun y hy => by
    obtain ⟨h1, h2⟩ := List.mem_filter.mp hy
    have he := (yE y).mp h1
    exact ⟨by simpa using h2, he, (he.pl hS).2⟩) eGn pf (app_at eC) app_new h1 (by omega) (by omega) (by omega) hf (by omega)
  refine ⟨L, o7', al', μ', ?_, W', hf', fun y hy => ?_, eG', pf', eC', Keep.trans Keep.app k⟩
  · unfold placeB
    exact for_run (seq_lst cc app_new) w
  · by_cases hyw : y ∈ ws
    · exact List.mem_append_left _ hyw
    · exact List.mem_append_right _ (List.mem_filter.mpr ⟨(yE y).mpr hy, by simpa using hyw⟩)
/-- one round -/
theorem round_spec {o1 o2 o6 o7 o8 : Option D} {Sc : Nat} (Rg : Ring S ps b f t ws so) (Df : Dist S ps b f) (hS : ∀ p ∈ ps, p.a ∈ S ∧ p.b ∈ S) (hcount : ∀ zs : List Pl, Walk S ps b f zs → zs.length ≤ 2000) (A : AdjL μ F l adj) (g : Good adj (E ps) (IsPl S ps) 2000)
    (eG : μ[G]? = some (.tdic al)) (pf : Paired (Hd ps b f) al ws) (eS : μ[Sc]? = some (.lst (so.map Pl.d))) (eC : μ[C]? = some (.lst [])) (h1 : G ≠ C) (h2 : Sc ≠ G) (h3 : Sc ≠ C) (hsl : so.length ≤ 2000) (hF : F ≠ G) (hF2 : F ≠ C) (hAG : ∀ n zs, dGet l zs = some (.ref n) → n ≠ G ∧ n ≠ C) (hwF : ∀ (x : D), x ∈ l.map (·.2) → ∃ n, x = .ref n ∧ n ≠ G ∧ n ≠ C) :
    ∃ (o6' o7' : Option D) (al' : List (D × D)) (ws' fu : List Pl) (μ' : Mem), forL (fun μ' => μ'[Sc]? = some (.lst (so.map Pl.d))) (gN 6) placeB (so.map Pl.d) [some (.ref F), o1, o2, some (.ref G), some (.ref Sc), some (.ref C), o6, o7, o8] μ = .ok (.nx [some (.ref F), o1, o2, some (.ref G), some (.ref Sc), some (.ref C), o6', o7', o8]) μ' ∧
      Ring S ps b f (t + 1) ws' fu ∧ fu.length ≤ 2000 ∧ μ'[G]? = some (.tdic al') ∧ Paired (Hd ps b f) al' ws' ∧ μ'[C]? = some (.lst (fu.map Pl.d)) ∧ Keep [G, C] μ μ' := by
  have akeep : ∀ {μ' : Mem}, Keep [G, C] μ μ' → AdjL μ' F l adj := fun {μ'} k => ⟨A.at_.imp (fun h => k.get h (by simp [hF, hF2])) (fun h => k.get h (by simp [hF, hF2])), by
    have : ∀ {l' : List (D × D)} {adj' : List (Pl × List Pl)}, (∀ x ∈ l'.map (·.2), x ∈ l.map (·.2)) → Paired (Cellp μ F) l' adj' → Paired (Cellp μ' F) l' adj' := fun {l' adj'} hs p => by
      induction p with
      | nil => exact .nil
      | cons h t ih =>
        obtain ⟨q1, n, q2, q3, q4⟩ := h
        refine .cons ⟨q1, n, q2, q3, ?_⟩ (ih fun x hx => hs x (List.mem_cons_of_mem _ hx))
        obtain ⟨n', e, a, c⟩ := hwF _ (hs _ List.mem_cons_self)
        have e2 := q2.symm.trans e
        cases e2
        exact k.get q4 (by simp [a, c])
    exact this (fun x hx => hx) A.pr⟩
  have loop := forL_ok (chk := fun μ' => μ'[Sc]? = some (.lst (so.map Pl.d))) (g := gN 6) (body := placeB) (so.map Pl.d)
    (fun i ρ μ' => i ≤ so.length ∧ ∃ (o6' o7' : Option D) (al' : List (D × D)) (fu : List Pl), ρ = [some (.ref F), o1, o2, some (.ref G), some (.ref Sc), some (.ref C), o6', o7', o8] ∧ Walk S ps b f (ws ++ fu) ∧ (∀ y ∈ fu, f y = t + 1) ∧ (∀ j x, j < i → so[j]? = some x → ∀ y, E ps x y → y ∈ ws ++ fu) ∧
      μ'[G]? = some (.tdic al') ∧ Paired (Hd ps b f) al' (ws ++ fu) ∧ μ'[C]? = some (.lst (fu.map Pl.d)) ∧ Keep [G, C] μ μ') 0
    (ρ := [some (.ref F), o1, o2, some (.ref G), some (.ref Sc), some (.ref C), o6, o7, o8]) (μ := μ) ⟨Nat.zero_le _, o6, o7, al, [], rfl, by simpa using Rg.W, by simp, fun j x hj => by omega, eG, by simpa using pf, eC, .refl⟩ (fun _ _ _ ⟨_, _, _, _, _, _, _, _, _, _, _, _, k⟩ => k.get eS (by simp [h2, h3]))
    (fun i d ρ μ' ed ⟨hi, o6', o7', al', fu, eρ, W', hfu, hseen, eG', pf', eC', k⟩ => by
      simp only [Nat.zero_add] at hi hseen ⊢
      subst eρ
      rw [List.getElem?_map] at ed
      obtain ⟨x, ex, rfl⟩ := Option.map_eq_some_iff.mp ed
      have hi2 := (List.getElem?_eq_some_iff.mp ex).1
      obtain ⟨hxw, hxt⟩ := (Rg.so x).mp (List.mem_of_getElem? ex)
      have cnt := hcount _ W'
      have cnt2 : fu.length ≤ 2000 := by rw [List.length_append] at cnt; omega
      obtain ⟨L, o7'', al'', μ'', q, W2, hL, hnb, eG2, pf2, eC2, k2⟩ := place_round (o1 := o1) (o2 := o2) (o4 := some (.ref Sc)) (o7 := o7') (o8 := o8) W' Df hS (akeep k) g (List.mem_append_left _ hxw) eG' pf' eC' h1 (at_lt eG') cnt (by omega) hAG
      refine .mk (μ := μ') rfl (.mk q ⟨_, .inl rfl, by omega, some x.d, o7'', al'', fu ++ L, rfl, by rw [← List.append_assoc]; exact W2, fun y hy => ?_, fun j z hj hz y hE => ?_, eG2, by rw [← List.append_assoc]; exact pf2, eC2, k.trans k2⟩)
      · rcases List.mem_append.mp hy with hy | hy
        · exact hfu y hy
        · rw [hL y hy, hxt]
      · rw [← List.append_assoc]
        by_cases hji : j < i
        · exact List.mem_append_left _ (hseen j z hji hz y hE)
        · obtain rfl : j = i := by omega
          rw [ex] at hz; cases hz
          exact hnb y hE)
  rw [List.length_map, Nat.zero_add] at loop
  obtain ⟨f1, μ', w, ρ', rfl, _, o6', o7', al', fu, rfl, W', hfu, hseen, eG', pf', eC', k⟩ := loop
  refine ⟨o6', o7', al', ws ++ fu, fu, μ', w, ⟨W', fun x hx hfx => ?_, fun x hx => ?_, fun x => ⟨fun h => ⟨List.mem_append_right _ h, hfu x h⟩, fun ⟨h, e⟩ => ?_⟩⟩, by have := hcount _ W'; rw [List.length_append] at this; omega, eG', pf', eC', k⟩
  · by_cases hxt : f x ≤ t
    · exact List.mem_append_left _ (Rg.all x hx hxt)
    · by_cases hxb : x = b
      · subst hxb; exact W'.st
      · obtain ⟨y, he, hy⟩ := Df.ex x hx hxb
        have hyp := (he.pl hS).2
        have hyw := Rg.all y hyp (by omega)
        obtain ⟨j, hj⟩ := List.mem_iff_getElem?.mp ((Rg.so y).mpr ⟨hyw, by omega⟩)
        exact hseen j y (List.getElem?_eq_some_iff.mp hj).1 hj x he.symm
  · rcases List.mem_append.mp hx with hx | hx
    · have := Rg.top x hx; omega
    · have := hfu x hx; omega
  · rcases List.mem_append.mp h with h | h
    · have := Rg.top x h; omega
    · exact h
end
end K12

/-! S9: family B's row, whole. -/
namespace K12
open PySem L2 RW
theorem neP {x y : Pl} {μ : Mem} : neD x.d y.d μ = .ok (.bl (!decide (x = y))) μ := by
  simp only [neD, pl_py, pl_shaped, Bool.and_self, if_true, pl_eqv]
theorem last_at {l : List D} {d : D} : atI (l ++ [d]) (-1) = some d := by
  have h1 : (1 : Int) ≤ (l.length : Int) + 1 := by omega
  have h2 : (-1 + ((l.length : Int) + 1)).toNat = l.length := by omega
  simp [atI, ixN, h1, h2]
noncomputable def roundB : MS := sSeq (sSet 5 (mLst (mNil))) (sSeq (sFor (iSeq (mVar 4)) (gN 6) placeB) (sSet 4 (mVar 5)))
noncomputable def backB : MS := sExpr (mMt isLst appendM (mVar 8) (mCons (mBin idxA (mVar 3) (mBin idxA (mVar 8) (mUn negD (mC (.int 1))))) (mNil)))
theorem row_eq : b_law_row = sSeq (sSet 3 (mTdic [(mVar 2, mVar 2)]))
    (sSeq (sSet 4 (mLst (mCons (mVar 2) (mNil))))
    (sSeq (whileL (mTest (mBin notInDD (mVar 1) (mVar 3))) roundB 1000)
    (sSeq (sSet 8 (mLst (mCons (mVar 1) (mNil))))
    (sSeq (whileL (mTest (mBin neD (mBin idxA (mVar 8) (mUn negD (mC (.int 1)))) (mVar 2))) backB 1000)
    (sRet (mVar 8)))))) := rfl
section
variable {S : List Int} {ps : List Pipe} {a b : Pl} {f : Pl → Int} {μ : Mem} {F : Nat} {l : List (D × D)} {adj : List (Pl × List Pl)}
/-- outwards till a is there -/
theorem out_spec {G Sc : Nat} {μ0 : Mem} (Df : Dist S ps b f) (hS : ∀ p ∈ ps, p.a ∈ S ∧ p.b ∈ S) (A : AdjL μ F l adj) (g : Good adj (E ps) (IsPl S ps) 2000) (ha : IsPl S ps a) (hb : IsPl S ps b) (hfa : f a < 900) (hG : G = μ.length) (hSc : Sc = μ.length + 1)
    (h0 : μ0 = (μ ++ [Cell.tdic [(b.d, b.d)]]) ++ [Cell.lst [b.d]]) :
    ∃ (o4 o5 o6 o7 : Option D) (al : List (D × D)) (ws : List Pl) (μ' : Mem), whileL (mTest (mBin notInDD (mVar 1) (mVar 3))) roundB 1000 [some (.ref F), some a.d, some b.d, some (.ref G), some (.ref Sc), none, none, none, none] μ0 = .ok (.nx [some (.ref F), some a.d, some b.d, some (.ref G), o4, o5, o6, o7, none]) μ' ∧
      a ∈ ws ∧ Walk S ps b f ws ∧ μ'[G]? = some (.tdic al) ∧ Paired (Hd ps b f) al ws ∧ Keep [] μ μ' := by
  have k0 : Keep [] μ μ0 := by rw [h0]; exact Keep.trans Keep.app Keep.app
  have eG0 : μ0[G]? = some (.tdic [(b.d, b.d)]) := by rw [h0, hG]; exact app_at app_new
  have eS0 : μ0[Sc]? = some (.lst ([b].map Pl.d)) := by rw [h0, hSc, show μ.length + 1 = (μ ++ [Cell.tdic [(b.d, b.d)]]).length by simp]; exact app_new
  have hFl := A.lt
  have cellsLt : ∀ {l' : List (D × D)} {adj' : List (Pl × List Pl)}, Paired (Cellp μ F) l' adj' → ∀ x ∈ l'.map (·.2), ∃ n, x = .ref n ∧ n < μ.length := fun {l' adj'} p => by
    induction p with
    | nil => intro x hx; cases hx
    | cons h t ih =>
      obtain ⟨q1, n, q2, q3, q4⟩ := h
      intro x hx
      rcases List.mem_cons.mp hx with rfl | hx
      · exact ⟨n, q2, at_lt q4⟩
      · exact ih x hx
  have hcells := cellsLt A.pr
  have bound : ∀ zs : List Pl, Walk S ps b f zs → zs.length ≤ 2000 := fun ws W => by
    have sub : ∀ x ∈ ws, x ∈ adj.map (·.1) := fun x hx => by
      have h1 := (g.keys x).mpr (W.pl x hx)
      by_cases hn : x ∈ adj.map (·.1)
      · exact hn
      · rw [getA_none.mpr hn] at h1; cases h1
    have := nodup_le W.nd sub
    rw [List.length_map] at this
    have := g.len; omega
  have R0 : Ring S ps b f 0 [b] [b] := ⟨⟨by simp, by simpa using hb, by simp, fun x hx hne => by simp at hx; exact absurd hx hne⟩, fun x hx hfx => by
      by_cases hxb : x = b
      · simp [hxb]
      · obtain ⟨y, he, hy⟩ := Df.ex x hx hxb
        have := Df.pos y (he.pl hS).2
        omega, fun x hx => by simp at hx; subst hx; rw [Df.f0]; omega, fun x => by simp; intro h; subst h; exact Df.f0⟩
  have hfa0 := Df.pos a ha
  have loop := whileL_ok (c := mTest (mBin notInDD (mVar 1) (mVar 3))) (body := roundB)
    (fun m ρ μ' => ∃ (t : Nat) (ws so : List Pl) (al : List (D × D)) (Sc : Nat) (o5 o6 o7 : Option D), ρ = [some (.ref F), some a.d, some b.d, some (.ref G), some (.ref Sc), o5, o6, o7, none] ∧ (m : Int) + t = f a + 1 ∧ (t : Int) ≤ f a ∧ Ring S ps b f t ws so ∧ so.length ≤ 2000 ∧
      μ'[G]? = some (.tdic al) ∧ Paired (Hd ps b f) al ws ∧ μ'[Sc]? = some (.lst (so.map Pl.d)) ∧ G < Sc ∧ Keep [] μ μ') (f a + 1).toNat (n := 1000) (ρ := [some (.ref F), some a.d, some b.d, some (.ref G), some (.ref Sc), none, none, none, none]) (μ := μ0) (by omega)
    ⟨0, [b], [b], _, Sc, none, none, none, rfl, by omega, by omega, R0, by simp, eG0, .cons ⟨rfl, b, rfl, .inl ⟨rfl, rfl⟩⟩ .nil, eS0, by omega, k0⟩
    (fun ρ μ' => ∃ (o4 o5 o6 o7 : Option D) (al : List (D × D)) (ws : List Pl), ρ = [some (.ref F), some a.d, some b.d, some (.ref G), o4, o5, o6, o7, none] ∧ a ∈ ws ∧ Walk S ps b f ws ∧ μ'[G]? = some (.tdic al) ∧ Paired (Hd ps b f) al ws ∧ Keep [] μ μ')
    (fun m ρ μ' ⟨t, ws, so, al, Sc, o5, o6, o7, eρ, hm, ht, Rg, hso, eG, pf, eS, hGS, k⟩ => by
      subst eρ
      refine .mk (a := decide (a ∉ ws)) (μ := μ') (by simp [not_in eG pf a]) ?_
      by_cases hin : a ∈ ws
      · rw [if_neg (by simpa using hin)]
        exact ⟨_, _, _, _, al, ws, rfl, hin, Rg.W, eG, pf, k⟩
      · rw [if_pos (by simpa using hin)]
        have hta : (t : Int) < f a := by
          by_cases h : f a ≤ t
          · exact absurd (Rg.all a ha h) hin
          · omega
        have kl := k.1
        have eC : (μ' ++ [Cell.lst []])[μ'.length]? = some (.lst ([] : List D)) := app_new
        have hGl := at_lt eG
        have hSl := at_lt eS
        have rd := round_spec (C := μ'.length) (Sc := Sc) (o1 := some a.d) (o2 := some b.d) (o6 := o6) (o7 := o7) (o8 := none) (μ := μ' ++ [Cell.lst []]) Rg Df hS bound ((A.keep k).keep Keep.app) g (app_at eG) pf (app_at eS) eC (by omega) (by omega) (by omega) hso (by omega) (by omega)
          (fun n zs h => by
            obtain ⟨n', e, hlt⟩ := hcells _ (dGet_mem h)
            cases e
            omega) (fun x hx => by
            obtain ⟨n, e, hlt⟩ := hcells x hx
            exact ⟨n, e, by omega, by omega⟩)
        obtain ⟨o6', o7', al', ws', fu, μ2, w, Rg', fl, eG', pf', eC', k2⟩ := rd
        refine .mk (a := .nx [some (.ref F), some a.d, some b.d, some (.ref G), some (.ref μ'.length), some (.ref μ'.length), o6', o7', none]) (μ := μ2) ?_ ⟨_, (f a - t).toNat, .inl rfl, by omega, t + 1, ws', fu, al', μ'.length, some (.ref μ'.length), o6', o7', rfl, by omega, by push_cast; omega, by push_cast; exact Rg', fl, eG', pf', eC', by omega, ?_⟩
        · unfold roundB
          refine (seq_set (d := .ref μ'.length) (μ1 := μ' ++ [.lst []]) (by simp)).trans ?_
          refine (seq_run (for_run (seq_lst (n := Sc) rfl (app_at eS)) w)).trans ?_
          exact (set_is (d := .ref μ'.length) (μ' := μ2) rfl).trans rfl
        · exact ((k.trans Keep.app).mono (ex' := [G, μ'.length]) (by simp)).trans k2 |>.mono fun i hi => .inr (by simp at hi; omega))
  obtain ⟨f1, μ', w1, ρ', rfl, o4, o5, o6, o7, al, ws, rfl, h1, h2, h3, h4, h5⟩ := loop
  exact ⟨o4, o5, o6, o7, al, ws, μ', w1, h1, h2, h3, h4, h5⟩
end
end K12

/-! S10: family B's row: the way back, the whole. -/
namespace K12
open PySem L2 RW
/-- the places from a towards b -/
def RowTo (S : List Int) (ps : List Pipe) (a b : Pl) (f : Pl → Int) (rows : List Pl) : Prop := (rows.length : Int) = f a + 1 ∧ rows.getLast? = some b ∧ ∀ (j : Nat) (x : Pl), rows[j]? = some x → IsPl S ps x ∧ Path ps j a x ∧ f x = f a - j
section
variable {S : List Int} {ps : List Pipe} {a b : Pl} {f : Pl → Int} {μ : Mem} {F : Nat} {l : List (D × D)} {adj : List (Pl × List Pl)}
theorem back_spec {G : Nat} {al : List (D × D)} {ws : List Pl} {o0 o1 o4 o5 o6 o7 : Option D} (Df : Dist S ps b f) (W : Walk S ps b f ws) (haw : a ∈ ws) (hfa : f a < 900) (eG : μ[G]? = some (.tdic al)) (pf : Paired (Hd ps b f) al ws) :
    ∃ (rows : List Pl) (μ' : Mem), whileL (mTest (mBin neD (mBin idxA (mVar 8) (mUn negD (mC (.int 1)))) (mVar 2))) backB 1000 [o0, o1, some b.d, some (.ref G), o4, o5, o6, o7, some (.ref μ.length)] (μ ++ [Cell.lst [a.d]]) = .ok (.nx [o0, o1, some b.d, some (.ref G), o4, o5, o6, o7, some (.ref μ.length)]) μ' ∧
      μ'[μ.length]? = some (.lst (rows.map Pl.d)) ∧ RowTo S ps a b f rows ∧ Keep [] μ μ' := by
  have hGl := at_lt eG
  have hfa0 := Df.pos a (W.pl a haw)
  have loop := whileL_ok (c := mTest (mBin neD (mBin idxA (mVar 8) (mUn negD (mC (.int 1)))) (mVar 2))) (body := backB)
    (fun m ρ μ' => ∃ (acc : List Pl) (x : Pl), ρ = [o0, o1, some b.d, some (.ref G), o4, o5, o6, o7, some (.ref μ.length)] ∧ (m : Int) = f x + 1 ∧ (acc.length : Int) = f a - f x ∧ μ'[μ.length]? = some (.lst ((acc ++ [x]).map Pl.d)) ∧
      (∀ (j : Nat) (y : Pl), (acc ++ [x])[j]? = some y → y ∈ ws ∧ Path ps j a y ∧ f y = f a - j) ∧ Keep [μ.length] (μ ++ [Cell.lst [a.d]]) μ') (f a + 1).toNat (n := 1000)
    (ρ := [o0, o1, some b.d, some (.ref G), o4, o5, o6, o7, some (.ref μ.length)]) (μ := μ ++ [Cell.lst [a.d]]) (by omega) ⟨[], a, rfl, by omega, by simp, app_new, fun j y h => by
      cases j with
      | zero => simp at h; subst h; exact ⟨haw, .nil _, by omega⟩
      | succ j => simp at h, .refl⟩
    (fun ρ μ' => ∃ (acc : List Pl), ρ = [o0, o1, some b.d, some (.ref G), o4, o5, o6, o7, some (.ref μ.length)] ∧ (acc.length : Int) = f a ∧ μ'[μ.length]? = some (.lst ((acc ++ [b]).map Pl.d)) ∧ (∀ (j : Nat) (y : Pl), (acc ++ [b])[j]? = some y → y ∈ ws ∧ Path ps j a y ∧ f y = f a - j) ∧ Keep [μ.length] (μ ++ [Cell.lst [a.d]]) μ')
    (fun m ρ μ' ⟨acc, x, eρ, hm, hal, er, hp, k⟩ => by
      subst eρ
      obtain ⟨hxw, hxp, hxf⟩ := hp acc.length x (by simp)
      have hfx := Df.pos x (W.pl x hxw)
      have il : idxA (.ref μ.length) (.int (-1)) μ' = .ok x.d μ' := by
        have e : atI ((acc ++ [x]).map Pl.d) (-1) = some x.d := by rw [List.map_append]; exact last_at
        simp only [idxA, er, idxD, e]
      have c1 : (mTest (mBin neD (mBin idxA (mVar 8) (mUn negD (mC (.int 1)))) (mVar 2))) [o0, o1, some b.d, some (.ref G), o4, o5, o6, o7, some (.ref μ.length)] μ' = .ok (!decide (x = b)) μ' := by
        simp [negD, il, neP]
      refine .mk c1 ?_
      by_cases hxb : x = b
      · rw [if_neg (by simpa using hxb)]
        subst hxb
        exact ⟨acc, rfl, by rw [hal, Df.f0]; omega, er, hp, k⟩
      · rw [if_pos (by simpa using hxb)]
        have eG' : μ'[G]? = some (.tdic al) := k.get (app_at eG) (by simp; omega)
        rcases hd_get (x := x) pf with ⟨h, _⟩ | ⟨_, y, gy, h⟩
        · exact absurd hxw h
        rcases h with ⟨h, _⟩ | ⟨he, hy⟩
        · exact absurd h hxb
        have hyw := W.cl x hxw hxb y he hy
        have hfy := Df.pos y (W.pl y hyw)
        have ix : idxA (.ref G) x.d μ' = .ok y.d μ' := by simp only [idxA, eG', idxDD, dictAt, if_pos (Pl.isT x), gy]
        have ap : appendM (.ref μ.length) [y.d] μ' = .ok .non (μ'.set μ.length (.lst ((acc ++ [x]).map Pl.d ++ [y.d]))) := by
          have : ((acc ++ [x]).map Pl.d).length < sizeLine := by rw [List.length_map, List.length_append, sizeLine_eq]; simp; omega
          simp only [appendM, er, if_pos this]
        have isl : isLst (.ref μ.length) μ' = true := by simp only [isLst, er]
        have ev : mBin idxA (mVar 3) (mBin idxA (mVar 8) (mUn negD (mC (.int 1)))) [o0, o1, some b.d, some (.ref G), o4, o5, o6, o7, some (.ref μ.length)] μ' = .ok y.d μ' := by
          simp [negD, il, ix]
        refine .mk (a := .nx [o0, o1, some b.d, some (.ref G), o4, o5, o6, o7, some (.ref μ.length)]) (μ := μ'.set μ.length (.lst ((acc ++ [x]).map Pl.d ++ [y.d]))) ?_ ⟨_, m - 1, .inl rfl, by omega, acc ++ [x], y, rfl, by omega, by simp; omega, ?_, fun j z hz => ?_, k.trans (Keep.set (by simp))⟩
        · have : (mMt isLst appendM (mVar 8) (mCons (mBin idxA (mVar 3) (mBin idxA (mVar 8) (mUn negD (mC (.int 1))))) (mNil))) [o0, o1, some b.d, some (.ref G), o4, o5, o6, o7, some (.ref μ.length)] μ' = .ok .non (μ'.set μ.length (.lst ((acc ++ [x]).map Pl.d ++ [y.d]))) := by
            simp only [mMt, mVar, List.getElem?_cons_succ, List.getElem?_cons_zero, Res.bind, isl, if_true, mCons, ev, mNil, ap]
          unfold backB
          rw [sExpr, this]; rfl
        · rw [set_at (at_lt er)]; simp
        · by_cases hj : j < (acc ++ [x]).length
          · rw [List.getElem?_append_left hj] at hz
            exact hp j z hz
          · have hlen : (acc ++ [x]).length = acc.length + 1 := by simp
            have hj2 := (List.getElem?_eq_some_iff.mp hz).1
            rw [List.length_append, hlen] at hj2
            simp at hj2
            obtain rfl : j = acc.length + 1 := by omega
            rw [List.getElem?_append_right (by omega), hlen] at hz
            simp at hz
            subst hz
            exact ⟨hyw, hxp.app (.cons he (.nil _)), by push_cast; omega⟩)
  obtain ⟨f1, μ', w1, ρ', rfl, acc, rfl, hal, er, hp, k⟩ := loop
  refine ⟨acc ++ [b], μ', w1, er, ⟨by simp; omega, by simp, fun j x h => ?_⟩, ?_⟩
  · obtain ⟨q1, q2, q3⟩ := hp j x h
    exact ⟨W.pl x q1, q2, q3⟩
  · exact (Keep.trans (Keep.app (ex := [μ.length])) k).mono fun i hi => .inr (by simp at hi; omega)
theorem row_spec (Df : Dist S ps b f) (hS : ∀ p ∈ ps, p.a ∈ S ∧ p.b ∈ S) (A : AdjL μ F l adj) (g : Good adj (E ps) (IsPl S ps) 2000) (ha : IsPl S ps a) (hb : IsPl S ps b) (hfa : f a < 900) :
    ∃ (m : Nat) (rows : List Pl) (μ' : Mem), m_law_row [.ref F, a.d, b.d] μ = .ok (.ref m) μ' ∧ μ'[m]? = some (.lst (rows.map Pl.d)) ∧ RowTo S ps a b f rows ∧ μ.length ≤ m ∧ Keep [] μ μ' := by
  obtain ⟨μ0, h0⟩ : ∃ μ0, μ0 = (μ ++ [Cell.tdic [(b.d, b.d)]]) ++ [Cell.lst [b.d]] := ⟨_, rfl⟩
  obtain ⟨o4, o5, o6, o7, al, ws, μ1, w1, haw, W, eG, pf, k1⟩ := out_spec (G := μ.length) (Sc := μ.length + 1) Df hS A g ha hb hfa rfl rfl h0
  obtain ⟨rows, μ2, w2, er, Rw, k2⟩ := back_spec (o0 := some (.ref F)) (o1 := some a.d) (o4 := o4) (o5 := o5) (o6 := o6) (o7 := o7) Df W haw hfa eG pf
  refine ⟨μ1.length, rows, μ2, run_is ?_, er, Rw, k1.1, k1.trans k2⟩
  rw [row_eq]
  have hb1 : RW.isT b.d = true := Pl.isT b
  have t0 : mTdic [(mVar 2, mVar 2)] (startR 9 [.ref F, a.d, b.d]) μ = .ok (.ref μ.length) (μ ++ [Cell.tdic [(b.d, b.d)]]) := by
    simp [startR, mTdic, mPairs, hb1, dicOf, dPut, dHas, dGet]
  refine (seq_set t0).trans ?_
  have e1 : (startR 9 [.ref F, a.d, b.d]).set 3 (some (.ref μ.length)) = [some (.ref F), some a.d, some b.d, some (.ref μ.length), none, none, none, none, none] := by simp [startR]
  rw [e1]
  have t1 : mLst (mCons (mVar 2) (mNil)) [some (.ref F), some a.d, some b.d, some (.ref μ.length), none, none, none, none, none] (μ ++ [Cell.tdic [(b.d, b.d)]]) = .ok (.ref (μ.length + 1)) μ0 := by
    rw [h0]; simp
  refine (seq_set t1).trans ?_
  have e2 : [some (D.ref F), some a.d, some b.d, some (.ref μ.length), none, none, none, none, none].set 4 (some (.ref (μ.length + 1))) = [some (.ref F), some a.d, some b.d, some (.ref μ.length), some (.ref (μ.length + 1)), none, none, none, none] := rfl
  rw [e2]
  refine (seq_run w1).trans ?_
  have t2 : mLst (mCons (mVar 1) (mNil)) [some (.ref F), some a.d, some b.d, some (.ref μ.length), o4, o5, o6, o7, none] μ1 = .ok (.ref μ1.length) (μ1 ++ [Cell.lst [a.d]]) := by simp
  refine (seq_set t2).trans ?_
  have e3 : [some (D.ref F), some a.d, some b.d, some (.ref μ.length), o4, o5, o6, o7, none].set 8 (some (.ref μ1.length)) = [some (.ref F), some a.d, some b.d, some (.ref μ.length), o4, o5, o6, o7, some (.ref μ1.length)] := rfl
  rw [e3]
  exact (seq_run w2).trans (ret_is rfl)
end
end K12

/-! S11: family B's ropes. -/
namespace K12
open PySem L2 RW
section
variable {μ : Mem} {k c N : Nat}
/-- of each number of a list a thing with a draw -/
theorem each_spec {ρ0 : Rho} {te : MD} {P : Int → Prop} {e : Int → Int → D} {i n : Nat} {ns : List Int} (h : Stm μ k c N) (hN : N + ns.length < 1000000) (en : μ[n]? = some (.lst (ns.map D.int))) (hnk : n ≠ k)
    (ht : ∀ (x : Int) (μ1 : Mem) (M : Nat), x ∈ ns → Stm μ1 k c M → M < 1000000 → ∃ (v : Int) (μ2 : Mem), te (ρ0.set i (some (.int x))) μ1 = .ok (e x v) μ2 ∧ P v ∧ Stm μ2 k c (M + 1) ∧ Keep [k] μ1 μ2) :
    ∃ (xs : List (Int × Int)) (μ' : Mem), compL (fun μ' => μ'[n]? = some (.lst (ns.map D.int))) (gN i) mYes te ρ0 (ns.map D.int) [] μ = .ok (xs.map fun p => e p.1 p.2) μ' ∧ xs.map (·.1) = ns ∧ (∀ x ∈ xs, P x.2) ∧ Stm μ' k c (N + ns.length) ∧ Keep [k] μ μ' := by
  have key := compL_ok (chk := fun μ' => μ'[n]? = some (.lst (ns.map D.int))) (g := gN i) (tt := mYes) (te := te) (ρ0 := ρ0) (ns.map D.int)
    (fun j acc μ' => j ≤ ns.length ∧ ∃ xs : List (Int × Int), acc = (xs.map fun p => e p.1 p.2) ∧ xs.map (·.1) = ns.take j ∧ (∀ x ∈ xs, P x.2) ∧ Stm μ' k c (N + j) ∧ Keep [k] μ μ') 0 (acc := []) (μ := μ)
    ⟨Nat.zero_le _, [], rfl, by simp, by simp, h, .refl⟩ (fun _ _ _ ⟨_, _, _, _, _, _, kk⟩ => kk.get en (by simp [hnk]))
    (fun j d acc μ' ed ⟨hj, xs, ea, em, hp, hs, kk⟩ => by
      simp only [Nat.zero_add] at hj em hs ⊢
      rw [List.getElem?_map] at ed
      obtain ⟨x, ex, rfl⟩ := Option.map_eq_some_iff.mp ed
      have hj2 := (List.getElem?_eq_some_iff.mp ex).1
      obtain ⟨v, μ2, w, hv, s2, k2⟩ := ht x μ' (N + j) (List.mem_of_getElem? ex) hs (by omega)
      refine .mk (μ := μ') rfl (.mk (μ := μ') rfl ?_)
      rw [if_pos rfl]
      have hl : xs.length = j := by
        have := congrArg List.length em
        rw [List.length_map, List.length_take] at this
        omega
      refine ⟨by rw [ea, List.length_map, sizeLine_eq]; omega, .mk w ⟨by omega, xs ++ [(x, v)], by rw [ea]; simp, by rw [List.map_append, em, List.take_add_one, ex]; rfl, fun z hz => ?_, by rw [show N + (j + 1) = N + j + 1 by omega]; exact s2, kk.trans k2⟩⟩
      rcases List.mem_append.mp hz with hz | hz
      · exact hp z hz
      · simp at hz; subst hz; exact hv)
  rw [List.length_map, Nat.zero_add] at key
  obtain ⟨l, μ', w, _, xs, rfl, em, hp, hs, kk⟩ := key
  rw [List.take_length] at em
  exact ⟨xs, μ', w, em, hp, hs, kk⟩
def ropeD (L : Int) (kn : List (Int × Int)) : D := .tup [.int L, .tup (kn.map pairD)]
/-- a rope of length L, at most two knots -/
structure Rope (L : Nat) (kn : List (Int × Int)) : Prop where
  n : kn.length ≤ 2
  up : (kn.map (·.1)).Pairwise (· < ·)
  at_ : ∀ z ∈ kn, 0 ≤ z.1 ∧ z.1 ≤ L ∧ 1 ≤ z.2 ∧ z.2 ≤ 3
theorem rope_spec {L : Nat} (h : Stm μ k c N) (hL : L ≤ 1000) (hN : N + 3000 < 1000000) : ∃ (kn : List (Int × Int)) (μ' : Mem), m_law_rope [.ref k, .int L] μ = .ok (ropeD L kn) μ' ∧ Rope L kn ∧ Stm μ' k c (N + 3000) ∧ Keep [k] μ μ' := by
  let ρ0 : Rho := startR 4 [.ref k, .int L]
  obtain ⟨xs, μ1, q1, pw, ha, hl, s1, k1⟩ := pick_spec (ρ0 := wipeR ρ0 [3]) (te := mVar 3) (P := fun _ => True) (e := fun x _ => .int x) (i := 3) (n := L + 1) (lo := 0) h (by omega) rfl (by decide)
    (fun x μ1 M _ _ hs hM => ⟨0, μ1, by simp [wipeR, ρ0, startR], trivial, hs.mono (by omega), .refl⟩)
  have c1 : mComp (iRange1 (mCons (mBin addD (mVar 1) (mC (.int 1))) (mNil))) (gN 3) (mTest (mBin eqD (mB m_law_take (mCons (mVar 0) (mCons (mC (.int 4)) (mNil)))) (mC (.int 0)))) (mVar 3) [3] ρ0 μ = .ok (.ref μ1.length) (μ1 ++ [.lst (xs.map fun p => .int p.1)]) :=
    comp_is (ir1 (n := L + 1) (e := mBin addD (mVar 1) (mC (.int 1))) (by simp [ρ0, startR, add_ok]) (by omega)) q1
  let ns : List Int := (xs.take 2).map (·.1)
  let μ2 : Mem := (μ1 ++ [.lst (xs.map fun p => .int p.1)]) ++ [.lst (ns.map D.int)]
  have sl : slcD (.ref μ1.length) none (some 2) (μ1 ++ [Cell.lst (xs.map fun p => D.int p.1)]) = .ok (.ref (μ1 ++ [Cell.lst (xs.map fun p => D.int p.1)]).length) μ2 := by
    have := cut_to (l := xs.map fun p => D.int p.1) (n := 2)
    have e2 : (xs.map fun p => D.int p.1).take 2 = ns.map D.int := by simp only [ns, List.map_take, List.map_map]; rfl
    simp only [slcD, app_new, μ2]
    rw [show (2 : Int) = ((2 : Nat) : Int) by rfl, this, e2]
  have s2 : Stm μ2 k c (N + 2 * (L + 1)) := (s1.app).app
  have l1 := s1.lt
  have hns : ns.length ≤ 2 := by simp only [ns, List.length_map, List.length_take]; omega
  let m2 : Nat := (μ1 ++ [Cell.lst (xs.map fun p => D.int p.1)]).length
  have hm2 : m2 = μ1.length + 1 := by simp [m2]
  have e2 : μ2[m2]? = some (.lst (ns.map D.int)) := app_new
  obtain ⟨ys, μ3, q3, em, hp, s3, k3⟩ := each_spec (ρ0 := wipeR [some (.ref k), some (.int (L : Int)), some (.ref m2), none] [3]) (te := mTup (mCons (mVar 3) (mCons (mBin addD (mC (.int 1)) (mB m_law_take (mCons (mVar 0) (mCons (mC (.int 3)) (mNil))))) (mNil)))) (P := fun v => 1 ≤ v ∧ v ≤ 3) (e := fun x v => .tup [.int x, .int v]) (i := 3) (n := m2) s2 (by omega) e2 (by omega)
    (fun x μ1 M _ hs hM => by
      obtain ⟨v, μ2, q, v0, v1', s, kk⟩ := take_spec (j := 3) hs hM (by decide) (by decide)
      exact ⟨1 + v, μ2, by simp [wipeR, q, add_ok], ⟨by omega, by omega⟩, s, kk⟩)
  have c3 : mComp (iSeq (mVar 2)) (gN 3) (mYes) (mTup (mCons (mVar 3) (mCons (mBin addD (mC (.int 1)) (mB m_law_take (mCons (mVar 0) (mCons (mC (.int 3)) (mNil))))) (mNil)))) [3] [some (.ref k), some (.int (L : Int)), some (.ref m2), none] μ2 = .ok (.ref μ3.length) (μ3 ++ [.lst (ys.map pairD)]) :=
    comp_is (seq_lst (n := m2) rfl e2) q3
  have yl : ys.length = ns.length := by rw [← em, List.length_map]
  refine ⟨ys, μ3 ++ [.lst (ys.map pairD)], run_is ?_, ⟨by omega, ?_, fun z hz => ?_⟩, (s3.app).mono (by omega), (((k1.trans Keep.app).trans Keep.app).trans k3).trans Keep.app⟩
  · unfold b_law_rope
    refine (seq_set (d := .ref m2) (μ1 := μ2) ?_).trans ?_
    · show mSlc _ oNone (oSome (mC (.int 2))) ρ0 μ = _
      rw [mSlc, c1]
      exact sl
    · have e3 : (startR 4 [.ref k, .int L]).set 2 (some (.ref m2)) = [some (.ref k), some (.int (L : Int)), some (.ref m2), none] := by simp [startR]
      rw [e3]
      refine ret_is ?_
      have t3 : tupleL [.ref μ3.length] (μ3 ++ [Cell.lst (ys.map pairD)]) = .ok (.tup (ys.map pairD)) (μ3 ++ [Cell.lst (ys.map pairD)]) := by simp only [tupleL, app_new]
      have v1 : mVar 1 [some (.ref k), some (.int (L : Int)), some (.ref m2), none] μ2 = .ok (.int L) μ2 := rfl
      simp only [mTup, mCons, mNil, v1, mB, c3, Res.bind, t3]
      rfl
  · rw [em]
    have e4 : ns = (xs.map (·.1)).take 2 := by simp only [ns, List.map_take]
    rw [e4]
    exact pw.sublist (List.take_sublist _ _)
  · obtain ⟨p1, p2⟩ := hp z hz
    have : z.1 ∈ ns := by rw [← em]; exact List.mem_map_of_mem hz
    obtain ⟨w, hw, e⟩ := List.mem_map.mp this
    obtain ⟨a1, a2, -⟩ := ha w (List.mem_of_mem_take hw)
    rw [← e]
    exact ⟨a1, by omega, p1, p2⟩
end
end K12

/-! S12: family B's narrow places; whether knots lie. -/
namespace K12
open PySem L2 RW
def widOf (q : Nat) (p : Pipe) : List (Pl × Int) := p.nar.map fun z => (.on q z.1, z.2)
def widTo (ps : List Pipe) : Nat → List (Pl × Int)
  | 0 => []
  | n + 1 => widTo ps n ++ (match ps[n]? with | some p => widOf n p | none => [])
def wGet : List (Pl × Int) → Pl → Option Int
  | [], _ => none
  | (a, w) :: r, x => if a = x then some w else wGet r x
def widD (ws : List (Pl × Int)) : List (D × D) := ws.map fun z => (z.1.d, D.int z.2)
theorem wid_get {x : Pl} : ∀ {ws : List (Pl × Int)}, dGet (widD ws) x.d = (wGet ws x).map D.int
  | [] => rfl
  | (a, w) :: r => by
    simp only [widD, List.map_cons, dGet, wGet]
    by_cases h : a = x
    · rw [if_pos (Pl.nk_inj.mpr h), if_pos h]; rfl
    · rw [if_neg (fun e => h (Pl.nk_inj.mp e)), if_neg h]
      exact wid_get
theorem wGet_none {x : Pl} : ∀ {ws : List (Pl × Int)}, x ∉ ws.map (·.1) → wGet ws x = none
  | [], _ => rfl
  | (a, w) :: r, h => by
    simp only [List.map_cons, List.mem_cons, not_or] at h
    simp only [wGet]
    rw [if_neg (fun e => h.1 e.symm)]
    exact wGet_none h.2
theorem wid_key {ps : List Pipe} : ∀ {n : Nat} {x : Pl}, x ∈ (widTo ps n).map (·.1) → ∃ i k, x = .on i k ∧ i < n
  | 0, x, h => by simp [widTo] at h
  | n + 1, x, h => by
    simp only [widTo, List.map_append, List.mem_append] at h
    rcases h with h | h
    · obtain ⟨i, k, e, hi⟩ := wid_key h
      exact ⟨i, k, e, by omega⟩
    · cases ep : ps[n]? with
      | none => rw [ep] at h; simp at h
      | some p =>
        rw [ep] at h
        simp only [widOf, List.map_map, List.mem_map] at h
        obtain ⟨z, _, rfl⟩ := h
        exact ⟨n, z.1, rfl, by omega⟩
section
variable {R : Nat} {ps : List Pipe} {μ : Mem}
noncomputable def widB : MS := sAsg (mVar 4) (gSubM setDD (mVar 1) (mTup (mCons (mVar 2) (mCons (mVar 3) (mNil)))))
noncomputable def widP : MS := sFor (iSeq (mBin idxA (mBin idxA (mBin idxA (mVar 0) (mC (.int 1))) (mVar 2)) (mC (.int 3)))) (gTupM 2 (gConsM (gN 3) (gConsM (gN 4) (gNilM)))) widB
theorem widths_eq : b_law_widths = sSeq (sSet 1 (mTdicNew)) (sSeq (sFor (iRange1 (mCons (mB lenL (mCons (mBin idxA (mVar 0) (mC (.int 1))) (mNil))) (mNil))) (gN 2) widP) (sRet (mVar 1))) := rfl
theorem wid_pipe {F q : Nat} {p : Pipe} {ws : List (Pl × Int)} {o3 o4 : Option D} (e : ps[q]? = some p) (ok : p.Ok) (eF : μ[F]? = some (.tdic (widD ws))) (hw : ∀ k, Pl.on q k ∉ ws.map (·.1)) (hl : ws.length + p.nar.length ≤ 10000) :
    ∃ (o3' o4' : Option D) (μ' : Mem), widP [some (houseD R ps), some (.ref F), some (.int (q : Int)), o3, o4] μ = .ok (.nx [some (houseD R ps), some (.ref F), some (.int (q : Int)), o3', o4']) μ' ∧ μ'[F]? = some (.tdic (widD (ws ++ widOf q p))) ∧ Keep [F] μ μ' := by
  have i1 : ∀ μ, idxA (houseD R ps) (.int 1) μ = .ok (.tup (ps.map Pipe.d)) μ := fun μ => ix_tup (by decide) rfl
  have i2 : ∀ μ, idxA (.tup (ps.map Pipe.d)) (.int (q : Int)) μ = .ok p.d μ := fun μ => ix_tup (by omega) (by rw [Int.toNat_natCast, List.getElem?_map, e]; rfl)
  have i3 : ∀ μ, idxA p.d (.int 3) μ = .ok (.tup (p.nar.map pairD)) μ := fun μ => ix_tup (by decide) rfl
  have loop := forL_ok (chk := fun _ => True) (g := gTupM 2 (gConsM (gN 3) (gConsM (gN 4) (gNilM)))) (body := widB) (p.nar.map pairD)
    (fun i ρ μ' => i ≤ p.nar.length ∧ ∃ (o3' o4' : Option D), ρ = [some (houseD R ps), some (.ref F), some (.int (q : Int)), o3', o4'] ∧ μ'[F]? = some (.tdic (widD (ws ++ (widOf q p).take i))) ∧ Keep [F] μ μ') 0
    (ρ := [some (houseD R ps), some (.ref F), some (.int (q : Int)), o3, o4]) (μ := μ) ⟨Nat.zero_le _, o3, o4, rfl, by simpa using eF, .refl⟩ (fun _ _ _ _ => trivial)
    (fun i d ρ μ' ed ⟨hi, o3', o4', eρ, eF', k⟩ => by
      simp only [Nat.zero_add] at hi eF' ⊢
      subst eρ
      rw [List.getElem?_map] at ed
      obtain ⟨z, ez, rfl⟩ := Option.map_eq_some_iff.mp ed
      have hi2 := (List.getElem?_eq_some_iff.mp ez).1
      have tk : (widOf q p).take (i + 1) = (widOf q p).take i ++ [(.on q z.1, z.2)] := by
        rw [List.take_add_one]
        simp [widOf, ez]
      have fresh : Pl.on q z.1 ∉ (ws ++ (widOf q p).take i).map (·.1) := fun h => by
        rw [List.map_append, List.mem_append] at h
        rcases h with h | h
        · exact hw _ h
        · obtain ⟨u, hu, e2⟩ := List.mem_map.mp h
          rw [List.mem_take_iff_getElem] at hu
          obtain ⟨j, hj, e3⟩ := hu
          simp only [widOf, List.getElem_map] at e3
          rw [← e3] at e2
          simp at e2
          obtain ⟨hi3, e4⟩ := List.getElem?_eq_some_iff.mp ez
          have pw := List.pairwise_iff_getElem.mp ok.n1 j i (by simp; omega) (by simp; omega) (by omega)
          simp only [List.getElem_map] at pw
          rw [e4] at pw
          omega
      have da : dGet (widD (ws ++ (widOf q p).take i)) (Pl.on q z.1).d = none := by rw [wid_get, wGet_none fresh]; rfl
      have hput : dPut (widD (ws ++ (widOf q p).take i)) (Pl.on q z.1).d (.int z.2) = widD (ws ++ (widOf q p).take (i + 1)) := by
        unfold dPut dHas
        rw [da, tk]
        simp [widD]
      have hz : (widD (ws ++ (widOf q p).take i)).length < sizeLine := by
        simp only [widD, List.length_map, List.length_append, List.length_take, sizeLine_eq, widOf]; omega
      have s1 : setDD (.ref F) (Pl.on q z.1).d (.int z.2) μ' = .ok () (μ'.set F (.tdic (widD (ws ++ (widOf q p).take (i + 1))))) := by
        rw [← hput]; simp only [setDD, eF', if_pos (And.intro (Pl.isT (Pl.on q z.1)) hz)]
      have g : gTupM 2 (gConsM (gN 3) (gConsM (gN 4) (gNilM))) (pairD z) [some (houseD R ps), some (.ref F), some (.int (q : Int)), o3', o4'] μ' = .ok [some (houseD R ps), some (.ref F), some (.int (q : Int)), some (.int z.1), some (.int z.2)] μ' := rfl
      have s1' : setDD (.ref F) (.tup [.int (q : Int), .int z.1]) (.int z.2) μ' = .ok () (μ'.set F (.tdic (widD (ws ++ (widOf q p).take (i + 1))))) := s1
      refine .mk g (.mk (a := .nx [some (houseD R ps), some (.ref F), some (.int (q : Int)), some (.int z.1), some (.int z.2)]) (μ := μ'.set F (.tdic (widD (ws ++ (widOf q p).take (i + 1))))) ?_ ⟨_, .inl rfl, by omega, _, _, rfl, set_at (at_lt eF'), k.trans (Keep.set (by simp))⟩)
      unfold widB
      simp [s1'])
  rw [List.length_map, Nat.zero_add] at loop
  obtain ⟨f1, μ', w, ρ', rfl, _, o3', o4', rfl, eF', k⟩ := loop
  rw [show p.nar.length = (widOf q p).length by simp [widOf], List.take_length] at eF'
  refine ⟨o3', o4', μ', ?_, eF', k⟩
  unfold widP
  exact for_run (items := p.nar.map pairD) (chk := fun _ => True) (μ1 := μ) (by simp [i1, i2, i3, itSeq]) w
theorem widths_spec (H : House R ps) : ∃ (F : Nat) (μ' : Mem), m_law_widths [houseD R ps] μ = .ok (.ref F) μ' ∧ μ'[F]? = some (.tdic (widD (widTo ps ps.length))) ∧ μ.length ≤ F ∧ Keep [] μ μ' := by
  have i1 : ∀ μ, idxA (houseD R ps) (.int 1) μ = .ok (.tup (ps.map Pipe.d)) μ := fun μ => ix_tup (by decide) rfl
  have ll : ∀ μ, lenL [.tup (ps.map Pipe.d)] μ = .ok (.int ps.length) μ := fun μ => by simp only [lenL, List.length_map]
  have hR := H.r2
  have hlen := H.len
  have short : ∀ p ∈ ps, p.nar.length ≤ 12 := fun p hp => by
    have pos : ∀ l : List Pipe, 0 ≤ (l.map fun p => (p.nar.length : Int)).sum := fun l => by
      induction l with
      | nil => simp
      | cons a l ih => simp only [List.map_cons, List.sum_cons]; omega
    have le : ∀ {l : List Pipe}, p ∈ l → (p.nar.length : Int) ≤ (l.map fun p => (p.nar.length : Int)).sum := fun {l} => by
      induction l with
      | nil => intro h; cases h
      | cons a l ih =>
        intro h
        simp only [List.map_cons, List.sum_cons]
        rcases List.mem_cons.mp h with rfl | h
        · have := pos l; omega
        · have := ih h; omega
    have := le hp
    have := H.nar
    omega
  have loop := forL_ok (chk := fun _ => True) (g := gN 2) (body := widP) (rangeItems 0 ps.length)
    (fun q ρ μ' => q ≤ ps.length ∧ ∃ (o2 o3 o4 : Option D), ρ = [some (houseD R ps), some (.ref μ.length), o2, o3, o4] ∧ μ'[μ.length]? = some (.tdic (widD (widTo ps q))) ∧ (widTo ps q).length ≤ 12 * q ∧ Keep [μ.length] (μ ++ [.tdic []]) μ') 0
    (ρ := [some (houseD R ps), some (.ref μ.length), none, none, none]) (μ := μ ++ [.tdic []]) ⟨Nat.zero_le _, none, none, none, rfl, app_new, by simp [widTo], .refl⟩ (fun _ _ _ _ => trivial)
    (fun q d ρ μ' ed ⟨hq, o2, o3, o4, eρ, eF, hl, k⟩ => by
      simp only [Nat.zero_add] at hq eF hl ⊢
      subst eρ
      obtain ⟨hq2, rfl⟩ := Q.range_at ed
      rw [Int.zero_add]
      obtain ⟨p, ep⟩ : ∃ p, ps[q]? = some p := ⟨_, List.getElem?_eq_getElem hq2⟩
      have hp := List.mem_of_getElem? ep
      have sh := short p hp
      obtain ⟨o3', o4', μ2, w, eF2, k2⟩ := wid_pipe (R := R) (o3 := o3) (o4 := o4) ep (H.ok p hp) eF (fun k h => by
        obtain ⟨i, k', e, hi⟩ := wid_key h
        injection e with e1 _
        omega) (by omega)
      have e1 : widTo ps q ++ widOf q p = widTo ps (q + 1) := by simp only [widTo, ep]
      rw [e1] at eF2
      refine .mk (μ := μ') rfl (.mk w ⟨_, .inl rfl, by omega, _, o3', o4', rfl, eF2, ?_, k.trans k2⟩)
      rw [← e1, List.length_append]
      simp only [widOf, List.length_map]
      omega)
  rw [Q.range_len, Nat.zero_add] at loop
  obtain ⟨f, μ', w, ρ', rfl, _, o2, o3, o4, rfl, eF, hl, k⟩ := loop
  refine ⟨μ.length, μ', run_is ?_, eF, Nat.le_refl _, (Keep.trans (Keep.app (ex := [μ.length])) k).mono fun i hi => .inr (by simp at hi; omega)⟩
  rw [widths_eq]
  have t0 : mTdicNew (startR 5 [houseD R ps]) μ = .ok (.ref μ.length) (μ ++ [.tdic []]) := rfl
  refine (seq_set t0).trans ?_
  have eρ : (startR 5 [houseD R ps]).set 1 (some (.ref μ.length)) = [some (houseD R ps), some (.ref μ.length), none, none, none] := by simp [startR]
  rw [eρ]
  have h3 := ir1 (ρ := [some (houseD R ps), some (.ref μ.length), none, none, none]) (μ := μ ++ [.tdic []]) (n := ps.length) (e := mB lenL (mCons (mBin idxA (mVar 0) (mC (.int 1))) (mNil))) (by simp only [mB, mCons, mBin, mVar, mC, mNil, List.getElem?_cons_zero, Res.bind, i1, ll]) (by omega)
  exact (seq_run (for_run h3 w)).trans (ret_is rfl)
end
end K12

/-! S13: family B: whether knots lie. -/
namespace K12
open PySem L2 RW
theorem lst_eq {μ : Mem} {c n : Nat} {cs : List Int} (e : μ[c]? = some (.lst (cs.map .int))) (e2 : μ[n]? = some (.lst [])) : eqD (.ref c) (.ref n) μ = .ok (.bl cs.isEmpty) μ := by
  have pys : ∀ l : List Int, D.pys? 7 μ (l.map D.int) = some (l.map PyData.int) := fun l => by
    induction l with
    | nil => simp [D.pys?]
    | cons a l ih => simp [D.pys?, D.py?, ih]
  have h1 : D.py? 8 μ (.ref c) = some (.list (cs.map PyData.int)) := by simp [D.py?, e, pys]
  have h2 : D.py? 8 μ (.ref n) = some (.list []) := by simp [D.py?, e2, D.pys?]
  have h3 : SeqAt.shaped (.list []) = true := by rfl
  have h4 : SeqAt.shaped (.list (cs.map PyData.int)) = true := by
    have g1 : ∀ l : List Int, PyData.canLayAll0 (l.map PyData.int) = true := fun l => by
      induction l with
      | nil => rfl
      | cons a l ih => simp [PyData.canLayAll0, PyData.canLay0, ih]
    have g2 : ∀ l : List Int, PyData.depthAll (l.map PyData.int) = 0 := fun l => by
      induction l with
      | nil => rfl
      | cons a l ih => simp [PyData.depthAll, PyData.depth, ih]
    unfold SeqAt.shaped
    refine Bool.and_eq_true_iff.mpr ⟨by simp only [PyData.canLay0, g1], decide_eq_true ?_⟩
    simp only [PyData.depth, g2]; omega
  simp only [eqD, h1, h2, h3, h4, Bool.and_self, if_true]
  cases cs <;> simp [PyData.eqv, PyData.eqvAll]
/-- a knot that lies too narrow -/
def tight (W : List (Pl × Int)) (rows : List Pl) (z : Int × Int) : Bool := match rows[z.1.toNat]? with
  | some x => decide ((wGet W x).getD z.2 < z.2)
  | none => false
section
variable {R : Nat} {ps : List Pipe} {μ : Mem} {rows : List Pl} {kn : List (Int × Int)} {m : Nat} {L : Int}
theorem knots_spec (H : House R ps) (em : μ[m]? = some (.lst (rows.map Pl.d))) (hk : ∀ z ∈ kn, 0 ≤ z.1 ∧ z.1 < rows.length) (hl : kn.length ≤ 1000) :
    ∃ μ' : Mem, m_law_knots_lie [houseD R ps, ropeD L kn, .ref m] μ = .ok (.bl ((kn.filter (tight (widTo ps ps.length) rows)).isEmpty)) μ' ∧ Keep [] μ μ' := by
  obtain ⟨F, μ1, q1, eF, hF, k1⟩ := widths_spec (μ := μ) H
  have em1 : μ1[m]? = some (.lst (rows.map Pl.d)) := k1.get em (by simp)
  let W := widTo ps ps.length
  let ρ0 : Rho := [some (houseD R ps), some (ropeD L kn), some (.ref m), some (.ref F), none, none, none]
  have ir : ∀ μ, idxA (ropeD L kn) (.int 1) μ = .ok (.tup (kn.map pairD)) μ := fun μ => ix_tup (by decide) rfl
  have isd : isDic (.ref F) μ1 = true := by simp only [isDic, eF]
  have key := compL_ok (chk := fun _ => True) (g := gTupM 2 (gConsM (gN 5) (gConsM (gN 6) (gNilM)))) (tt := mTest (mBin (cmpI fun i j => decide (i < j)) (mMt isDic getM (mVar 3) (mCons (mBin idxA (mVar 2) (mVar 5)) (mCons (mVar 6) (mNil)))) (mVar 6))) (te := mVar 5) (ρ0 := ρ0) (kn.map pairD)
    (fun j acc μ' => j ≤ kn.length ∧ acc = ((kn.take j).filter (tight W rows)).map (fun z => D.int z.1) ∧ μ' = μ1) 0 (acc := []) (μ := μ1) ⟨Nat.zero_le _, by simp, rfl⟩ (fun _ _ _ _ => trivial)
    (fun j d acc μ' ed ⟨hj, ea, e'⟩ => by
      simp only [Nat.zero_add] at hj ea ⊢
      subst e'
      rw [List.getElem?_map] at ed
      obtain ⟨z, ez, rfl⟩ := Option.map_eq_some_iff.mp ed
      have hj2 := (List.getElem?_eq_some_iff.mp ez).1
      obtain ⟨z0, z1⟩ := hk z (List.mem_of_getElem? ez)
      obtain ⟨x, ex⟩ : ∃ x, rows[z.1.toNat]? = some x := ⟨_, List.getElem?_eq_getElem (by omega)⟩
      have ix : idxA (.ref m) (.int z.1) μ' = .ok x.d μ' := ix_lst em1 z0 (by rw [List.getElem?_map, ex]; rfl)
      have da : dictAt (.ref F) x.d μ' = some (dGet (widD W) x.d) := by simp only [dictAt, eF, if_pos (Pl.isT x), W]
      have gm : getM (.ref F) [x.d, .int z.2] μ' = .ok (.int ((wGet W x).getD z.2)) μ' := by
        simp only [getM, da, wid_get]
        cases wGet W x <;> rfl
      have tz : tight W rows z = decide ((wGet W x).getD z.2 < z.2) := by simp only [tight, ex]
      have tk : kn.take (j + 1) = kn.take j ++ [z] := by rw [List.take_add_one, ez]; rfl
      have g : gTupM 2 (gConsM (gN 5) (gConsM (gN 6) (gNilM))) (pairD z) ρ0 μ' = .ok [some (houseD R ps), some (ropeD L kn), some (.ref m), some (.ref F), none, some (.int z.1), some (.int z.2)] μ' := rfl
      refine .mk g (.mk (a := tight W rows z) (μ := μ') ?_ ?_)
      · rw [tz]
        simp only [mTest, mBin, mMt, mVar, mCons, mNil, List.getElem?_cons_succ, List.getElem?_cons_zero, Res.bind, isd, if_true, ix, gm, cmpI]
      · cases ht : tight W rows z with
        | true =>
          rw [if_pos rfl]
          refine ⟨?_, .mk (a := .int z.1) (μ := μ') rfl ⟨by omega, ?_, rfl⟩⟩
          · have : acc.length ≤ kn.length := by
              rw [ea, List.length_map]
              exact Nat.le_trans (List.length_filter_le _ _) (by rw [List.length_take]; omega)
            rw [sizeLine_eq]; omega
          · rw [ea, tk, List.filter_append, List.map_append]; simp [ht]
        | false =>
          rw [if_neg (by simp)]
          exact ⟨by omega, by rw [ea, tk, List.filter_append, List.map_append]; simp [ht], rfl⟩)
  rw [List.length_map, Nat.zero_add, List.take_length] at key
  obtain ⟨l, μ2, w, _, rfl, rfl⟩ := key
  let ts : List Int := (kn.filter (tight W rows)).map (·.1)
  have el : (kn.filter (tight W rows)).map (fun z => D.int z.1) = ts.map D.int := by simp only [ts, List.map_map]; rfl
  rw [el] at w
  have c4 : mComp (iSeq (mBin idxA (mVar 1) (mC (.int 1)))) (gTupM 2 (gConsM (gN 5) (gConsM (gN 6) (gNilM)))) (mTest (mBin (cmpI fun i j => decide (i < j)) (mMt isDic getM (mVar 3) (mCons (mBin idxA (mVar 2) (mVar 5)) (mCons (mVar 6) (mNil)))) (mVar 6))) (mVar 5) [5, 6] ρ0 μ2 = .ok (.ref μ2.length) (μ2 ++ [.lst (ts.map D.int)]) :=
    comp_is (items := kn.map pairD) (chk := fun _ => True) (by simp [ρ0, ir, itSeq]) w
  have e1 : ((μ2 ++ [Cell.lst (ts.map D.int)]) ++ [Cell.lst []])[μ2.length]? = some (.lst (ts.map D.int)) := app_at app_new
  have eq := lst_eq (n := (μ2 ++ [Cell.lst (ts.map D.int)]).length) e1 app_new
  have em2 : ts.isEmpty = (kn.filter (tight W rows)).isEmpty := by simp only [ts]; cases kn.filter (tight W rows) <;> rfl
  rw [em2] at eq
  refine ⟨(μ2 ++ [Cell.lst (ts.map D.int)]) ++ [Cell.lst []], run_is ?_, (k1.trans Keep.app).trans Keep.app⟩
  unfold b_law_knots_lie
  have t0 : mB m_law_widths (mCons (mVar 0) (mNil)) (startR 7 [houseD R ps, ropeD L kn, .ref m]) μ = .ok (.ref F) μ2 := call1' (a := mVar 0) (d := houseD R ps) (μ1 := μ) rfl q1
  refine (seq_set t0).trans ?_
  have eρ : (startR 7 [houseD R ps, ropeD L kn, .ref m]).set 3 (some (.ref F)) = ρ0 := by simp [startR, ρ0]
  rw [eρ]
  refine (seq_set c4).trans ?_
  refine ret_is ?_
  have v4 : mVar 4 (ρ0.set 4 (some (.ref μ2.length))) (μ2 ++ [Cell.lst (ts.map D.int)]) = .ok (.ref μ2.length) (μ2 ++ [Cell.lst (ts.map D.int)]) := rfl
  have n4 : mLst (mNil) (ρ0.set 4 (some (.ref μ2.length))) (μ2 ++ [Cell.lst (ts.map D.int)]) = .ok (.ref (μ2 ++ [Cell.lst (ts.map D.int)]).length) ((μ2 ++ [Cell.lst (ts.map D.int)]) ++ [Cell.lst []]) := rfl
  rw [mBin, v4]
  simp only [Res.bind]
  rw [n4]
  simp only [Res.bind]
  exact eq
end
end K12

/-! S14: family B: a rope that stands somewhere. -/
namespace K12
open PySem L2 RW
section
variable {S : List Int} {R : Nat} {ps : List Pipe} {g : Int → Int → Int} {μ μ' : Mem} {k c N F : Nat} {l : List (D × D)} {adj : List (Pl × List Pl)} {a b : Pl} {f : Pl → Int}
theorem AdjL.strm (A : AdjL μ F l adj) (s : Stm μ k c N) (q : Keep [k] μ μ') : AdjL μ' F l adj := by
  obtain ⟨_, cs, x, y, t, e1, _⟩ := s
  have hF : F ∉ [k] := by
    simp only [List.mem_singleton]
    rintro rfl
    rcases A.at_ with h | h <;> (rw [e1] at h; cases h)
  refine ⟨A.at_.imp (fun h => q.get h hF) (fun h => q.get h hF), Paired.imp' A.pr fun p z ⟨h1, n, h2, h3, h4⟩ => ⟨h1, n, h2, h3, q.get h4 ?_⟩⟩
  simp only [List.mem_singleton]
  intro e
  rw [e, e1] at h4
  have h5 : [D.ref c, .int x, .int y, .int t] = z.2.map Pl.d := Cell.lst.inj (Option.some.inj h4)
  cases hz : z.2 with
  | nil => rw [hz] at h5; cases h5
  | cons u us =>
    rw [hz, List.map_cons] at h5
    have := (List.cons.inj h5).1
    cases u <;> cases this
/-- no place is farther than there are places -/
theorem far_le {pls : List Pl} (Df : Dist S ps b f) (hS : ∀ p ∈ ps, p.a ∈ S ∧ p.b ∈ S) (hp : ∀ x, IsPl S ps x → x ∈ pls) (ha : IsPl S ps a) : f a < pls.length := by
  have key : ∀ (n : Nat) (x : Pl), IsPl S ps x → f x = (n : Int) → ∃ xs : List Pl, xs.length = n + 1 ∧ xs.Nodup ∧ ∀ z ∈ xs, IsPl S ps z ∧ f z ≤ n := fun n => by
    induction n with
    | zero => intro x hx hf; exact ⟨[x], rfl, by simp, fun z hz => by simp at hz; subst hz; exact ⟨hx, by omega⟩⟩
    | succ n ih =>
      intro x hx hf
      have hxb : x ≠ b := fun e => by rw [e, Df.f0] at hf; omega
      obtain ⟨y, he, hy⟩ := Df.ex x hx hxb
      obtain ⟨xs, h1, h2, h3⟩ := ih y (he.pl hS).2 (by omega)
      refine ⟨x :: xs, by simp [h1], List.nodup_cons.mpr ⟨fun h => by have := (h3 x h).2; omega, h2⟩, fun z hz => ?_⟩
      rcases List.mem_cons.mp hz with rfl | hz
      · exact ⟨hx, by omega⟩
      · obtain ⟨q1, q2⟩ := h3 z hz
        exact ⟨q1, by push_cast; omega⟩
  have h0 := Df.pos a ha
  obtain ⟨xs, h1, h2, h3⟩ := key (f a).toNat a ha (by omega)
  have := nodup_le h2 fun z hz => hp z (h3 z hz).1
  omega
/-- the row of two places next to one another -/
theorem row_two (Gm : Geo S ps (dd g ps)) (ha : IsPl S ps a) {y : Pl} (he : E ps a y) : RowTo S ps a y (dd g ps y) [a, y] := by
  have hy := (he.pl Gm.ends).2
  have Dy := Gm.dist y hy
  have h0 := Dy.f0
  have h1 : dd g ps y a = 1 := by
    have := Dy.pos a ha
    rcases Dy.step y a he.symm with h | h <;> omega
  refine ⟨by simp [h1], rfl, fun j x h => ?_⟩
  cases j with
  | zero => simp at h; subst h; exact ⟨ha, .nil _, by omega⟩
  | succ j =>
    cases j with
    | zero => simp at h; subst h; exact ⟨hy, .cons he (.nil _), by rw [h0, h1]; rfl⟩
    | succ j => simp at h
theorem some_next (Gm : Geo S ps (dd g ps)) (hS : ∀ x : Int, x ∈ S ↔ 0 ≤ x ∧ x < R) (hR : 2 ≤ R) (ha : IsPl S ps a) : ∃ y, E ps a y := by
  have h0 : IsPl S ps (.room 0) := (hS 0).mpr ⟨by omega, by omega⟩
  have h1 : IsPl S ps (.room 1) := (hS 1).mpr ⟨by omega, by omega⟩
  by_cases h : a = .room 0
  · obtain ⟨y, he, _⟩ := (Gm.dist (.room 1) h1).ex a ha (by rw [h]; simp)
    exact ⟨y, he⟩
  · obtain ⟨y, he, _⟩ := (Gm.dist (.room 0) h0).ex a ha h
    exact ⟨y, he⟩
end
end K12

/-! S15: family B: a rope drawn in a house. -/
namespace K12
open PySem L2 RW
/-- a small house and its distances -/
structure Sml (S : List Int) (R : Nat) (ps : List Pipe) (g : Int → Int → Int) : Prop where
  H : House R ps
  M : Metric g S ps
  hS : ∀ x : Int, x ∈ S ↔ 0 ≤ x ∧ x < R
  r2 : 2 ≤ R
  ln : ∀ p ∈ ps, p.len ≤ 20
  sl : S.length ≤ 16
theorem small_of {R : Nat} {ps : List Pipe} (H : House R ps) (hR : 2 ≤ R) (hl : ∀ p ∈ ps, p.len ≤ 20) : ∃ S g, Sml S R ps g := by
  obtain ⟨S, hSp, tr⟩ := H.tree
  obtain ⟨g, M⟩ := tr.metric fun p hp => (H.ok p hp).l1
  exact ⟨S, g, H, M, fun x => by rw [hSp.mem_iff]; exact mem_upTo, hR, hl, by rw [hSp.length_eq, upTo_len]; exact H.r2⟩
section
variable {S : List Int} {R : Nat} {ps : List Pipe} {g : Int → Int → Int} {μ μ' : Mem} {k c N F m : Nat} {l : List (D × D)} {adj : List (Pl × List Pl)} {a b : Pl}
theorem Sml.geo (C : Sml S R ps g) : Geo S ps (dd g ps) := K12.geo C.M fun p hp => (C.H.ok p hp).l1
theorem Sml.ends (C : Sml S R ps g) : ∀ p ∈ ps, p.a ∈ S ∧ p.b ∈ S := fun p hp => ⟨(C.M.ends p hp).1, (C.M.ends p hp).2.1⟩
theorem Sml.places (C : Sml S R ps g) : ∃ (m : Nat) (pls : List Pl) (μ' : Mem), m_law_places [houseD R ps] μ = .ok (.ref m) μ' ∧ μ'[m]? = some (.lst (pls.map Pl.d)) ∧ pls.Nodup ∧ (∀ x, x ∈ pls ↔ IsPl S ps x) ∧ pls.length ≤ 400 ∧ μ.length ≤ m ∧ Keep [] μ μ' := by
  have h1 := C.H.r2
  have h2 := C.H.len
  obtain ⟨m, pls, μ', q, em, nd, hm, hl, hml, kk⟩ := places_spec (R := R) (ps := ps) (μ := μ) (by omega) (by omega) fun p hp => ⟨(C.H.ok p hp).l1, C.ln p hp⟩
  exact ⟨m, pls, μ', q, em, nd, fun x => (hm x).trans (in_all C.hS), hl, hml, kk⟩
/-- one of the places -/
theorem draw_pl {pls : List Pl} {ρ : Rho} {i : Nat} (hs : Stm μ k c N) (hN : N < 1000000) (em : μ[m]? = some (.lst (pls.map Pl.d))) (hmk : m ≠ k) (h0 : 0 < pls.length) (hl : pls.length ≤ 400) (v0 : ρ[0]? = some (some (.ref k))) (v3 : ρ[3]? = some (some (.ref m))) :
    ∃ (x : Pl) (μ' : Mem), mBin idxA (mVar 3) (mB m_law_take (mCons (mVar 0) (mCons (mB lenL (mCons (mVar 3) (mNil))) (mNil)))) ρ μ = .ok x.d μ' ∧ x ∈ pls ∧ Stm μ' k c (N + 1) ∧ Keep [k] μ μ' := by
  obtain ⟨y, μ1, q, y0, y1, s1, k1⟩ := take_spec (j := (pls.length : Int)) hs hN (by omega) (by omega)
  have e1 : μ1[m]? = some (.lst (pls.map Pl.d)) := k1.get em (by simp [hmk])
  obtain ⟨x, ex⟩ : ∃ x, pls[y.toNat]? = some x := ⟨_, List.getElem?_eq_getElem (by omega)⟩
  have ix : idxA (.ref m) (.int y) μ1 = .ok x.d μ1 := ix_lst e1 y0 (by rw [List.getElem?_map, ex]; rfl)
  have ll : lenL [.ref m] μ = .ok (.int pls.length) μ := by simp only [lenL, em, List.length_map]
  exact ⟨x, μ1, by simp only [mBin, mB, mCons, mNil, mVar, v0, v3, Res.bind, ll, q, ix], List.mem_of_getElem? ex, s1, k1⟩
theorem pls_ne {pls : List Pl} (hs : Stm μ k c N) (em : μ[m]? = some (.lst (pls.map Pl.d))) : m ≠ k := by
  obtain ⟨_, cs, x, y, t, e1, _⟩ := hs
  rintro rfl
  rw [e1] at em
  have h5 : [D.ref c, .int x, .int y, .int t] = pls.map Pl.d := Cell.lst.inj (Option.some.inj em)
  cases hz : pls with
  | nil => rw [hz] at h5; cases h5
  | cons u us =>
    rw [hz, List.map_cons] at h5
    have := (List.cons.inj h5).1
    cases u <;> cases this
/-- the row, of two places at least -/
theorem row_big {o3 : Option D} (C : Sml S R ps g) (A : AdjL μ F l adj) (gd : Good adj (E ps) (IsPl S ps) 2000) (ha : IsPl S ps a) (hb : IsPl S ps b) (hfa : dd g ps b a < 900) :
    ∃ (b' : Pl) (m6 : Nat) (rows : List Pl) (μ' : Mem), (∀ rest : MS, (sSeq (sSet 6 (mB m_law_row (mCons (mVar 2) (mCons (mVar 4) (mCons (mVar 5) (mNil))))))
      (sSeq (sIf (mTest (mBin (cmpI fun i j => decide (i < j)) (mB lenL (mCons (mVar 6) (mNil))) (mC (.int 2)))) (sSet 6 (mLst (mCons (mVar 4) (mCons (mBin idxA (mBin idxA (mVar 2) (mVar 4)) (mC (.int 0))) (mNil))))) (sNil)) rest)) [some (.ref k), some (houseD R ps), some (.ref F), o3, some a.d, some b.d, none, none] μ = rest [some (.ref k), some (houseD R ps), some (.ref F), o3, some a.d, some b.d, some (.ref m6), none] μ') ∧
      IsPl S ps b' ∧ a ≠ b' ∧ μ'[m6]? = some (.lst (rows.map Pl.d)) ∧ RowTo S ps a b' (dd g ps b') rows ∧ 2 ≤ rows.length ∧ rows.length ≤ 901 ∧ Keep [] μ μ' := by
  have Gm := C.geo
  obtain ⟨m6, rows, μ1, q, em, Rw, hm, k1⟩ := row_spec (Gm.dist b hb) Gm.ends A gd ha hb hfa
  have hlen := Rw.1
  have t6 : mB m_law_row (mCons (mVar 2) (mCons (mVar 4) (mCons (mVar 5) (mNil)))) [some (.ref k), some (houseD R ps), some (.ref F), o3, some a.d, some b.d, none, none] μ = .ok (.ref m6) μ1 := by
    simp only [mB, mCons, mNil, mVar, List.getElem?_cons_succ, List.getElem?_cons_zero, Res.bind, q]
  have ll : lenL [.ref m6] μ1 = .ok (.int rows.length) μ1 := by simp only [lenL, em, List.length_map]
  by_cases h2 : rows.length < 2
  · obtain ⟨y, he⟩ := some_next Gm C.hS C.r2 ha
    obtain ⟨ys, hys⟩ : ∃ ys, getA adj a = some ys := Option.isSome_iff_exists.mp ((gd.keys a).mpr ha)
    obtain ⟨n, ix, en, _⟩ := (A.keep k1).get hys
    have hin : y ∈ ys := (gd.val a ys hys y).mpr he
    obtain ⟨y0, ey⟩ : ∃ y0, ys[0]? = some y0 := ⟨_, List.getElem?_eq_getElem (List.length_pos_of_mem hin)⟩
    have he0 : E ps a y0 := (gd.val a ys hys y0).mp (List.mem_of_getElem? ey)
    have hy0 := (he0.pl Gm.ends).2
    have i0 : idxA (.ref n) (.int 0) μ1 = .ok y0.d μ1 := ix_lst en (by decide) (by show (ys.map Pl.d)[0]? = _; rw [List.getElem?_map, ey]; rfl)
    have Rw2 := row_two Gm ha he0
    have hne : a ≠ y0 := fun e => by
      have h := Rw2.1
      have h0 := (Gm.dist y0 hy0).f0
      rw [e, h0] at h
      simp at h
    refine ⟨y0, μ1.length, [a, y0], μ1 ++ [.lst [a.d, y0.d]], fun rest => ?_, hy0, hne, app_new, Rw2, by simp, by simp, k1.trans Keep.app⟩
    refine (seq_set t6).trans ?_
    have lt : (rows.length : Int) < 2 := by omega
    have cnd : (mTest (mBin (cmpI fun i j => decide (i < j)) (mB lenL (mCons (mVar 6) (mNil))) (mC (.int 2)))) ([some (.ref k), some (houseD R ps), some (.ref F), o3, some a.d, some b.d, none, none].set 6 (some (.ref m6))) μ1 = .ok true μ1 := by
      simp only [mTest, mBin, mB, mCons, mNil, mVar, mC, List.set_cons_succ, List.set_cons_zero, List.getElem?_cons_succ, List.getElem?_cons_zero, Res.bind, ll, cmpI, decide_eq_true lt]
    have nw : mLst (mCons (mVar 4) (mCons (mBin idxA (mBin idxA (mVar 2) (mVar 4)) (mC (.int 0))) (mNil))) ([some (.ref k), some (houseD R ps), some (.ref F), o3, some a.d, some b.d, none, none].set 6 (some (.ref m6))) μ1 = .ok (.ref μ1.length) (μ1 ++ [.lst [a.d, y0.d]]) := by
      simp [ix, i0]
    exact (seq_run ((if_t cnd).trans (set_is nw))).trans rfl
  · have hab : a ≠ b := fun e => by
      have := (Gm.dist b hb).f0
      rw [e, this] at hlen
      omega
    refine ⟨b, m6, rows, μ1, fun rest => ?_, hb, hab, em, Rw, by omega, by omega, k1⟩
    refine (seq_set t6).trans ?_
    have lt : ¬ (rows.length : Int) < 2 := by omega
    have cnd : (mTest (mBin (cmpI fun i j => decide (i < j)) (mB lenL (mCons (mVar 6) (mNil))) (mC (.int 2)))) ([some (.ref k), some (houseD R ps), some (.ref F), o3, some a.d, some b.d, none, none].set 6 (some (.ref m6))) μ1 = .ok false μ1 := by
      simp only [mTest, mBin, mB, mCons, mNil, mVar, mC, List.set_cons_succ, List.set_cons_zero, List.getElem?_cons_succ, List.getElem?_cons_zero, Res.bind, ll, cmpI, decide_eq_false lt]
    exact (seq_skip cnd).trans rfl
end
end K12

/-! S16: family B: a rope and a stand, drawn. -/
namespace K12
open PySem L2 RW
section
variable {S : List Int} {R : Nat} {ps : List Pipe} {g : Int → Int → Int} {μ μ' : Mem} {k c N F m : Nat} {l : List (D × D)} {adj : List (Pl × List Pl)} {a b : Pl}
theorem atI_neg {l : List D} {d : D} (h : l.getLast? = some d) : atI l (-1) = some d := by
  obtain ⟨ys, rfl⟩ : ∃ ys, l = ys ++ [d] := by
    have hne : l ≠ [] := by rintro rfl; simp at h
    refine ⟨l.dropLast, ?_⟩
    rw [List.getLast?_eq_some_getLast hne] at h
    cases h
    exact (List.dropLast_concat_getLast hne).symm
  exact last_at
theorem not_test {e : MD} {ρ : Rho} {μ1 : Mem} {t : Bool} (h : e ρ μ = .ok (.bl t) μ1) : mNot (mTest e) ρ μ = .ok (!t) μ1 := by simp [mNot, mTest, h]
theorem call3 {f : Sem} {x y z : MD} {ρ : Rho} {μ1 : Mem} {p q r d : D} (h1 : x ρ μ = .ok p μ) (h2 : y ρ μ = .ok q μ) (h3 : z ρ μ = .ok r μ) (h : f [p, q, r] μ = .ok d μ1) : mB f (mCons x (mCons y (mCons z mNil))) ρ μ = .ok d μ1 := by
  simp only [mB, mCons, mNil, h1, h2, h3, Res.bind, h]
theorem stand_lst {ρ : Rho} {m6 : Nat} {r : D} (h6 : ρ[6]? = some (some (.ref m6))) (h7 : ρ[7]? = some (some r)) (il : idxA (.ref m6) (.int (-1)) μ = .ok b.d μ) (i0 : idxA (.ref m6) (.int 0) μ = .ok a.d μ) :
    mLst (mCons (mVar 7) (mCons (mTup (mCons (mBin idxA (mVar 6) (mUn negD (mC (.int 1)))) (mCons (mBin idxA (mVar 6) (mC (.int 0))) (mNil)))) (mNil))) ρ μ = .ok (.ref μ.length) (μ ++ [.lst [r, .tup [b.d, a.d]]]) := by
  simp [h6, h7, negD, il, i0]
/-- the rope, or the same without knots -/
theorem rope_end {rows : List Pl} {kn : List (Int × Int)} {L m6 : Nat} {o3 o4 o5 : Option D} (H : House R ps) (em : μ[m6]? = some (.lst (rows.map Pl.d))) (hL : rows.length = L + 1) (Rp : Rope L kn) (hb : rows.getLast? = some b) (ha : rows[0]? = some a) :
    ∃ (kn' : List (Int × Int)) (n : Nat) (μ' : Mem), (sSeq (sIf (mNot (mTest (mB m_law_knots_lie (mCons (mVar 1) (mCons (mVar 7) (mCons (mVar 6) (mNil))))))) (sSet 7 (mTup (mCons (mBin idxA (mVar 7) (mC (.int 0))) (mCons (mTup (mNil)) (mNil))))) (sNil))
      (sRet (mLst (mCons (mVar 7) (mCons (mTup (mCons (mBin idxA (mVar 6) (mUn negD (mC (.int 1)))) (mCons (mBin idxA (mVar 6) (mC (.int 0))) (mNil)))) (mNil)))))) [some (.ref k), some (houseD R ps), some (.ref F), o3, o4, o5, some (.ref m6), some (ropeD L kn)] μ = .ok (.ret (.ref n)) μ' ∧
      μ'[n]? = some (.lst [ropeD L kn', .tup [b.d, a.d]]) ∧ Rope L kn' ∧ kn'.filter (tight (widTo ps ps.length) rows) = [] ∧ Keep [] μ μ' := by
  obtain ⟨μ1, q, k1⟩ := knots_spec (L := (L : Int)) H em (fun z hz => by obtain ⟨h0, h1, _⟩ := Rp.at_ z hz; exact ⟨h0, by omega⟩) (by have := Rp.n; omega)
  have em1 : μ1[m6]? = some (.lst (rows.map Pl.d)) := k1.get em (by simp)
  have il : ∀ {μ : Mem}, μ[m6]? = some (.lst (rows.map Pl.d)) → idxA (.ref m6) (.int (-1)) μ = .ok b.d μ := fun em => by
    have e : atI (rows.map Pl.d) (-1) = some b.d := atI_neg (by rw [List.getLast?_map, hb]; rfl)
    simp only [idxA, em, idxD, e]
  have i0 : ∀ {μ : Mem}, μ[m6]? = some (.lst (rows.map Pl.d)) → idxA (.ref m6) (.int 0) μ = .ok a.d μ := fun em => ix_lst em (by decide) (by show (rows.map Pl.d)[0]? = _; rw [List.getElem?_map, ha]; rfl)
  let ρ : Rho := [some (.ref k), some (houseD R ps), some (.ref F), o3, o4, o5, some (.ref m6), some (ropeD L kn)]
  have kq : mB m_law_knots_lie (mCons (mVar 1) (mCons (mVar 7) (mCons (mVar 6) (mNil)))) ρ μ = .ok (.bl ((kn.filter (tight (widTo ps ps.length) rows)).isEmpty)) μ1 := by
    have v1 : mVar 1 ρ μ = .ok (houseD R ps) μ := rfl
    have v7 : mVar 7 ρ μ = .ok (ropeD L kn) μ := rfl
    have v6 : mVar 6 ρ μ = .ok (.ref m6) μ := rfl
    exact call3 v1 v7 v6 q
  have cn := not_test kq
  cases he : (kn.filter (tight (widTo ps ps.length) rows)).isEmpty with
  | true =>
    rw [he] at cn
    exact ⟨kn, μ1.length, μ1 ++ [.lst [ropeD L kn, .tup [b.d, a.d]]], (seq_skip cn).trans (ret_is (stand_lst rfl rfl (il em1) (i0 em1))), app_new, Rp, List.isEmpty_iff.mp he, k1.trans Keep.app⟩
  | false =>
    rw [he] at cn
    have ir : idxA (ropeD L kn) (.int 0) μ1 = .ok (.int L) μ1 := ix_tup (by decide) rfl
    have tp : mTup (mCons (mBin idxA (mVar 7) (mC (.int 0))) (mCons (mTup (mNil)) (mNil))) ρ μ1 = .ok (ropeD L []) μ1 := by
      have v7 : mVar 7 ρ μ1 = .ok (ropeD L kn) μ1 := rfl
      simp only [mTup, mCons, mBin, v7, mC, Res.bind, ir, mNil]
      rfl
    exact ⟨[], μ1.length, μ1 ++ [.lst [ropeD L [], .tup [b.d, a.d]]], (seq_run ((if_t cn).trans (set_is tp))).trans (ret_is (stand_lst rfl rfl (il em1) (i0 em1))), app_new, ⟨by simp, by simp, by simp⟩, rfl, k1.trans Keep.app⟩
end
end K12

namespace K12
open PySem L2 RW
section
variable {S : List Int} {R : Nat} {ps : List Pipe} {g : Int → Int → Int} {μ μ' : Mem} {k c N F m : Nat} {l : List (D × D)} {adj : List (Pl × List Pl)} {a b : Pl}
theorem drawn_spec (C : Sml S R ps g) (A : AdjL μ F l adj) (gd : Good adj (E ps) (IsPl S ps) 2000) (hs : Stm μ k c N) (hN : N + 4000 < 1000000) :
    ∃ (a b : Pl) (rows : List Pl) (kn : List (Int × Int)) (L n : Nat) (μ' : Mem), m_law_drawn [.ref k, houseD R ps, .ref F] μ = .ok (.ref n) μ' ∧ μ'[n]? = some (.lst [ropeD L kn, .tup [b.d, a.d]]) ∧ IsPl S ps a ∧ IsPl S ps b ∧ a ≠ b ∧ RowTo S ps a b (dd g ps b) rows ∧ rows.length = L + 1 ∧ L ≤ 900 ∧ Rope L kn ∧
      kn.filter (tight (widTo ps ps.length) rows) = [] ∧ Stm μ' k c (N + 4000) ∧ Keep [k] μ μ' := by
  have Gm := C.geo
  obtain ⟨m3, pls, μ1, q1, em, nd, hm, hl, hml, k1⟩ := C.places (μ := μ)
  have s1 : Stm μ1 k c N := hs.keep k1 (by simp) (by simp)
  have lk := hs.lt
  have hpos : 0 < pls.length := by
    have h0 : IsPl S ps (.room 0) := (C.hS 0).mpr ⟨by omega, by have := C.r2; omega⟩
    exact List.length_pos_of_mem ((hm _).mpr h0)
  have hmk : m3 ≠ k := by omega
  obtain ⟨a, μ2, q2, ha, s2, k2⟩ := draw_pl (ρ := [some (.ref k), some (houseD R ps), some (.ref F), some (.ref m3), none, none, none, none]) (i := 0) s1 (by omega) em hmk hpos hl rfl rfl
  have em2 : μ2[m3]? = some (.lst (pls.map Pl.d)) := k2.get em (by simp [hmk])
  obtain ⟨b0, μ3, q3, hb0, s3, k3⟩ := draw_pl (ρ := [some (.ref k), some (houseD R ps), some (.ref F), some (.ref m3), some a.d, none, none, none]) (i := 0) s2 (by omega) em2 hmk hpos hl rfl rfl
  have haP := (hm a).mp ha
  have hbP := (hm b0).mp hb0
  have far := far_le (Gm.dist b0 hbP) Gm.ends (fun x hx => (hm x).mpr hx) haP
  have A3 : AdjL μ3 F l adj := ((A.keep k1).strm s1 k2).strm s2 k3
  obtain ⟨b, m6, rows, μ4, step, hb, hab, em6, Rw, hr2, hr9, k4⟩ := row_big (k := k) (o3 := some (.ref m3)) C A3 gd haP hbP (by omega)
  have s4 : Stm μ4 k c (N + 1 + 1) := s3.keep k4 (by simp) (by simp)
  obtain ⟨L, hL⟩ : ∃ L : Nat, rows.length = L + 1 := ⟨rows.length - 1, by omega⟩
  obtain ⟨kn, μ5, q5, Rp, s5, k5⟩ := rope_spec (L := L) s4 (by omega) (by omega)
  have hm6 := pls_ne s4 em6
  have em65 : μ5[m6]? = some (.lst (rows.map Pl.d)) := k5.get em6 (by simp [hm6])
  have h0 : rows[0]? = some a := by
    obtain ⟨x, ex⟩ : ∃ x, rows[0]? = some x := ⟨_, List.getElem?_eq_getElem (by omega)⟩
    obtain ⟨_, p, _⟩ := Rw.2.2 0 x ex
    cases p
    exact ex
  obtain ⟨kn', n, μ6, q6, en, Rp', ht, k6⟩ := rope_end (k := k) (F := F) (o3 := some (.ref m3)) (o4 := some a.d) (o5 := some b0.d) C.H em65 hL Rp Rw.2.1 h0
  have up : ∀ {μ μ' : Mem}, Keep [] μ μ' → Keep [k] μ μ' := fun q => q.mono (by simp)
  refine ⟨a, b, rows, kn', L, n, μ6, run_is ?_, en, haP, hb, hab, Rw, hL, by omega, Rp', ht, (s5.keep k6 (by simp) (by simp)).mono (by omega), (((((up k1).trans k2).trans k3).trans (up k4)).trans k5).trans (up k6)⟩
  unfold b_law_drawn
  have t3 : mB m_law_places (mCons (mVar 1) (mNil)) (startR 8 [.ref k, houseD R ps, .ref F]) μ = .ok (.ref m3) μ1 := call1' (a := mVar 1) (d := houseD R ps) (μ1 := μ) rfl q1
  refine (seq_set t3).trans ?_
  have e3 : (startR 8 [.ref k, houseD R ps, .ref F]).set 3 (some (.ref m3)) = [some (.ref k), some (houseD R ps), some (.ref F), some (.ref m3), none, none, none, none] := by simp [startR]
  rw [e3]
  refine (seq_set q2).trans ?_
  have e4 : [some (D.ref k), some (houseD R ps), some (.ref F), some (.ref m3), none, none, none, none].set 4 (some a.d) = [some (.ref k), some (houseD R ps), some (.ref F), some (.ref m3), some a.d, none, none, none] := rfl
  rw [e4]
  refine (seq_set q3).trans ?_
  have e5 : [some (D.ref k), some (houseD R ps), some (.ref F), some (.ref m3), some a.d, none, none, none].set 5 (some b0.d) = [some (.ref k), some (houseD R ps), some (.ref F), some (.ref m3), some a.d, some b0.d, none, none] := rfl
  rw [e5]
  refine (step _).trans ?_
  have t7 : mB m_law_rope (mCons (mVar 0) (mCons (mBin subD (mB lenL (mCons (mVar 6) (mNil))) (mC (.int 1))) (mNil))) [some (.ref k), some (houseD R ps), some (.ref F), some (.ref m3), some a.d, some b0.d, some (.ref m6), none] μ4 = .ok (ropeD L kn) μ5 := by
    have ll : lenL [.ref m6] μ4 = .ok (.int rows.length) μ4 := by simp only [lenL, em6, List.length_map]
    have sb : ((rows.length : Int) - 1) = (L : Int) := by omega
    simp only [mB, mCons, mNil, mBin, mVar, mC, List.getElem?_cons_succ, List.getElem?_cons_zero, Res.bind, ll, subD, sb, q5]
  exact (seq_set t7).trans q6
end
end K12

/-! S18: bits of a rope in a small house. -/
namespace K12
open PySem L2 RW
section
variable {S : List Int} {R : Nat} {ps : List Pipe} {g : Int → Int → Int} {μ : Mem} {a b : Pl}
theorem bit_spec {rows : List Pl} {j : Nat} {x : Pl} (C : Sml S R ps g) (ha : IsPl S ps a) (hb : IsPl S ps b) (Rw : RowTo S ps a b (dd g ps b) rows) (hx : rows[j]? = some x) : ∃ μ' : Mem, m_bit_at [houseD R ps, .tup [b.d, a.d], .int j] μ = .ok x.d μ' ∧ Keep [] μ μ' := by
  have Gm := C.geo
  have hR := C.H.r2
  have hl := C.H.len
  obtain ⟨hxp, path, hf⟩ := Rw.2.2 j x hx
  have hj := (List.getElem?_eq_some_iff.mp hx).1
  have hlen := Rw.1
  have hSl := C.sl
  have sab := Gm.symm ha hb
  have sxb := Gm.symm hxp hb
  have le := path.le (f := dd g ps a) (Gm.dist a ha).step
  rw [(Gm.dist a ha).f0] at le
  have tri := Gm.tri ha hxp hb
  obtain ⟨z, μ', q, hz, d1, d2, kk⟩ := place_on_spec (R := R) (k := (j : Int)) (μ := μ) C.M (fun p hp => (C.H.ok p hp).l1) (by omega) hSl hR C.hS ha hb (by omega) (by omega)
  have e : z = x := Gm.amid_one ha hb hz hxp d1 d2 (by omega) (by omega)
  subst e
  refine ⟨μ', run_is (ret_is ?_), kk⟩
  have i1 : idxA (.tup [b.d, a.d]) (.int 1) μ = .ok a.d μ := ix_tup (by decide) rfl
  have i0 : idxA (.tup [b.d, a.d]) (.int 0) μ = .ok b.d μ := ix_tup (by decide) rfl
  have v0 : mVar 0 (startR 3 [houseD R ps, .tup [b.d, a.d], .int (j : Int)]) μ = .ok (houseD R ps) μ := rfl
  have v1 : mVar 1 (startR 3 [houseD R ps, .tup [b.d, a.d], .int (j : Int)]) μ = .ok (.tup [b.d, a.d]) μ := rfl
  have v2 : mVar 2 (startR 3 [houseD R ps, .tup [b.d, a.d], .int (j : Int)]) μ = .ok (.int (j : Int)) μ := rfl
  simp only [mB, mCons, mNil, mBin, mC, v0, v1, v2, Res.bind, i1, i0, q]
end
end K12

/-! Q1: things that are shown (repr), whatever they are. -/
namespace K12
open PySem L2 RW
theorem sh_up {μ : Mem} : ∀ (n : Nat) (d : D) (p : PyData), D.sh? n μ d = some p → D.sh? (n + 1) μ d = some p := by
  have key : ∀ n, (∀ (d : D) (p : PyData), D.sh? n μ d = some p → D.sh? (n + 1) μ d = some p) → ∀ (l : List D) (ps : List PyData), D.shs? n μ l = some ps → D.shs? (n + 1) μ l = some ps := by
    intro n h l
    induction l with
    | nil => intro ps e; unfold D.shs? at e ⊢; exact e
    | cons d l ih =>
      intro ps e
      unfold D.shs? at e ⊢
      split at e
      · rename_i k r e1 e2
        rw [h d k e1, ih r e2]
        exact e
      · cases e
  intro n
  induction n with
  | zero =>
    intro d p e
    cases d <;> (unfold D.sh? at e ⊢; first | exact e | cases e)
  | succ n ih =>
    intro d p e
    cases d with
    | tup l =>
      unfold D.sh? at e ⊢
      obtain ⟨ps, e1, rfl⟩ := Option.map_eq_some_iff.mp e
      rw [key n ih l ps e1]; rfl
    | ref m =>
      unfold D.sh? at e ⊢
      split at e
      · rename_i l em
        obtain ⟨ps, e1, rfl⟩ := Option.map_eq_some_iff.mp e
        simp only [em, key n ih l ps e1]; rfl
      · rename_i em
        exact e
      · cases e
    | _ => unfold D.sh? at e ⊢; first | exact e | cases e
theorem sh_le {μ : Mem} {n m : Nat} (h : n ≤ m) {d : D} {p : PyData} (e : D.sh? n μ d = some p) : D.sh? m μ d = some p := by
  obtain ⟨k, rfl⟩ := Nat.le.dest h
  clear h
  induction k with
  | zero => exact e
  | succ k ih => exact sh_up _ _ _ ih
theorem shs_le {μ : Mem} {n m : Nat} (h : n ≤ m) : ∀ {l : List D} {ps : List PyData}, D.shs? n μ l = some ps → D.shs? m μ l = some ps
  | [], ps, e => by unfold D.shs? at e ⊢; exact e
  | d :: l, ps, e => by
    unfold D.shs? at e ⊢
    split at e
    · rename_i k r e1 e2
      rw [sh_le h e1, shs_le h e2]
      exact e
    · cases e
theorem sh_ty {μ : Mem} {n : Nat} {d : D} {p : PyData} (e : D.sh? n μ d = some p) : ∃ t, tyD d μ = some t := by
  cases d with
  | ref m =>
    cases n with
    | zero => unfold D.sh? at e; cases e
    | succ n =>
      unfold D.sh? at e
      split at e
      · rename_i l em; exact ⟨"list", by simp only [tyD, em]⟩
      · rename_i em; exact ⟨"dict", by simp only [tyD, em]⟩
      · cases e
  | fn x => cases n <;> (unfold D.sh? at e; cases e)
  | _ => exact ⟨_, rfl⟩
/-- a thing that stays what it shows while the cells but ex stay -/
structure Thg (ex : List Nat) (μ : Mem) (n B : Nat) (d : D) (p : PyData) : Prop where
  sh : ∀ μ', Keep ex μ μ' → D.sh? n μ' d = some p
  ok : p.showable = true
  short : p.leavesShort 60 = true
  small : p.bulk ≤ B
  deep : p.depth ≤ n
structure Thgs (ex : List Nat) (μ : Mem) (n B : Nat) (l : List D) (ps : List PyData) : Prop where
  sh : ∀ μ', Keep ex μ μ' → D.shs? n μ' l = some ps
  ok : PyData.showableAll ps = true
  short : PyData.leavesShortAll 60 ps = true
  small : PyData.bulkAll ps ≤ B
  deep : PyData.depthAll ps ≤ n
section
variable {ex : List Nat} {μ μ' : Mem} {n m B C : Nat} {d : D} {p : PyData} {l : List D} {ps : List PyData}
theorem Thg.keep (T : Thg ex μ n B d p) (k : Keep ex μ μ') : Thg ex μ' n B d p := ⟨fun μ2 k2 => T.sh μ2 (k.trans k2), T.ok, T.short, T.small, T.deep⟩
theorem Thgs.keep (T : Thgs ex μ n B l ps) (k : Keep ex μ μ') : Thgs ex μ' n B l ps := ⟨fun μ2 k2 => T.sh μ2 (k.trans k2), T.ok, T.short, T.small, T.deep⟩
theorem Thg.le (T : Thg ex μ n B d p) (h : n ≤ m) (h2 : B ≤ C) : Thg ex μ m C d p := ⟨fun μ2 k2 => sh_le h (T.sh μ2 k2), T.ok, T.short, Nat.le_trans T.small h2, Nat.le_trans T.deep h⟩
theorem Thgs.le (T : Thgs ex μ n B l ps) (h : n ≤ m) (h2 : B ≤ C) : Thgs ex μ m C l ps := ⟨fun μ2 k2 => shs_le h (T.sh μ2 k2), T.ok, T.short, Nat.le_trans T.small h2, Nat.le_trans T.deep h⟩
theorem Thg.ty (T : Thg ex μ n B d p) : ∃ t, tyD d μ = some t := sh_ty (T.sh μ .refl)
theorem thg_non : Thg ex μ n B .non .none := ⟨fun _ _ => by unfold D.sh?; rfl, rfl, rfl, Nat.zero_le _, Nat.zero_le _⟩
theorem thg_bl {b : Bool} : Thg ex μ n B (.bl b) (.bool b) := ⟨fun _ _ => by unfold D.sh?; rfl, rfl, rfl, Nat.zero_le _, Nat.zero_le _⟩
theorem thg_int {i : Int} (h : i.natAbs < 10 ^ 50) : Thg ex μ n B (.int i) (.int i) := ⟨fun _ _ => by unfold D.sh?; rfl, by
  simp only [PyData.showable, decide_eq_true_eq]
  have h1 : i.natAbs < 2 ^ 170 := Nat.lt_of_lt_of_le h (by decide)
  by_cases h0 : i.natAbs = 0
  · rw [h0]; decide
  · have := (Nat.log2_lt h0).mpr h1
    omega, by
  simp only [PyData.leavesShort, decide_eq_true_eq]
  have := int_text_length_le10 (k := 50) (by decide) h
  have e : (PyData.shown (.int i)).length = (toString i).length := by
    simp only [PyData.shown]
    exact ofString_length _
  omega, Nat.zero_le _, Nat.zero_le _⟩
theorem thg_str {s : Str} (h : s.cps.toList.all (fun c => decide (c < 16 ^ 8)) = true) (h2 : s.cps.size ≤ B) : Thg ex μ n B (.str s) (.str s) := ⟨fun _ _ => by unfold D.sh?; rfl, rfl, h, h2, Nat.zero_le _⟩
theorem thgs_nil : Thgs ex μ n 0 [] [] := ⟨fun _ _ => by unfold D.shs?; rfl, rfl, rfl, Nat.le_refl _, Nat.zero_le _⟩
theorem thgs_cons (T : Thg ex μ n B d p) (Ts : Thgs ex μ n C l ps) : Thgs ex μ n (B + 1 + C) (d :: l) (p :: ps) := ⟨fun μ2 k2 => by
  unfold D.shs?
  rw [T.sh μ2 k2, Ts.sh μ2 k2], by simp [PyData.showableAll, T.ok, Ts.ok], by simp [PyData.leavesShortAll, T.short, Ts.short], by
  have := T.small; have := Ts.small
  simp only [PyData.bulkAll]; omega, by
  simp only [PyData.depthAll]
  exact Nat.max_le.mpr ⟨T.deep, Ts.deep⟩⟩
theorem thg_tup (Ts : Thgs ex μ n B l ps) : Thg ex μ (n + 1) B (.tup l) (.tuple ps) := ⟨fun μ2 k2 => by
  unfold D.sh?
  rw [Ts.sh μ2 k2]; rfl, Ts.ok, Ts.short, Ts.small, by simp only [PyData.depth]; exact Nat.succ_le_succ Ts.deep⟩
theorem thg_lst {a : Nat} (e : μ[a]? = some (.lst l)) (ha : a ∉ ex) (Ts : Thgs ex μ n B l ps) : Thg ex μ (n + 1) B (.ref a) (.list ps) := ⟨fun μ2 k2 => by
  unfold D.sh?
  rw [k2.get e ha]
  simp only [Ts.sh μ2 k2]; rfl, Ts.ok, Ts.short, Ts.small, by simp only [PyData.depth]; exact Nat.succ_le_succ Ts.deep⟩
theorem thg_dic {a : Nat} (e : μ[a]? = some (.dic [])) (ha : a ∉ ex) : Thg ex μ (n + 1) B (.ref a) (.dict []) := ⟨fun μ2 k2 => by
  unfold D.sh?
  rw [k2.get e ha], rfl, rfl, Nat.zero_le _, by simp [PyData.depth, PyData.depthKv]⟩
/-- repr([x, y]) -/
theorem repr_two {x y : D} {a b : PyData} (T : Thg ex μ 6 1000 x a) (U : Thg ex μ 6 1000 y b) : reprL [.ref μ.length] (μ ++ [.lst [x, y]]) = .ok (.str (PyData.list [a, b]).shown) (μ ++ [.lst [x, y]]) := by
  have k : Keep ex μ (μ ++ [.lst [x, y]]) := Keep.app
  have Ts := thgs_cons (T.keep k) (thgs_cons (U.keep k) thgs_nil)
  have e : D.sh? 8 (μ ++ [.lst [x, y]]) (.ref μ.length) = some (.list [a, b]) := by
    have h := Ts.sh _ .refl
    unfold D.sh?
    rw [show (μ ++ [Cell.lst [x, y]])[μ.length]? = some (.lst [x, y]) by simp]
    simp only [shs_le (by decide : 6 ≤ 7) h]; rfl
  have ok : showOk (.list [a, b]) = true := by
    simp only [showOk, Bool.and_eq_true, decide_eq_true_eq]
    refine ⟨⟨Ts.ok, ?_⟩, ?_⟩
    · have h1 := PyData.shown_le_bulk 60 (by decide) (.list [a, b]) Ts.short
      have h2 := Ts.small
      simp only [PyData.bulk] at h1
      rw [sizeLine_eq]
      omega
    · have := Ts.deep
      simp only [PyData.depth]
      omega
  simp only [reprL, e, ok, if_true]
end
end K12

/-! S19: the small houses' part of k12: what lists of places show. -/
namespace K12
open PySem L2 RW
section
variable {S : List Int} {R : Nat} {ps : List Pipe} {g : Int → Int → Int} {μ : Mem} {a b : Pl} {m k c N : Nat}
/-- repr(x), x a list -/
theorem repr_lst {l : List D} {qs : List PyData} {B : Nat} (e : μ[m]? = some (.lst l)) (T : Thgs [] μ 6 B l qs) (hB : B ≤ 100000) : reprL [.ref m] μ = .ok (.str (PyData.list qs).shown) μ := by
  have h := T.sh μ .refl
  have e1 : D.sh? 8 μ (.ref m) = some (.list qs) := by
    unfold D.sh?
    rw [e]
    simp only [shs_le (by decide : 6 ≤ 7) h]; rfl
  have ok : showOk (.list qs) = true := by
    simp only [showOk, Bool.and_eq_true, decide_eq_true_eq]
    refine ⟨⟨T.ok, ?_⟩, ?_⟩
    · have h1 := PyData.shown_le_bulk 60 (by decide) (.list qs) T.short
      have h2 := T.small
      simp only [PyData.bulk] at h1
      rw [sizeLine_eq]
      omega
    · have := T.deep
      simp only [PyData.depth]
      omega
  simp only [reprL, e1, ok, if_true]
theorem abs_lt50 {i : Int} (h1 : -100000000000000 ≤ i) (h2 : i ≤ 100000000000000) : i.natAbs < 10 ^ 50 := by
  have : i.natAbs ≤ 100000000000000 := by omega
  exact Nat.lt_of_le_of_lt this (by decide)
theorem pl_thg (C : Sml S R ps g) {x : Pl} (hx : IsPl S ps x) : ∃ q, Thg [] μ 1 2 x.d q := by
  have hR := C.H.r2
  have hl := C.H.len
  cases x with
  | room r =>
    obtain ⟨h0, h1⟩ := (C.hS r).mp hx
    exact ⟨_, (thg_tup (thgs_cons (B := 0) (thg_int (abs_lt50 (by omega) (by omega))) thgs_nil)).le (Nat.le_refl _) (by decide)⟩
  | on i t =>
    obtain ⟨p, e, h0, h1⟩ := hx
    have hi := (List.getElem?_eq_some_iff.mp e).1
    have := C.ln p (List.mem_of_getElem? e)
    have z1 : ((i : Int)).natAbs < 10 ^ 50 := abs_lt50 (by omega) (by omega)
    have z2 : t.natAbs < 10 ^ 50 := abs_lt50 (by omega) (by omega)
    exact ⟨_, (thg_tup (thgs_cons (B := 0) (thg_int z1) (thgs_cons (B := 0) (thg_int z2) thgs_nil))).le (Nat.le_refl _) (by decide)⟩
theorem pls_thg (C : Sml S R ps g) : ∀ {l : List Pl}, (∀ x ∈ l, IsPl S ps x) → ∃ qs, ∀ μ : Mem, Thgs [] μ 6 (l.length * 3) (l.map Pl.d) qs
  | [], _ => ⟨[], fun μ => thgs_nil.le (Nat.le_refl _) (Nat.zero_le _)⟩
  | x :: l, h => by
    obtain ⟨qs, t⟩ := pls_thg C (l := l) fun y hy => h y (List.mem_cons_of_mem _ hy)
    obtain ⟨q, u⟩ := pl_thg (μ := []) C (h x List.mem_cons_self)
    refine ⟨q :: qs, fun μ => ?_⟩
    obtain ⟨q', u'⟩ := pl_thg (μ := μ) C (h x List.mem_cons_self)
    have e : q' = q := by
      have h1 := u.sh [] .refl
      have h2 := u'.sh μ .refl
      cases x <;> simp [Pl.d, D.sh?, D.shs?] at h1 h2 <;> rw [← h1, ← h2]
    subst e
    exact (thgs_cons (u'.le (by decide) (Nat.le_refl _)) (t μ)).le (Nat.le_refl _) (by simp only [List.length_cons]; omega)
/-- all bits -/
theorem bits_spec {rows : List Pl} {ρ0 : Rho} (C : Sml S R ps g) (ha : IsPl S ps a) (hb : IsPl S ps b) (Rw : RowTo S ps a b (dd g ps b) rows) (hl : rows.length ≤ 1000) (v1 : ρ0[1]? = some (some (houseD R ps))) (v4 : ρ0[4]? = some (some (.tup [b.d, a.d]))) (h7 : 7 < ρ0.length) :
    ∃ μ' : Mem, compL (fun _ => True) (gN 7) mYes (mB m_bit_at (mCons (mVar 1) (mCons (mVar 4) (mCons (mVar 7) (mNil))))) ρ0 (rangeItems 0 rows.length) [] μ = .ok (rows.map Pl.d) μ' ∧ Keep [] μ μ' := by
  have key := compL_ok (chk := fun _ => True) (g := gN 7) (tt := mYes) (te := mB m_bit_at (mCons (mVar 1) (mCons (mVar 4) (mCons (mVar 7) (mNil))))) (ρ0 := ρ0) (rangeItems 0 rows.length)
    (fun j acc μ' => j ≤ rows.length ∧ acc = (rows.take j).map Pl.d ∧ Keep [] μ μ') 0 (acc := []) (μ := μ) ⟨Nat.zero_le _, by simp, .refl⟩ (fun _ _ _ _ => trivial)
    (fun j d acc μ' ed ⟨hj, ea, kk⟩ => by
      simp only [Nat.zero_add] at hj ea ⊢
      obtain ⟨hj2, rfl⟩ := Q.range_at ed
      rw [Int.zero_add]
      obtain ⟨x, ex⟩ : ∃ x, rows[j]? = some x := ⟨_, List.getElem?_eq_getElem hj2⟩
      obtain ⟨μ2, q, k2⟩ := bit_spec (μ := μ') C ha hb Rw ex
      refine .mk (μ := μ') rfl (.mk (μ := μ') rfl ?_)
      rw [if_pos rfl]
      have w1 : mVar 1 (ρ0.set 7 (some (.int (j : Int)))) μ' = .ok (houseD R ps) μ' := by simp only [mVar, List.getElem?_set_ne (show (7 : Nat) ≠ 1 by decide), v1]
      have w4 : mVar 4 (ρ0.set 7 (some (.int (j : Int)))) μ' = .ok (.tup [b.d, a.d]) μ' := by simp only [mVar, List.getElem?_set_ne (show (7 : Nat) ≠ 4 by decide), v4]
      have w7 : mVar 7 (ρ0.set 7 (some (.int (j : Int)))) μ' = .ok (.int (j : Int)) μ' := by simp only [mVar, List.getElem?_set_self h7]
      refine ⟨by rw [ea, List.length_map, List.length_take, sizeLine_eq]; omega, .mk (call3 w1 w4 w7 q) ⟨by omega, ?_, kk.trans k2⟩⟩
      rw [ea, List.take_add_one, ex]; simp)
  rw [Q.range_len, Nat.zero_add, List.take_length] at key
  obtain ⟨l, μ', w, _, rfl, kk⟩ := key
  exact ⟨μ', w, kk⟩
end
end K12

/-! S20: k12's small houses. -/
namespace K12
open PySem L2 RW
theorem call1e {f : Sem} {x : MD} {ρ : Rho} {μ μ1 : Mem} {p d : D} (h1 : x ρ μ = .ok p μ) (h : f [p] μ = .ok d μ1) : mB f (mCons x mNil) ρ μ = .ok d μ1 := by
  simp only [mB, mCons, mNil, h1, Res.bind, h]
theorem call4 {f : Sem} {x y z w : MD} {ρ : Rho} {μ μ1 : Mem} {p q r s d : D} (h1 : x ρ μ = .ok p μ) (h2 : y ρ μ = .ok q μ) (h3 : z ρ μ = .ok r μ) (h4 : w ρ μ = .ok s μ) (h : f [p, q, r, s] μ = .ok d μ1) : mB f (mCons x (mCons y (mCons z (mCons w mNil)))) ρ μ = .ok d μ1 := by
  simp only [mB, mCons, mNil, h1, h2, h3, h4, Res.bind, h]
theorem bin_is {f : D → D → Mem → Res D} {x y : MD} {ρ : Rho} {μ μ1 μ2 μ3 : Mem} {p q d : D} (h1 : x ρ μ = .ok p μ1) (h2 : y ρ μ1 = .ok q μ2) (h : f p q μ2 = .ok d μ3) : mBin f x y ρ μ = .ok d μ3 := by
  simp only [mBin, h1, h2, Res.bind, h]
section
variable {μ : Mem} {k c N : Nat}
theorem small_right_spec (hs : Stm μ k c N) (hN : N + 6000 < 1000000) : ∃ μ' : Mem, m_law_small_right [.ref k] μ = .ok (.bl true) μ' ∧ Stm μ' k c (N + 6000) ∧ Keep [k] μ μ' := by
  obtain ⟨R, ps, μ1, q1, H, r2, -, hl, s1, k1⟩ := house_spec (most := 5) (far := 4) (fl := 2) hs (by omega) (by decide) (by decide) (by decide) (by decide) (by decide) (by decide)
  obtain ⟨S, g, C⟩ := small_of H r2 fun p hp => by have := hl p hp; omega
  have hR := H.r2
  have hlen := H.len
  have hok : ∀ p ∈ ps, 1 ≤ p.len := fun p hp => (H.ok p hp).l1
  obtain ⟨F, l, adj, μ2, q2, hF, A, gd, k2⟩ := nexts_spec (R := R) (μ := μ1) (once C.M hok) (fun p hp => (C.M.ends p hp).2.2) C.hS C.ends hR (by omega) fun p hp => ⟨hok p hp, C.ln p hp⟩
  have s2 : Stm μ2 k c (N + 1000) := s1.keep k2 (by simp) (by simp)
  obtain ⟨a, b, rows, kn, L, n, μ3, q3, en, ha, hb, hab, Rw, hL, hL9, Rp, ht, s3, k3⟩ := drawn_spec C ⟨.inr A.at_, A.pr⟩ gd s2 (by omega)
  have A3 : AdjL μ3 F l adj := AdjL.strm ⟨.inr A.at_, A.pr⟩ s2 k3
  have hfa : dd g ps b a < 900 + 1 := by have := Rw.1; omega
  obtain ⟨mp, pls, μp, qp, _, _, hm, hpl, _, _⟩ := C.places (μ := μ3)
  have far := far_le (C.geo.dist b hb) C.ends (fun x hx => (hm x).mpr hx) ha
  obtain ⟨m5, rows2, μ4, q4, e5, Rw2, hm5, k4⟩ := row_spec (C.geo.dist b hb) C.ends A3 gd ha hb (by omega)
  have hl2 : rows2.length = L + 1 := by have h1 := Rw.1; have h2 := Rw2.1; omega
  let ρ4 : Rho := [some (.ref k), some (houseD R ps), some (.ref F), some (ropeD L kn), some (.tup [b.d, a.d]), some (.ref m5), none, none]
  obtain ⟨μ5, w6, k5⟩ := bits_spec (μ := μ4) (ρ0 := wipeR ρ4 [7]) C ha hb Rw2 (by omega) rfl rfl (by simp [wipeR, ρ4])
  have ir : ∀ μ, idxA (ropeD L kn) (.int 0) μ = .ok (.int L) μ := fun μ => ix_tup (by decide) rfl
  have t6 : mComp (iRange1 (mCons (mBin addD (mBin idxA (mVar 3) (mC (.int 0))) (mC (.int 1))) (mNil))) (gN 7) (mYes) (mB m_bit_at (mCons (mVar 1) (mCons (mVar 4) (mCons (mVar 7) (mNil))))) [7] ρ4 μ4 = .ok (.ref μ5.length) (μ5 ++ [.lst (rows2.map Pl.d)]) :=
    comp_is (ir1 (n := rows2.length) (e := mBin addD (mBin idxA (mVar 3) (mC (.int 0))) (mC (.int 1))) (by
      have i3 : mBin idxA (mVar 3) (mC (.int 0)) ρ4 μ4 = .ok (.int L) μ4 := bin_is (p := ropeD L kn) (q := .int 0) rfl rfl (ir μ4)
      exact bin_is (q := .int 1) i3 rfl (by rw [hl2]; rfl)) (by omega)) w6
  obtain ⟨qs, T⟩ := pls_thg C (l := rows2) fun x hx => by
    obtain ⟨j, hj⟩ := List.mem_iff_getElem?.mp hx
    exact (Rw2.2.2 j x hj).1
  have e5' : (μ5 ++ [Cell.lst (rows2.map Pl.d)])[m5]? = some (.lst (rows2.map Pl.d)) := app_at (k5.get e5 (by simp))
  have rA := repr_lst (m := μ5.length) (μ := μ5 ++ [Cell.lst (rows2.map Pl.d)]) app_new (T _) (by omega)
  have rB := repr_lst e5' (T _) (by omega)
  have up : ∀ {μ μ' : Mem}, Keep [] μ μ' → Keep [k] μ μ' := fun q => q.mono (by simp)
  refine ⟨μ5 ++ [.lst (rows2.map Pl.d)], run_is ?_, ((s3.keep k4 (by simp) (by simp)).keep k5 (by simp) (by simp)).app.mono (by omega), ((((k1.trans (up k2)).trans k3).trans (up k4)).trans (up k5)).trans Keep.app⟩
  unfold b_law_small_right
  have t1 : mB m_law_house (mCons (mVar 0) (mCons (mC (.int 5)) (mCons (mC (.int 4)) (mCons (mC (.int 2)) (mNil))))) (startR 8 [.ref k]) μ = .ok (houseD R ps) μ1 := call4 (p := .ref k) (q := .int 5) (r := .int 4) (s := .int 2) rfl rfl rfl rfl q1
  refine (seq_set t1).trans ?_
  have z1 : (startR 8 [.ref k]).set 1 (some (houseD R ps)) = [some (.ref k), some (houseD R ps), none, none, none, none, none, none] := by simp [startR]
  rw [z1]
  have t2 : mB m_law_nexts (mCons (mVar 1) (mNil)) [some (.ref k), some (houseD R ps), none, none, none, none, none, none] μ1 = .ok (.ref F) μ2 := call1e (p := houseD R ps) rfl q2
  refine (seq_set t2).trans ?_
  have z2 : [some (D.ref k), some (houseD R ps), none, none, none, none, none, none].set 2 (some (.ref F)) = [some (.ref k), some (houseD R ps), some (.ref F), none, none, none, none, none] := rfl
  rw [z2]
  have t3 : mB m_law_drawn (mCons (mVar 0) (mCons (mVar 1) (mCons (mVar 2) (mNil)))) [some (.ref k), some (houseD R ps), some (.ref F), none, none, none, none, none] μ2 = .ok (.ref n) μ3 := call3 (p := .ref k) (q := houseD R ps) (r := .ref F) rfl rfl rfl q3
  have g3 : gTupM 2 (gConsM (gN 3) (gConsM (gN 4) (gNilM))) (.ref n) [some (.ref k), some (houseD R ps), some (.ref F), none, none, none, none, none] μ3 = .ok [some (.ref k), some (houseD R ps), some (.ref F), some (ropeD L kn), some (.tup [b.d, a.d]), none, none, none] μ3 := by
    simp [en]
  refine (seq_asg t3 g3).trans ?_
  have i1 : mBin idxA (mVar 4) (mC (.int 1)) [some (.ref k), some (houseD R ps), some (.ref F), some (ropeD L kn), some (.tup [b.d, a.d]), none, none, none] μ3 = .ok a.d μ3 := bin_is (p := .tup [b.d, a.d]) (q := .int 1) rfl rfl (ix_tup (by decide) rfl)
  have i0 : mBin idxA (mVar 4) (mC (.int 0)) [some (.ref k), some (houseD R ps), some (.ref F), some (ropeD L kn), some (.tup [b.d, a.d]), none, none, none] μ3 = .ok b.d μ3 := bin_is (p := .tup [b.d, a.d]) (q := .int 0) rfl rfl (ix_tup (by decide) rfl)
  have t5 : mB m_law_row (mCons (mVar 2) (mCons (mBin idxA (mVar 4) (mC (.int 1))) (mCons (mBin idxA (mVar 4) (mC (.int 0))) (mNil)))) [some (.ref k), some (houseD R ps), some (.ref F), some (ropeD L kn), some (.tup [b.d, a.d]), none, none, none] μ3 = .ok (.ref m5) μ4 := call3 (p := .ref F) rfl i1 i0 q4
  refine (seq_set t5).trans ?_
  have z5 : [some (D.ref k), some (houseD R ps), some (.ref F), some (ropeD L kn), some (.tup [b.d, a.d]), none, none, none].set 5 (some (.ref m5)) = ρ4 := rfl
  rw [z5]
  refine (seq_set t6).trans (ret_is ?_)
  have y6 : mB reprL (mCons (mVar 6) (mNil)) (ρ4.set 6 (some (.ref μ5.length))) (μ5 ++ [.lst (rows2.map Pl.d)]) = .ok (.str (PyData.list qs).shown) (μ5 ++ [.lst (rows2.map Pl.d)]) := call1e (p := .ref μ5.length) rfl rA
  have y5 : mB reprL (mCons (mVar 5) (mNil)) (ρ4.set 6 (some (.ref μ5.length))) (μ5 ++ [.lst (rows2.map Pl.d)]) = .ok (.str (PyData.list qs).shown) (μ5 ++ [.lst (rows2.map Pl.d)]) := call1e (p := .ref m5) rfl rB
  exact bin_is y6 y5 (by simp [eqT])
end
end K12

/-! S21: far numbers. -/
namespace K12
open PySem L2 RW
section
variable {μ : Mem} {k c N : Nat}
theorem far_spec' {M : Int} (h : Stm μ k c N) (hN : N + 3 < 1000000) (h1 : 1 ≤ M) (h2 : M ≤ 1000000000000000) : ∃ (x : Int) (μ' : Mem), m_law_far [.ref k, .int M] μ = .ok (.int x) μ' ∧ 0 ≤ x ∧ x < M ∧ Stm μ' k c (N + 3) ∧ Keep [k] μ μ' := by
  have l0 := h.lt
  let L : List D := [.int M, .int 10, .int 1000, .int 1000000000]
  have s0 : Stm (μ ++ [.lst L]) k c N := h.app
  obtain ⟨y, μ1, q1, y0, y1, s1, k1⟩ := take_spec (j := 4) s0 (by omega) (by decide) (by decide)
  have e1 : μ1[μ.length]? = some (.lst L) := k1.get app_new (by simp; omega)
  obtain ⟨v, ev, hv⟩ : ∃ v : Int, L[y.toNat]? = some (.int v) ∧ 1 ≤ v := by
    have : y = 0 ∨ y = 1 ∨ y = 2 ∨ y = 3 := by omega
    rcases this with rfl | rfl | rfl | rfl
    · exact ⟨M, rfl, h1⟩
    · exact ⟨10, rfl, by decide⟩
    · exact ⟨1000, rfl, by decide⟩
    · exact ⟨1000000000, rfl, by decide⟩
  have ix : idxA (.ref μ.length) (.int y) μ1 = .ok (.int v) μ1 := ix_lst e1 y0 ev
  obtain ⟨w, hw, w1, w2⟩ : ∃ w : Int, min2L [.int M, .int v] μ1 = .ok (.int w) μ1 ∧ 1 ≤ w ∧ w ≤ M := by
    refine ⟨if v < M then v else M, by simp only [min2L], ?_, ?_⟩ <;> split <;> omega
  obtain ⟨z, μ2, q2, z0, z1, s2, k2⟩ := take_spec (j := w) s1 (by omega) (by omega) (by omega)
  let L2 : List D := [.int z, .int (M - 1 - z)]
  have s2' : Stm (μ2 ++ [.lst L2]) k c (N + 1 + 1) := s2.app
  have l2 := s2.lt
  obtain ⟨u, μ3, q3, u0, u1, s3, k3⟩ := take_spec (j := 4) s2' (by omega) (by decide) (by decide)
  have e3 : μ3[μ2.length]? = some (.lst L2) := k3.get app_new (by simp; omega)
  obtain ⟨x, ex, x0, x1⟩ : ∃ x : Int, idxA (.ref μ2.length) (.int (if decide (u = 0) = true then 1 else 0)) μ3 = .ok (.int x) μ3 ∧ 0 ≤ x ∧ x < M := by
    by_cases hu : u = 0
    · exact ⟨M - 1 - z, by rw [if_pos (by simpa using hu)]; exact ix_lst e3 (by decide) rfl, by omega, by omega⟩
    · exact ⟨z, by rw [if_neg (by simpa using hu)]; exact ix_lst e3 (by decide) rfl, by omega, by omega⟩
  refine ⟨x, μ3, run_is ?_, x0, x1, s3, ((Keep.trans Keep.app k1).trans k2).trans (Keep.trans Keep.app k3)⟩
  unfold b_law_far
  have t2 : mB min2L (mCons (mVar 1) (mCons (mBin idxA (mLst (mCons (mVar 1) (mCons (mC (.int 10)) (mCons (mC (.int 1000)) (mCons (mBin powD (mC (.int 10)) (mC (.int 9))) (mNil)))))) (mB m_law_take (mCons (mVar 0) (mCons (mC (.int 4)) (mNil))))) (mNil))) (startR 4 [.ref k, .int M]) μ = .ok (.int w) μ1 := by
    simp [startR, powD, q1, L, ix, hw]
  refine (seq_set t2).trans ?_
  have z2 : (startR 4 [.ref k, .int M]).set 2 (some (.int w)) = [some (.ref k), some (.int M), some (.int w), none] := by simp [startR]
  rw [z2]
  have t3 : mB m_law_take (mCons (mVar 0) (mCons (mVar 2) (mNil))) [some (.ref k), some (.int M), some (.int w), none] μ1 = .ok (.int z) μ2 := by simp [q2]
  refine (seq_set t3).trans (ret_is ?_)
  simp [subD, q3, eqI, intL, L2]
  simpa using ex
theorem far_spec {M : Int} (h : Stm μ k c N) (hN : N + 3 < 1000000) (h1 : 1 ≤ M) (h2 : M ≤ 1000000000000) : ∃ (x : Int) (μ' : Mem), m_law_far [.ref k, .int M] μ = .ok (.int x) μ' ∧ 0 ≤ x ∧ x < M ∧ Stm μ' k c (N + 3) ∧ Keep [k] μ μ' := far_spec' h hN h1 (by omega)
end
end K12

/-! S22: far places. -/
namespace K12
open PySem L2 RW
section
variable {S : List Int} {R : Nat} {ps : List Pipe} {μ : Mem} {k c N : Nat}
theorem far_spot_spec {q : Nat} {p : Pipe} {t : Int} (e : ps[q]? = some p) : ∃ μ', m_law_far_spot [houseD R ps, .int q, .int t] μ = .ok (ln p q t).d μ' ∧ Keep [] μ μ' := by
  have i1 : ∀ μ, idxA (houseD R ps) (.int 1) μ = .ok (.tup (ps.map Pipe.d)) μ := fun μ => ix_tup (by decide) rfl
  have i2 : ∀ μ, idxA (.tup (ps.map Pipe.d)) (.int (q : Int)) μ = .ok p.d μ := fun μ => ix_tup (by omega) (by rw [Int.toNat_natCast, List.getElem?_map, e]; rfl)
  have j0 : ∀ μ, idxA p.d (.int 0) μ = .ok (.int p.a) μ := fun μ => ix_tup (by decide) rfl
  have j1 : ∀ μ, idxA p.d (.int 1) μ = .ok (.int p.b) μ := fun μ => ix_tup (by decide) rfl
  have j2 : ∀ μ, idxA p.d (.int 2) μ = .ok (.int p.len) μ := fun μ => ix_tup (by decide) rfl
  by_cases h0 : t = 0
  · refine ⟨μ, run_is (seq_ret ((if_t (μ1 := μ) (by simp [startR, eqI, h0])).trans (ret_is ?_))), .refl⟩
    simp [startR, i1, i2, j0, ln, h0, Pl.d]
  · let L : List D := [.tup [.int q, .int t], .tup [.int p.b]]
    have en : (μ ++ [Cell.lst L])[μ.length]? = some (.lst L) := app_new
    have cnd : (mTest (mBin eqD (mVar 2) (mC (.int 0)))) (startR 3 [houseD R ps, .int q, .int t]) μ = .ok false μ := by simp [startR, eqI, h0]
    by_cases hk : t = p.len
    · have ix : idxA (.ref μ.length) (.int 1) (μ ++ [Cell.lst L]) = .ok (.tup [.int p.b]) (μ ++ [Cell.lst L]) := ix_lst en (by decide) rfl
      have hl : ln p q t = .room p.b := by unfold ln; rw [if_neg h0, if_pos hk]
      rw [hl]
      refine ⟨μ ++ [.lst L], run_is ((seq_skip cnd).trans (ret_is ?_)), Keep.app⟩
      subst hk
      simp [startR, i1, i2, j1, j2, eqI, intL, Pl.d, L]
      simpa [L] using ix
    · have ix : idxA (.ref μ.length) (.int 0) (μ ++ [Cell.lst L]) = .ok (.tup [.int q, .int t]) (μ ++ [Cell.lst L]) := ix_lst en (by decide) rfl
      have hl : ln p q t = .on q t := by unfold ln; rw [if_neg h0, if_neg hk]
      rw [hl]
      refine ⟨μ ++ [.lst L], run_is ((seq_skip cnd).trans (ret_is ?_)), Keep.app⟩
      simp [startR, i1, i2, j1, j2, eqI, hk, intL, Pl.d, L]
      simpa [L] using ix
theorem far_place_spec (H : House R ps) (hS : ∀ x : Int, x ∈ S ↔ 0 ≤ x ∧ x < R) (hR : 2 ≤ R) (h : Stm μ k c N) (hN : N + 6 < 1000000) : ∃ (x : Pl) (μ' : Mem), m_law_far_place [.ref k, houseD R ps] μ = .ok x.d μ' ∧ IsPl S ps x ∧ Stm μ' k c (N + 6) ∧ Keep [k] μ μ' := by
  have i0 : ∀ μ, idxA (houseD R ps) (.int 0) μ = .ok (.int (R : Int)) μ := fun μ => ix_tup (by decide) rfl
  have i1 : ∀ μ, idxA (houseD R ps) (.int 1) μ = .ok (.tup (ps.map Pipe.d)) μ := fun μ => ix_tup (by decide) rfl
  have ll : ∀ μ, lenL [.tup (ps.map Pipe.d)] μ = .ok (.int ps.length) μ := fun μ => by simp only [lenL, List.length_map]
  have hlen := H.len
  have hR2 := H.r2
  obtain ⟨q, μ1, q1, x0, x1, s1, k1⟩ := take_spec (j := (ps.length : Int)) h (by omega) (by omega) (by omega)
  obtain ⟨p, ep⟩ : ∃ p, ps[q.toNat]? = some p := ⟨_, List.getElem?_eq_getElem (by omega)⟩
  have ok := H.ok p (List.mem_of_getElem? ep)
  have l1 := ok.l1
  have l2 := ok.l2
  have i2 : ∀ μ, idxA (.tup (ps.map Pipe.d)) (.int q) μ = .ok p.d μ := fun μ => ix_tup x0 (by rw [List.getElem?_map, ep]; rfl)
  have i3 : ∀ μ, idxA p.d (.int 2) μ = .ok (.int p.len) μ := fun μ => ix_tup (by decide) rfl
  have t1 : mB m_law_take (mCons (mVar 0) (mCons (mB lenL (mCons (mBin idxA (mVar 1) (mC (.int 1))) (mNil))) (mNil))) (startR 3 [.ref k, houseD R ps]) μ = .ok (.int q) μ1 := by simp [startR, i1, ll, q1]
  have z1 : (startR 3 [.ref k, houseD R ps]).set 2 (some (.int q)) = [some (.ref k), some (houseD R ps), some (.int q)] := by simp [startR]
  have room : ∀ {μ : Mem} {M : Nat}, Stm μ k c M → M < 1000000 → ∃ (r : Int) (μ' : Mem), m_law_take [.ref k, .int R] μ = .ok (.int r) μ' ∧ IsPl S ps (.room r) ∧ Stm μ' k c (M + 1) ∧ Keep [k] μ μ' := fun h hM => by
    obtain ⟨r, μ', q, r0, r1, s, kk⟩ := take_spec (j := (R : Int)) h hM (by omega) (by omega)
    exact ⟨r, μ', q, (hS r).mpr ⟨r0, r1⟩, s, kk⟩
  by_cases h1 : p.len = 1
  · obtain ⟨r, μ2, q2, hr, s2, k2⟩ := room s1 (by omega)
    refine ⟨.room r, μ2, run_is ((seq_set t1).trans ?_), hr, s2.mono (by omega), k1.trans k2⟩
    rw [z1]
    exact seq_ret ((if_t (μ1 := μ1) (by simp [i1, i2, i3, eqI, h1])).trans (ret_is (by simp [i0, q2, Pl.d])))
  · obtain ⟨u, μ2, q2, u0, u1, s2, k2⟩ := take_spec (j := 4) s1 (by omega) (by decide) (by decide)
    by_cases hu : u = 0
    · obtain ⟨r, μ3, q3, hr, s3, k3⟩ := room s2 (by omega)
      refine ⟨.room r, μ3, run_is ((seq_set t1).trans ?_), hr, s3.mono (by omega), (k1.trans k2).trans k3⟩
      rw [z1]
      exact seq_ret ((if_t (μ1 := μ2) (by simp [i1, i2, i3, eqI, h1, q2, hu])).trans (ret_is (by simp [i0, q3, Pl.d])))
    · obtain ⟨t, μ3, q3, t0, t1', s3, k3⟩ := far_spec (M := p.len - 1) s2 (by omega) (by omega) (by omega)
      have hq : ((q.toNat : Nat) : Int) = q := by omega
      refine ⟨.on q.toNat (1 + t), μ3, run_is ((seq_set t1).trans ?_), ⟨p, ep, by omega, by omega⟩, s3.mono (by omega), (k1.trans k2).trans k3⟩
      rw [z1]
      refine (seq_skip (μ1 := μ2) (by simp [i1, i2, i3, eqI, h1, q2, hu])).trans (ret_is ?_)
      simp [i1, i2, i3, subD, q3, add_ok, Pl.d, hq]
end
end K12

/-! S23: two far places. -/
namespace K12
open PySem L2 RW
section
variable {S : List Int} {R : Nat} {ps : List Pipe} {μ : Mem} {k c N : Nat}
theorem two_spec (H : House R ps) (hS : ∀ x : Int, x ∈ S ↔ 0 ≤ x ∧ x < R) (hR : 2 ≤ R) (h : Stm μ k c N) (hN : N + 12 < 1000000) : ∃ (x y : Pl) (n : Nat) (μ' : Mem), m_law_two [.ref k, houseD R ps] μ = .ok (.ref n) μ' ∧ μ'[n]? = some (.lst [x.d, y.d]) ∧ IsPl S ps x ∧ IsPl S ps y ∧ x ≠ y ∧ Stm μ' k c (N + 12) ∧ Keep [k] μ μ' := by
  obtain ⟨x, μ1, q1, hx, s1, k1⟩ := far_place_spec H hS hR h (by omega)
  obtain ⟨y, μ2, q2, hy, s2, k2⟩ := far_place_spec H hS hR s1 (by omega)
  have kk := k1.trans k2
  have par : sPar 2 3 (mCons (mB m_law_far_place (mCons (mVar 0) (mCons (mVar 1) (mNil)))) (mCons (mB m_law_far_place (mCons (mVar 0) (mCons (mVar 1) (mNil)))) (mNil))) (startR 4 [.ref k, houseD R ps]) μ = .ok (.nx [some (.ref k), some (houseD R ps), some x.d, some y.d]) μ2 := by
    simp [startR, q1, q2]
  by_cases hxy : x = y
  · let L : List D := [(Pl.room 0).d, (Pl.room 1).d]
    have en : (μ2 ++ [Cell.lst L])[μ2.length]? = some (.lst L) := app_new
    have r0 : IsPl S ps (.room 0) := (hS 0).mpr ⟨by omega, by omega⟩
    have r1 : IsPl S ps (.room 1) := (hS 1).mpr ⟨by omega, by omega⟩
    obtain ⟨z, hz, hzp, hne⟩ : ∃ z : Pl, idxA (.ref μ2.length) (.int (if decide (x = .room 0) = true then 1 else 0)) (μ2 ++ [Cell.lst L]) = .ok z.d (μ2 ++ [Cell.lst L]) ∧ IsPl S ps z ∧ x ≠ z := by
      by_cases h0 : x = .room 0
      · exact ⟨.room 1, by rw [if_pos (by simpa using h0)]; exact ix_lst en (by decide) rfl, r1, by rw [h0]; simp⟩
      · exact ⟨.room 0, by rw [if_neg (by simpa using h0)]; exact ix_lst en (by decide) rfl, r0, h0⟩
    have eq0 : eqD x.d (.tup [.int 0]) (μ2 ++ [Cell.lst L]) = .ok (.bl (decide (x = .room 0))) (μ2 ++ [Cell.lst L]) := eqP (y := .room 0)
    have st : sSet 3 (mBin idxA (mLst (mCons (mTup (mCons (mC (.int 0)) (mNil))) (mCons (mTup (mCons (mC (.int 1)) (mNil))) (mNil)))) (mB intL (mCons (mBin eqD (mVar 2) (mTup (mCons (mC (.int 0)) (mNil)))) (mNil)))) [some (.ref k), some (houseD R ps), some x.d, some y.d] μ2 = .ok (.nx [some (.ref k), some (houseD R ps), some x.d, some z.d]) (μ2 ++ [Cell.lst L]) := by
      refine (set_is (d := z.d) (μ' := μ2 ++ [Cell.lst L]) ?_).trans rfl
      have hl : mLst (mCons (mTup (mCons (mC (.int 0)) (mNil))) (mCons (mTup (mCons (mC (.int 1)) (mNil))) (mNil))) [some (.ref k), some (houseD R ps), some x.d, some y.d] μ2 = .ok (.ref μ2.length) (μ2 ++ [Cell.lst L]) := rfl
      have hi : mB intL (mCons (mBin eqD (mVar 2) (mTup (mCons (mC (.int 0)) (mNil)))) (mNil)) [some (.ref k), some (houseD R ps), some x.d, some y.d] (μ2 ++ [Cell.lst L]) = .ok (.int (if decide (x = .room 0) = true then 1 else 0)) (μ2 ++ [Cell.lst L]) := by
        have he : mBin eqD (mVar 2) (mTup (mCons (mC (.int 0)) (mNil))) [some (.ref k), some (houseD R ps), some x.d, some y.d] (μ2 ++ [Cell.lst L]) = .ok (.bl (decide (x = .room 0))) (μ2 ++ [Cell.lst L]) := bin_is (p := x.d) (q := .tup [.int 0]) rfl rfl eq0
        simp only [mB, mCons, mNil, he, Res.bind, intL]
      exact bin_is hl hi hz
    have cnd : (mTest (mBin eqD (mVar 2) (mVar 3))) [some (.ref k), some (houseD R ps), some x.d, some y.d] μ2 = .ok true μ2 := by simp [eqP, hxy]
    refine ⟨x, z, (μ2 ++ [Cell.lst L]).length, (μ2 ++ [Cell.lst L]) ++ [.lst [x.d, z.d]], run_is ((seq_run par).trans ((seq_run ((if_t cnd).trans st)).trans (ret_is ?_))), app_new, hx, hzp, hne, (s2.app).app.mono (by omega), (kk.trans Keep.app).trans Keep.app⟩
    rfl
  · have cnd : (mTest (mBin eqD (mVar 2) (mVar 3))) [some (.ref k), some (houseD R ps), some x.d, some y.d] μ2 = .ok false μ2 := by simp [eqP, hxy]
    refine ⟨x, y, μ2.length, μ2 ++ [.lst [x.d, y.d]], run_is ((seq_run par).trans ((seq_skip cnd).trans (ret_is ?_))), app_new, hx, hy, hxy, s2.app.mono (by omega), kk.trans Keep.app⟩
    rfl
end
end K12

/-! S24: the rooms by a place. -/
namespace K12
open PySem L2 RW
section
variable {S : List Int} {R : Nat} {ps : List Pipe} {μ : Mem}
theorem rooms_by_spec {x : Pl} (hx : IsPl S ps x) : m_law_rooms_by [houseD R ps, x.d] μ = .ok (.ref μ.length) (μ ++ [.lst ((endsOf ps x).map pairD)]) := by
  have i1 : ∀ μ, idxA (houseD R ps) (.int 1) μ = .ok (.tup (ps.map Pipe.d)) μ := fun μ => ix_tup (by decide) rfl
  cases x with
  | room r =>
    have ix : idxA (Pl.room r).d (.int 0) μ = .ok (.int r) μ := ix_tup (by decide) rfl
    have l : lenL [(Pl.room r).d] μ = .ok (.int 1) μ := rfl
    exact run_is (seq_ret ((if_t (μ1 := μ) (by simp [startR, l, eqI])).trans (ret_is (by simp [startR, ix, endsOf, pairD]))))
  | on i t =>
    obtain ⟨p, e, h0, h1⟩ := hx
    have ix0 : idxA (Pl.on i t).d (.int 0) μ = .ok (.int i) μ := ix_tup (by decide) rfl
    have ix1 : idxA (Pl.on i t).d (.int 1) μ = .ok (.int t) μ := ix_tup (by decide) rfl
    have l : lenL [(Pl.on i t).d] μ = .ok (.int 2) μ := rfl
    have i2 : idxA (.tup (ps.map Pipe.d)) (.int (i : Int)) μ = .ok p.d μ := ix_tup (by omega) (by rw [Int.toNat_natCast, List.getElem?_map, e]; rfl)
    have un : (sAsg (mBin idxA (mBin idxA (mVar 0) (mC (.int 1))) (mBin idxA (mVar 1) (mC (.int 0)))) (gTupM 5 (gConsM (gN 2) (gConsM (gN 3) (gConsM (gN 4) (gConsM (gN 5) (gConsM (gN 6) (gNilM)))))))) (startR 7 [houseD R ps, (Pl.on i t).d]) μ = .ok (.nx [some (houseD R ps), some (Pl.on i t).d, some (.int p.a), some (.int p.b), some (.int p.len), some (.tup (p.nar.map pairD)), some (.tup (p.fl.map pairD))]) μ := by
      have t : mBin idxA (mBin idxA (mVar 0) (mC (.int 1))) (mBin idxA (mVar 1) (mC (.int 0))) (startR 7 [houseD R ps, (Pl.on i t).d]) μ = .ok p.d μ := by simp [startR, i1, ix0, i2]
      rw [sAsg, t]; rfl
    refine run_is ((seq_skip (μ1 := μ) (by simp [startR, l, eqI])).trans ((seq_run un).trans (ret_is ?_)))
    simp [ix1, subD, endsOf, e, pairD]
end
end K12

/-! S25: what lies on a far pipe. -/
namespace K12
open PySem L2 RW
theorem usort_len : ∀ ys : List Int, (usort ys).length ≤ ys.length := fun ys => by
  induction ys with
  | nil => simp [usort]
  | cons y ys ih =>
    unfold usort
    split
    · simp; omega
    · rw [(insI_perm y _).length_eq]; simp; omega
theorem slc_to {a b : MD} {ρ : Rho} {μ μ1 μ2 μ3 : Mem} {x d : D} {j : Int} (h1 : a ρ μ = .ok x μ1) (h2 : b ρ μ1 = .ok (.int j) μ2) (h3 : slcD x none (some j) μ2 = .ok d μ3) : mSlc a oNone (oSome b) ρ μ = .ok d μ3 := by
  simp only [mSlc, h1, Res.bind, oNone, oSome, h2, h3]
section
variable {μ : Mem} {k c N : Nat}
/-- of each number of a list a thing with w draws -/
theorem eachW_spec {chk : Mem → Prop} {ρ0 : Rho} {te : MD} {P : Int → Int → Prop} {e : Int → Int → D} {i w : Nat} {ns : List Int} (h : Stm μ k c N) (hN : N + w * ns.length < 1000000) (hl : ns.length ≤ 1000) (hc : ∀ μ', Keep [k] μ μ' → chk μ')
    (ht : ∀ (x : Int) (μ1 : Mem) (M : Nat), x ∈ ns → Stm μ1 k c M → M + w < 1000000 → ∃ (v : Int) (μ2 : Mem), te (ρ0.set i (some (.int x))) μ1 = .ok (e x v) μ2 ∧ P x v ∧ Stm μ2 k c (M + w) ∧ Keep [k] μ1 μ2) :
    ∃ (xs : List (Int × Int)) (μ' : Mem), compL chk (gN i) mYes te ρ0 (ns.map D.int) [] μ = .ok (xs.map fun p => e p.1 p.2) μ' ∧ xs.map (·.1) = ns ∧ (∀ x ∈ xs, P x.1 x.2) ∧ Stm μ' k c (N + w * ns.length) ∧ Keep [k] μ μ' := by
  have key := compL_ok (chk := chk) (g := gN i) (tt := mYes) (te := te) (ρ0 := ρ0) (ns.map D.int)
    (fun j acc μ' => j ≤ ns.length ∧ ∃ xs : List (Int × Int), acc = (xs.map fun p => e p.1 p.2) ∧ xs.map (·.1) = ns.take j ∧ (∀ x ∈ xs, P x.1 x.2) ∧ Stm μ' k c (N + w * j) ∧ Keep [k] μ μ') 0 (acc := []) (μ := μ)
    ⟨Nat.zero_le _, [], rfl, by simp, by simp, h, .refl⟩ (fun _ _ _ ⟨_, _, _, _, _, _, kk⟩ => hc _ kk)
    (fun j d acc μ' ed ⟨hj, xs, ea, em, hp, hs, kk⟩ => by
      simp only [Nat.zero_add] at hj em hs ⊢
      rw [List.getElem?_map] at ed
      obtain ⟨x, ex, rfl⟩ := Option.map_eq_some_iff.mp ed
      have hj2 := (List.getElem?_eq_some_iff.mp ex).1
      have hw : w * j + w ≤ w * ns.length := by
        have : w * (j + 1) ≤ w * ns.length := Nat.mul_le_mul_left w hj2
        rwa [Nat.mul_add, Nat.mul_one] at this
      obtain ⟨v, μ2, q, hv, s2, k2⟩ := ht x μ' (N + w * j) (List.mem_of_getElem? ex) hs (by omega)
      refine .mk (μ := μ') rfl (.mk (μ := μ') rfl ?_)
      rw [if_pos rfl]
      have hl : xs.length = j := by
        have := congrArg List.length em
        rw [List.length_map, List.length_take] at this
        omega
      refine ⟨by rw [ea, List.length_map, sizeLine_eq]; omega, .mk q ⟨by omega, xs ++ [(x, v)], by rw [ea]; simp, by rw [List.map_append, em, List.take_add_one, ex]; rfl, fun z hz => ?_, by rw [show N + w * (j + 1) = N + w * j + w by rw [Nat.mul_add, Nat.mul_one]; omega]; exact s2, kk.trans k2⟩⟩
      rcases List.mem_append.mp hz with hz | hz
      · exact hp z hz
      · simp at hz; subst hz; exact hv)
  rw [List.length_map, Nat.zero_add] at key
  obtain ⟨l, μ', q, _, xs, rfl, em, hp, hs, kk⟩ := key
  rw [List.take_length] at em
  exact ⟨xs, μ', q, em, hp, hs, kk⟩
theorem range_upTo {n : Nat} : rangeItems 0 n = (upTo n).map D.int := by
  unfold rangeItems upTo
  rw [List.map_map]
  refine List.map_congr_left fun i _ => ?_
  show D.int (0 + (i : Int)) = D.int (i : Int)
  rw [Int.zero_add]
/-- so many numbers, each by w draws -/
theorem nums_spec {ρ0 : Rho} {te : MD} {P : Int → Prop} {i w n : Nat} (h : Stm μ k c N) (hN : N + w * n < 1000000) (hn : n ≤ 1000)
    (ht : ∀ (x : Int) (μ1 : Mem) (M : Nat), Stm μ1 k c M → M + w < 1000000 → ∃ (v : Int) (μ2 : Mem), te (ρ0.set i (some (.int x))) μ1 = .ok (.int v) μ2 ∧ P v ∧ Stm μ2 k c (M + w) ∧ Keep [k] μ1 μ2) :
    ∃ (ns : List Int) (μ' : Mem), compL (fun _ => True) (gN i) mYes te ρ0 (rangeItems 0 n) [] μ = .ok (ns.map D.int) μ' ∧ ns.length = n ∧ (∀ x ∈ ns, P x) ∧ Stm μ' k c (N + w * n) ∧ Keep [k] μ μ' := by
  obtain ⟨xs, μ', q, em, hp, hs, kk⟩ := eachW_spec (chk := fun _ => True) (ρ0 := ρ0) (te := te) (P := fun _ v => P v) (e := fun _ v => .int v) (i := i) (w := w) (ns := upTo n) h (by rw [upTo_len]; exact hN) (by rw [upTo_len]; exact hn) (fun _ _ => trivial) (fun x μ1 M _ hs hM => ht x μ1 M hs hM)
  rw [upTo_len] at hs
  refine ⟨xs.map (·.2), μ', ?_, ?_, fun x hx => ?_, hs, kk⟩
  · rw [range_upTo, q, List.map_map]; rfl
  · rw [List.length_map, ← upTo_len n, ← em, List.length_map]
  · obtain ⟨z, hz, rfl⟩ := List.mem_map.mp hx
    exact hp z hz
def rhoF (k pp q : Nat) (r L : Int) (v1 v2 o7 o8 o9 o10 : Option D) : Rho := [some (.ref k), v1, v2, some (.ref pp), some (.ref q), some (.int r), some (.int L), o7, o8, o9, o10, none, none]
variable {pp q : Nat} {r L : Int} {v1 v2 o7 o8 o9 o10 : Option D}
theorem ats_part (h : Stm μ k c N) (hN : N + 10 < 1000000) (h1 : 1 ≤ L) (h2 : L ≤ 1000000000000) : ∃ (ns : List Int) (n : Nat) (μ' : Mem), mComp (iRange1 (mCons (mBin mulD (mB m_law_take (mCons (mVar 0) (mCons (mC (.int 3)) (mNil)))) (mB intL (mCons (mBin (cmpI fun i j => decide (j < i)) (mVar 6) (mC (.int 1))) (mNil)))) (mNil))) (gN 11) (mYes) (mBin addD (mC (.int 1)) (mB m_law_far (mCons (mVar 0) (mCons (mB max2L (mCons (mC (.int 1)) (mCons (mBin subD (mVar 6) (mC (.int 1))) (mNil)))) (mNil))))) [11] (rhoF k pp q r L v1 v2 o7 o8 o9 o10) μ = .ok (.ref n) μ' ∧ μ'[n]? = some (.lst (ns.map D.int)) ∧ ns.length ≤ 2 ∧ (∀ x ∈ ns, 1 ≤ x ∧ x ≤ L - 1) ∧ Stm μ' k c (N + 7) ∧ Keep [k] μ μ' ∧ μ.length ≤ n := by
  obtain ⟨x, μ1, q1, x0, x1, s1, k1⟩ := take_spec (j := 3) h (by omega) (by decide) (by decide)
  obtain ⟨n, hn, hn2⟩ : ∃ n : Nat, x * (if decide (1 < L) = true then 1 else 0) = (n : Int) ∧ n ≤ 2 ∧ (0 < n → 1 < L) := by
    by_cases hL : 1 < L
    · exact ⟨x.toNat, by rw [if_pos (by simpa using hL)]; omega, by omega, fun _ => hL⟩
    · exact ⟨0, by rw [if_neg (by simpa using hL)]; omega, by omega, fun z => absurd z (by omega)⟩
  have hb : (if decide (1 < L) = true then (1 : Int) else 0).natAbs < 18446744073709551616 := by split <;> decide
  have rg : iRange1 (mCons (mBin mulD (mB m_law_take (mCons (mVar 0) (mCons (mC (.int 3)) (mNil)))) (mB intL (mCons (mBin (cmpI fun i j => decide (j < i)) (mVar 6) (mC (.int 1))) (mNil)))) (mNil)) (rhoF k pp q r L v1 v2 o7 o8 o9 o10) μ = .ok (rangeItems 0 n, fun _ => True) μ1 := by
    have e : mBin mulD (mB m_law_take (mCons (mVar 0) (mCons (mC (.int 3)) (mNil)))) (mB intL (mCons (mBin (cmpI fun i j => decide (j < i)) (mVar 6) (mC (.int 1))) (mNil))) (rhoF k pp q r L v1 v2 o7 o8 o9 o10) μ = .ok (.int n) μ1 := by
      simp only [mBin, mB, mCons, mNil, mC, mVar, rhoF, List.getElem?_cons_succ, List.getElem?_cons_zero, Res.bind, q1, cmpI, intL, mul_ok (.inr hb), hn]
    have e2 := range1_ok (n := n) (μ := μ1) (by omega)
    simp only [iRange1, mCons, mNil, e, Res.bind, e2]
  obtain ⟨ns, μ2, q2, hl, hp, s2, k2⟩ := nums_spec (ρ0 := wipeR (rhoF k pp q r L v1 v2 o7 o8 o9 o10) [11]) (te := mBin addD (mC (.int 1)) (mB m_law_far (mCons (mVar 0) (mCons (mB max2L (mCons (mC (.int 1)) (mCons (mBin subD (mVar 6) (mC (.int 1))) (mNil)))) (mNil))))) (P := fun v => 0 < n → 1 ≤ v ∧ v ≤ L - 1) (i := 11) (w := 3) (n := n) s1 (by omega) (by omega)
    (fun x μ1 M hs hM => by
      obtain ⟨m, hm, hm1, hm2, hm3⟩ : ∃ m : Int, max2L [.int 1, .int (L - 1)] μ1 = .ok (.int m) μ1 ∧ 1 ≤ m ∧ m ≤ 1000000000000 ∧ (1 < L → m = L - 1) := by
        by_cases hL : 1 < L - 1
        · exact ⟨L - 1, by simp only [max2L, if_pos hL], by omega, by omega, fun _ => rfl⟩
        · exact ⟨1, by simp only [max2L, if_neg hL], by omega, by omega, fun _ => by omega⟩
      obtain ⟨v, μ2, qq, v0, v1', s, kk⟩ := far_spec (M := m) hs (by omega) hm1 hm2
      refine ⟨1 + v, μ2, ?_, fun z => ?_, s, kk⟩
      · simp [wipeR, rhoF, subD, hm, qq, add_ok]
      · have := hm3 (hn2.2 z); omega)
  refine ⟨ns, μ2.length, μ2 ++ [.lst (ns.map D.int)], comp_is rg q2, app_new, by omega, fun x hx => hp x hx ?_, (s2.app).mono (by omega), (k1.trans k2).trans Keep.app, (k1.trans k2).1⟩
  rw [← hl]; exact List.length_pos_of_mem hx
theorem nar_part {n : Nat} {ns : List Int} {b : D} {left : Nat} (h : Stm μ k c N) (hN : N + 10 < 1000000) (en : μ[n]? = some (.lst (ns.map D.int))) (hnk : n ≠ k) (hl : ns.length ≤ 2) (hr : ∀ x ∈ ns, 1 ≤ x ∧ x ≤ L - 1) (eq : μ[q]? = some (.lst [.int left, b])) (hqk : q ≠ k) :
    ∃ (xs : List (Int × Int)) (m : Nat) (μ' : Mem), mSlc (mComp (iSeq (mB sortedA (mCons (mB setL (mCons (mVar 7) (mNil))) (mNil)))) (gN 12) (mYes) (mTup (mCons (mVar 12) (mCons (mBin addD (mC (.int 1)) (mB m_law_take (mCons (mVar 0) (mCons (mC (.int 3)) (mNil))))) (mNil)))) [12]) oNone (oSome (mBin idxA (mVar 4) (mC (.int 0)))) (rhoF k pp q r L v1 v2 (some (.ref n)) o8 o9 o10) μ = .ok (.ref m) μ' ∧ μ'[m]? = some (.lst (xs.map pairD)) ∧ xs.length ≤ left ∧ (xs.map (·.1)).Pairwise (· < ·) ∧ (∀ x ∈ xs, 1 ≤ x.1 ∧ x.1 ≤ L - 1 ∧ 1 ≤ x.2 ∧ x.2 ≤ 3) ∧ Stm μ' k c (N + 2) ∧ Keep [k] μ μ' ∧ μ.length ≤ m := by
  have h3 : intsAt (.ref n) μ = some ns := by simp [intsAt, en]
  have ul := usort_len ns
  let μ1 : Mem := (μ ++ [.iset (usort ns)]) ++ [.lst ((usort ns).map D.int)]
  have h4 : (μ ++ [Cell.iset (usort ns)])[μ.length]? = some (.iset (usort ns)) := app_new
  have e1 : (mB sortedA (mCons (mB setL (mCons (mVar 7) (mNil))) (mNil))) (rhoF k pp q r L v1 v2 (some (.ref n)) o8 o9 o10) μ = .ok (.ref (μ ++ [Cell.iset (usort ns)]).length) μ1 := by
    simp only [mB, mCons, mNil, mVar, rhoF, List.getElem?_cons_succ, List.getElem?_cons_zero, Res.bind, setL, h3, if_pos (show ns.length ≤ 4000 by omega), sortedA, sortedL, h4, if_pos (show (usort ns).length < 64 by omega), μ1]
  have l0 := h.lt
  have s1 : Stm μ1 k c N := (h.app).app
  have en1 : μ1[(μ ++ [Cell.iset (usort ns)]).length]? = some (.lst ((usort ns).map D.int)) := app_new
  obtain ⟨xs, μ2, q2, em, hp, s2, k2⟩ := eachW_spec (chk := fun μ' => μ'[(μ ++ [Cell.iset (usort ns)]).length]? = some (.lst ((usort ns).map D.int))) (ρ0 := wipeR (rhoF k pp q r L v1 v2 (some (.ref n)) o8 o9 o10) [12]) (te := mTup (mCons (mVar 12) (mCons (mBin addD (mC (.int 1)) (mB m_law_take (mCons (mVar 0) (mCons (mC (.int 3)) (mNil))))) (mNil)))) (P := fun _ v => 1 ≤ v ∧ v ≤ 3) (e := fun x v => .tup [.int x, .int v]) (i := 12) (w := 1) (ns := usort ns) s1 (by omega) (by omega) (fun μ' kk => kk.get en1 (by simp; omega))
    (fun x μ1 M _ hs hM => by
      obtain ⟨v, μ2, qq, v0, v1', s, kk⟩ := take_spec (j := 3) hs (by omega) (by decide) (by decide)
      exact ⟨1 + v, μ2, by simp [wipeR, rhoF, qq, add_ok], ⟨by omega, by omega⟩, s, kk⟩)
  have c1 := comp_is (own := [12]) (seq_lst e1 en1) q2
  have eq2 : (μ2 ++ [Cell.lst (xs.map pairD)])[q]? = some (.lst [.int left, b]) := app_at (k2.get (app_at (app_at eq)) (by simp [hqk]))
  let μ3 : Mem := (μ2 ++ [Cell.lst (xs.map pairD)]) ++ [.lst ((xs.take left).map pairD)]
  have sl : slcD (.ref μ2.length) none (some (left : Int)) (μ2 ++ [Cell.lst (xs.map pairD)]) = .ok (.ref (μ2 ++ [Cell.lst (xs.map pairD)]).length) μ3 := by
    simp only [slcD, app_new, cut_to, μ3, List.map_take]
  refine ⟨xs.take left, (μ2 ++ [Cell.lst (xs.map pairD)]).length, μ3, ?_, app_new, by rw [List.length_take]; omega, ?_, fun z hz => ?_, ((s2.app).app).mono (by omega), ((Keep.trans (Keep.trans Keep.app Keep.app) k2).trans Keep.app).trans Keep.app, ?_⟩
  · have ix : idxA (.ref q) (.int 0) (μ2 ++ [Cell.lst (xs.map pairD)]) = .ok (.int left) (μ2 ++ [Cell.lst (xs.map pairD)]) := ix_lst eq2 (by decide) rfl
    exact slc_to c1 (bin_is (p := .ref q) (q := .int 0) rfl rfl ix) sl
  · rw [List.map_take, em]
    exact (usort_sorted ns).sublist (List.take_sublist _ _)
  · have hm := List.mem_of_mem_take hz
    have h5 : z.1 ∈ usort ns := by rw [← em]; exact List.mem_map_of_mem hm
    have := hr z.1 (usort_mem.mp h5)
    have := hp z hm
    omega
  · have := k2.1
    simp [μ1] at this ⊢; omega
end
end K12

/-! S26: flaps of a far pipe. -/
namespace K12
open PySem L2 RW
section
variable {μ : Mem} {k c N : Nat} {pp q : Nat} {r L : Int} {v1 v2 o7 o8 o9 o10 : Option D}
theorem flat_part {a : D} {left : Nat} (h : Stm μ k c N) (hN : N + 10 < 1000000) (h1 : 1 ≤ L) (h2 : L ≤ 1000000000000) (eq : μ[q]? = some (.lst [a, .int left])) (hqk : q ≠ k) :
    ∃ (ns : List Int) (m : Nat) (μ' : Mem), mSlc (mComp (iRange1 (mCons (mB m_law_take (mCons (mVar 0) (mCons (mC (.int 2)) (mNil)))) (mNil))) (gN 11) (mYes) (mB m_law_far (mCons (mVar 0) (mCons (mVar 6) (mNil)))) [11]) oNone (oSome (mBin idxA (mVar 4) (mC (.int 1)))) (rhoF k pp q r L v1 v2 o7 o8 o9 o10) μ = .ok (.ref m) μ' ∧ μ'[m]? = some (.lst (ns.map D.int)) ∧ ns.length ≤ left ∧ ns.length ≤ 1 ∧ (∀ x ∈ ns, 0 ≤ x ∧ x ≤ L - 1) ∧ Stm μ' k c (N + 4) ∧ Keep [k] μ μ' ∧ μ.length ≤ m := by
  obtain ⟨x, μ1, q1, x0, x1, s1, k1⟩ := take_spec (j := 2) h (by omega) (by decide) (by decide)
  obtain ⟨n, rfl⟩ : ∃ n : Nat, x = (n : Int) := ⟨x.toNat, by omega⟩
  have rg : iRange1 (mCons (mB m_law_take (mCons (mVar 0) (mCons (mC (.int 2)) (mNil)))) (mNil)) (rhoF k pp q r L v1 v2 o7 o8 o9 o10) μ = .ok (rangeItems 0 n, fun _ => True) μ1 := by
    have e2 := range1_ok (n := n) (μ := μ1) (by omega)
    simp only [iRange1, mB, mCons, mNil, mC, mVar, rhoF, List.getElem?_cons_succ, List.getElem?_cons_zero, Res.bind, q1, e2]
  obtain ⟨ns, μ2, q2, hl, hp, s2, k2⟩ := nums_spec (ρ0 := wipeR (rhoF k pp q r L v1 v2 o7 o8 o9 o10) [11]) (te := mB m_law_far (mCons (mVar 0) (mCons (mVar 6) (mNil)))) (P := fun v => 0 ≤ v ∧ v ≤ L - 1) (i := 11) (w := 3) (n := n) s1 (by omega) (by omega)
    (fun x μ1 M hs hM => by
      obtain ⟨v, μ2, qq, v0, v1', s, kk⟩ := far_spec (M := L) hs (by omega) h1 h2
      exact ⟨v, μ2, by simp [wipeR, rhoF, qq], ⟨v0, by omega⟩, s, kk⟩)
  have c1 := comp_is (own := [11]) rg q2
  have eq2 : (μ2 ++ [Cell.lst (ns.map D.int)])[q]? = some (.lst [a, .int left]) := app_at (k2.get (k1.get eq (by simp [hqk])) (by simp [hqk]))
  let μ3 : Mem := (μ2 ++ [Cell.lst (ns.map D.int)]) ++ [.lst ((ns.take left).map D.int)]
  have sl : slcD (.ref μ2.length) none (some (left : Int)) (μ2 ++ [Cell.lst (ns.map D.int)]) = .ok (.ref (μ2 ++ [Cell.lst (ns.map D.int)]).length) μ3 := by
    simp only [slcD, app_new, cut_to, μ3, List.map_take]
  refine ⟨ns.take left, (μ2 ++ [Cell.lst (ns.map D.int)]).length, μ3, ?_, app_new, by rw [List.length_take]; omega, by rw [List.length_take]; omega, fun z hz => hp z (List.mem_of_mem_take hz), ((s2.app).app).mono (by omega), (((k1.trans k2).trans Keep.app).trans Keep.app), ?_⟩
  · have ix : idxA (.ref q) (.int 1) (μ2 ++ [Cell.lst (ns.map D.int)]) = .ok (.int left) (μ2 ++ [Cell.lst (ns.map D.int)]) := ix_lst eq2 (by decide) rfl
    exact slc_to c1 (bin_is (p := .ref q) (q := .int 1) rfl rfl ix) sl
  · have := (k1.trans k2).1
    simp; omega
theorem hung_part {n : Nat} {ns : List Int} (h : Stm μ k c N) (hN : N + 10 < 1000000) (en : μ[n]? = some (.lst (ns.map D.int))) (hnk : n ≠ k) (hl : ns.length ≤ 1) :
    ∃ (xs : List (Int × Int)) (m : Nat) (μ' : Mem), mComp (iSeq (mVar 7)) (gN 12) (mYes) (mTup (mCons (mVar 12) (mCons (mBin idxA (mLst (mCons (mC (.int 1)) (mCons (mUn negD (mC (.int 1))) (mNil)))) (mB m_law_take (mCons (mVar 0) (mCons (mC (.int 2)) (mNil))))) (mNil)))) [12] (rhoF k pp q r L v1 v2 (some (.ref n)) o8 o9 o10) μ = .ok (.ref m) μ' ∧ μ'[m]? = some (.lst (xs.map pairD)) ∧ xs.map (·.1) = ns ∧ (∀ x ∈ xs, x.2 = 1 ∨ x.2 = -1) ∧ Stm μ' k c (N + 1) ∧ Keep [k] μ μ' ∧ μ.length ≤ m := by
  obtain ⟨xs, μ2, q2, em, hp, s2, k2⟩ := eachW_spec (chk := fun μ' => μ'[n]? = some (.lst (ns.map D.int))) (ρ0 := wipeR (rhoF k pp q r L v1 v2 (some (.ref n)) o8 o9 o10) [12]) (te := mTup (mCons (mVar 12) (mCons (mBin idxA (mLst (mCons (mC (.int 1)) (mCons (mUn negD (mC (.int 1))) (mNil)))) (mB m_law_take (mCons (mVar 0) (mCons (mC (.int 2)) (mNil))))) (mNil)))) (P := fun _ v => v = 1 ∨ v = -1) (e := fun x v => .tup [.int x, .int v]) (i := 12) (w := 1) (ns := ns) h (by omega) (by omega) (fun μ' kk => kk.get en (by simp [hnk]))
    (fun x μ1 M _ hs hM => by
      have hl := hs.lt
      have hs' : Stm (μ1 ++ [Cell.lst [.int 1, .int (-1)]]) k c M := hs.app
      obtain ⟨y, μ2, q, y0, y1, s, kk⟩ := take_spec (j := 2) hs' (by omega) (by decide) (by decide)
      have e2 : μ2[μ1.length]? = some (.lst [.int 1, .int (-1)]) := kk.get app_new (by simp; omega)
      obtain ⟨v, ev, hv⟩ : ∃ v : Int, ([D.int 1, .int (-1)] : List D)[y.toNat]? = some (.int v) ∧ (v = 1 ∨ v = -1) := by
        have : y = 0 ∨ y = 1 := by omega
        rcases this with rfl | rfl
        · exact ⟨1, rfl, .inl rfl⟩
        · exact ⟨-1, rfl, .inr rfl⟩
      have ix : idxA (.ref μ1.length) (.int y) μ2 = .ok (.int v) μ2 := ix_lst e2 y0 ev
      exact ⟨v, μ2, by simp [wipeR, rhoF, negD, q, ix], hv, s, Keep.trans Keep.app kk⟩)
  exact ⟨xs, μ2.length, μ2 ++ [.lst (xs.map pairD)], comp_is (seq_lst (n := n) rfl en) q2, app_new, em, hp, (s2.app).mono (by omega), k2.trans Keep.app, k2.1⟩
end
structure LaidF (fl : Int) (i : Nat) (ps : List Pipe) (ln lf : Nat) : Prop where
  len : ps.length = i
  tree : Tree (upTo (i + 1)) ps
  ok : ∀ p ∈ ps, p.Ok
  rng : ∀ p ∈ ps, 0 ≤ p.a ∧ p.a < p.b ∧ p.b < 1 + (i : Int)
  nar : ((ps.map fun p => (p.nar.length : Int)).sum) + ln = 12
  fla : ((ps.map fun p => (p.fl.length : Int)).sum) + lf = fl
theorem LaidF.more {fl : Int} {i ln lf w : Nat} {ps : List Pipe} {p : Pipe} (L : LaidF fl i ps ln lf) (hw : w ≤ i) (pa : 0 ≤ p.a ∧ p.a < 1 + (i : Int)) (pb : p.b = 1 + (i : Int)) (pok : p.Ok) (pn : p.nar.length ≤ ln) (pf : p.fl.length ≤ lf) :
    LaidF fl (i + 1) (ps.take w ++ [p] ++ ps.drop w) (ln - p.nar.length) (lf - p.fl.length) := by
  have hmem : ∀ q ∈ ps.take w ++ [p] ++ ps.drop w, q = p ∨ q ∈ ps := fun q hq => by
    rcases List.mem_append.mp hq with hq | hq
    · rcases List.mem_append.mp hq with hq | hq
      · exact .inr (List.mem_of_mem_take hq)
      · simp at hq; exact .inl hq
    · exact .inr (List.mem_of_mem_drop hq)
  have hl := L.len
  refine ⟨by simp; omega, ?_, fun q hq => ?_, fun q hq => ?_, ?_, ?_⟩
  · have ht' : Tree (upTo (i + 1)) (ps.take w ++ ps.drop w) := by rw [List.take_append_drop]; exact L.tree
    have := Tree.grow (p := p) (x := ((i + 1 : Nat) : Int)) (y := p.a) ht' (mem_upTo.mpr ⟨pa.1, by omega⟩) (fun z => by have := (mem_upTo.mp z).2; omega) (.inl ⟨rfl, by omega⟩) (by omega)
    rw [upTo_succ, List.append_assoc]
    exact this
  · rcases hmem q hq with rfl | hq
    · exact pok
    · exact L.ok q hq
  · rcases hmem q hq with rfl | hq
    · omega
    · have := L.rng q hq; omega
  · have := L.nar
    rw [sum_ins, List.take_append_drop]; omega
  · have := L.fla
    rw [sum_ins, List.take_append_drop]; omega
end K12

/-! S27: a far pipe laid. -/
namespace K12
open PySem L2 RW
noncomputable def layF : MS := sSeq (sSet 6 (mBin addD (mC (.int 1)) (mB m_law_far (mCons (mVar 0) (mCons (mBin powD (mC (.int 10)) (mC (.int 12))) (mNil))))))
    (sSeq (sSet 7 (mComp (iRange1 (mCons (mBin mulD (mB m_law_take (mCons (mVar 0) (mCons (mC (.int 3)) (mNil)))) (mB intL (mCons (mBin (cmpI fun i j => decide (j < i)) (mVar 6) (mC (.int 1))) (mNil)))) (mNil))) (gN 11) (mYes) (mBin addD (mC (.int 1)) (mB m_law_far (mCons (mVar 0) (mCons (mB max2L (mCons (mC (.int 1)) (mCons (mBin subD (mVar 6) (mC (.int 1))) (mNil)))) (mNil))))) [11]))
    (sSeq (sSet 8 (mSlc (mComp (iSeq (mB sortedA (mCons (mB setL (mCons (mVar 7) (mNil))) (mNil)))) (gN 12) (mYes) (mTup (mCons (mVar 12) (mCons (mBin addD (mC (.int 1)) (mB m_law_take (mCons (mVar 0) (mCons (mC (.int 3)) (mNil))))) (mNil)))) [12]) oNone (oSome (mBin idxA (mVar 4) (mC (.int 0))))))
    (sSeq (sSet 7 (mSlc (mComp (iRange1 (mCons (mB m_law_take (mCons (mVar 0) (mCons (mC (.int 2)) (mNil)))) (mNil))) (gN 11) (mYes) (mB m_law_far (mCons (mVar 0) (mCons (mVar 6) (mNil)))) [11]) oNone (oSome (mBin idxA (mVar 4) (mC (.int 1))))))
    (sSeq (sSet 9 (mComp (iSeq (mVar 7)) (gN 12) (mYes) (mTup (mCons (mVar 12) (mCons (mBin idxA (mLst (mCons (mC (.int 1)) (mCons (mUn negD (mC (.int 1))) (mNil)))) (mB m_law_take (mCons (mVar 0) (mCons (mC (.int 2)) (mNil))))) (mNil)))) [12]))
    (sSeq (sSet 4 (mLst (mCons (mBin subD (mBin idxA (mVar 4) (mC (.int 0))) (mB lenL (mCons (mVar 8) (mNil)))) (mCons (mBin subD (mBin idxA (mVar 4) (mC (.int 1))) (mB lenL (mCons (mVar 9) (mNil)))) (mNil)))))
    (sSeq (sSet 10 (mTup (mCons (mB m_law_take (mCons (mVar 0) (mCons (mVar 5) (mNil)))) (mCons (mVar 5) (mCons (mVar 6) (mCons (mB tupleL (mCons (mVar 8) (mNil))) (mCons (mB tupleL (mCons (mVar 9) (mNil))) (mNil))))))))
    (sExpr (mMt isLst insertM (mVar 3) (mCons (mB m_law_take (mCons (mVar 0) (mCons (mBin addD (mB lenL (mCons (mVar 3) (mNil))) (mC (.int 1))) (mNil)))) (mCons (mVar 10) (mNil)))))))))))
theorem far_house_eq : b_law_far_house = sSeq (sSet 2 (mBin addD (mC (.int 2)) (mB m_law_take (mCons (mVar 0) (mCons (mC (.int 15)) (mNil))))))
    (sSeq (sSet 3 (mLst (mNil)))
    (sSeq (sSet 4 (mLst (mCons (mC (.int 12)) (mCons (mVar 1) (mNil)))))
    (sSeq (sFor (iRange2 (mCons (mC (.int 1)) (mCons (mVar 2) (mNil)))) (gN 5) layF)
    (sRet (mTup (mCons (mVar 2) (mCons (mB tupleL (mCons (mVar 3) (mNil))) (mNil)))))))) := rfl
section
variable {μ : Mem} {k c N : Nat} {pp q : Nat} {r L : Int} {v1 v2 o7 o8 o9 o10 : Option D}
/-- the last steps: the pipe made and put in -/
theorem put_part {i ln lf m9 m8 : Nat} {fl : Int} {xs hs : List (Int × Int)} {ps : List Pipe} (h : Stm μ k c N) (hN : N + 10 < 1000000) (hi : i < 1000) (h1 : 1 ≤ L) (h2 : L ≤ 1000000000000) (La : LaidF fl i ps ln lf)
    (ep : μ[pp]? = some (.lst (ps.map Pipe.d))) (a3 : pp ≠ k) (a4 : pp ≠ c) (eq : μ[q]? = some (.lst [.int ln, .int lf])) (e8 : μ[m8]? = some (.lst (xs.map pairD))) (e9 : μ[m9]? = some (.lst (hs.map pairD))) (n8 : m8 ≠ k) (n9 : m9 ≠ k)
    (x1 : xs.length ≤ ln) (x2 : (xs.map (·.1)).Pairwise (· < ·)) (x3 : ∀ x ∈ xs, 1 ≤ x.1 ∧ x.1 ≤ L - 1 ∧ 1 ≤ x.2 ∧ x.2 ≤ 3) (y1 : hs.length ≤ lf) (y2 : (hs.map (·.1)).Pairwise (· < ·)) (y3 : ∀ x ∈ hs, 0 ≤ x.1 ∧ x.1 ≤ L - 1 ∧ (x.2 = 1 ∨ x.2 = -1)) :
    ∃ (b10 : Option D) (q' : Nat) (ps' : List Pipe) (ln' lf' : Nat) (μ' : Mem), (sSeq (sSet 4 (mLst (mCons (mBin subD (mBin idxA (mVar 4) (mC (.int 0))) (mB lenL (mCons (mVar 8) (mNil)))) (mCons (mBin subD (mBin idxA (mVar 4) (mC (.int 1))) (mB lenL (mCons (mVar 9) (mNil)))) (mNil)))))
    (sSeq (sSet 10 (mTup (mCons (mB m_law_take (mCons (mVar 0) (mCons (mVar 5) (mNil)))) (mCons (mVar 5) (mCons (mVar 6) (mCons (mB tupleL (mCons (mVar 8) (mNil))) (mCons (mB tupleL (mCons (mVar 9) (mNil))) (mNil))))))))
    (sExpr (mMt isLst insertM (mVar 3) (mCons (mB m_law_take (mCons (mVar 0) (mCons (mBin addD (mB lenL (mCons (mVar 3) (mNil))) (mC (.int 1))) (mNil)))) (mCons (mVar 10) (mNil))))))) (rhoF k pp q (1 + (i : Int)) L v1 v2 o7 (some (.ref m8)) (some (.ref m9)) o10) μ =
      .ok (.nx (rhoF k pp q' (1 + (i : Int)) L v1 v2 o7 (some (.ref m8)) (some (.ref m9)) b10)) μ' ∧ LaidF fl (i + 1) ps' ln' lf' ∧
      μ'[pp]? = some (.lst (ps'.map Pipe.d)) ∧ μ'[q']? = some (.lst [.int ln', .int lf']) ∧ μ.length ≤ q' ∧ Stm μ' k c (N + 2) ∧ Keep [k, pp] μ μ' := by
  have l0 := h.lt
  have lp := at_lt ep
  let μ4 : Mem := μ ++ [.lst [.int ((ln - xs.length : Nat) : Int), .int ((lf - hs.length : Nat) : Int)]]
  have s4 : Stm μ4 k c N := h.app
  obtain ⟨y, μ5, q5, y0, y1', s5, k5⟩ := take_spec (j := 1 + (i : Int)) s4 (by omega) (by omega) (by omega)
  let p : Pipe := ⟨y, 1 + (i : Int), L, xs, hs⟩
  have hp : p.Ok := ⟨h1, h2, x2, fun z hz => ⟨(x3 z hz).1, (x3 z hz).2.1, (x3 z hz).2.2.1, by have := (x3 z hz).2.2.2; omega⟩, y2, y3⟩
  have hpl := La.len
  obtain ⟨w, μ7, q7, w0, w1, s7, k7⟩ := take_spec (j := (ps.length : Int) + 1) s5 (by omega) (by omega) (by omega)
  have kB : Keep [k] μ μ5 := Keep.trans Keep.app k5
  have e8' : μ5[m8]? = some (.lst (xs.map pairD)) := kB.get e8 (by simp [n8])
  have e9' : μ5[m9]? = some (.lst (hs.map pairD)) := kB.get e9 (by simp [n9])
  have ep5 : μ5[pp]? = some (.lst (ps.map Pipe.d)) := kB.get ep (by simp [a3])
  have ep7 : μ7[pp]? = some (.lst (ps.map Pipe.d)) := k7.get ep5 (by simp [a3])
  have eq4 : μ4[μ.length]? = some (.lst [.int ((ln - xs.length : Nat) : Int), .int ((lf - hs.length : Nat) : Int)]) := app_new
  have eq7 : μ7[μ.length]? = some (.lst [.int ((ln - xs.length : Nat) : Int), .int ((lf - hs.length : Nat) : Int)]) := (k5.trans k7).get eq4 (by simp; omega)
  have hpd : (ps.map Pipe.d).take w.toNat ++ [p.d] ++ (ps.map Pipe.d).drop w.toNat = (ps.take w.toNat ++ [p] ++ ps.drop w.toNat).map Pipe.d := by simp [List.map_take, List.map_drop]
  let μ8 : Mem := μ7.set pp (.lst ((ps.take w.toNat ++ [p] ++ ps.drop w.toNat).map Pipe.d))
  have LL := La.more (w := w.toNat) (p := p) (by omega) ⟨y0, y1'⟩ rfl hp x1 y1
  refine ⟨some p.d, μ.length, ps.take w.toNat ++ [p] ++ ps.drop w.toNat, ln - xs.length, lf - hs.length, μ8, ?_, LL, set_at (at_lt ep7), ?_, Nat.le_refl _, ?_, ?_⟩
  · have l8 : lenL [.ref m8] μ = .ok (.int xs.length) μ := by simp only [lenL, e8, List.length_map]
    have l9 : lenL [.ref m9] μ = .ok (.int hs.length) μ := by simp only [lenL, e9, List.length_map]
    have i0 : idxA (.ref q) (.int 0) μ = .ok (.int ln) μ := ix_lst eq (by decide) rfl
    have i1 : idxA (.ref q) (.int 1) μ = .ok (.int lf) μ := ix_lst eq (by decide) rfl
    have z0 : (ln : Int) - (xs.length : Int) = ((ln - xs.length : Nat) : Int) := by omega
    have z1 : (lf : Int) - (hs.length : Int) = ((lf - hs.length : Nat) : Int) := by omega
    refine (seq_set (d := .ref μ.length) (μ1 := μ4) ?_).trans ?_
    · simp only [mLst, mBin, mB, mCons, mNil, mVar, mC, rhoF, List.getElem?_cons_succ, List.getElem?_cons_zero, Res.bind, i0, i1, l8, l9, subD, z0, z1]
      rfl
    refine (seq_set (d := p.d) (μ1 := μ5) ?_).trans ?_
    · have t8 : tupleL [.ref m8] μ5 = .ok (.tup (xs.map pairD)) μ5 := by simp only [tupleL, e8']
      have t9 : tupleL [.ref m9] μ5 = .ok (.tup (hs.map pairD)) μ5 := by simp only [tupleL, e9']
      simp only [mTup, mB, mCons, mNil, mVar, mC, rhoF, List.set_cons_succ, List.set_cons_zero, List.getElem?_cons_succ, List.getElem?_cons_zero, Res.bind, q5, t8, t9]
      rfl
    · have ls : lenL [.ref pp] μ5 = .ok (.int ps.length) μ5 := by simp only [lenL, ep5, List.length_map]
      have isl : isLst (.ref pp) μ5 = true := by simp only [isLst, ep5]
      have ins := ins_ok (y := p.d) ep7 w0 (by omega) (by rw [List.length_map]; omega)
      simp only [sExpr, mMt, mVar, mB, mCons, mNil, mC, mBin, rhoF, List.set_cons_succ, List.set_cons_zero, List.getElem?_cons_succ, List.getElem?_cons_zero, Res.bind, isl, if_true, ls, add_ok, q7, ins]
      rw [hpd]
      rfl
  · exact (set_ne' (by omega)).trans eq7
  · exact (s7.keep (ex := [pp]) (Keep.set (by simp)) (by simp [Ne.symm a3]) (by simp [Ne.symm a4])).mono (by omega)
  · have m1 : ∀ {μ μ' : Mem}, Keep [k] μ μ' → Keep [k, pp] μ μ' := fun q => q.mono fun i hi => .inl (by simp at hi ⊢; omega)
    exact ((m1 kB).trans (m1 k7)).trans (Keep.set (by simp))
theorem lay_stepF {i ln lf : Nat} {fl : Int} {o6 o11 o12 : Option D} {ps : List Pipe} (h : Stm μ k c N) (hN : N + 50 < 1000000) (hi : i < 1000) (La : LaidF fl i ps ln lf)
    (ep : μ[pp]? = some (.lst (ps.map Pipe.d))) (a3 : pp ≠ k) (a4 : pp ≠ c) (eq : μ[q]? = some (.lst [.int ln, .int lf])) (b1 : q ≠ k) :
    ∃ (b6 b7 b8 b9 b10 : Option D) (q' : Nat) (ps' : List Pipe) (ln' lf' : Nat) (μ' : Mem), layF [some (.ref k), v1, v2, some (.ref pp), some (.ref q), some (.int (1 + (i : Int))), o6, o7, o8, o9, o10, none, none] μ =
      .ok (.nx [some (.ref k), v1, v2, some (.ref pp), some (.ref q'), some (.int (1 + (i : Int))), b6, b7, b8, b9, b10, none, none]) μ' ∧ LaidF fl (i + 1) ps' ln' lf' ∧
      μ'[pp]? = some (.lst (ps'.map Pipe.d)) ∧ μ'[q']? = some (.lst [.int ln', .int lf']) ∧ μ.length ≤ q' ∧ Stm μ' k c (N + 50) ∧ Keep [k, pp] μ μ' := by
  obtain ⟨x, μ1, q1, x0, x1, s1, k1⟩ := far_spec (M := 1000000000000) h (by omega) (by decide) (by decide)
  have h1 : 1 ≤ 1 + x := by omega
  have h2 : 1 + x ≤ 1000000000000 := by omega
  generalize hL : 1 + x = L at h1 h2
  have l0 := h.lt
  have lp := at_lt ep
  have lq := at_lt eq
  obtain ⟨ns, n, μ2, q2, en, nl, nr, s2, k2, ln2⟩ := ats_part (pp := pp) (q := q) (r := 1 + (i : Int)) (v1 := v1) (v2 := v2) (o7 := o7) (o8 := o8) (o9 := o9) (o10 := o10) s1 (by omega) h1 h2
  have k12 := k1.trans k2
  have z1 := k1.1
  obtain ⟨xs, m8, μ3, q3, e8, x8, w8, r8, s3, k3, l8⟩ := nar_part (pp := pp) (r := 1 + (i : Int)) (v1 := v1) (v2 := v2) (o8 := o8) (o9 := o9) (o10 := o10) s2 (by omega) en (by omega) nl nr (k12.get eq (by simp [b1])) b1
  have k13 := k12.trans k3
  have z2 := k12.1
  have z3 := k13.1
  obtain ⟨fs, n7, μ4, q4, e7, f1, f2, f3, s4, k4, l7⟩ := flat_part (L := L) (pp := pp) (r := 1 + (i : Int)) (v1 := v1) (v2 := v2) (o7 := some (.ref n)) (o8 := some (.ref m8)) (o9 := o9) (o10 := o10) s3 (by omega) h1 h2 (k13.get eq (by simp [b1])) b1
  have k14 := k13.trans k4
  have z4 := k14.1
  obtain ⟨hs, m9, μ5, q5, e9, g1, g2, s5, k5, l9⟩ := hung_part (L := L) (pp := pp) (q := q) (r := 1 + (i : Int)) (v1 := v1) (v2 := v2) (o8 := some (.ref m8)) (o9 := o9) (o10 := o10) s4 (by omega) e7 (by omega) f2
  have k15 := k14.trans k5
  have hsl : hs.length = fs.length := by rw [← g1, List.length_map]
  obtain ⟨b10, q', ps', ln', lf', μ6, q6, La', ep6, eq6, lq6, s6, k6⟩ := put_part (v1 := v1) (v2 := v2) (o7 := some (.ref n7)) (o10 := o10) s5 (by omega) hi h1 h2 La (k15.get ep (by simp [a3])) a3 a4 (k15.get eq (by simp [b1])) ((k4.trans k5).get e8 (by simp; omega)) e9 (by omega) (by omega) x8 w8 r8 (by omega)
    (by
      rw [g1]
      match fs, f2 with
      | [], _ => exact .nil
      | [a], _ => exact List.pairwise_singleton _ _)
    (fun z hz => by
      have : z.1 ∈ fs := by rw [← g1]; exact List.mem_map_of_mem hz
      have := f3 _ this
      exact ⟨this.1, this.2, g2 z hz⟩)
  refine ⟨some (.int L), some (.ref n7), some (.ref m8), some (.ref m9), b10, q', ps', ln', lf', μ6, ?_, La', ep6, eq6, by have := k15.1; omega, s6.mono (by omega), (k15.mono fun i hi => .inl (by simp at hi ⊢; omega)).trans k6⟩
  unfold layF
  refine (seq_set (d := .int L) (μ1 := μ1) ?_).trans ?_
  · have pw : powD (.int 10) (.int 12) μ = .ok (.int 1000000000000) μ := by rfl
    simp only [mBin, mB, mCons, mNil, mC, mVar, List.getElem?_cons_zero, Res.bind, pw, q1, add_ok, hL]
  refine (seq_set q2).trans ?_
  refine (seq_set q3).trans ?_
  refine (seq_set q4).trans ?_
  refine (seq_set q5).trans ?_
  exact q6
end
end K12

/-! S28: far houses. -/
namespace K12
open PySem L2 RW
theorem far_house_spec {μ : Mem} {k c N : Nat} {fl : Int} (h : Stm μ k c N) (hN : N + 1000 < 1000000) (g0 : 0 ≤ fl) (g1 : fl ≤ 6) :
    ∃ (R : Nat) (ps : List Pipe) (μ' : Mem), m_law_far_house [.ref k, .int fl] μ = .ok (houseD R ps) μ' ∧ House R ps ∧ 2 ≤ R ∧ Stm μ' k c (N + 1000) ∧ Keep [k] μ μ' := by
  obtain ⟨x, μ1, q1, x0, x1, s1, k1⟩ := take_spec (j := 15) h (by omega) (by omega) (by omega)
  obtain ⟨R, hR⟩ : ∃ R : Nat, 2 + x = (R : Int) := ⟨(2 + x).toNat, by omega⟩
  obtain ⟨fn, rfl⟩ : ∃ fn : Nat, fl = (fn : Int) := ⟨fl.toNat, by omega⟩
  have l0 := h.lt
  have l1 := s1.lt
  have z1 := k1.1
  let L : List D := [.int 12, .int fn]
  let μ2 : Mem := (μ1 ++ [Cell.lst []]) ++ [.lst L]
  have s2 : Stm μ2 k c (N + 1) := (s1.app).app
  let ρ (q : Nat) (b5 b6 b7 b8 b9 b10 : Option D) : Rho := [some (.ref k), some (.int fn), some (.int R), some (.ref μ1.length), some (.ref q), b5, b6, b7, b8, b9, b10, none, none]
  have loop := forL_ok (chk := fun _ => True) (g := gN 5) (body := layF) (rangeItems 1 (R - 1))
    (fun i ρ' μ' => i ≤ R - 1 ∧ ∃ (q : Nat) (b5 b6 b7 b8 b9 b10 : Option D) (ps : List Pipe) (ln lf : Nat), ρ' = ρ q b5 b6 b7 b8 b9 b10 ∧ LaidF (fn : Int) i ps ln lf ∧ μ'[μ1.length]? = some (.lst (ps.map Pipe.d)) ∧ μ'[q]? = some (.lst [.int ln, .int lf]) ∧ μ1.length < q ∧ Stm μ' k c (N + 1 + 50 * i) ∧ Keep [k, μ1.length] μ2 μ') 0
    (ρ := ρ (μ1 ++ [Cell.lst []]).length none none none none none none) (μ := μ2) ⟨Nat.zero_le _, _, none, none, none, none, none, none, [], 12, fn, rfl, ⟨rfl, .one 0, by simp, by simp, by simp, by simp⟩, app_at app_new, app_new, by simp, s2, .refl⟩ (fun _ _ _ _ => trivial)
    (fun i d ρ' μ' ed ⟨hi, q, b5, b6, b7, b8, b9, b10, ps, ln, lf, eρ, La, ep, eq, hq, hs, hk⟩ => by
      simp only [Nat.zero_add] at hi La hs ⊢
      obtain ⟨hi2, rfl⟩ := Q.range_at ed
      subst eρ
      have hl := hk.1
      have hl2 : μ2.length = μ1.length + 2 := by simp [μ2]
      obtain ⟨c6, c7, c8, c9, c10, q', ps', ln', lf', μ3, qq, La', ep', eq', hq', s', k'⟩ := lay_stepF (v1 := some (.int fn)) (v2 := some (.int R)) (o6 := b6) (o7 := b7) (o8 := b8) (o9 := b9) (o10 := b10) (o11 := none) (o12 := none) hs (by omega) (by omega) La ep (by omega) (by omega) eq (by omega)
      exact .mk (μ := μ') rfl (.mk qq ⟨_, .inl rfl, by omega, q', some (.int (1 + (i : Int))), c6, c7, c8, c9, c10, ps', ln', lf', rfl, La', ep', eq', by omega, s'.mono (by omega), hk.trans k'⟩))
  rw [Q.range_len, Nat.zero_add] at loop
  obtain ⟨f, μ3, w, ρ2, rfl, _, q, b5, b6, b7, b8, b9, b10, ps, ln, lf, rfl, La, ep, eq, hq, s3, k3⟩ := loop
  have ht := La.tree
  rw [show R - 1 + 1 = R by omega] at ht
  have n0 := La.nar
  have f0 := La.fla
  have hl := La.len
  refine ⟨R, ps, μ3, run_is ?_, ⟨by omega, by omega, ⟨upTo R, .refl _, ht⟩, by omega, La.ok, fun p hp => ?_, by omega, by omega⟩, by omega, s3.mono (by omega), ?_⟩
  · rw [far_house_eq]
    refine (seq_set (d := .int R) (μ1 := μ1) (by simp [startR, q1, add_ok, hR])).trans ?_
    refine (seq_set (d := .ref μ1.length) (μ1 := μ1 ++ [.lst []]) (by simp)).trans ?_
    refine (seq_set (d := .ref (μ1 ++ [Cell.lst []]).length) (μ1 := μ2) (by simp [startR, μ2, L])).trans ?_
    refine (seq_run (for_run (ir2 (m := 1) (n := R) (e := mC (.int 1)) (f := mVar 2) rfl rfl (by omega) (by omega)) w)).trans ?_
    refine ret_is ?_
    simp [tupleL, ep, houseD, ρ]
  · have := La.rng p hp; omega
  · exact (((k1.trans Keep.app).trans Keep.app).mono (ex' := [k, μ1.length]) fun i hi => .inl (by simp at hi ⊢; omega)).trans k3 |>.mono fun i hi => by
      have := k1.1
      simp at hi ⊢; omega
end K12

/-! S29: a table of pairs of rooms, how it grows. -/
namespace K12
open PySem L2 RW
theorem dGet_cong {k k' : D} (h : k.nk? = k'.nk?) : ∀ {l : List (D × D)}, dGet l k = dGet l k'
  | [] => rfl
  | (a, d) :: r => by
    simp only [dGet]
    rw [h, dGet_cong h]
theorem dGet_snoc {k k' v : D} : ∀ {l : List (D × D)}, dGet l k' = none → dGet (l ++ [(k, v)]) k' = if k.nk? = k'.nk? then some v else none
  | [], _ => by simp [dGet]
  | (a, d) :: r, h => by
    simp only [dGet] at h
    by_cases e : a.nk? = k'.nk?
    · rw [if_pos e] at h; cases h
    · rw [if_neg e] at h
      show (if a.nk? = k'.nk? then some d else dGet (r ++ [(k, v)]) k') = _
      rw [if_neg e]
      exact dGet_snoc h
theorem dGet_old {k k' v d : D} : ∀ {l : List (D × D)}, dGet l k' = some d → dGet (l ++ [(k, v)]) k' = some d
  | [], h => by cases h
  | (a, d') :: r, h => by
    simp only [dGet] at h
    show (if a.nk? = k'.nk? then some d' else dGet (r ++ [(k, v)]) k') = _
    by_cases e : a.nk? = k'.nk?
    · rw [if_pos e] at h ⊢; exact h
    · rw [if_neg e] at h ⊢; exact dGet_old h
theorem pair_nk {z : Int × Int} : (pairD z).nk? = some (.tup [.num z.1, .num z.2]) := rfl
theorem pair_inj {z w : Int × Int} : (pairD z).nk? = (pairD w).nk? ↔ z = w := by
  rw [pair_nk, pair_nk]
  cases z; cases w; simp
theorem pair_T (z : Int × Int) : RW.isT (pairD z) = true := rfl
/-- the table at F: what is known -/
def Tab (μ : Mem) (F : Nat) (g : Int → Int → Int) (K : Int → Int → Bool) (n : Nat) : Prop := ∃ l, μ[F]? = some (.tdic l) ∧ l.length ≤ n ∧ ∀ x y : Int, dGet l (pairD (x, y)) = if K x y = true then some (.int (g x y)) else none
section
variable {μ : Mem} {F n : Nat} {g : Int → Int → Int} {K : Int → Int → Bool} {x y : Int}
theorem Tab.inn (h : Tab μ F g K n) : inDD (pairD (x, y)) (.ref F) μ = .ok (.bl (K x y)) μ := by
  obtain ⟨l, e, _, q⟩ := h
  have : dictAt (.ref F) (pairD (x, y)) μ = some (dGet l (pairD (x, y))) := by simp only [dictAt, e, if_pos (pair_T (x, y))]
  simp only [inDD, this, q]
  cases K x y <;> rfl
theorem Tab.notInn (h : Tab μ F g K n) : notInDD (pairD (x, y)) (.ref F) μ = .ok (.bl (!K x y)) μ := by
  obtain ⟨l, e, _, q⟩ := h
  have : dictAt (.ref F) (pairD (x, y)) μ = some (dGet l (pairD (x, y))) := by simp only [dictAt, e, if_pos (pair_T (x, y))]
  simp only [notInDD, this, q]
  cases K x y <;> rfl
theorem Tab.ix (h : Tab μ F g K n) (hk : K x y = true) : idxA (.ref F) (pairD (x, y)) μ = .ok (.int (g x y)) μ := by
  obtain ⟨l, e, _, q⟩ := h
  have : dictAt (.ref F) (pairD (x, y)) μ = some (dGet l (pairD (x, y))) := by simp only [dictAt, e, if_pos (pair_T (x, y))]
  simp only [idxA, e, idxDD, this, q, if_pos hk]
theorem Tab.put (h : Tab μ F g K n) (hn : n < 100000) (hk : K x y = false) : ∃ μ', setDD (.ref F) (pairD (x, y)) (.int (g x y)) μ = .ok () μ' ∧ Tab μ' F g (fun u v => K u v || decide (u = x) && decide (v = y)) (n + 1) ∧ Keep [F] μ μ' := by
  obtain ⟨l, e, hl, q⟩ := h
  have q0 := q x y
  rw [if_neg (by rw [hk]; decide)] at q0
  have hput : dPut l (pairD (x, y)) (.int (g x y)) = l ++ [(pairD (x, y), .int (g x y))] := by unfold dPut dHas; rw [q0]; rfl
  have hz : l.length < sizeLine := by rw [sizeLine_eq]; omega
  refine ⟨μ.set F (.tdic (l ++ [(pairD (x, y), .int (g x y))])), by rw [← hput]; simp only [setDD, e, if_pos (And.intro (pair_T (x, y)) hz)], ⟨_, set_at (at_lt e), by simp; omega, fun u v => ?_⟩, Keep.set (by simp)⟩
  have q1 := q u v
  cases hu : K u v with
  | true =>
    rw [if_pos hu] at q1
    rw [dGet_old q1]; simp [hu]
  | false =>
    rw [if_neg (by rw [hu]; decide)] at q1
    rw [dGet_snoc q1]
    by_cases he : u = x ∧ v = y
    · obtain ⟨rfl, rfl⟩ := he
      rw [if_pos rfl]; simp [hu]
    · rw [if_neg (fun z => he (by have := pair_inj.mp z; simp at this; exact ⟨this.1.symm, this.2.symm⟩))]
      have hf : (K u v || decide (u = x) && decide (v = y)) = false := by
        rw [hu, Bool.false_or]
        exact Bool.eq_false_iff.mpr fun z => he (by simpa using z)
      show none = if (K u v || decide (u = x) && decide (v = y)) = true then some (D.int (g u v)) else none
      rw [hf]; rfl
theorem Tab.keep {μ' : Mem} {ex : List Nat} (h : Tab μ F g K n) (k : Keep ex μ μ') (hF : F ∉ ex) : Tab μ' F g K n := by
  obtain ⟨l, e, q⟩ := h
  exact ⟨l, k.get e hF, q⟩
theorem Tab.eqv {K' : Int → Int → Bool} {m : Nat} (h : Tab μ F g K n) (e : ∀ x y, K x y = K' x y) (hm : n ≤ m) : Tab μ F g K' m := by
  obtain ⟨l, e1, e2, q⟩ := h
  exact ⟨l, e1, by omega, fun x y => by rw [← e]; exact q x y⟩
end
/-! ### what is known is closed to what is nearer -/
structure Clo (g : Int → Int → Int) (S : List Int) (ps : List Pipe) (K : Int → Int → Bool) : Prop where
  fwd : ∀ r ∈ S, ∀ p ∈ ps, K r p.a = true → g r p.b + p.len = g r p.a → K r p.b = true
  bwd : ∀ r ∈ S, ∀ p ∈ ps, K r p.b = true → g r p.a + p.len = g r p.b → K r p.a = true
def addK (K : Int → Int → Bool) (r : Int) (p : Pipe) : Int → Int → Bool := fun x y => K x y || (decide (x = r) && (decide (y = p.a) || decide (y = p.b)) && (K r p.a || K r p.b))
section
variable {g : Int → Int → Int} {S : List Int} {ps : List Pipe} {K : Int → Int → Bool} {r : Int} {p : Pipe}
theorem addK_iff {x y : Int} : addK K r p x y = true ↔ K x y = true ∨ (x = r ∧ (y = p.a ∨ y = p.b) ∧ (K r p.a = true ∨ K r p.b = true)) := by
  simp [addK, and_assoc]
theorem Clo.toB (C : Clo g S ps K) (M : Metric g S ps) (hr : r ∈ S) (hp : p ∈ ps) (ha : K r p.a = true) (hb : ¬ K r p.b = true) : g r p.b = g r p.a + p.len := by
  rcases M.mp r hr p hp with h | h
  · exact h
  · exact absurd (C.fwd r hr p hp ha h.symm) hb
theorem Clo.toA (C : Clo g S ps K) (M : Metric g S ps) (hr : r ∈ S) (hp : p ∈ ps) (ha : K r p.b = true) (hb : ¬ K r p.a = true) : g r p.a = g r p.b + p.len := by
  rcases M.mp r hr p hp with h | h
  · exact absurd (C.bwd r hr p hp ha h.symm) hb
  · exact h
theorem Clo.add (C : Clo g S ps K) (M : Metric g S ps) (hr : r ∈ S) (hp : p ∈ ps) : Clo g S ps (addK K r p) := by
  have key : ∀ (q : Pipe) (s : Int), q ∈ ps → s ∈ S → Cls' g r s q → ¬ K r s = true → (s = p.a ∨ s = p.b) → (K r p.a = true ∨ K r p.b = true) → q = p := fun q s hq hs c hn hsp hk => by
    refine M.mu r hr s hs q hq p hp c ?_
    rcases hsp with rfl | rfl
    · have hb : K r p.b = true := hk.elim (fun z => absurd z hn) id
      exact .inl ⟨rfl, (C.toA M hr hp hb hn).symm⟩
    · have ha : K r p.a = true := hk.elim id (fun z => absurd z hn)
      exact .inr ⟨rfl, (C.toB M hr hp ha hn).symm⟩
  refine ⟨fun r' hr' q hq h e => ?_, fun r' hr' q hq h e => ?_⟩
  · rw [addK_iff] at h ⊢
    by_cases hk : K r' q.a = true
    · exact .inl (C.fwd r' hr' q hq hk e)
    · obtain ⟨rfl, h1, h2⟩ := h.resolve_left hk
      have := key q q.a hq (M.ends q hq).1 (.inl ⟨rfl, e⟩) hk h1 h2
      subst this
      exact .inr ⟨rfl, .inr rfl, h2⟩
  · rw [addK_iff] at h ⊢
    by_cases hk : K r' q.b = true
    · exact .inl (C.bwd r' hr' q hq hk e)
    · obtain ⟨rfl, h1, h2⟩ := h.resolve_left hk
      have := key q q.b hq (M.ends q hq).2.1 (.inr ⟨rfl, e⟩) hk h1 h2
      subst this
      exact .inr ⟨rfl, .inl rfl, h2⟩
/-! ### how soon all is known -/
def rk (g : Int → Int → Int) (S : List Int) (r s : Int) : Nat := S.countP fun u => decide (g r u < g r s)
theorem cnt_lt {p q : Int → Bool} {u : Int} : ∀ {l : List Int}, (∀ x ∈ l, p x = true → q x = true) → u ∈ l → q u = true → p u = false → l.countP p < l.countP q
  | [], _, h, _, _ => by simp at h
  | a :: l, h, hu, h1, h2 => by
    have mono : l.countP p ≤ l.countP q := List.countP_mono_left fun x hx => h x (List.mem_cons_of_mem _ hx)
    rw [List.countP_cons, List.countP_cons]
    rcases List.mem_cons.mp hu with rfl | hu
    · rw [if_neg (by rw [h2]; decide), if_pos h1]; omega
    · have ih := cnt_lt (fun x hx => h x (List.mem_cons_of_mem _ hx)) hu h1 h2
      by_cases ha : p a = true
      · rw [if_pos ha, if_pos (h a (by simp) ha)]; omega
      · rw [if_neg ha]; omega
theorem rk_lt {r s : Int} (hs : s ∈ S) : rk g S r s < S.length := by
  have : rk g S r s < S.countP fun _ => true := cnt_lt (u := s) (fun _ _ _ => rfl) hs rfl (by simp)
  simpa using this
theorem rk_next {K' : Int → Int → Bool} {t : Nat} (M : Metric g S ps) (hok : ∀ p ∈ ps, 1 ≤ p.len) (h0 : ∀ r ∈ S, K r r = true) (h : ∀ r ∈ S, ∀ s ∈ S, rk g S r s ≤ t → K r s = true) (mono : ∀ x y, K x y = true → K' x y = true)
    (st : ∀ r ∈ S, ∀ p ∈ ps, K r p.a = true ∨ K r p.b = true → K' r p.a = true ∧ K' r p.b = true) : ∀ r ∈ S, ∀ s ∈ S, rk g S r s ≤ t + 1 → K' r s = true := fun r hr s hs hk => by
  by_cases hrs : r = s
  · subst hrs; exact mono _ _ (h0 r hr)
  · obtain ⟨p, hp, c⟩ := M.me r hr s hs hrs
    have lt : ∀ u ∈ S, g r u < g r s → rk g S r u ≤ t := fun u hu hlt => by
      have : rk g S r u < rk g S r s := cnt_lt (u := u) (fun x _ hx => by simp at hx ⊢; omega) hu (by simpa using hlt) (by simp)
      omega
    have l1 := hok p hp
    rcases c with ⟨rfl, e⟩ | ⟨rfl, e⟩
    · exact (st r hr p hp (.inr (h r hr p.b (M.ends p hp).2.1 (lt _ (M.ends p hp).2.1 (by omega))))).1
    · exact (st r hr p hp (.inl (h r hr p.a (M.ends p hp).1 (lt _ (M.ends p hp).1 (by omega))))).2
end
end K12

/-! S30: the walk that fills the table of rooms. -/
namespace K12
open PySem L2 RW
noncomputable def raB : MS := sSeq (sIf (mAnd (mTest (mBin inDD (mTup (mCons (mVar 2) (mCons (mVar 4) (mNil)))) (mVar 1))) (mTest (mBin notInDD (mTup (mCons (mVar 2) (mCons (mVar 5) (mNil)))) (mVar 1)))) (sAsg (mBin addD (mBin idxA (mVar 1) (mTup (mCons (mVar 2) (mCons (mVar 4) (mNil))))) (mVar 6)) (gSubM setDD (mVar 1) (mTup (mCons (mVar 2) (mCons (mVar 5) (mNil)))))) (sNil))
    (sIf (mAnd (mTest (mBin inDD (mTup (mCons (mVar 2) (mCons (mVar 5) (mNil)))) (mVar 1))) (mTest (mBin notInDD (mTup (mCons (mVar 2) (mCons (mVar 4) (mNil)))) (mVar 1)))) (sAsg (mBin addD (mBin idxA (mVar 1) (mTup (mCons (mVar 2) (mCons (mVar 5) (mNil))))) (mVar 6)) (gSubM setDD (mVar 1) (mTup (mCons (mVar 2) (mCons (mVar 4) (mNil)))))) (sNil))
noncomputable def raR : MS := sFor (iRange1 (mCons (mBin idxA (mVar 0) (mC (.int 0))) (mNil))) (gN 2) raB
noncomputable def raP : MS := sFor (iSeq (mBin idxA (mVar 0) (mC (.int 1)))) (gTupM 5 (gConsM (gN 4) (gConsM (gN 5) (gConsM (gN 6) (gConsM (gN 7) (gConsM (gN 8) (gNilM))))))) raR
theorem rooms_apart_eq : b_law_rooms_apart = sSeq (sSet 1 (mTdicNew))
    (sSeq (sFor (iRange1 (mCons (mBin idxA (mVar 0) (mC (.int 0))) (mNil))) (gN 2) (sAsg (mC (.int 0)) (gSubM setDD (mVar 1) (mTup (mCons (mVar 2) (mCons (mVar 2) (mNil)))))))
    (sSeq (sFor (iRange1 (mCons (mBin idxA (mVar 0) (mC (.int 0))) (mNil))) (gN 3) raP)
    (sRet (mVar 1)))) := rfl
section
variable {g : Int → Int → Int} {S : List Int} {ps : List Pipe} {K : Int → Int → Bool} {μ : Mem} {F n R : Nat} {r : Int} {p : Pipe}
theorem raB_spec {o0 o3 o7 o8 : Option D} (M : Metric g S ps) (C : Clo g S ps K) (T : Tab μ F g K n) (hn : n < 99999) (hr : r ∈ S) (hp : p ∈ ps) :
    ∃ μ', raB [o0, some (.ref F), some (.int r), o3, some (.int p.a), some (.int p.b), some (.int p.len), o7, o8] μ = .ok (.nx [o0, some (.ref F), some (.int r), o3, some (.int p.a), some (.int p.b), some (.int p.len), o7, o8]) μ' ∧ Tab μ' F g (addK K r p) (n + 1) ∧ Keep [F] μ μ' := by
  have ne : p.a ≠ p.b := by have := (M.ends p hp).2.2; omega
  have ia : ∀ {μ K n}, Tab μ F g K n → inDD (.tup [.int r, .int p.a]) (.ref F) μ = .ok (.bl (K r p.a)) μ := fun h => h.inn (x := r) (y := p.a)
  have ib : ∀ {μ K n}, Tab μ F g K n → inDD (.tup [.int r, .int p.b]) (.ref F) μ = .ok (.bl (K r p.b)) μ := fun h => h.inn (x := r) (y := p.b)
  have na : ∀ {μ K n}, Tab μ F g K n → notInDD (.tup [.int r, .int p.a]) (.ref F) μ = .ok (.bl (!K r p.a)) μ := fun h => h.notInn (x := r) (y := p.a)
  have nb : ∀ {μ K n}, Tab μ F g K n → notInDD (.tup [.int r, .int p.b]) (.ref F) μ = .ok (.bl (!K r p.b)) μ := fun h => h.notInn (x := r) (y := p.b)
  by_cases ha : K r p.a = true
  · by_cases hb : K r p.b = true
    · refine ⟨μ, (seq_skip (μ1 := μ) (by simp [ia T, nb T, ha, hb])).trans ((if_f (μ1 := μ) (by simp [ib T, na T, ha, hb])).trans rfl), T.eqv (fun x y => ?_) (by omega), .refl⟩
      cases h : K x y with
      | true => exact (addK_iff.mpr (.inl h)).symm
      | false =>
        refine (Bool.eq_false_iff.mpr fun z => ?_).symm
        rcases addK_iff.mp z with z | ⟨rfl, z | z, _⟩
        · rw [h] at z; cases z
        · subst z; rw [h] at ha; cases ha
        · subst z; rw [h] at hb; cases hb
    · have ev : g r p.b = g r p.a + p.len := C.toB M hr hp ha hb
      have hb' : K r p.b = false := Bool.eq_false_iff.mpr hb
      obtain ⟨μ1, q1, T1, k1⟩ := T.put (x := r) (y := p.b) (by omega) hb'
      have q1' : setDD (.ref F) (.tup [.int r, .int p.b]) (.int (g r p.a + p.len)) μ = .ok () μ1 := by rw [← ev]; exact q1
      have ix : idxA (.ref F) (.tup [.int r, .int p.a]) μ = .ok (.int (g r p.a)) μ := T.ix (x := r) (y := p.a) ha
      refine ⟨μ1, (seq_run (ρ' := [o0, some (.ref F), some (.int r), o3, some (.int p.a), some (.int p.b), some (.int p.len), o7, o8]) (μ' := μ1) ((if_t (μ1 := μ) (by simp [ia T, nb T, ha, hb'])).trans ?_)).trans ((if_f (μ1 := μ1) (by simp [ib T1, na T1, ha])).trans rfl), T1.eqv (fun x y => ?_) (Nat.le_refl _), k1⟩
      · simp [ix, add_ok, q1']
      · refine Bool.eq_iff_iff.mpr ?_
        rw [addK_iff]
        simp only [Bool.or_eq_true, Bool.and_eq_true, decide_eq_true_eq]
        constructor
        · rintro (h | ⟨rfl, rfl⟩)
          · exact .inl h
          · exact .inr ⟨rfl, .inr rfl, .inl ha⟩
        · rintro (h | ⟨rfl, rfl | rfl, _⟩)
          · exact .inl h
          · exact .inl ha
          · exact .inr ⟨rfl, rfl⟩
  · have ha' : K r p.a = false := Bool.eq_false_iff.mpr ha
    by_cases hb : K r p.b = true
    · have ev : g r p.a = g r p.b + p.len := C.toA M hr hp hb ha
      obtain ⟨μ1, q1, T1, k1⟩ := T.put (x := r) (y := p.a) (by omega) ha'
      have q1' : setDD (.ref F) (.tup [.int r, .int p.a]) (.int (g r p.b + p.len)) μ = .ok () μ1 := by rw [← ev]; exact q1
      have ix : idxA (.ref F) (.tup [.int r, .int p.b]) μ = .ok (.int (g r p.b)) μ := T.ix (x := r) (y := p.b) hb
      refine ⟨μ1, (seq_skip (μ1 := μ) (by simp [ia T, ha'])).trans ((if_t (μ1 := μ) (by simp [ib T, na T, ha', hb])).trans ?_), T1.eqv (fun x y => ?_) (Nat.le_refl _), k1⟩
      · simp [ix, add_ok, q1']
      · refine Bool.eq_iff_iff.mpr ?_
        rw [addK_iff]
        simp only [Bool.or_eq_true, Bool.and_eq_true, decide_eq_true_eq]
        constructor
        · rintro (h | ⟨rfl, rfl⟩)
          · exact .inl h
          · exact .inr ⟨rfl, .inl rfl, .inr hb⟩
        · rintro (h | ⟨rfl, rfl | rfl, _⟩)
          · exact .inl h
          · exact .inr ⟨rfl, rfl⟩
          · exact .inl hb
    · have hb' : K r p.b = false := Bool.eq_false_iff.mpr hb
      refine ⟨μ, (seq_skip (μ1 := μ) (by simp [ia T, ha'])).trans ((if_f (μ1 := μ) (by simp [ib T, hb'])).trans rfl), T.eqv (fun x y => ?_) (by omega), .refl⟩
      refine Bool.eq_iff_iff.mpr ?_
      rw [addK_iff]
      constructor
      · exact .inl
      · rintro (h | ⟨_, _, h | h⟩)
        · exact h
        · exact absurd h ha
        · exact absurd h hb
/-- one pipe, all rooms -/
theorem raR_spec {o2 o3 o7 o8 : Option D} (M : Metric g S ps) (hS : ∀ x : Int, x ∈ S ↔ 0 ≤ x ∧ x < R) (hR : R ≤ 16) (C : Clo g S ps K) (T : Tab μ F g K n) (hn : n + R < 99999) (hp : p ∈ ps) :
    ∃ (K' : Int → Int → Bool) (o2' : Option D) (μ' : Mem), raR [some (houseD R ps), some (.ref F), o2, o3, some (.int p.a), some (.int p.b), some (.int p.len), o7, o8] μ = .ok (.nx [some (houseD R ps), some (.ref F), o2', o3, some (.int p.a), some (.int p.b), some (.int p.len), o7, o8]) μ' ∧
      Clo g S ps K' ∧ Tab μ' F g K' (n + R) ∧ (∀ x y, K x y = true → K' x y = true) ∧ (∀ r ∈ S, K r p.a = true ∨ K r p.b = true → K' r p.a = true ∧ K' r p.b = true) ∧ Keep [F] μ μ' := by
  have i0 : ∀ μ, idxA (houseD R ps) (.int 0) μ = .ok (.int (R : Int)) μ := fun μ => ix_tup (by decide) rfl
  have loop := forL_ok (chk := fun _ => True) (g := gN 2) (body := raB) (rangeItems 0 R)
    (fun i ρ' μ' => i ≤ R ∧ ∃ (K' : Int → Int → Bool) (o2' : Option D), ρ' = [some (houseD R ps), some (.ref F), o2', o3, some (.int p.a), some (.int p.b), some (.int p.len), o7, o8] ∧ Clo g S ps K' ∧ Tab μ' F g K' (n + i) ∧ (∀ x y, K x y = true → K' x y = true) ∧ (∀ r ∈ S, r < i → K r p.a = true ∨ K r p.b = true → K' r p.a = true ∧ K' r p.b = true) ∧ Keep [F] μ μ') 0
    (ρ := [some (houseD R ps), some (.ref F), o2, o3, some (.int p.a), some (.int p.b), some (.int p.len), o7, o8]) (μ := μ) ⟨Nat.zero_le _, K, o2, rfl, C, T, fun _ _ h => h, fun r hr h => absurd h (by have := (hS r).mp hr; omega), .refl⟩ (fun _ _ _ _ => trivial)
    (fun i d ρ' μ' ed ⟨hi, K', o2', eρ, C', T', mo, st, kk⟩ => by
      simp only [Nat.zero_add] at hi T' st ⊢
      obtain ⟨hi2, rfl⟩ := Q.range_at ed
      subst eρ
      have hiS : (i : Int) ∈ S := (hS i).mpr ⟨by omega, by omega⟩
      obtain ⟨μ2, q2, T2, k2⟩ := raB_spec (o0 := some (houseD R ps)) (o3 := o3) (o7 := o7) (o8 := o8) M C' T' (by omega) hiS hp
      have e0 : (0 : Int) + (i : Int) = (i : Int) := Int.zero_add _
      rw [e0]
      refine .mk (μ := μ') rfl (.mk q2 ⟨_, .inl rfl, by omega, addK K' (i : Int) p, some (.int (i : Int)), rfl, C'.add M hiS hp, by rw [show n + (i + 1) = n + i + 1 by omega]; exact T2, fun x y h => addK_iff.mpr (.inl (mo x y h)), fun r hr hlt hk => ?_, kk.trans k2⟩)
      by_cases hri : r = (i : Int)
      · subst hri
        have hk' : K' (i : Int) p.a = true ∨ K' (i : Int) p.b = true := hk.imp (mo _ _) (mo _ _)
        exact ⟨addK_iff.mpr (.inr ⟨rfl, .inl rfl, hk'⟩), addK_iff.mpr (.inr ⟨rfl, .inr rfl, hk'⟩)⟩
      · obtain ⟨h1, h2⟩ := st r hr (by omega) hk
        exact ⟨addK_iff.mpr (.inl h1), addK_iff.mpr (.inl h2)⟩)
  rw [Q.range_len, Nat.zero_add] at loop
  obtain ⟨f, μ', w, ρ', rfl, _, K', o2', rfl, C', T', mo, st, kk⟩ := loop
  refine ⟨K', o2', μ', for_run (ir1 (n := R) (e := mBin idxA (mVar 0) (mC (.int 0))) (by simp only [mBin, mVar, mC, List.getElem?_cons_zero, Res.bind, i0]) (by omega)) w, C', T', mo, fun r hr => st r hr ((hS r).mp hr).2, kk⟩
/-- all pipes once -/
theorem raP_spec {o2 o3 o4 o5 o6 o7 o8 : Option D} (M : Metric g S ps) (hS : ∀ x : Int, x ∈ S ↔ 0 ≤ x ∧ x < R) (hR : R ≤ 16) (hps : ps.length ≤ 16) (C : Clo g S ps K) (T : Tab μ F g K n) (hn : n + 256 < 99999) :
    ∃ (K' : Int → Int → Bool) (o2' o4' o5' o6' o7' o8' : Option D) (μ' : Mem), raP [some (houseD R ps), some (.ref F), o2, o3, o4, o5, o6, o7, o8] μ = .ok (.nx [some (houseD R ps), some (.ref F), o2', o3, o4', o5', o6', o7', o8']) μ' ∧
      Clo g S ps K' ∧ Tab μ' F g K' (n + 256) ∧ (∀ x y, K x y = true → K' x y = true) ∧ (∀ r ∈ S, ∀ p ∈ ps, K r p.a = true ∨ K r p.b = true → K' r p.a = true ∧ K' r p.b = true) ∧ Keep [F] μ μ' := by
  have i1 : ∀ μ, idxA (houseD R ps) (.int 1) μ = .ok (.tup (ps.map Pipe.d)) μ := fun μ => ix_tup (by decide) rfl
  have loop := forL_ok (chk := fun _ => True) (g := gTupM 5 (gConsM (gN 4) (gConsM (gN 5) (gConsM (gN 6) (gConsM (gN 7) (gConsM (gN 8) (gNilM))))))) (body := raR) (ps.map Pipe.d)
    (fun i ρ' μ' => i ≤ ps.length ∧ ∃ (K' : Int → Int → Bool) (o2' o4' o5' o6' o7' o8' : Option D), ρ' = [some (houseD R ps), some (.ref F), o2', o3, o4', o5', o6', o7', o8'] ∧ Clo g S ps K' ∧ Tab μ' F g K' (n + R * i) ∧ (∀ x y, K x y = true → K' x y = true) ∧ (∀ r ∈ S, ∀ j < i, ∀ p, ps[j]? = some p → K r p.a = true ∨ K r p.b = true → K' r p.a = true ∧ K' r p.b = true) ∧ Keep [F] μ μ') 0
    (ρ := [some (houseD R ps), some (.ref F), o2, o3, o4, o5, o6, o7, o8]) (μ := μ) ⟨Nat.zero_le _, K, o2, o4, o5, o6, o7, o8, rfl, C, T, fun _ _ h => h, fun r hr j h => absurd h (by omega), .refl⟩ (fun _ _ _ _ => trivial)
    (fun i d ρ' μ' ed ⟨hi, K', o2', o4', o5', o6', o7', o8', eρ, C', T', mo, st, kk⟩ => by
      simp only [Nat.zero_add] at hi T' st ⊢
      subst eρ
      rw [List.getElem?_map] at ed
      obtain ⟨p, ep, rfl⟩ := Option.map_eq_some_iff.mp ed
      have hp := List.mem_of_getElem? ep
      have hi2 := (List.getElem?_eq_some_iff.mp ep).1
      have hm : R * i ≤ 16 * 15 := Nat.mul_le_mul hR (by omega)
      obtain ⟨K2, o2'', μ2, q2, C2, T2, mo2, st2, k2⟩ := raR_spec (o2 := o2') (o3 := o3) (o7 := some (.tup (p.nar.map pairD))) (o8 := some (.tup (p.fl.map pairD))) M hS hR C' T' (by omega) hp
      have gq : gTupM 5 (gConsM (gN 4) (gConsM (gN 5) (gConsM (gN 6) (gConsM (gN 7) (gConsM (gN 8) (gNilM)))))) p.d [some (houseD R ps), some (.ref F), o2', o3, o4', o5', o6', o7', o8'] μ' = .ok [some (houseD R ps), some (.ref F), o2', o3, some (.int p.a), some (.int p.b), some (.int p.len), some (.tup (p.nar.map pairD)), some (.tup (p.fl.map pairD))] μ' := rfl
      refine .mk gq (.mk q2 ⟨_, .inl rfl, by omega, K2, _, _, _, _, _, _, rfl, C2, by rw [show n + R * (i + 1) = n + R * i + R by rw [Nat.mul_add, Nat.mul_one]; omega]; exact T2, fun x y h => mo2 x y (mo x y h), fun r hr j hj p' ep' hk => ?_, kk.trans k2⟩)
      by_cases hji : j = i
      · subst hji
        rw [ep] at ep'; cases ep'
        exact st2 r hr (hk.imp (mo _ _) (mo _ _))
      · obtain ⟨h1, h2⟩ := st r hr j (by omega) p' ep' hk
        exact ⟨mo2 _ _ h1, mo2 _ _ h2⟩)
  rw [List.length_map, Nat.zero_add] at loop
  obtain ⟨f, μ', w, ρ', rfl, _, K', o2', o4', o5', o6', o7', o8', rfl, C', T', mo, st, kk⟩ := loop
  have hm : R * ps.length ≤ 16 * 16 := Nat.mul_le_mul hR hps
  refine ⟨K', o2', o4', o5', o6', o7', o8', μ', for_run (chk := fun _ => True) (items := ps.map Pipe.d) (μ1 := μ) (by simp [i1, itSeq]) w, C', T'.eqv (fun _ _ => rfl) (by omega), mo, fun r hr p hp => ?_, kk⟩
  obtain ⟨j, hj, e⟩ := List.mem_iff_getElem.mp hp
  exact st r hr j hj p (List.getElem?_eq_some_iff.mpr ⟨hj, e⟩)
end
end K12

/-! S31: how far rooms are apart. -/
namespace K12
open PySem L2 RW
section
variable {g : Int → Int → Int} {S : List Int} {ps : List Pipe} {K : Int → Int → Bool} {μ : Mem} {F n R : Nat} {r : Int} {p : Pipe}
def diagK (m : Nat) : Int → Int → Bool := fun x y => decide (x = y) && (decide (0 ≤ x) && decide (x < (m : Int)))
theorem diag_iff {m : Nat} {x y : Int} : diagK m x y = true ↔ x = y ∧ 0 ≤ x ∧ x < (m : Int) := by simp [diagK]
theorem diag_loop {o2 : Option D} (M : Metric g S ps) (hS : ∀ x : Int, x ∈ S ↔ 0 ≤ x ∧ x < R) (hR : R ≤ 16) (e : μ[F]? = some (.tdic [])) :
    ∃ (o2' : Option D) (μ' : Mem), (sFor (iRange1 (mCons (mBin idxA (mVar 0) (mC (.int 0))) (mNil))) (gN 2) (sAsg (mC (.int 0)) (gSubM setDD (mVar 1) (mTup (mCons (mVar 2) (mCons (mVar 2) (mNil))))))) [some (houseD R ps), some (.ref F), o2, none, none, none, none, none, none] μ = .ok (.nx [some (houseD R ps), some (.ref F), o2', none, none, none, none, none, none]) μ' ∧ Tab μ' F g (diagK R) R ∧ Keep [F] μ μ' := by
  have i0 : ∀ μ, idxA (houseD R ps) (.int 0) μ = .ok (.int (R : Int)) μ := fun μ => ix_tup (by decide) rfl
  have loop := forL_ok (chk := fun _ => True) (g := gN 2) (body := sAsg (mC (.int 0)) (gSubM setDD (mVar 1) (mTup (mCons (mVar 2) (mCons (mVar 2) (mNil)))))) (rangeItems 0 R)
    (fun i ρ' μ' => i ≤ R ∧ ∃ (o2' : Option D), ρ' = [some (houseD R ps), some (.ref F), o2', none, none, none, none, none, none] ∧ Tab μ' F g (diagK i) i ∧ Keep [F] μ μ') 0
    (ρ := [some (houseD R ps), some (.ref F), o2, none, none, none, none, none, none]) (μ := μ) ⟨Nat.zero_le _, o2, rfl, ⟨[], e, Nat.le_refl _, fun x y => by
      rw [if_neg (fun z => by have := diag_iff.mp z; omega)]; rfl⟩, .refl⟩ (fun _ _ _ _ => trivial)
    (fun i d ρ' μ' ed ⟨hi, o2', eρ, T, kk⟩ => by
      simp only [Nat.zero_add] at hi T ⊢
      obtain ⟨hi2, rfl⟩ := Q.range_at ed
      subst eρ
      have e0 : (0 : Int) + (i : Int) = (i : Int) := Int.zero_add _
      rw [e0]
      have hiS : (i : Int) ∈ S := (hS i).mpr ⟨by omega, by omega⟩
      obtain ⟨μ2, q2, T2, k2⟩ := T.put (x := (i : Int)) (y := (i : Int)) (by omega) (Bool.eq_false_iff.mpr fun z => by have := diag_iff.mp z; omega)
      rw [M.m0 _ hiS] at q2
      have q2' : setDD (.ref F) (.tup [.int (i : Int), .int (i : Int)]) (.int 0) μ' = .ok () μ2 := q2
      refine .mk (μ := μ') rfl (.mk (a := .nx [some (houseD R ps), some (.ref F), some (.int (i : Int)), none, none, none, none, none, none]) (μ := μ2) (by simp [q2']) ⟨_, .inl rfl, by omega, _, rfl, T2.eqv (fun x y => Bool.eq_iff_iff.mpr ?_) (Nat.le_refl _), kk.trans k2⟩)
      rw [diag_iff]
      simp only [Bool.or_eq_true, Bool.and_eq_true, decide_eq_true_eq, diag_iff]
      omega)
  rw [Q.range_len, Nat.zero_add] at loop
  obtain ⟨f, μ', w, ρ', rfl, _, o2', rfl, T, kk⟩ := loop
  exact ⟨o2', μ', for_run (ir1 (n := R) (e := mBin idxA (mVar 0) (mC (.int 0))) (by simp only [mBin, mVar, mC, List.getElem?_cons_zero, Res.bind, i0]) (by omega)) w, T, kk⟩
/-- the table whole -/
def TabF (μ : Mem) (F : Nat) (g : Int → Int → Int) (S : List Int) : Prop := ∃ K n, Tab μ F g K n ∧ ∀ x ∈ S, ∀ y ∈ S, K x y = true
theorem TabF.keep {μ' : Mem} {ex : List Nat} (h : TabF μ F g S) (k : Keep ex μ μ') (hF : F ∉ ex) : TabF μ' F g S := by
  obtain ⟨K, n, T, q⟩ := h
  exact ⟨K, n, T.keep k hF, q⟩
theorem TabF.ix (h : TabF μ F g S) {x y : Int} (hx : x ∈ S) (hy : y ∈ S) : idxA (.ref F) (.tup [.int x, .int y]) μ = .ok (.int (g x y)) μ := by
  obtain ⟨K, n, T, q⟩ := h
  exact T.ix (q x hx y hy)
theorem turn_loop {o2 : Option D} (M : Metric g S ps) (hok : ∀ p ∈ ps, 1 ≤ p.len) (hS : ∀ x : Int, x ∈ S ↔ 0 ≤ x ∧ x < R) (hSl : S.length ≤ R) (hR : R ≤ 16) (hps : ps.length ≤ 16) (T : Tab μ F g (diagK R) R) :
    ∃ (ρ' : Rho) (μ' : Mem), (sFor (iRange1 (mCons (mBin idxA (mVar 0) (mC (.int 0))) (mNil))) (gN 3) raP) [some (houseD R ps), some (.ref F), o2, none, none, none, none, none, none] μ = .ok (.nx ρ') μ' ∧ ρ'[1]? = some (some (.ref F)) ∧ TabF μ' F g S ∧ Keep [F] μ μ' := by
  have i0 : ∀ μ, idxA (houseD R ps) (.int 0) μ = .ok (.int (R : Int)) μ := fun μ => ix_tup (by decide) rfl
  have C : Clo g S ps (diagK R) := ⟨fun r hr p hp h e => by
      obtain ⟨h, _⟩ := diag_iff.mp h
      have h1 := M.m0 r hr
      have h2 := M.mn r hr p.b (M.ends p hp).2.1
      have := hok p hp
      rw [← h] at e
      omega, fun r hr p hp h e => by
      obtain ⟨h, _⟩ := diag_iff.mp h
      have h1 := M.m0 r hr
      have h2 := M.mn r hr p.a (M.ends p hp).1
      have := hok p hp
      rw [← h] at e
      omega⟩
  have self : ∀ r ∈ S, diagK R r r = true := fun r hr => diag_iff.mpr ⟨rfl, (hS r).mp hr⟩
  have start : ∀ r ∈ S, ∀ s ∈ S, rk g S r s ≤ 0 → diagK R r s = true := fun r hr s hs h => by
    by_cases hrs : r = s
    · subst hrs; exact self r hr
    · exfalso
      obtain ⟨p, hp, c⟩ := M.me r hr s hs hrs
      have hl := hok p hp
      have pos : g r r < g r s := by
        rw [M.m0 r hr]
        rcases c with ⟨_, e⟩ | ⟨_, e⟩
        · have := M.mn r hr p.b (M.ends p hp).2.1; omega
        · have := M.mn r hr p.a (M.ends p hp).1; omega
      have : S.countP (fun _ => false) < rk g S r s := cnt_lt (u := r) (fun _ _ h => by cases h) hr (by simpa using pos) rfl
      omega
  have loop := forL_ok (chk := fun _ => True) (g := gN 3) (body := raP) (rangeItems 0 R)
    (fun i ρ' μ' => i ≤ R ∧ ∃ (K' : Int → Int → Bool) (o2' o3' o4' o5' o6' o7' o8' : Option D), ρ' = [some (houseD R ps), some (.ref F), o2', o3', o4', o5', o6', o7', o8'] ∧ Clo g S ps K' ∧ Tab μ' F g K' (R + 256 * i) ∧ (∀ r ∈ S, K' r r = true) ∧ (∀ r ∈ S, ∀ s ∈ S, rk g S r s ≤ i → K' r s = true) ∧ Keep [F] μ μ') 0
    (ρ := [some (houseD R ps), some (.ref F), o2, none, none, none, none, none, none]) (μ := μ) ⟨Nat.zero_le _, diagK R, o2, none, none, none, none, none, none, rfl, C, T, self, start, .refl⟩ (fun _ _ _ _ => trivial)
    (fun i d ρ' μ' ed ⟨hi, K', o2', o3', o4', o5', o6', o7', o8', eρ, C', T', sf, kn, kk⟩ => by
      simp only [Nat.zero_add] at hi T' kn ⊢
      obtain ⟨hi2, rfl⟩ := Q.range_at ed
      subst eρ
      obtain ⟨K2, p2, p4, p5, p6, p7, p8, μ2, q2, C2, T2, mo, st, k2⟩ := raP_spec (o2 := o2') (o3 := some (.int (0 + (i : Int)))) (o4 := o4') (o5 := o5') (o6 := o6') (o7 := o7') (o8 := o8') M hS hR hps C' T' (by omega)
      refine .mk (μ := μ') rfl (.mk q2 ⟨_, .inl rfl, by omega, K2, _, _, _, _, _, _, _, rfl, C2, by rw [show R + 256 * (i + 1) = R + 256 * i + 256 by omega]; exact T2, fun r hr => mo _ _ (sf r hr), rk_next M hok sf kn mo st, kk.trans k2⟩))
  rw [Q.range_len, Nat.zero_add] at loop
  obtain ⟨f, μ', w, ρ', rfl, _, K', o2', o3', o4', o5', o6', o7', o8', rfl, C', T', sf, kn, kk⟩ := loop
  refine ⟨_, μ', for_run (ir1 (n := R) (e := mBin idxA (mVar 0) (mC (.int 0))) (by simp only [mBin, mVar, mC, List.getElem?_cons_zero, Res.bind, i0]) (by omega)) w, rfl, ⟨K', _, T', fun x hx y hy => kn x hx y hy ?_⟩, kk⟩
  have := rk_lt (g := g) (r := x) hy
  omega
theorem rooms_apart_spec (M : Metric g S ps) (hok : ∀ p ∈ ps, 1 ≤ p.len) (hS : ∀ x : Int, x ∈ S ↔ 0 ≤ x ∧ x < R) (hSl : S.length ≤ R) (hR : R ≤ 16) (hps : ps.length ≤ 16) :
    ∃ (F : Nat) (μ' : Mem), m_law_rooms_apart [houseD R ps] μ = .ok (.ref F) μ' ∧ TabF μ' F g S ∧ μ.length ≤ F ∧ Keep [] μ μ' := by
  have e : (μ ++ [Cell.tdic []])[μ.length]? = some (.tdic []) := app_new
  obtain ⟨o2, μ1, q1, T1, k1⟩ := diag_loop (o2 := none) M hS hR e
  obtain ⟨ρ', μ2, q2, e2, T2, k2⟩ := turn_loop (o2 := o2) M hok hS hSl hR hps T1
  have t0 : mTdicNew (startR 9 [houseD R ps]) μ = .ok (.ref μ.length) (μ ++ [.tdic []]) := rfl
  refine ⟨μ.length, μ2, run_is ?_, T2, Nat.le_refl _, ?_⟩
  · rw [rooms_apart_eq]
    refine (seq_set t0).trans ((seq_run q1).trans ((seq_run q2).trans (ret_is ?_)))
    simp only [mVar, e2]
  · exact (Keep.trans (ex := [μ.length]) Keep.app (k1.trans k2)).mono fun i hi => .inr (by simp at hi; omega)
end
end K12

/-! S32: how far places are apart, by the table. -/
namespace K12
open PySem L2 RW
/-- of each pair a number -/
theorem comp_pairs {chk : Mem → Prop} {te : MD} {ρ0 : Rho} {i j : Nat} (xs : List (Int × Int)) (f : Int × Int → Int) (μ : Mem) (hc : chk μ) (ht : ∀ x ∈ xs, te ((ρ0.set i (some (.int x.1))).set j (some (.int x.2))) μ = .ok (.int (f x)) μ) (hl : xs.length < 100000) :
    compL chk (gTupM 2 (gConsM (gN i) (gConsM (gN j) (gNilM)))) mYes te ρ0 (xs.map pairD) [] μ = .ok ((xs.map f).map D.int) μ := by
  have key := compL_ok (chk := chk) (g := gTupM 2 (gConsM (gN i) (gConsM (gN j) (gNilM)))) (tt := mYes) (te := te) (ρ0 := ρ0) (xs.map pairD) (fun j acc μ' => j ≤ xs.length ∧ acc = ((xs.take j).map f).map D.int ∧ μ' = μ) 0 (acc := []) (μ := μ) ⟨Nat.zero_le _, by simp, rfl⟩
    (fun _ _ _ ⟨_, _, e⟩ => e ▸ hc) (fun jj d acc μ' e ⟨hj, ea, em⟩ => by
      simp only [Nat.zero_add] at hj ea em ⊢
      subst em
      rw [List.getElem?_map] at e
      obtain ⟨x, ex, rfl⟩ := Option.map_eq_some_iff.mp e
      have hj2 := (List.getElem?_eq_some_iff.mp ex).1
      refine .mk (a := (ρ0.set i (some (.int x.1))).set j (some (.int x.2))) (μ := μ') rfl (.mk (μ := μ') rfl ?_)
      rw [if_pos rfl]
      refine ⟨by rw [ea, List.length_map, List.length_map, List.length_take, sizeLine_eq]; omega, .mk (ht x (List.mem_of_getElem? ex)) ⟨by omega, ?_, rfl⟩⟩
      rw [ea, List.take_add_one, ex]; simp)
  rw [List.length_map, Nat.zero_add] at key
  obtain ⟨l, μ', e, _, rfl, rfl⟩ := key
  rw [e, List.take_length]
section
variable {g : Int → Int → Int} {S : List Int} {R : Nat} {ps : List Pipe} {μ : Mem} {F : Nat} {a b : Pl}
theorem ways_len {eb : List (Int × Int)} : ∀ l : List (Int × Int), (ways g l eb).length = l.length * eb.length := fun l => by
  induction l with
  | nil => simp [ways]
  | cons c l ih =>
    have : ways g (c :: l) eb = (eb.map fun y => c.2 + g c.1 y.1 + y.2) ++ ways g l eb := by simp [ways]
    rw [this, List.length_append, ih, List.length_map, List.length_cons, Nat.succ_mul]; omega
theorem toInts_ints : ∀ l : List Int, toInts (l.map D.int) = some l
  | [] => rfl
  | a :: l => by simp only [List.map_cons, toInts, toInts_ints l]; rfl
noncomputable def apB : MS := sSet 4 (mBin addD (mVar 4) (mComp (iSeq (mB m_law_rooms_by (mCons (mVar 0) (mCons (mVar 3) (mNil))))) (gTupM 2 (gConsM (gN 7) (gConsM (gN 8) (gNilM)))) (mYes) (mBin addD (mBin addD (mVar 6) (mBin idxA (mVar 1) (mTup (mCons (mVar 5) (mCons (mVar 7) (mNil)))))) (mVar 8)) [7, 8]))
theorem apart_eq : b_law_apart = sSeq (sIf (mAnd (mTest (mBin eqD (mB lenL (mCons (mVar 2) (mNil))) (mC (.int 2)))) (mAnd (mTest (mBin eqD (mB lenL (mCons (mVar 3) (mNil))) (mC (.int 2)))) (mTest (mBin eqD (mBin idxA (mVar 2) (mC (.int 0))) (mBin idxA (mVar 3) (mC (.int 0))))))) (sRet (mB absL (mCons (mBin subD (mBin idxA (mVar 2) (mC (.int 1))) (mBin idxA (mVar 3) (mC (.int 1)))) (mNil)))) (sNil))
    (sSeq (sSet 4 (mLst (mNil)))
    (sSeq (sFor (iSeq (mB m_law_rooms_by (mCons (mVar 0) (mCons (mVar 2) (mNil))))) (gTupM 2 (gConsM (gN 5) (gConsM (gN 6) (gNilM)))) apB)
    (sRet (mB minLL (mCons (mVar 4) (mNil)))))) := rfl
theorem apB_spec {x : Int × Int} {v : Nat} {vs : List Int} (T : TabF μ F g S) (hps : ∀ p ∈ ps, p.a ∈ S ∧ p.b ∈ S) (hb : IsPl S ps b) (hx : x.1 ∈ S) (ev : μ[v]? = some (.lst (vs.map D.int))) (hl : vs.length ≤ 100) :
    ∃ (v' : Nat) (μ' : Mem), apB [some (houseD R ps), some (.ref F), some a.d, some b.d, some (.ref v), some (.int x.1), some (.int x.2), none, none] μ = .ok (.nx [some (houseD R ps), some (.ref F), some a.d, some b.d, some (.ref v'), some (.int x.1), some (.int x.2), none, none]) μ' ∧ μ'[v']? = some (.lst ((vs ++ (endsOf ps b).map fun y => x.2 + g x.1 y.1 + y.2).map D.int)) ∧ Keep [] μ μ' := by
  obtain ⟨heb, hlb, hnb⟩ := ends_room hps hb
  have q1 := rooms_by_spec (R := R) (μ := μ) hb
  generalize hE : endsOf ps b = eb at *
  let μ1 : Mem := μ ++ [.lst (eb.map pairD)]
  have e1 : μ1[μ.length]? = some (.lst (eb.map pairD)) := app_new
  have T1 : TabF μ1 F g S := T.keep (ex := []) Keep.app (by simp)
  have c1 := comp_pairs (chk := fun μ' => μ'[μ.length]? = some (.lst (eb.map pairD))) (te := mBin addD (mBin addD (mVar 6) (mBin idxA (mVar 1) (mTup (mCons (mVar 5) (mCons (mVar 7) (mNil)))))) (mVar 8)) (ρ0 := wipeR [some (houseD R ps), some (.ref F), some a.d, some b.d, some (.ref v), some (.int x.1), some (.int x.2), none, none] [7, 8]) (i := 7) (j := 8) eb (fun y => x.2 + g x.1 y.1 + y.2) μ1 e1
    (fun y hy => by
      have ix := T1.ix hx (heb y hy)
      simp [wipeR, ix, add_ok]) (by omega)
  have ib : mB m_law_rooms_by (mCons (mVar 0) (mCons (mVar 3) (mNil))) [some (houseD R ps), some (.ref F), some a.d, some b.d, some (.ref v), some (.int x.1), some (.int x.2), none, none] μ = .ok (.ref μ.length) μ1 := by
    simp only [mB, mCons, mNil, mVar, List.getElem?_cons_zero, List.getElem?_cons_succ, Res.bind, q1, μ1]
  have c2 := comp_is (own := [7, 8]) (seq_lst ib e1) c1
  let μ2 : Mem := μ1 ++ [.lst ((eb.map fun y => x.2 + g x.1 y.1 + y.2).map D.int)]
  have ev2 : μ2[v]? = some (.lst (vs.map D.int)) := app_at (app_at ev)
  have cat := catL_ok (n := v) (m := μ1.length) (μ := μ2) ev2 app_new (by simp; omega)
  refine ⟨μ2.length, μ2 ++ [.lst (vs.map D.int ++ (eb.map fun y => x.2 + g x.1 y.1 + y.2).map D.int)], (set_is (bin_is (p := .ref v) rfl c2 cat)).trans rfl, by rw [List.map_append]; exact app_new, (Keep.trans Keep.app Keep.app).trans Keep.app⟩
theorem apart_spec (M : Metric g S ps) (T : TabF μ F g S) (ha : IsPl S ps a) (hb : IsPl S ps b) :
    ∃ μ', m_law_apart [houseD R ps, .ref F, a.d, b.d] μ = .ok (.int (dd g ps a b)) μ' ∧ Keep [] μ μ' := by
  have hps : ∀ p ∈ ps, p.a ∈ S ∧ p.b ∈ S := fun p hp => ⟨(M.ends p hp).1, (M.ends p hp).2.1⟩
  have l1 : ∀ r μ, lenL [(Pl.room r).d] μ = .ok (.int 1) μ := fun _ _ => rfl
  have l2 : ∀ i k μ, lenL [(Pl.on i k).d] μ = .ok (.int 2) μ := fun _ _ _ => rfl
  have j0 : ∀ (i : Nat) k μ, idxA (Pl.on i k).d (.int 0) μ = .ok (.int (i : Int)) μ := fun _ _ _ => ix_tup (by decide) rfl
  have cnd : (mAnd (mTest (mBin eqD (mB lenL (mCons (mVar 2) (mNil))) (mC (.int 2)))) (mAnd (mTest (mBin eqD (mB lenL (mCons (mVar 3) (mNil))) (mC (.int 2)))) (mTest (mBin eqD (mBin idxA (mVar 2) (mC (.int 0))) (mBin idxA (mVar 3) (mC (.int 0))))))) (startR 9 [houseD R ps, .ref F, a.d, b.d]) μ = .ok (samePipe a b) μ := by
    cases a with
    | room r => simp [startR, l1, eqI, samePipe]
    | on i j =>
      cases b with
      | room r => simp [startR, l1, l2, eqI, samePipe]
      | on q k =>
        have : decide ((i : Int) = (q : Int)) = decide (i = q) := by
          rw [decide_eq_decide]; exact Int.ofNat_inj
        simp [startR, l2, eqI, j0, samePipe, this]
  by_cases hs : samePipe a b = true
  · cases a with
    | room r => cases hs
    | on i j =>
      cases b with
      | room r => cases hs
      | on q k =>
        have hiq : i = q := of_decide_eq_true hs
        subst hiq
        obtain ⟨p, e, h0, h1⟩ := hb
        have j1 : ∀ k μ, idxA (Pl.on i k).d (.int 1) μ = .ok (.int k) μ := fun _ _ => ix_tup (by decide) rfl
        have hv : dd g ps (.on i j) (.on i k) = (if j - k < 0 then -(j - k) else j - k) := by
          unfold dd
          simp only [fOf, e]
          rw [lane_own rfl]
          by_cases h : j ≤ k
          · rw [if_pos h]
            by_cases h2 : j - k < 0
            · rw [if_pos h2]; omega
            · rw [if_neg h2]; omega
          · rw [if_neg h, if_neg (by omega)]
        refine ⟨μ, run_is (seq_ret ((if_t (μ1 := μ) (by rw [cnd, hs])).trans (ret_is ?_))), .refl⟩
        rw [hv]
        simp [startR, j1, subD, absL]
  · have hs' : samePipe a b = false := by cases h : samePipe a b with | true => exact absurd h hs | false => rfl
    have hne : ∀ i j k, a = .on i j → b = .on i k → False := fun i j k e1 e2 => by
      subst e1 e2; simp [samePipe] at hs
    obtain ⟨hea, hla, hna⟩ := ends_room hps ha
    obtain ⟨heb, hlb, hnb⟩ := ends_room hps hb
    have hmin := ways_min (g := g) ha hb hne
    have q1 := rooms_by_spec (R := R) (μ := μ ++ [Cell.lst []]) ha
    generalize hE : endsOf ps a = ea at *
    let μ1 : Mem := (μ ++ [Cell.lst []]) ++ [.lst (ea.map pairD)]
    have e1 : μ1[(μ ++ [Cell.lst []]).length]? = some (.lst (ea.map pairD)) := app_new
    have es : μ1[μ.length]? = some (.lst (([] : List Int).map D.int)) := app_at app_new
    have k01 : Keep [] μ μ1 := Keep.trans Keep.app Keep.app
    have loop := forL_ok (chk := fun μ' => μ'[(μ ++ [Cell.lst []]).length]? = some (.lst (ea.map pairD))) (g := gTupM 2 (gConsM (gN 5) (gConsM (gN 6) (gNilM)))) (body := apB) (ea.map pairD)
      (fun i ρ μ' => i ≤ ea.length ∧ ∃ (v : Nat) (o5 o6 : Option D), ρ = [some (houseD R ps), some (.ref F), some a.d, some b.d, some (.ref v), o5, o6, none, none] ∧ μ'[v]? = some (.lst ((ways g (ea.take i) (endsOf ps b)).map D.int)) ∧ Keep [] μ1 μ') 0
      (ρ := [some (houseD R ps), some (.ref F), some a.d, some b.d, some (.ref μ.length), none, none, none, none]) (μ := μ1) ⟨Nat.zero_le _, μ.length, none, none, rfl, es, .refl⟩ (fun i ρ μ' ⟨_, _, _, _, _, _, k⟩ => k.get e1 (by simp))
      (fun i d ρ μ' ed ⟨hi, v, o5, o6, eρ, ev, k⟩ => by
        simp only [Nat.zero_add] at hi ev ⊢
        subst eρ
        rw [List.getElem?_map] at ed
        obtain ⟨x, ex, rfl⟩ := Option.map_eq_some_iff.mp ed
        have hi2 := (List.getElem?_eq_some_iff.mp ex).1
        have hwl : (ways g (ea.take i) (endsOf ps b)).length ≤ 100 := by
          rw [ways_len, List.length_take]
          have : min i ea.length * (endsOf ps b).length ≤ 2 * 2 := Nat.mul_le_mul (by omega) hlb
          omega
        obtain ⟨v', μ2, q2, e2, k2⟩ := apB_spec (R := R) (a := a) (x := x) (T.keep (k01.trans k) (by simp)) hps hb (hea x (List.mem_of_getElem? ex)) ev hwl
        refine .mk (a := [some (houseD R ps), some (.ref F), some a.d, some b.d, some (.ref v), some (.int x.1), some (.int x.2), none, none]) (μ := μ') rfl (.mk q2 ⟨_, .inl rfl, by omega, v', _, _, rfl, ?_, k.trans k2⟩)
        rw [e2, List.take_add_one, ex]
        simp [ways])
    rw [List.length_map, Nat.zero_add] at loop
    obtain ⟨f, μ2, w, ρ', rfl, _, v, o5, o6, rfl, ev, k2⟩ := loop
    rw [List.take_length] at ev
    refine ⟨μ2, run_is ?_, k01.trans k2⟩
    rw [apart_eq]
    have ib : mB m_law_rooms_by (mCons (mVar 0) (mCons (mVar 2) (mNil))) [some (houseD R ps), some (.ref F), some a.d, some b.d, some (.ref μ.length), none, none, none, none] (μ ++ [Cell.lst []]) = .ok (.ref (μ ++ [Cell.lst []]).length) μ1 := by
      simp only [mB, mCons, mNil, mVar, List.getElem?_cons_zero, List.getElem?_cons_succ, Res.bind, q1, μ1]
    refine (seq_skip (μ1 := μ) (by rw [cnd, hs'])).trans ((seq_set (d := .ref μ.length) (μ1 := μ ++ [Cell.lst []]) rfl).trans ((seq_run (for_run (seq_lst ib e1) w)).trans (ret_is ?_)))
    have ww : minLL [.ref v] μ2 = .ok (.int (dd g ps a b)) μ2 := by
      have ia : intsAt (.ref v) μ2 = some (ways g ea (endsOf ps b)) := by simp only [intsAt, ev, toInts_ints]
      unfold dd
      rw [← hmin]
      cases hw : ways g ea (endsOf ps b) with
      | nil =>
        exfalso
        have : (ways g ea (endsOf ps b)).length = ea.length * (endsOf ps b).length := ways_len ea
        rw [hw] at this
        have h1 : 0 < ea.length := List.length_pos_iff.mpr hna
        have h2 : 0 < (endsOf ps b).length := List.length_pos_iff.mpr hnb
        have := Nat.mul_pos h1 h2
        simp at *
        omega
      | cons z zs => simp only [minLL, ia, hw]
    exact call1e rfl ww
end
end K12

/-! S33: where on a pipe a place so many steps on may lie. -/
namespace K12
open PySem L2 RW
def atsFar (g : Int → Int → Int) (ps : List Pipe) (a : Pl) (p : Pipe) (k : Int) : List Int := [k - dd g ps a (.room p.a), p.len - k + dd g ps a (.room p.b)]
def atsOf (g : Int → Int → Int) (ps : List Pipe) (a : Pl) (q : Nat) (p : Pipe) (k : Int) : List Int := match a with
  | .on i j => if i = q then [j + k, j - k] else atsFar g ps a p k
  | .room _ => atsFar g ps a p k
section
variable {g : Int → Int → Int} {S : List Int} {R : Nat} {ps : List Pipe} {μ : Mem} {F q : Nat} {a b : Pl} {p : Pipe} {k t : Int}
theorem ats_spec (M : Metric g S ps) (hok : ∀ p ∈ ps, 1 ≤ p.len) (ha : IsPl S ps a) (e : ps[q]? = some p) (h0 : 0 ≤ t) (h1 : t ≤ p.len) (h : dd g ps a (ln p q t) = k) : t ∈ atsOf g ps a q p k := by
  have hl := hok p (List.mem_of_getElem? e)
  have Rt : Root S ps a (hOf g ps a) := by
    cases a with
    | room s => exact root_room M hok ha
    | on i j =>
      obtain ⟨p', e', g0, g1⟩ := ha
      exact root_on M hok e' g0 g1
  have hf : lane (hOf g ps a) a q p t = k := by
    rw [← h]; exact (f_ln Rt e hl h0 h1).symm
  have hh : ∀ r, hOf g ps a r = dd g ps a (.room r) := fun _ => rfl
  rcases own_or a q with ⟨j, ea⟩ | hn
  · rw [lane_own ea] at hf
    subst ea
    have hat : atsOf g ps (.on q j) q p k = [j + k, j - k] := by simp [atsOf]
    rw [hat, List.mem_cons, List.mem_singleton]
    split at hf <;> omega
  · rw [lane_far hn, hh, hh] at hf
    have hat : atsOf g ps a q p k = atsFar g ps a p k := by
      cases a with
      | room s => rfl
      | on i j =>
        simp only [atsOf]
        rw [if_neg (fun z => hn j (by rw [z]))]
    rw [hat]
    simp only [atsFar, List.mem_cons, List.not_mem_nil, or_false]
    omega
def rhoO (R : Nat) (ps : List Pipe) (F : Nat) (a b : Pl) (k D' : Int) (q : Nat) (p : Pipe) (o12 o13 o14 : Option D) : Rho := [some (houseD R ps), some (.ref F), some a.d, some b.d, some (.int k), some (.int D'), some (.int (q : Int)), some (.int p.a), some (.int p.b), some (.int p.len), some (.tup (p.nar.map pairD)), some (.tup (p.fl.map pairD)), o12, o13, o14, none]
theorem ats_on {D' : Int} {o7 o8 o9 o10 o11 o12 o13 o14 : Option D} {rest : MS} (M : Metric g S ps) (T : TabF μ F g S) (ha : IsPl S ps a) (e : ps[q]? = some p) :
    ∃ (v : Nat) (μ' : Mem), (sSeq (sAsg (mBin idxA (mBin idxA (mVar 0) (mC (.int 1))) (mVar 6)) (gTupM 5 (gConsM (gN 7) (gConsM (gN 8) (gConsM (gN 9) (gConsM (gN 10) (gConsM (gN 11) (gNilM))))))))
    (sSeq (sSet 12 (mLst (mCons (mBin subD (mVar 4) (mB m_law_apart (mCons (mVar 0) (mCons (mVar 1) (mCons (mVar 2) (mCons (mTup (mCons (mVar 7) (mNil))) (mNil))))))) (mNil))))
    (sSeq (sExpr (mMt isLst appendM (mVar 12) (mCons (mBin addD (mBin subD (mVar 9) (mVar 4)) (mB m_law_apart (mCons (mVar 0) (mCons (mVar 1) (mCons (mVar 2) (mCons (mTup (mCons (mVar 8) (mNil))) (mNil))))))) (mNil))))
    (sSeq (sIf (mAnd (mTest (mBin eqD (mBin idxA (mVar 2) (mC (.int 0))) (mVar 6))) (mTest (mBin eqD (mB lenL (mCons (mVar 2) (mNil))) (mC (.int 2))))) (sSet 12 (mLst (mCons (mBin addD (mBin idxA (mVar 2) (mC (.int 1))) (mVar 4)) (mCons (mBin subD (mBin idxA (mVar 2) (mC (.int 1))) (mVar 4)) (mNil))))) (sNil)) rest))))
      [some (houseD R ps), some (.ref F), some a.d, some b.d, some (.int k), some (.int D'), some (.int (q : Int)), o7, o8, o9, o10, o11, o12, o13, o14, none] μ = rest (rhoO R ps F a b k D' q p (some (.ref v)) o13 o14) μ' ∧ μ'[v]? = some (.lst ((atsOf g ps a q p k).map D.int)) ∧ Keep [] μ μ' := by
  have hp := List.mem_of_getElem? e
  have i1 : ∀ μ, idxA (houseD R ps) (.int 1) μ = .ok (.tup (ps.map Pipe.d)) μ := fun μ => ix_tup (by decide) rfl
  have i2 : ∀ μ, idxA (.tup (ps.map Pipe.d)) (.int (q : Int)) μ = .ok p.d μ := fun μ => ix_tup (by omega) (by rw [Int.toNat_natCast, List.getElem?_map, e]; rfl)
  have ra : IsPl S ps (.room p.a) := (M.ends p hp).1
  have rb : IsPl S ps (.room p.b) := (M.ends p hp).2.1
  obtain ⟨μ1, q1, k1⟩ := apart_spec (R := R) M T ha ra
  have q1' : m_law_apart [houseD R ps, .ref F, a.d, .tup [.int p.a]] μ = .ok (.int (dd g ps a (.room p.a))) μ1 := q1
  let x1 : Int := k - dd g ps a (.room p.a)
  let μ2 : Mem := μ1 ++ [.lst [.int x1]]
  have k2 : Keep [] μ μ2 := k1.trans Keep.app
  obtain ⟨μ3, q3, k3⟩ := apart_spec (R := R) M (T.keep k2 (by simp)) ha rb
  have q3' : m_law_apart [houseD R ps, .ref F, a.d, .tup [.int p.b]] μ2 = .ok (.int (dd g ps a (.room p.b))) μ3 := q3
  let x2 : Int := p.len - k + dd g ps a (.room p.b)
  have ev2 : μ2[μ1.length]? = some (.lst [.int x1]) := app_new
  have ev3 : μ3[μ1.length]? = some (.lst [.int x1]) := k3.get ev2 (by simp)
  let μ4 : Mem := μ3.set μ1.length (.lst [.int x1, .int x2])
  have ev4 : μ4[μ1.length]? = some (.lst [.int x1, .int x2]) := set_at (at_lt ev3)
  have k4 : Keep [] μ μ4 := ((k2.trans k3).mono (ex' := [μ1.length]) (by simp)).trans (Keep.set (by simp)) |>.mono fun i hi => .inr (by have := k1.1; simp at hi; omega)
  have step : ∀ {rest : MS}, (sSeq (sAsg (mBin idxA (mBin idxA (mVar 0) (mC (.int 1))) (mVar 6)) (gTupM 5 (gConsM (gN 7) (gConsM (gN 8) (gConsM (gN 9) (gConsM (gN 10) (gConsM (gN 11) (gNilM))))))))
    (sSeq (sSet 12 (mLst (mCons (mBin subD (mVar 4) (mB m_law_apart (mCons (mVar 0) (mCons (mVar 1) (mCons (mVar 2) (mCons (mTup (mCons (mVar 7) (mNil))) (mNil))))))) (mNil))))
    (sSeq (sExpr (mMt isLst appendM (mVar 12) (mCons (mBin addD (mBin subD (mVar 9) (mVar 4)) (mB m_law_apart (mCons (mVar 0) (mCons (mVar 1) (mCons (mVar 2) (mCons (mTup (mCons (mVar 8) (mNil))) (mNil))))))) (mNil)))) rest))) [some (houseD R ps), some (.ref F), some a.d, some b.d, some (.int k), some (.int D'), some (.int (q : Int)), o7, o8, o9, o10, o11, o12, o13, o14, none] μ = rest (rhoO R ps F a b k D' q p (some (.ref μ1.length)) o13 o14) μ4 := fun {rest} => by
    have un : (sAsg (mBin idxA (mBin idxA (mVar 0) (mC (.int 1))) (mVar 6)) (gTupM 5 (gConsM (gN 7) (gConsM (gN 8) (gConsM (gN 9) (gConsM (gN 10) (gConsM (gN 11) (gNilM)))))))) [some (houseD R ps), some (.ref F), some a.d, some b.d, some (.int k), some (.int D'), some (.int (q : Int)), o7, o8, o9, o10, o11, o12, o13, o14, none] μ = .ok (.nx (rhoO R ps F a b k D' q p o12 o13 o14)) μ := by
      have t : mBin idxA (mBin idxA (mVar 0) (mC (.int 1))) (mVar 6) [some (houseD R ps), some (.ref F), some a.d, some b.d, some (.int k), some (.int D'), some (.int (q : Int)), o7, o8, o9, o10, o11, o12, o13, o14, none] μ = .ok p.d μ := by simp [i1, i2]
      rw [sAsg, t]; rfl
    refine (seq_run un).trans ((seq_set (d := .ref μ1.length) (μ1 := μ2) ?_).trans (seq_expr (d := .non) ?_))
    · have c : mB m_law_apart (mCons (mVar 0) (mCons (mVar 1) (mCons (mVar 2) (mCons (mTup (mCons (mVar 7) (mNil))) (mNil))))) (rhoO R ps F a b k D' q p o12 o13 o14) μ = .ok (.int (dd g ps a (.room p.a))) μ1 := call4 rfl rfl rfl rfl q1'
      have d : mBin subD (mVar 4) (mB m_law_apart (mCons (mVar 0) (mCons (mVar 1) (mCons (mVar 2) (mCons (mTup (mCons (mVar 7) (mNil))) (mNil)))))) (rhoO R ps F a b k D' q p o12 o13 o14) μ = .ok (.int x1) μ1 := bin_is (p := .int k) rfl c rfl
      simp only [mLst, mCons, mNil, d, Res.bind, μ2]
      rfl
    · have c : mB m_law_apart (mCons (mVar 0) (mCons (mVar 1) (mCons (mVar 2) (mCons (mTup (mCons (mVar 8) (mNil))) (mNil))))) (rhoO R ps F a b k D' q p (some (.ref μ1.length)) o13 o14) μ2 = .ok (.int (dd g ps a (.room p.b))) μ3 := call4 rfl rfl rfl rfl q3'
      have s : mBin subD (mVar 9) (mVar 4) (rhoO R ps F a b k D' q p (some (.ref μ1.length)) o13 o14) μ2 = .ok (.int (p.len - k)) μ2 := rfl
      have d : mBin addD (mBin subD (mVar 9) (mVar 4)) (mB m_law_apart (mCons (mVar 0) (mCons (mVar 1) (mCons (mVar 2) (mCons (mTup (mCons (mVar 8) (mNil))) (mNil)))))) (rhoO R ps F a b k D' q p (some (.ref μ1.length)) o13 o14) μ2 = .ok (.int x2) μ3 := bin_is s c add_ok
      have ap : appendM (.ref μ1.length) [.int x2] μ3 = .ok .non μ4 := by
        simp only [appendM, ev3, μ4]; rfl
      have il : isLst (.ref μ1.length) μ2 = true := by simp only [isLst, ev2]
      have v12 : mVar 12 (rhoO R ps F a b k D' q p (some (.ref μ1.length)) o13 o14) μ2 = .ok (.ref μ1.length) μ2 := rfl
      show mMt isLst appendM (mVar 12) _ (rhoO R ps F a b k D' q p (some (.ref μ1.length)) o13 o14) μ2 = _
      simp only [mMt, mCons, mNil, v12, d, Res.bind, il, if_true, ap]
  have l1 : ∀ r μ, lenL [(Pl.room r).d] μ = .ok (.int 1) μ := fun _ _ => rfl
  have l2 : ∀ i k μ, lenL [(Pl.on i k).d] μ = .ok (.int 2) μ := fun _ _ _ => rfl
  have j0 : ∀ (i : Nat) k μ, idxA (Pl.on i k).d (.int 0) μ = .ok (.int (i : Int)) μ := fun _ _ _ => ix_tup (by decide) rfl
  have r0 : ∀ r μ, idxA (Pl.room r).d (.int 0) μ = .ok (.int r) μ := fun _ _ => ix_tup (by decide) rfl
  have j1 : ∀ (i : Nat) k μ, idxA (Pl.on i k).d (.int 1) μ = .ok (.int k) μ := fun _ _ _ => ix_tup (by decide) rfl
  rcases own_or a q with ⟨j, ea⟩ | hn
  · have hat : atsOf g ps a q p k = [j + k, j - k] := by subst ea; simp [atsOf]
    rw [hat]
    refine ⟨μ4.length, μ4 ++ [.lst [.int (j + k), .int (j - k)]], step.trans (seq_run ((if_t (μ1 := μ4) ?_).trans ((set_is (d := .ref μ4.length) (μ' := μ4 ++ [.lst [.int (j + k), .int (j - k)]]) ?_).trans rfl))), app_new, k4.trans Keep.app⟩
    · subst ea
      simp [rhoO, j0, l2, eqI]
    · subst ea
      simp [rhoO, j1, subD, add_ok]
  · have hat : atsOf g ps a q p k = atsFar g ps a p k := by
      cases a with
      | room s => rfl
      | on i j =>
        simp only [atsOf]
        rw [if_neg (fun z => hn j (by rw [z]))]
    rw [hat]
    refine ⟨μ1.length, μ4, step.trans (seq_skip (μ1 := μ4) ?_), ev4, k4⟩
    cases a with
    | room s =>
      by_cases hs : s = (q : Int)
      · simp [rhoO, r0, l1, eqI, hs]
      · simp [rhoO, r0, l1, eqI, hs]
    | on i j =>
      have : ¬ (i : Int) = (q : Int) := fun z => hn j (by rw [Int.ofNat_inj.mp z])
      have h' : ¬ i = q := fun z => hn j (by rw [z])
      simp [rhoO, j0, l2, eqI, this, h']
end
end K12

/-! S34: the places there, and whether one of them is it. -/
namespace K12
open PySem L2 RW
section
variable {g : Int → Int → Int} {S : List Int} {R : Nat} {ps : List Pipe} {μ : Mem} {F q : Nat} {a b : Pl} {p : Pipe} {k D' : Int} {o13 o14 : Option D}
def inLen (p : Pipe) (t : Int) : Bool := decide (0 ≤ t) && decide (t ≤ p.len)
theorem spots_comp {v : Nat} {ns : List Int} (e : ps[q]? = some p) (ev : μ[v]? = some (.lst (ns.map D.int))) (hl : ns.length ≤ 1000) :
    ∃ (n : Nat) (μ' : Mem), mComp (iSeq (mVar 12)) (gN 15) (mTest (mChain (cmpI fun i j => decide (i ≤ j)) (cmpI fun i j => decide (i ≤ j)) (mC (.int 0)) (mVar 15) (mVar 9))) (mB m_law_far_spot (mCons (mVar 0) (mCons (mVar 6) (mCons (mVar 15) (mNil))))) [15] (rhoO R ps F a b k D' q p (some (.ref v)) o13 o14) μ = .ok (.ref n) μ' ∧ μ'[n]? = some (.lst (((ns.filter (inLen p)).map (ln p q)).map Pl.d)) ∧ Keep [] μ μ' := by
  have key := compL_ok (chk := fun μ' => μ'[v]? = some (.lst (ns.map D.int))) (g := gN 15) (tt := mTest (mChain (cmpI fun i j => decide (i ≤ j)) (cmpI fun i j => decide (i ≤ j)) (mC (.int 0)) (mVar 15) (mVar 9))) (te := mB m_law_far_spot (mCons (mVar 0) (mCons (mVar 6) (mCons (mVar 15) (mNil))))) (ρ0 := wipeR (rhoO R ps F a b k D' q p (some (.ref v)) o13 o14) [15]) (ns.map D.int)
    (fun j acc μ' => j ≤ ns.length ∧ acc = (((ns.take j).filter (inLen p)).map (ln p q)).map Pl.d ∧ Keep [] μ μ') 0 (acc := []) (μ := μ) ⟨Nat.zero_le _, by simp, .refl⟩
    (fun _ _ _ ⟨_, _, kk⟩ => kk.get ev (by simp)) (fun jj d acc μ' e' ⟨hj, ea, kk⟩ => by
      simp only [Nat.zero_add] at hj ea ⊢
      rw [List.getElem?_map] at e'
      obtain ⟨x, ex, rfl⟩ := Option.map_eq_some_iff.mp e'
      have hj2 := (List.getElem?_eq_some_iff.mp ex).1
      refine .mk (a := (wipeR (rhoO R ps F a b k D' q p (some (.ref v)) o13 o14) [15]).set 15 (some (.int x))) (μ := μ') rfl (.mk (a := inLen p x) (μ := μ') ?_ ?_)
      · by_cases h0 : 0 ≤ x
        · simp [wipeR, rhoO, cmpI, h0, inLen]
        · simp [wipeR, rhoO, cmpI, h0, inLen]
      · have tk : (ns.take (jj + 1)).filter (inLen p) = (ns.take jj).filter (inLen p) ++ if inLen p x = true then [x] else [] := by
          rw [List.take_add_one, ex, List.filter_append]
          cases h : inLen p x <;> simp [h]
        by_cases hx : inLen p x = true
        · rw [if_pos hx]
          obtain ⟨μ2, q2, k2⟩ := far_spot_spec (R := R) (t := x) (μ := μ') e
          refine ⟨?_, .mk (a := (ln p q x).d) (μ := μ2) ?_ ⟨by omega, ?_, kk.trans k2⟩⟩
          · rw [ea, List.length_map, List.length_map, sizeLine_eq]
            have := List.length_filter_le (inLen p) (ns.take jj)
            rw [List.length_take] at this
            omega
          · simp [wipeR, rhoO, q2]
          · rw [tk, if_pos hx, ea]; simp
        · rw [if_neg hx]
          exact ⟨by omega, by rw [tk, if_neg hx, ea]; simp, kk⟩)
  rw [List.length_map, Nat.zero_add] at key
  obtain ⟨l, μ', e', _, rfl, kk⟩ := key
  rw [List.take_length] at e'
  exact ⟨μ'.length, μ' ++ [.lst (((ns.filter (inLen p)).map (ln p q)).map Pl.d)], comp_is (seq_lst (n := v) rfl ev) e', app_new, kk.trans Keep.app⟩
noncomputable def onB : MS := sSeq (sSet 14 (mB m_law_apart (mCons (mVar 0) (mCons (mVar 1) (mCons (mVar 2) (mCons (mVar 13) (mNil)))))))
    (sIf (mAnd (mTest (mBin eqD (mVar 14) (mVar 4))) (mTest (mBin eqD (mB m_law_apart (mCons (mVar 0) (mCons (mVar 1) (mCons (mVar 13) (mCons (mVar 3) (mNil)))))) (mBin subD (mVar 5) (mVar 4))))) (sRet (mVar 13)) (sNil))
/-- one place looked at -/
theorem onB_spec {x : Pl} {o12 : Option D} (M : Metric g S ps) (T : TabF μ F g S) (ha : IsPl S ps a) (hb : IsPl S ps b) (hx : IsPl S ps x) :
    ∃ μ' : Mem, Keep [] μ μ' ∧ ((dd g ps a x = k ∧ dd g ps x b = D' - k ∧ onB (rhoO R ps F a b k D' q p o12 (some x.d) o14) μ = .ok (.ret x.d) μ') ∨ (¬ (dd g ps a x = k ∧ dd g ps x b = D' - k) ∧ ∃ v, onB (rhoO R ps F a b k D' q p o12 (some x.d) o14) μ = .ok (.nx (rhoO R ps F a b k D' q p o12 (some x.d) v)) μ')) := by
  obtain ⟨μ1, q1, k1⟩ := apart_spec (R := R) M T ha hx
  have c1 : mB m_law_apart (mCons (mVar 0) (mCons (mVar 1) (mCons (mVar 2) (mCons (mVar 13) (mNil))))) (rhoO R ps F a b k D' q p o12 (some x.d) o14) μ = .ok (.int (dd g ps a x)) μ1 := call4 rfl rfl rfl rfl q1
  let ρ := rhoO R ps F a b k D' q p o12 (some x.d) (some (.int (dd g ps a x)))
  have s1 : onB (rhoO R ps F a b k D' q p o12 (some x.d) o14) μ = (sIf (mAnd (mTest (mBin eqD (mVar 14) (mVar 4))) (mTest (mBin eqD (mB m_law_apart (mCons (mVar 0) (mCons (mVar 1) (mCons (mVar 13) (mCons (mVar 3) (mNil)))))) (mBin subD (mVar 5) (mVar 4))))) (sRet (mVar 13)) (sNil)) ρ μ1 := (seq_set c1).trans rfl
  have t1 : mTest (mBin eqD (mVar 14) (mVar 4)) ρ μ1 = .ok (decide (dd g ps a x = k)) μ1 := by simp [ρ, rhoO, eqI]
  by_cases h1 : dd g ps a x = k
  · obtain ⟨μ2, q2, k2⟩ := apart_spec (R := R) M (T.keep k1 (by simp)) hx hb
    have c2 : mB m_law_apart (mCons (mVar 0) (mCons (mVar 1) (mCons (mVar 13) (mCons (mVar 3) (mNil))))) ρ μ1 = .ok (.int (dd g ps x b)) μ2 := call4 rfl rfl rfl rfl q2
    have c3 : mBin subD (mVar 5) (mVar 4) ρ μ2 = .ok (.int (D' - k)) μ2 := rfl
    have c4 : mBin eqD (mB m_law_apart (mCons (mVar 0) (mCons (mVar 1) (mCons (mVar 13) (mCons (mVar 3) (mNil)))))) (mBin subD (mVar 5) (mVar 4)) ρ μ1 = .ok (.bl (decide (dd g ps x b = D' - k))) μ2 := bin_is c2 c3 eqI
    have t2 : (mAnd (mTest (mBin eqD (mVar 14) (mVar 4))) (mTest (mBin eqD (mB m_law_apart (mCons (mVar 0) (mCons (mVar 1) (mCons (mVar 13) (mCons (mVar 3) (mNil)))))) (mBin subD (mVar 5) (mVar 4))))) ρ μ1 = .ok (decide (dd g ps x b = D' - k)) μ2 := by
      rw [mAnd, t1, decide_eq_true h1]
      simp only [Res.bind, if_true, mTest, c4]
    refine ⟨μ2, k1.trans k2, ?_⟩
    by_cases h2 : dd g ps x b = D' - k
    · refine .inl ⟨h1, h2, s1.trans ((if_t (t2.trans (by rw [decide_eq_true h2]))).trans (ret_is rfl))⟩
    · refine .inr ⟨fun z => h2 z.2, _, s1.trans ((if_f (t2.trans (by rw [decide_eq_false h2]))).trans rfl)⟩
  · refine ⟨μ1, k1, .inr ⟨fun z => h1 z.1, _, s1.trans ((if_f (μ1 := μ1) ?_).trans rfl)⟩⟩
    rw [mAnd, t1, decide_eq_false h1]
    simp only [Res.bind]
    rfl
/-- the places of a pipe looked at -/
theorem on_places {n : Nat} {xs : List Pl} {o12 : Option D} (M : Metric g S ps) (T : TabF μ F g S) (ha : IsPl S ps a) (hb : IsPl S ps b) (hx : ∀ x ∈ xs, IsPl S ps x) (en : μ[n]? = some (.lst (xs.map Pl.d))) :
    ∃ (f : Fl) (μ' : Mem), forL (fun μ' => μ'[n]? = some (.lst (xs.map Pl.d))) (gN 13) onB (xs.map Pl.d) (rhoO R ps F a b k D' q p o12 o13 o14) μ = .ok f μ' ∧ Keep [] μ μ' ∧
      (((∀ x ∈ xs, ¬ (dd g ps a x = k ∧ dd g ps x b = D' - k)) ∧ ∃ o13' o14', f = .nx (rhoO R ps F a b k D' q p o12 o13' o14')) ∨ ∃ x, f = .ret x.d ∧ IsPl S ps x ∧ dd g ps a x = k ∧ dd g ps x b = D' - k) := by
  have loop := forL_ret (chk := fun μ' => μ'[n]? = some (.lst (xs.map Pl.d))) (g := gN 13) (body := onB) (P := fun d μ' => Keep [] μ μ' ∧ ∃ x, d = Pl.d x ∧ IsPl S ps x ∧ dd g ps a x = k ∧ dd g ps x b = D' - k) (xs.map Pl.d)
    (fun i ρ μ' => i ≤ xs.length ∧ Keep [] μ μ' ∧ (∀ x ∈ xs.take i, ¬ (dd g ps a x = k ∧ dd g ps x b = D' - k)) ∧ ∃ o13' o14', ρ = rhoO R ps F a b k D' q p o12 o13' o14') 0
    (ρ := rhoO R ps F a b k D' q p o12 o13 o14) (μ := μ) ⟨Nat.zero_le _, .refl, by simp, o13, o14, rfl⟩ (fun i ρ μ' ⟨_, kk, _⟩ => kk.get en (by simp))
    (fun i d ρ μ' ed ⟨hi, kk, hno, p13, p14, eρ⟩ => by
      simp only [Nat.zero_add] at hi hno ⊢
      subst eρ
      rw [List.getElem?_map] at ed
      obtain ⟨x, ex, rfl⟩ := Option.map_eq_some_iff.mp ed
      have hi2 := (List.getElem?_eq_some_iff.mp ex).1
      have hxp := hx x (List.mem_of_getElem? ex)
      refine .mk (a := rhoO R ps F a b k D' q p o12 (some x.d) p14) (μ := μ') rfl ?_
      obtain ⟨μ2, k2, h | ⟨h, v, q2⟩⟩ := onB_spec (R := R) (k := k) (D' := D') (q := q) (p := p) (o12 := o12) (o14 := p14) M (T.keep kk (by simp)) ha hb hxp
      · exact .mk h.2.2 (.inr ⟨_, rfl, kk.trans k2, x, rfl, hxp, h.1, h.2.1⟩)
      · refine .mk q2 (.inl ⟨_, .inl rfl, by omega, kk.trans k2, fun y hy => ?_, _, _, rfl⟩)
        rw [List.take_add_one, ex, List.mem_append] at hy
        rcases hy with hy | hy
        · exact hno y hy
        · simp at hy; subst hy; exact h)
  rw [List.length_map, Nat.zero_add] at loop
  obtain ⟨f, μ', w, ⟨ρ', rfl, _, kk, hno, p13, p14, rfl⟩ | ⟨d, rfl, kk, x, rfl, h⟩⟩ := loop
  · rw [List.take_length] at hno
    exact ⟨_, μ', w, kk, .inl ⟨hno, p13, p14, rfl⟩⟩
  · exact ⟨_, μ', w, kk, .inr ⟨x, rfl, h⟩⟩
end
end K12

/-! S35: the place so many steps on. -/
namespace K12
open PySem L2 RW
noncomputable def onP : MS := sSeq (sAsg (mBin idxA (mBin idxA (mVar 0) (mC (.int 1))) (mVar 6)) (gTupM 5 (gConsM (gN 7) (gConsM (gN 8) (gConsM (gN 9) (gConsM (gN 10) (gConsM (gN 11) (gNilM))))))))
    (sSeq (sSet 12 (mLst (mCons (mBin subD (mVar 4) (mB m_law_apart (mCons (mVar 0) (mCons (mVar 1) (mCons (mVar 2) (mCons (mTup (mCons (mVar 7) (mNil))) (mNil))))))) (mNil))))
    (sSeq (sExpr (mMt isLst appendM (mVar 12) (mCons (mBin addD (mBin subD (mVar 9) (mVar 4)) (mB m_law_apart (mCons (mVar 0) (mCons (mVar 1) (mCons (mVar 2) (mCons (mTup (mCons (mVar 8) (mNil))) (mNil))))))) (mNil))))
    (sSeq (sIf (mAnd (mTest (mBin eqD (mBin idxA (mVar 2) (mC (.int 0))) (mVar 6))) (mTest (mBin eqD (mB lenL (mCons (mVar 2) (mNil))) (mC (.int 2))))) (sSet 12 (mLst (mCons (mBin addD (mBin idxA (mVar 2) (mC (.int 1))) (mVar 4)) (mCons (mBin subD (mBin idxA (mVar 2) (mC (.int 1))) (mVar 4)) (mNil))))) (sNil))
    (sFor (iSeq (mComp (iSeq (mVar 12)) (gN 15) (mTest (mChain (cmpI fun i j => decide (i ≤ j)) (cmpI fun i j => decide (i ≤ j)) (mC (.int 0)) (mVar 15) (mVar 9))) (mB m_law_far_spot (mCons (mVar 0) (mCons (mVar 6) (mCons (mVar 15) (mNil))))) [15])) (gN 13) onB))))
theorem on_eq : b_law_on = sSeq (sSet 5 (mB m_law_apart (mCons (mVar 0) (mCons (mVar 1) (mCons (mVar 2) (mCons (mVar 3) (mNil)))))))
    (sSeq (sFor (iRange1 (mCons (mB lenL (mCons (mBin idxA (mVar 0) (mC (.int 1))) (mNil))) (mNil))) (gN 6) onP)
    (sRet (mC .non))) := rfl
theorem for_is {it : MIt} {g : MG} {body : MS} {ρ : Rho} {μ μ1 μ' : Mem} {items : List D} {chk : Mem → Prop} {f : Fl} (h1 : it ρ μ = .ok (items, chk) μ1) (h2 : forL chk g body items ρ μ1 = .ok f μ') : sFor it g body ρ μ = .ok f μ' := by
  simp only [sFor, h1, onE, h2]
section
variable {g : Int → Int → Int} {S : List Int} {R : Nat} {ps : List Pipe} {μ : Mem} {F q : Nat} {a b : Pl} {p : Pipe} {k D' : Int}
theorem onP_spec {o7 o8 o9 o10 o11 o12 o13 o14 : Option D} (M : Metric g S ps) (hok : ∀ p ∈ ps, 1 ≤ p.len) (T : TabF μ F g S) (ha : IsPl S ps a) (hb : IsPl S ps b) (e : ps[q]? = some p) :
    ∃ (f : Fl) (μ' : Mem), onP [some (houseD R ps), some (.ref F), some a.d, some b.d, some (.int k), some (.int D'), some (.int (q : Int)), o7, o8, o9, o10, o11, o12, o13, o14, none] μ = .ok f μ' ∧ Keep [] μ μ' ∧
      (((∀ t, 0 ≤ t → t ≤ p.len → ¬ (dd g ps a (ln p q t) = k ∧ dd g ps (ln p q t) b = D' - k)) ∧ ∃ o12' o13' o14', f = .nx (rhoO R ps F a b k D' q p o12' o13' o14')) ∨ ∃ x, f = .ret (Pl.d x) ∧ IsPl S ps x ∧ dd g ps a x = k ∧ dd g ps x b = D' - k) := by
  have hp := List.mem_of_getElem? e
  have hends : p.a ∈ S ∧ p.b ∈ S := ⟨(M.ends p hp).1, (M.ends p hp).2.1⟩
  obtain ⟨v, μ1, q1, ev, k1⟩ := ats_on (R := R) (b := b) (k := k) (D' := D') (o7 := o7) (o8 := o8) (o9 := o9) (o10 := o10) (o11 := o11) (o12 := o12) (o13 := o13) (o14 := o14) (rest := sFor (iSeq (mComp (iSeq (mVar 12)) (gN 15) (mTest (mChain (cmpI fun i j => decide (i ≤ j)) (cmpI fun i j => decide (i ≤ j)) (mC (.int 0)) (mVar 15) (mVar 9))) (mB m_law_far_spot (mCons (mVar 0) (mCons (mVar 6) (mCons (mVar 15) (mNil))))) [15])) (gN 13) onB) M T ha e
  have hal : (atsOf g ps a q p k).length ≤ 1000 := by
    cases a with
    | room s => simp [atsOf, atsFar]
    | on i j =>
      simp only [atsOf]
      split <;> simp [atsFar]
  obtain ⟨n, μ2, q2, en, k2⟩ := spots_comp (R := R) (F := F) (a := a) (b := b) (k := k) (D' := D') (o13 := o13) (o14 := o14) e ev hal
  have hx : ∀ x ∈ ((atsOf g ps a q p k).filter (inLen p)).map (ln p q), IsPl S ps x := fun x hx => by
    obtain ⟨t, ht, rfl⟩ := List.mem_map.mp hx
    have := (List.mem_filter.mp ht).2
    simp only [inLen, Bool.and_eq_true, decide_eq_true_eq] at this
    exact ln_pl hends e this.1 this.2
  obtain ⟨f, μ3, w, k3, h⟩ := on_places (R := R) (k := k) (D' := D') (q := q) (p := p) (o12 := some (.ref v)) (o13 := o13) (o14 := o14) M (T.keep (k1.trans k2) (by simp)) ha hb hx en
  refine ⟨f, μ3, ?_, (k1.trans k2).trans k3, ?_⟩
  · unfold onP
    exact q1.trans (for_is (seq_lst q2 en) w)
  · rcases h with ⟨h1, o13', o14', rfl⟩ | h
    · refine .inl ⟨fun t h0 h1' hc => ?_, _, _, _, rfl⟩
      have hm := ats_spec M hok ha e h0 h1' hc.1
      exact h1 (ln p q t) (List.mem_map_of_mem (List.mem_filter.mpr ⟨hm, by simp [inLen, h0, h1']⟩)) hc
    · exact .inr h
theorem pipe_of (M : Metric g S ps) (hok : ∀ p ∈ ps, 1 ≤ p.len) (hS2 : ∃ x ∈ S, ∃ y ∈ S, x ≠ y) {z : Pl} (hz : IsPl S ps z) : ∃ q p t, ps[q]? = some p ∧ 0 ≤ t ∧ t ≤ p.len ∧ z = ln p q t := by
  cases z with
  | room r =>
    obtain ⟨s, hs, hne⟩ : ∃ s ∈ S, s ≠ r := by
      obtain ⟨x, hx, y, hy, hxy⟩ := hS2
      by_cases h : x = r
      · exact ⟨y, hy, fun z => hxy (h.trans z.symm)⟩
      · exact ⟨x, hx, h⟩
    obtain ⟨p, hp, c⟩ := M.me s hs r hz hne
    obtain ⟨q, hq, e⟩ := List.mem_iff_getElem.mp hp
    have hl := hok p hp
    have eq : ps[q]? = some p := List.getElem?_eq_some_iff.mpr ⟨hq, e⟩
    rcases c with ⟨h, _⟩ | ⟨h, _⟩
    · exact ⟨q, p, 0, eq, by omega, by omega, by rw [ln_0, h]⟩
    · exact ⟨q, p, p.len, eq, by omega, by omega, by rw [ln_len hl, h]⟩
  | on i j =>
    obtain ⟨p, e, h0, h1⟩ := hz
    exact ⟨i, p, j, e, by omega, by omega, (ln_on h0 h1).symm⟩
theorem on_spec (M : Metric g S ps) (hok : ∀ p ∈ ps, 1 ≤ p.len) (hS2 : ∃ x ∈ S, ∃ y ∈ S, x ≠ y) (hps : ps.length ≤ 16) (T : TabF μ F g S) (ha : IsPl S ps a) (hb : IsPl S ps b) (h0 : 0 ≤ k) (h1 : k ≤ dd g ps a b) :
    ∃ (z : Pl) (μ' : Mem), m_law_on [houseD R ps, .ref F, a.d, b.d, .int k] μ = .ok z.d μ' ∧ IsPl S ps z ∧ dd g ps a z = k ∧ dd g ps z b = dd g ps a b - k ∧ Keep [] μ μ' := by
  have i1 : ∀ μ, idxA (houseD R ps) (.int 1) μ = .ok (.tup (ps.map Pipe.d)) μ := fun μ => ix_tup (by decide) rfl
  have ll : ∀ μ, lenL [.tup (ps.map Pipe.d)] μ = .ok (.int ps.length) μ := fun μ => by simp only [lenL, List.length_map]
  obtain ⟨μ1, q1, k1⟩ := apart_spec (R := R) M T ha hb
  have c1 : mB m_law_apart (mCons (mVar 0) (mCons (mVar 1) (mCons (mVar 2) (mCons (mVar 3) (mNil))))) (startR 16 [houseD R ps, .ref F, a.d, b.d, .int k]) μ = .ok (.int (dd g ps a b)) μ1 := call4 rfl rfl rfl rfl q1
  generalize hD : dd g ps a b = D' at *
  let ρ (o6 o7 o8 o9 o10 o11 o12 o13 o14 : Option D) : Rho := [some (houseD R ps), some (.ref F), some a.d, some b.d, some (.int k), some (.int D'), o6, o7, o8, o9, o10, o11, o12, o13, o14, none]
  have loop := forL_ret (chk := fun _ => True) (g := gN 6) (body := onP) (P := fun d μ' => Keep [] μ1 μ' ∧ ∃ x, d = Pl.d x ∧ IsPl S ps x ∧ dd g ps a x = k ∧ dd g ps x b = D' - k) (rangeItems 0 ps.length)
    (fun i ρ' μ' => i ≤ ps.length ∧ Keep [] μ1 μ' ∧ (∀ q < i, ∀ p, ps[q]? = some p → ∀ t, 0 ≤ t → t ≤ p.len → ¬ (dd g ps a (ln p q t) = k ∧ dd g ps (ln p q t) b = D' - k)) ∧ ∃ o6 o7 o8 o9 o10 o11 o12 o13 o14, ρ' = ρ o6 o7 o8 o9 o10 o11 o12 o13 o14) 0
    (ρ := ρ none none none none none none none none none) (μ := μ1) ⟨Nat.zero_le _, .refl, fun q h => absurd h (by omega), none, none, none, none, none, none, none, none, none, rfl⟩ (fun _ _ _ _ => trivial)
    (fun i d ρ' μ' ed ⟨hi, kk, hno, o6, o7, o8, o9, o10, o11, o12, o13, o14, eρ⟩ => by
      simp only [Nat.zero_add] at hi hno ⊢
      obtain ⟨hi2, ed'⟩ := Q.range_at ed
      rw [Int.zero_add] at ed'
      subst ed'
      subst eρ
      obtain ⟨p, ep⟩ : ∃ p, ps[i]? = some p := ⟨_, List.getElem?_eq_getElem hi2⟩
      refine .mk (a := ρ (some (.int (i : Int))) o7 o8 o9 o10 o11 o12 o13 o14) (μ := μ') rfl ?_
      obtain ⟨f, μ2, q2, k2, ⟨h, o12', o13', o14', rfl⟩ | h⟩ := onP_spec (R := R) (k := k) (D' := D') (o7 := o7) (o8 := o8) (o9 := o9) (o10 := o10) (o11 := o11) (o12 := o12) (o13 := o13) (o14 := o14) M hok (T.keep (k1.trans kk) (by simp)) ha hb ep
      · refine .mk q2 (.inl ⟨_, .inl rfl, by omega, kk.trans k2, fun q hq p' ep' t t0 t1 => ?_, _, _, _, _, _, _, _, _, _, rfl⟩)
        by_cases hqi : q = i
        · subst hqi
          rw [ep] at ep'; cases ep'
          exact h t t0 t1
        · exact hno q (by omega) p' ep' t t0 t1
      · obtain ⟨x, rfl, h⟩ := h
        exact .mk q2 (.inr ⟨_, rfl, kk.trans k2, x, rfl, h⟩))
  rw [Q.range_len, Nat.zero_add] at loop
  obtain ⟨f, μ', w, ⟨ρ', rfl, _, kk, hno, _⟩ | ⟨d, rfl, kk, x, rfl, hx, e1, e2⟩⟩ := loop
  · exfalso
    obtain ⟨z, hz, z1, z2⟩ := (geo M hok).amid ha hb h0 (by rw [hD]; exact h1)
    rw [hD] at z2
    obtain ⟨q, p, t, e, t0, t1, rfl⟩ := pipe_of M hok hS2 hz
    exact hno q ((List.getElem?_eq_some_iff.mp e).1) p e t t0 t1 ⟨z1, z2⟩
  · refine ⟨x, μ', run_is ?_, hx, e1, e2, k1.trans kk⟩
    rw [on_eq]
    refine (seq_set c1).trans (seq_ret (for_is (chk := fun _ => True) (items := rangeItems 0 ps.length) (μ1 := μ1) ?_ w))
    refine ir1 (n := ps.length) (e := mB lenL (mCons (mBin idxA (mVar 0) (mC (.int 1))) (mNil))) ?_ (by omega)
    simp [startR, i1, ll]
end
end K12

/-! S36: far houses: bounds, texts of places, bits. -/
namespace K12
open PySem L2 RW
section
variable {S : List Int} {R : Nat} {ps : List Pipe} {g : Int → Int → Int} {μ : Mem} {a b : Pl}
structure Far (S : List Int) (R : Nat) (ps : List Pipe) (g : Int → Int → Int) : Prop where
  M : Metric g S ps
  ok : ∀ p ∈ ps, 1 ≤ p.len
  top : ∀ p ∈ ps, p.len ≤ 1000000000000
  n : ps.length ≤ 16
  s : S.length ≤ 16
  r : R ≤ 16
  r1 : 1 ≤ R
  ln : ps.length + 1 = R
  hS : ∀ x : Int, x ∈ S ↔ 0 ≤ x ∧ x < R
  sR : S.length ≤ R
theorem far_of (H : House R ps) : ∃ S g, Far S R ps g := by
  obtain ⟨S, hSp, tr⟩ := H.tree
  have hok : ∀ p ∈ ps, 1 ≤ p.len := fun p hp => (H.ok p hp).l1
  obtain ⟨g, M⟩ := tr.metric hok
  have hS : ∀ x : Int, x ∈ S ↔ 0 ≤ x ∧ x < R := fun x => by rw [hSp.mem_iff]; exact mem_upTo
  have hSl : S.length ≤ 16 := by rw [hSp.length_eq, upTo_len]; exact H.r2
  have hpl : ps.length ≤ 16 := by have := H.len; have := H.r2; omega
  exact ⟨S, g, M, hok, fun p hp => (H.ok p hp).l2, hpl, hSl, H.r2, H.r1, H.len, hS, by rw [hSp.length_eq, upTo_len]; exact Nat.le_refl _⟩
theorem Far.ends (C : Far S R ps g) : ∀ p ∈ ps, p.a ∈ S ∧ p.b ∈ S := fun p hp => ⟨(C.M.ends p hp).1, (C.M.ends p hp).2.1⟩
theorem Far.geo (C : Far S R ps g) : Geo S ps (dd g ps) := K12.geo C.M C.ok
theorem Far.rooms (C : Far S R ps g) {r s : Int} (hr : r ∈ S) (hs : s ∈ S) : g r s ≤ 16000000000000 := by
  have key : ∀ (n : Nat) (s : Int), s ∈ S → S.countP (fun z => decide (g r z < g r s)) = n → g r s ≤ n * 1000000000000 := fun n => by
    induction n using Nat.strongRecOn with
    | ind n ih =>
      intro s hs hn
      by_cases hrs : r = s
      · subst hrs
        rw [C.M.m0 r hr]; omega
      · obtain ⟨p, hp, c⟩ := C.M.me r hr s hs hrs
        have h1 := C.ok p hp
        have h2 := C.top p hp
        have step : ∀ y, y ∈ S → g r y + p.len = g r s → g r s ≤ n * 1000000000000 := fun y hy e => by
          have hlt : S.countP (fun z => decide (g r z < g r y)) < n := by
            rw [← hn]
            exact cnt_lt (fun z _ hz => decide_eq_true (by have := of_decide_eq_true hz; omega)) hy (decide_eq_true (by omega)) (decide_eq_false (by omega))
          have := ih _ hlt y hy rfl
          have hc : ((S.countP (fun z => decide (g r z < g r y)) : Nat) : Int) + 1 ≤ n := by omega
          omega
        rcases c with ⟨c1, c2⟩ | ⟨c1, c2⟩
        · exact step p.b (C.ends p hp).2 c2
        · exact step p.a (C.ends p hp).1 c2
  have h1 := key _ s hs rfl
  have h2 : S.countP (fun z => decide (g r z < g r s)) ≤ 16 := Nat.le_trans List.countP_le_length C.s
  omega
theorem Far.near (C : Far S R ps g) (ha : IsPl S ps a) : ∃ r, r ∈ S ∧ dd g ps a (.room r) ≤ 1000000000000 := by
  cases a with
  | room r => exact ⟨r, ha, by rw [C.geo.self ha]; omega⟩
  | on q k =>
    obtain ⟨p, e, h0, h1⟩ := ha
    have hp := List.mem_of_getElem? e
    refine ⟨p.a, (C.ends p hp).1, ?_⟩
    have := lane_path e (b := k) (e := 0) ⟨by omega, by omega⟩ ⟨by omega, by omega⟩
    rw [ln_on h0 h1, ln_0] at this
    have := C.geo.le0 (a := .on q k) (show IsPl S ps (.on q k) from ⟨p, e, h0, h1⟩) this
    have h2 := C.top p hp
    unfold absI at this
    rw [if_pos (by omega)] at this
    omega
theorem Far.bound (C : Far S R ps g) (ha : IsPl S ps a) (hb : IsPl S ps b) : dd g ps a b ≤ 18000000000000 := by
  have G := C.geo
  obtain ⟨r, hr, h1⟩ := C.near ha
  obtain ⟨s, hs, h2⟩ := C.near hb
  have pr : IsPl S ps (.room r) := hr
  have ps' : IsPl S ps (.room s) := hs
  have t1 := G.tri ha pr hb
  have t2 := G.tri pr ps' hb
  have e1 : dd g ps (.room r) (.room s) = g r s := rfl
  have h3 := C.rooms hr hs
  have s1 := G.symm ps' hb
  omega

theorem plf_thg (C : Far S R ps g) {x : Pl} (hx : IsPl S ps x) : ∃ q, Thg [] μ 1 2 x.d q := by
  have hR := C.r
  have hl := C.n
  cases x with
  | room r =>
    obtain ⟨h0, h1⟩ := (C.hS r).mp hx
    exact ⟨_, (thg_tup (thgs_cons (B := 0) (thg_int (abs_lt50 (by omega) (by omega))) thgs_nil)).le (Nat.le_refl _) (by decide)⟩
  | on i t =>
    obtain ⟨p, e, h0, h1⟩ := hx
    have hi := (List.getElem?_eq_some_iff.mp e).1
    have := C.top p (List.mem_of_getElem? e)
    have z1 : ((i : Int)).natAbs < 10 ^ 50 := abs_lt50 (by omega) (by omega)
    have z2 : t.natAbs < 10 ^ 50 := abs_lt50 (by omega) (by omega)
    exact ⟨_, (thg_tup (thgs_cons (B := 0) (thg_int z1) (thgs_cons (B := 0) (thg_int z2) thgs_nil))).le (Nat.le_refl _) (by decide)⟩
/-- repr(x) of a thing -/
theorem repr_thg {d : D} {q : PyData} {ex : List Nat} {B : Nat} (T : Thg ex μ 6 B d q) (hB : B ≤ 100000) : reprL [d] μ = .ok (.str q.shown) μ := by
  have e1 : D.sh? 8 μ d = some q := sh_le (by decide) (T.sh μ .refl)
  have ok : showOk q = true := by
    simp only [showOk, Bool.and_eq_true, decide_eq_true_eq]
    refine ⟨⟨T.ok, ?_⟩, ?_⟩
    · have h1 := PyData.shown_le_bulk 60 (by decide) q T.short
      have h2 := T.small
      rw [sizeLine_eq]
      omega
    · have := T.deep
      omega
  simp only [reprL, e1, ok, if_true]
theorem pl_repr (C : Far S R ps g) {x : Pl} (hx : IsPl S ps x) : ∃ s, ∀ μ : Mem, reprL [x.d] μ = .ok (.str s) μ := by
  obtain ⟨q, u⟩ := plf_thg (μ := []) C hx
  refine ⟨q.shown, fun μ => ?_⟩
  obtain ⟨q', u'⟩ := plf_thg (μ := μ) C hx
  have e : q' = q := by
    have h1 := u.sh [] .refl
    have h2 := u'.sh μ .refl
    cases x <;> simp [Pl.d, D.sh?, D.shs?] at h1 h2 <;> rw [← h1, ← h2]
  subst e
  exact repr_thg (u'.le (by decide) (Nat.le_refl _)) (by decide)
/-- the bit so many steps from the head b, the tail is a -/
theorem far_bit {k : Int} (C : Far S R ps g) (ha : IsPl S ps a) (hb : IsPl S ps b) (h0 : 0 ≤ k) (h1 : k ≤ dd g ps b a) : ∃ (z : Pl) (μ' : Mem), m_bit_at [houseD R ps, .tup [a.d, b.d], .int k] μ = .ok z.d μ' ∧ IsPl S ps z ∧ dd g ps b z = k ∧ dd g ps z a = dd g ps b a - k ∧ Keep [] μ μ' := by
  obtain ⟨z, μ', q, hz, d1, d2, kk⟩ := place_on_spec (R := R) (k := k) (μ := μ) C.M C.ok C.n C.s C.r C.hS hb ha h0 h1
  refine ⟨z, μ', run_is (ret_is ?_), hz, d1, d2, kk⟩
  have i1 : idxA (.tup [a.d, b.d]) (.int 1) μ = .ok b.d μ := ix_tup (by decide) rfl
  have i0 : idxA (.tup [a.d, b.d]) (.int 0) μ = .ok a.d μ := ix_tup (by decide) rfl
  have v0 : mVar 0 (startR 3 [houseD R ps, .tup [a.d, b.d], .int k]) μ = .ok (houseD R ps) μ := rfl
  have v1 : mVar 1 (startR 3 [houseD R ps, .tup [a.d, b.d], .int k]) μ = .ok (.tup [a.d, b.d]) μ := rfl
  have v2 : mVar 2 (startR 3 [houseD R ps, .tup [a.d, b.d], .int k]) μ = .ok (.int k) μ := rfl
  simp only [mB, mCons, mNil, mBin, mC, v0, v1, v2, Res.bind, i1, i0, q]
end
end K12

/-! S37: bits in far houses are right. -/
namespace K12
open PySem L2 RW
noncomputable def frB : MS := sSeq (sSet 7 (mB m_law_on (mCons (mVar 1) (mCons (mVar 2) (mCons (mVar 4) (mCons (mVar 3) (mCons (mVar 6) (mNil))))))))
    (sSeq (sIf (mTest (mBin neT (mB reprL (mCons (mB m_bit_at (mCons (mVar 1) (mCons (mTup (mCons (mVar 3) (mCons (mVar 4) (mNil)))) (mCons (mVar 6) (mNil))))) (mNil))) (mB reprL (mCons (mVar 7) (mNil))))) (sRet (mC (.bl false))) (sNil))
    (sIf (mTest (mBin neT (mB reprL (mCons (mB m_bit_at (mCons (mVar 1) (mCons (mTup (mCons (mVar 4) (mCons (mVar 3) (mNil)))) (mCons (mBin subD (mVar 5) (mVar 6)) (mNil))))) (mNil))) (mB reprL (mCons (mVar 7) (mNil))))) (sRet (mC (.bl false))) (sNil)))
noncomputable def frL : MD := mLst (mCons (mC (.int 0)) (mCons (mVar 5) (mCons (mB m_law_far (mCons (mVar 0) (mCons (mBin addD (mVar 5) (mC (.int 1))) (mNil)))) (mCons (mB m_law_far (mCons (mVar 0) (mCons (mBin addD (mVar 5) (mC (.int 1))) (mNil)))) (mCons (mB m_law_take (mCons (mVar 0) (mCons (mBin addD (mVar 5) (mC (.int 1))) (mNil)))) (mNil))))))
theorem far_right_eq : b_law_far_right = sSeq (sSet 1 (mB m_law_far_house (mCons (mVar 0) (mCons (mC (.int 0)) (mNil)))))
    (sSeq (sSet 2 (mB m_law_rooms_apart (mCons (mVar 1) (mNil))))
    (sSeq (sAsg (mB m_law_two (mCons (mVar 0) (mCons (mVar 1) (mNil)))) (gTupM 2 (gConsM (gN 3) (gConsM (gN 4) (gNilM)))))
    (sSeq (sSet 5 (mB m_law_apart (mCons (mVar 1) (mCons (mVar 2) (mCons (mVar 3) (mCons (mVar 4) (mNil)))))))
    (sSeq (sFor (iSeq frL) (gN 6) frB)
    (sRet (mC (.bl true))))))) := rfl
section
variable {S : List Int} {R : Nat} {ps : List Pipe} {g : Int → Int → Int} {μ : Mem} {x y : Pl} {F k c N : Nat}
theorem call2e {f : Sem} {x y : MD} {ρ : Rho} {μ μ1 : Mem} {p q d : D} (h1 : x ρ μ = .ok p μ) (h2 : y ρ μ = .ok q μ) (h : f [p, q] μ = .ok d μ1) : mB f (mCons x (mCons y mNil)) ρ μ = .ok d μ1 := by
  simp only [mB, mCons, mNil, h1, h2, Res.bind, h]
theorem call5 {f : Sem} {x y z w v : MD} {ρ : Rho} {μ μ1 : Mem} {p q r s t d : D} (h1 : x ρ μ = .ok p μ) (h2 : y ρ μ = .ok q μ) (h3 : z ρ μ = .ok r μ) (h4 : w ρ μ = .ok s μ) (h5 : v ρ μ = .ok t μ) (h : f [p, q, r, s, t] μ = .ok d μ1) : mB f (mCons x (mCons y (mCons z (mCons w (mCons v mNil))))) ρ μ = .ok d μ1 := by
  simp only [mB, mCons, mNil, h1, h2, h3, h4, h5, Res.bind, h]
theorem ne_same {a b : MD} {ρ : Rho} {μ μ1 μ2 : Mem} {s : Str} (h1 : a ρ μ = .ok (.str s) μ1) (h2 : b ρ μ1 = .ok (.str s) μ2) : mTest (mBin neT a b) ρ μ = .ok false μ2 := by
  have : mBin neT a b ρ μ = .ok (.bl (!decide (s = s))) μ2 := bin_is h1 h2 rfl
  simp only [mTest, this, Res.bind, decide_true, Bool.not_true]
theorem frB_spec {t : Int} {o7 : Option D} (C : Far S R ps g) (hS2 : ∃ x ∈ S, ∃ y ∈ S, x ≠ y) (T : TabF μ F g S) (hx : IsPl S ps x) (hy : IsPl S ps y) (h0 : 0 ≤ t) (h1 : t ≤ dd g ps x y) :
    ∃ (v : Option D) (μ' : Mem), frB [some (.ref k), some (houseD R ps), some (.ref F), some x.d, some y.d, some (.int (dd g ps x y)), some (.int t), o7] μ = .ok (.nx [some (.ref k), some (houseD R ps), some (.ref F), some x.d, some y.d, some (.int (dd g ps x y)), some (.int t), v]) μ' ∧ Keep [] μ μ' := by
  have G := C.geo
  have sxy := G.symm hx hy
  obtain ⟨z, μ1, q1, hz, d1, d2, k1⟩ := on_spec (R := R) (k := t) C.M C.ok hS2 C.n T hy hx h0 (by omega)
  obtain ⟨z2, μ2, q2, hz2, e1, e2, k2⟩ := far_bit (μ := μ1) (k := t) C hx hy h0 (by omega)
  obtain ⟨z3, μ3, q3, hz3, f1, f2, k3⟩ := far_bit (μ := μ2) (k := dd g ps x y - t) C hy hx (by omega) (by omega)
  have s2 : z2 = z := G.amid_one hy hx hz2 hz e1 e2 d1 d2
  have s3 : z3 = z := G.amid_one hy hx hz3 hz (by have := G.symm hy hz3; omega) (by have := G.symm hx hz3; omega) d1 d2
  subst s2 s3
  obtain ⟨s, hs⟩ := pl_repr C hz
  let ρ : Rho := [some (.ref k), some (houseD R ps), some (.ref F), some x.d, some y.d, some (.int (dd g ps x y)), some (.int t), some z3.d]
  have c1 : mB m_law_on (mCons (mVar 1) (mCons (mVar 2) (mCons (mVar 4) (mCons (mVar 3) (mCons (mVar 6) (mNil)))))) [some (.ref k), some (houseD R ps), some (.ref F), some x.d, some y.d, some (.int (dd g ps x y)), some (.int t), o7] μ = .ok z3.d μ1 := call5 rfl rfl rfl rfl rfl q1
  have c2 : mB m_bit_at (mCons (mVar 1) (mCons (mTup (mCons (mVar 3) (mCons (mVar 4) (mNil)))) (mCons (mVar 6) (mNil)))) ρ μ1 = .ok z3.d μ2 := call3 rfl rfl rfl q2
  have c3 : mB m_bit_at (mCons (mVar 1) (mCons (mTup (mCons (mVar 4) (mCons (mVar 3) (mNil)))) (mCons (mBin subD (mVar 5) (mVar 6)) (mNil)))) ρ μ2 = .ok z3.d μ3 := call3 rfl rfl rfl q3
  have r2 : mB reprL (mCons (mB m_bit_at (mCons (mVar 1) (mCons (mTup (mCons (mVar 3) (mCons (mVar 4) (mNil)))) (mCons (mVar 6) (mNil))))) (mNil)) ρ μ1 = .ok (.str s) μ2 := call1' c2 (hs μ2)
  have r3 : mB reprL (mCons (mB m_bit_at (mCons (mVar 1) (mCons (mTup (mCons (mVar 4) (mCons (mVar 3) (mNil)))) (mCons (mBin subD (mVar 5) (mVar 6)) (mNil))))) (mNil)) ρ μ2 = .ok (.str s) μ3 := call1' c3 (hs μ3)
  have r7 : ∀ μ, mB reprL (mCons (mVar 7) (mNil)) ρ μ = .ok (.str s) μ := fun μ => call1' rfl (hs μ)
  refine ⟨some z3.d, μ3, ?_, (k1.trans k2).trans k3⟩
  unfold frB
  refine (seq_set c1).trans ?_
  show sSeq _ _ ρ μ1 = _
  refine (seq_skip (ne_same r2 (r7 μ2))).trans ((if_f (ne_same r3 (r7 μ3))).trans rfl)
theorem frL_spec {o6 o7 : Option D} (h : Stm μ k c N) (hN : N + 10 < 1000000) {L : Int} (h0 : 0 ≤ L) (h1 : L ≤ 18000000000000) {v1 v2 v3 v4 : Option D} :
    ∃ (t1 t2 t3 : Int) (n : Nat) (μ' : Mem), frL [some (.ref k), v1, v2, v3, v4, some (.int L), o6, o7] μ = .ok (.ref n) μ' ∧ μ'[n]? = some (.lst ([0, L, t1, t2, t3].map D.int)) ∧ (∀ t ∈ [0, L, t1, t2, t3], 0 ≤ t ∧ t ≤ L) ∧ Stm μ' k c (N + 7) ∧ Keep [k] μ μ' := by
  obtain ⟨t1, μ1, q1, a1, b1, s1, k1⟩ := far_spec' (M := L + 1) h (by omega) (by omega) (by omega)
  obtain ⟨t2, μ2, q2, a2, b2, s2, k2⟩ := far_spec' (M := L + 1) s1 (by omega) (by omega) (by omega)
  obtain ⟨t3, μ3, q3, a3, b3, s3, k3⟩ := take_spec (j := L + 1) s2 (by omega) (by omega) (by omega)
  refine ⟨t1, t2, t3, μ3.length, μ3 ++ [.lst ([0, L, t1, t2, t3].map D.int)], ?_, app_new, fun t ht => ?_, (s3.app).mono (by omega), ((k1.trans k2).trans k3).trans Keep.app⟩
  · unfold frL
    simp [add_ok, q1, q2, q3]
  · simp at ht; omega
theorem far_right_spec (h : Stm μ k c N) (hN : N + 2000 < 1000000) : ∃ μ' : Mem, m_law_far_right [.ref k] μ = .ok (.bl true) μ' ∧ Stm μ' k c (N + 2000) ∧ Keep [k] μ μ' := by
  obtain ⟨R, ps, μ1, q1, H, hR, s1, k1⟩ := far_house_spec (fl := 0) h (by omega) (by decide) (by decide)
  obtain ⟨S, g, C⟩ := far_of H
  have hS2 : ∃ x ∈ S, ∃ y ∈ S, x ≠ y := ⟨0, (C.hS 0).mpr ⟨by omega, by omega⟩, 1, (C.hS 1).mpr ⟨by omega, by omega⟩, by decide⟩
  have l1 := s1.lt
  obtain ⟨F, μ2, q2, T2, lF, k2⟩ := rooms_apart_spec (μ := μ1) C.M C.ok C.hS (C.sR) C.r C.n
  have s2 : Stm μ2 k c (N + 1000) := s1.keep k2 (by simp) (by simp)
  obtain ⟨x, y, n, μ3, q3, en, hx, hy, hxy, s3, k3⟩ := two_spec H C.hS hR s2 (by omega)
  have T3 : TabF μ3 F g S := T2.keep k3 (by simp; omega)
  obtain ⟨μ4, q4, k4⟩ := apart_spec (R := R) C.M T3 hx hy
  have T4 : TabF μ4 F g S := T3.keep k4 (by simp)
  have s4 : Stm μ4 k c (N + 1000 + 12) := s3.keep k4 (by simp) (by simp)
  have G := C.geo
  have L0 := G.pos hx hy
  have L1 := C.bound hx hy
  obtain ⟨t1, t2, t3, m, μ5, q5, em, ht, s5, k5⟩ := frL_spec (o6 := none) (o7 := none) (v1 := some (houseD R ps)) (v2 := some (.ref F)) (v3 := some x.d) (v4 := some y.d) s4 (by omega) L0 L1
  have z4 := ((((k1.trans (k2.mono (ex' := [k]) (by simp))).trans k3).trans (k4.mono (ex' := [k]) (by simp)))).1
  have T5 : TabF μ5 F g S := T4.keep k5 (by simp; omega)
  generalize hns : [0, dd g ps x y, t1, t2, t3] = ns at em ht
  have loop := forL_ok (chk := fun μ' => μ'[m]? = some (.lst (ns.map D.int))) (g := gN 6) (body := frB) (ns.map D.int)
    (fun i ρ μ' => i ≤ ns.length ∧ ∃ o6 o7, ρ = [some (.ref k), some (houseD R ps), some (.ref F), some x.d, some y.d, some (.int (dd g ps x y)), o6, o7] ∧ Keep [] μ5 μ') 0
    (ρ := [some (.ref k), some (houseD R ps), some (.ref F), some x.d, some y.d, some (.int (dd g ps x y)), none, none]) (μ := μ5) ⟨Nat.zero_le _, none, none, rfl, .refl⟩ (fun i ρ μ' ⟨_, _, _, _, kk⟩ => kk.get em (by simp))
    (fun i d ρ μ' ed ⟨hi, o6, o7, eρ, kk⟩ => by
      simp only [Nat.zero_add] at hi ⊢
      subst eρ
      rw [List.getElem?_map] at ed
      obtain ⟨t, et, rfl⟩ := Option.map_eq_some_iff.mp ed
      have hi2 := (List.getElem?_eq_some_iff.mp et).1
      obtain ⟨t0, t1'⟩ := ht t (List.mem_of_getElem? et)
      obtain ⟨v, μ6, q6, k6⟩ := frB_spec (k := k) (o7 := o7) C hS2 (T5.keep kk (by simp)) hx hy t0 t1'
      exact .mk (a := [some (.ref k), some (houseD R ps), some (.ref F), some x.d, some y.d, some (.int (dd g ps x y)), some (.int t), o7]) (μ := μ') rfl (.mk q6 ⟨_, .inl rfl, by omega, _, _, rfl, kk.trans k6⟩))
  rw [List.length_map, Nat.zero_add] at loop
  obtain ⟨f, μ6, w, ρ', rfl, _, o6, o7, rfl, k6⟩ := loop
  have c1 : mB m_law_far_house (mCons (mVar 0) (mCons (mC (.int 0)) (mNil))) (startR 8 [.ref k]) μ = .ok (houseD R ps) μ1 := call2e rfl rfl q1
  let ρ1 : Rho := [some (.ref k), some (houseD R ps), none, none, none, none, none, none]
  have c2 : mB m_law_rooms_apart (mCons (mVar 1) (mNil)) ρ1 μ1 = .ok (.ref F) μ2 := call1e rfl q2
  let ρ2 : Rho := [some (.ref k), some (houseD R ps), some (.ref F), none, none, none, none, none]
  have c3 : mB m_law_two (mCons (mVar 0) (mCons (mVar 1) (mNil))) ρ2 μ2 = .ok (.ref n) μ3 := call2e rfl rfl q3
  let ρ3 : Rho := [some (.ref k), some (houseD R ps), some (.ref F), some x.d, some y.d, none, none, none]
  have g3 : gTupM 2 (gConsM (gN 3) (gConsM (gN 4) (gNilM))) (.ref n) ρ2 μ3 = .ok ρ3 μ3 := by simp [en, ρ2, ρ3]
  have c4 : mB m_law_apart (mCons (mVar 1) (mCons (mVar 2) (mCons (mVar 3) (mCons (mVar 4) (mNil))))) ρ3 μ3 = .ok (.int (dd g ps x y)) μ4 := call4 rfl rfl rfl rfl q4
  refine ⟨μ6, run_is ?_, (s5.keep k6 (by simp) (by simp)).mono (by omega), ((((k1.trans (k2.mono (ex' := [k]) (by simp))).trans k3).trans (k4.mono (ex' := [k]) (by simp))).trans k5).trans (k6.mono (ex' := [k]) (by simp))⟩
  rw [far_right_eq]
  refine (seq_set c1).trans ?_
  show sSeq _ _ ρ1 μ1 = _
  refine (seq_set c2).trans ?_
  show sSeq _ _ ρ2 μ2 = _
  refine (seq_asg c3 g3).trans ((seq_set c4).trans ?_)
  show sSeq _ _ [some (.ref k), some (houseD R ps), some (.ref F), some x.d, some y.d, some (.int (dd g ps x y)), none, none] μ4 = _
  refine (seq_run (for_run (seq_lst q5 em) w)).trans (ret_is rfl)
end
end K12

/-! k12: the law. -/
namespace K12
open PySem L2 RW
noncomputable def lawB : MS := sIf (mOr (mNot (mTest (mB m_law_small_right (mCons (mVar 1) (mNil))))) (mNot (mTest (mB m_law_far_right (mCons (mVar 1) (mNil)))))) (sRet (mC (.bl false))) (sNil)
theorem law_eq : b_law = sSeq (sSet 1 (mB m_law_stream (mCons (mVar 0) (mCons (mC (.int 12)) (mNil)))))
    (sSeq (sFor (iRange1 (mCons (mC (.int 3)) (mNil))) (gN 2) lawB)
    (sRet (mC (.bl true)))) := rfl
theorem lawB_spec {μ : Mem} {k c N : Nat} {v0 o2 : Option D} (h : Stm μ k c N) (hN : N + 10000 < 1000000) : ∃ μ' : Mem, lawB [v0, some (.ref k), o2] μ = .ok (.nx [v0, some (.ref k), o2]) μ' ∧ Stm μ' k c (N + 10000) := by
  obtain ⟨μ1, q1, s1, -⟩ := small_right_spec h (by omega)
  obtain ⟨μ2, q2, s2, -⟩ := far_right_spec s1 (by omega)
  have c1 : mB m_law_small_right (mCons (mVar 1) (mNil)) [v0, some (.ref k), o2] μ = .ok (.bl true) μ1 := call1e rfl q1
  have c2 : mB m_law_far_right (mCons (mVar 1) (mNil)) [v0, some (.ref k), o2] μ1 = .ok (.bl true) μ2 := call1e rfl q2
  have n1 := not_test c1
  have n2 := not_test c2
  refine ⟨μ2, (if_f (μ1 := μ2) ?_).trans rfl, s2.mono (by omega)⟩
  rw [mOr, n1]
  simp only [Bool.not_true, Res.bind]
  exact n2
theorem math (ns : List Int) (hn : ns.length ≤ 63) : ∃ μ, m_law [.frl (ns.map D.int)] [] = .ok (.bl true) μ := by
  obtain ⟨k, c, μ1, q1, s1⟩ := stream_spec ns 12 hn
  have c1 : mB m_law_stream (mCons (mVar 0) (mCons (mC (.int 12)) (mNil))) (startR 3 [.frl (ns.map D.int)]) [] = .ok (.ref k) μ1 := call2e rfl rfl q1
  have loop := forL_ok (chk := fun _ => True) (g := gN 2) (body := lawB) (rangeItems 0 3)
    (fun i ρ μ' => ∃ o2, ρ = [some (.frl (ns.map D.int)), some (.ref k), o2] ∧ Stm μ' k c (12 + 10000 * i) ∧ i ≤ 3) 0
    (ρ := [some (.frl (ns.map D.int)), some (.ref k), none]) (μ := μ1) ⟨none, rfl, s1, by omega⟩ (fun _ _ _ _ => trivial)
    (fun i d ρ μ' ed ⟨o2, eρ, s, hi⟩ => by
      simp only [Nat.zero_add] at s hi ⊢
      subst eρ
      have hi2 := (Q.range_at ed).1
      obtain ⟨μ2, q2, s2⟩ := lawB_spec (v0 := some (.frl (ns.map D.int))) (o2 := some d) s (by omega)
      exact .mk (a := [some (.frl (ns.map D.int)), some (.ref k), some d]) (μ := μ') rfl (.mk q2 ⟨_, .inl rfl, some d, rfl, s2.mono (by omega), by omega⟩))
  obtain ⟨f, μ2, w, ρ', rfl, o2, rfl, -, -⟩ := loop
  refine ⟨μ2, run_is ?_⟩
  rw [law_eq]
  refine (seq_set c1).trans ?_
  show sSeq _ _ [some (.frl (ns.map D.int)), some (.ref k), none] μ1 = _
  exact (seq_run (for_run (ir1 (n := 3) (e := mC (.int 3)) rfl (by decide)) w)).trans (ret_is rfl)
end K12

open PySem PySem.W PyProof.Rows
set_option maxRecDepth 100000 in
set_option maxHeartbeats 0 in
theorem PySem.Challenge.cw_ropewarren_k12_bits_holds : PySem.Challenge.rw_ropewarren_k12_bits.Holds := by
  w_on; o_law; k_head; (case hw => w_witness2)
  k_fill
  refine K12.walk (l := PySem.Challenge.rw_ropewarren_k12_bits) rfl rfl (fun w h Y => PySem.W.kIn_of Y) ?F
  case F =>
    intro w mg fa h KX G hmg
    refine' K12.all_mk KX G hmg ?aC_Web ?pg_Web ?hd_Web ?po_Web ?sa_Web ?mk_Web ?kc_Web ?n_Web_own ?n_Web_known ?a_law_stream ?l_law_stream ?c_law_stream ?k_law_stream ?a_law_take ?l_law_take ?c_law_take ?k_law_take ?a_law_house ?l_law_house ?c_law_house ?k_law_house ?a_law_places ?l_law_places ?c_law_places ?k_law_places ?a_law_spot ?l_law_spot ?c_law_spot ?k_law_spot ?a_law_nexts ?l_law_nexts ?c_law_nexts ?k_law_nexts ?a_law_row ?l_law_row ?c_law_row ?k_law_row ?a_law_rope ?l_law_rope ?c_law_rope ?k_law_rope ?a_law_widths ?l_law_widths ?c_law_widths ?k_law_widths ?a_law_knots_lie ?l_law_knots_lie ?c_law_knots_lie ?k_law_knots_lie ?a_law_drawn ?l_law_drawn ?c_law_drawn ?k_law_drawn ?a_place_at ?l_place_at ?c_place_at ?k_place_at ?a_place_along ?l_place_along ?c_place_along ?k_place_along ?a_is_one_pipe ?l_is_one_pipe ?c_is_one_pipe ?k_is_one_pipe ?a_sides_of ?l_sides_of ?c_sides_of ?k_sides_of ?a_turned ?l_turned ?c_turned ?k_turned ?a_between_rooms ?l_between_rooms ?c_between_rooms ?k_between_rooms ?a_road_in ?l_road_in ?c_road_in ?k_road_in ?a_spot_in ?l_spot_in ?c_spot_in ?k_spot_in ?a_pipes_at ?l_pipes_at ?c_pipes_at ?k_pipes_at ?a_rooms_from ?l_rooms_from ?c_rooms_from ?k_rooms_from ?a_Web_init ?i_Web_init ?l_Web_init ?c_Web_init ?k_Web_init ?a_place_on ?l_place_on ?c_place_on ?k_place_on ?a_bit_at ?l_bit_at ?c_bit_at ?k_bit_at ?a_law_small_right ?l_law_small_right ?c_law_small_right ?k_law_small_right ?a_law_far ?l_law_far ?c_law_far ?k_law_far ?a_law_far_house ?l_law_far_house ?c_law_far_house ?k_law_far_house ?a_law_rooms_apart ?l_law_rooms_apart ?c_law_rooms_apart ?k_law_rooms_apart ?a_law_far_place ?l_law_far_place ?c_law_far_place ?k_law_far_place ?a_law_two ?l_law_two ?c_law_two ?k_law_two ?a_law_rooms_by ?l_law_rooms_by ?c_law_rooms_by ?k_law_rooms_by ?a_law_apart ?l_law_apart ?c_law_apart ?k_law_apart ?a_law_far_spot ?l_law_far_spot ?c_law_far_spot ?k_law_far_spot ?a_law_on ?l_law_on ?c_law_on ?k_law_on ?a_law_far_right ?l_law_far_right ?c_law_far_right ?k_law_far_right ?a_law ?l_law ?c_law ?k_law ?z_abs ?z_enumerate ?z_int ?z_len ?z_max ?z_min ?z_range ?z_repr ?z_reversed ?z_set ?z_sorted ?z_tuple K12.math
    (case aC_Web => k_is)
    (case pg_Web => k_is)
    (case hd_Web => k_is)
    (case po_Web => k_is)
    (case sa_Web => k_is)
    (case mk_Web => k_is)
    (case kc_Web => k_is)
    (case n_Web_own => k_is)
    (case n_Web_known => k_is)
    (case a_law_stream => k_is)
    (case l_law_stream => k_is)
    (case c_law_stream => k_is)
    (case k_law_stream => k_is)
    (case a_law_take => k_is)
    (case l_law_take => k_is)
    (case c_law_take => k_is)
    (case k_law_take => k_is)
    (case a_law_house => k_is)
    (case l_law_house => k_is)
    (case c_law_house => k_is)
    (case k_law_house => k_is)
    (case a_law_places => k_is)
    (case l_law_places => k_is)
    (case c_law_places => k_is)
    (case k_law_places => k_is)
    (case a_law_spot => k_is)
    (case l_law_spot => k_is)
    (case c_law_spot => k_is)
    (case k_law_spot => k_is)
    (case a_law_nexts => k_is)
    (case l_law_nexts => k_is)
    (case c_law_nexts => k_is)
    (case k_law_nexts => k_is)
    (case a_law_row => k_is)
    (case l_law_row => k_is)
    (case c_law_row => k_is)
    (case k_law_row => k_is)
    (case a_law_rope => k_is)
    (case l_law_rope => k_is)
    (case c_law_rope => k_is)
    (case k_law_rope => k_is)
    (case a_law_widths => k_is)
    (case l_law_widths => k_is)
    (case c_law_widths => k_is)
    (case k_law_widths => k_is)
    (case a_law_knots_lie => k_is)
    (case l_law_knots_lie => k_is)
    (case c_law_knots_lie => k_is)
    (case k_law_knots_lie => k_is)
    (case a_law_drawn => k_is)
    (case l_law_drawn => k_is)
    (case c_law_drawn => k_is)
    (case k_law_drawn => k_is)
    (case a_place_at => k_is)
    (case l_place_at => k_is)
    (case c_place_at => k_is)
    (case k_place_at => k_is)
    (case a_place_along => k_is)
    (case l_place_along => k_is)
    (case c_place_along => k_is)
    (case k_place_along => k_is)
    (case a_is_one_pipe => k_is)
    (case l_is_one_pipe => k_is)
    (case c_is_one_pipe => k_is)
    (case k_is_one_pipe => k_is)
    (case a_sides_of => k_is)
    (case l_sides_of => k_is)
    (case c_sides_of => k_is)
    (case k_sides_of => k_is)
    (case a_turned => k_is)
    (case l_turned => k_is)
    (case c_turned => k_is)
    (case k_turned => k_is)
    (case a_between_rooms => k_is)
    (case l_between_rooms => k_is)
    (case c_between_rooms => k_is)
    (case k_between_rooms => k_is)
    (case a_road_in => k_is)
    (case l_road_in => k_is)
    (case c_road_in => k_is)
    (case k_road_in => k_is)
    (case a_spot_in => k_is)
    (case l_spot_in => k_is)
    (case c_spot_in => k_is)
    (case k_spot_in => k_is)
    (case a_pipes_at => k_is)
    (case l_pipes_at => k_is)
    (case c_pipes_at => k_is)
    (case k_pipes_at => k_is)
    (case a_rooms_from => k_is)
    (case l_rooms_from => k_is)
    (case c_rooms_from => k_is)
    (case k_rooms_from => k_is)
    (case a_Web_init => k_is)
    (case i_Web_init => k_is)
    (case l_Web_init => k_is)
    (case c_Web_init => k_is)
    (case k_Web_init => k_is)
    (case a_place_on => k_is)
    (case l_place_on => k_is)
    (case c_place_on => k_is)
    (case k_place_on => k_is)
    (case a_bit_at => k_is)
    (case l_bit_at => k_is)
    (case c_bit_at => k_is)
    (case k_bit_at => k_is)
    (case a_law_small_right => k_is)
    (case l_law_small_right => k_is)
    (case c_law_small_right => k_is)
    (case k_law_small_right => k_is)
    (case a_law_far => k_is)
    (case l_law_far => k_is)
    (case c_law_far => k_is)
    (case k_law_far => k_is)
    (case a_law_far_house => k_is)
    (case l_law_far_house => k_is)
    (case c_law_far_house => k_is)
    (case k_law_far_house => k_is)
    (case a_law_rooms_apart => k_is)
    (case l_law_rooms_apart => k_is)
    (case c_law_rooms_apart => k_is)
    (case k_law_rooms_apart => k_is)
    (case a_law_far_place => k_is)
    (case l_law_far_place => k_is)
    (case c_law_far_place => k_is)
    (case k_law_far_place => k_is)
    (case a_law_two => k_is)
    (case l_law_two => k_is)
    (case c_law_two => k_is)
    (case k_law_two => k_is)
    (case a_law_rooms_by => k_is)
    (case l_law_rooms_by => k_is)
    (case c_law_rooms_by => k_is)
    (case k_law_rooms_by => k_is)
    (case a_law_apart => k_is)
    (case l_law_apart => k_is)
    (case c_law_apart => k_is)
    (case k_law_apart => k_is)
    (case a_law_far_spot => k_is)
    (case l_law_far_spot => k_is)
    (case c_law_far_spot => k_is)
    (case k_law_far_spot => k_is)
    (case a_law_on => k_is)
    (case l_law_on => k_is)
    (case c_law_on => k_is)
    (case k_law_on => k_is)
    (case a_law_far_right => k_is)
    (case l_law_far_right => k_is)
    (case c_law_far_right => k_is)
    (case k_law_far_right => k_is)
    (case a_law => k_is)
    (case l_law => k_is)
    (case c_law => k_is)
    (case k_law => k_is)
    (case z_abs => k_is)
    (case z_enumerate => k_is)
    (case z_int => k_is)
    (case z_len => k_is)
    (case z_max => k_is)
    (case z_min => k_is)
    (case z_range => k_is)
    (case z_repr => k_is)
    (case z_reversed => k_is)
    (case z_set => k_is)
    (case z_sorted => k_is)
    (case z_tuple => k_is)
