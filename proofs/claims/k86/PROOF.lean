import PyProof.Rows.All
import Wide.All
import OpenK.AllK
import Wide.FinOn
import HandS.Base
import HandS.Call
import HandS.List
import HandS.Comp
import HandS.Ends
import HandS.Exc
import HandS.TryOnly
import HandS.ExcOwn
import HandS.Words
import HandS.Strs
import KE.KeyNested
import PyProof.DictRoadsH
import PyProof.DictStraight
import HandS.TupAny
import HandS.Wide
import HandS.More
import HandS.WordsExc
import HandS.Dict
import KE.KDictDisplayH
import HandS.Iter
import KE.KDictWalk
import KE.GoesMore
import PyProof.EnumMake
import HandS.SetFor
import HandS.SortInts
import HandS.IsInst
import HandS.ForMost
import HandS.Style
import HandS.Rev
import HandS.Conv
import KE.SortData
import PyProof.ReprRoads
import PyProof.ReprBulk
import PyProof.CallFns
import HandS.RaiseMore
import HandS.Zip
import KE.KDictPairs
import KE.KDictKeyed
import KE.KDictSum
import KE.KDictCopyH
import HandS.ExcInit
import KE.DataMinMax
import HandS.Text
import HandS.StrMore
import HandS.FStr
import PySem.Challenge.RW_ropewarren_k86_house_texts
set_option Elab.async false
set_option linter.all false
set_option maxRecDepth 100000
/-! SEa: values as data (tuples are values), an own memory of cells, and how both stand in HandS's abstract heap. -/
namespace RW
open PySem L2

inductive D where
  | non | bl (b : Bool) | int (i : Int) | str (s : Str) | tup (l : List D) | frl (l : List D) | ref (n : Nat) | fn (x : Str)
instance : Inhabited D := ⟨.non⟩
inductive Cell where
  | lst (l : List D) | dic (l : List (D × D)) | tdic (l : List (D × D)) | iset (l : List Int) | lck (t : Bool) (l : List (D × D)) | ins (c : Str) (fs : List (Str × D))
abbrev Mem := List Cell
abbrev Rho := List (Option D)
inductive Res (α : Type) where
  | ok (a : α) (m : Mem) | exc (c : Str) (fs : List D) (m : Mem) | stuck
@[simp] def Res.bind {α β : Type} (r : Res α) (k : α → Mem → Res β) : Res β := match r with
  | .ok a m => k a m
  | .exc c fs m => .exc c fs m
  | .stuck => .stuck
theorem Res.bind_assoc {α β γ : Type} (r : Res α) (k : α → Mem → Res β) (k' : β → Mem → Res γ) : (r.bind k).bind k' = r.bind fun a m => (k a m).bind k' := by
  cases r <;> rfl

/-! ### how data stand in the heap -/
/-- what stays through the whole law -/
structure Gd where
  P : Program
  w : World
  K : PySem.W.Frag
  mg : Str → Option Value
section
variable (G : Gd) (ι : List Addr) (H : Hp)
/-- at a stands a list that nobody changes -/
def FrL (a : Addr) (vs : List V) : Prop := (∃ o, H a = some (.frz o (.lst vs))) ∨
  ∃ (o : Obj) (its : Array Value) (n : Nat), G.K.lookup a = some o ∧ o.cls = .type "list" ∧ o.dict = none ∧ o.data = .seq its n ∧ its.size ≤ sizeLine ∧ Vals vs its.toList
theorem FrL.sq {a : Addr} {vs : List V} (h : FrL G H a vs) : SqL G.K H a vs := by
  rcases h with ⟨o, h⟩ | h
  · exact .inl (.inr ⟨o, h⟩)
  · exact .inr h
mutual
def Rep : D → V → Prop
  | .non, v => v = .non
  | .bl b, v => v = .bl b
  | .int i, v => v = .int i
  | .str s, v => v = .str s
  | .ref n, v => ∃ a, ι[n]? = some a ∧ v = .ref a
  | .fn x, v => ∃ a, G.mg x = some (.ref a) ∧ v = .ref a
  | .tup l, v => ∃ a vs, v = .ref a ∧ SqT G.K H a vs ∧ Reps l vs
  | .frl l, v => ∃ a vs, v = .ref a ∧ FrL G H a vs ∧ Reps l vs
def Reps : List D → List V → Prop
  | [], vs => vs = []
  | d :: l, vs => ∃ v r, vs = v :: r ∧ Rep d v ∧ Reps l r
end
end
section
variable {G : Gd} {ι : List Addr} {H : Hp}
theorem Reps.nil : Reps G ι H [] [] := by unfold Reps; rfl
theorem Reps.cons {d : D} {v : V} {l : List D} {r : List V} (h : Rep G ι H d v) (t : Reps G ι H l r) : Reps G ι H (d :: l) (v :: r) := by
  unfold Reps; exact ⟨v, r, rfl, h, t⟩
theorem Reps.nil_inv {vs : List V} (h : Reps G ι H [] vs) : vs = [] := by unfold Reps at h; exact h
theorem Reps.cons_inv {d : D} {l : List D} {vs : List V} (h : Reps G ι H (d :: l) vs) : ∃ v r, vs = v :: r ∧ Rep G ι H d v ∧ Reps G ι H l r := by
  unfold Reps at h; exact h
theorem Reps.length : ∀ {l : List D} {vs : List V}, Reps G ι H l vs → vs.length = l.length
  | [], _, h => by rw [h.nil_inv]; rfl
  | d :: l, _, h => by
    obtain ⟨v, r, rfl, _, t⟩ := h.cons_inv
    simp [Reps.length t]
theorem Reps.get : ∀ {l : List D} {vs : List V} {i : Nat} {d : D}, Reps G ι H l vs → l[i]? = some d → ∃ v, vs[i]? = some v ∧ Rep G ι H d v
  | [], _, _, _, _, e => by simp at e
  | d :: l, _, i, x, h, e => by
    obtain ⟨v, r, rfl, h1, t⟩ := h.cons_inv
    cases i with
    | zero => simp at e; subst e; exact ⟨v, rfl, h1⟩
    | succ i => simpa using Reps.get t (by simpa using e)
theorem Reps.get' {l : List D} {vs : List V} {i : Nat} {v : V} (h : Reps G ι H l vs) (e : vs[i]? = some v) : ∃ d, l[i]? = some d ∧ Rep G ι H d v := by
  have hl := h.length
  have hi : i < vs.length := (List.getElem?_eq_some_iff.mp e).1
  have e2 : l[i]? = some l[i] := List.getElem?_eq_getElem (by omega)
  obtain ⟨v', e3, r⟩ := h.get e2
  rw [e] at e3; cases e3
  exact ⟨_, e2, r⟩
theorem Reps.append : ∀ {l l' : List D} {vs vs' : List V}, Reps G ι H l vs → Reps G ι H l' vs' → Reps G ι H (l ++ l') (vs ++ vs')
  | [], _, _, _, h, h' => by rw [h.nil_inv]; exact h'
  | d :: l, _, _, _, h, h' => by
    obtain ⟨v, r, rfl, h1, t⟩ := h.cons_inv
    exact .cons h1 (Reps.append t h')
theorem Reps.set : ∀ {l : List D} {vs : List V} (i : Nat) {d : D} {v : V}, Reps G ι H l vs → Rep G ι H d v → Reps G ι H (l.set i d) (vs.set i v)
  | [], _, _, _, _, h, _ => by rw [h.nil_inv]; exact .nil
  | x :: l, _, 0, _, _, h, h' => by
    obtain ⟨v, r, rfl, h1, t⟩ := h.cons_inv
    exact .cons h' t
  | x :: l, _, i + 1, _, _, h, h' => by
    obtain ⟨v, r, rfl, h1, t⟩ := h.cons_inv
    exact .cons h1 (Reps.set i t h')
theorem Reps.take : ∀ {l : List D} {vs : List V} (n : Nat), Reps G ι H l vs → Reps G ι H (l.take n) (vs.take n)
  | _, _, 0, _ => by simp; exact .nil
  | [], _, n + 1, h => by rw [h.nil_inv]; simp; exact .nil
  | d :: l, _, n + 1, h => by
    obtain ⟨v, r, rfl, h1, t⟩ := h.cons_inv
    simp; exact .cons h1 (Reps.take n t)
theorem Reps.drop : ∀ {l : List D} {vs : List V} (n : Nat), Reps G ι H l vs → Reps G ι H (l.drop n) (vs.drop n)
  | _, _, 0, h => by simpa using h
  | [], _, n + 1, h => by rw [h.nil_inv]; simp; exact .nil
  | d :: l, _, n + 1, h => by
    obtain ⟨v, r, rfl, h1, t⟩ := h.cons_inv
    simp; exact Reps.drop n t
theorem Reps.reverse : ∀ {l : List D} {vs : List V}, Reps G ι H l vs → Reps G ι H l.reverse vs.reverse
  | [], _, h => by rw [h.nil_inv]; exact .nil
  | d :: l, _, h => by
    obtain ⟨v, r, rfl, h1, t⟩ := h.cons_inv
    rw [List.reverse_cons, List.reverse_cons]
    exact (Reps.reverse t).append (.cons h1 .nil)
theorem Reps.ints : ∀ {ns : List Int} {vs : List V}, Reps G ι H (ns.map D.int) vs → vs = ns.map V.int
  | [], _, h => h.nil_inv
  | n :: ns, _, h => by
    obtain ⟨v, r, rfl, h1, t⟩ := h.cons_inv
    unfold Rep at h1
    rw [h1, Reps.ints t]; rfl
theorem Reps.of_ints : ∀ (ns : List Int), Reps G ι H (ns.map D.int) (ns.map V.int)
  | [] => .nil
  | n :: ns => .cons (by unfold Rep; rfl) (Reps.of_ints ns)
theorem Reps.strs : ∀ {ns : List Str} {vs : List V}, Reps G ι H (ns.map D.str) vs → vs = ns.map V.str
  | [], _, h => h.nil_inv
  | n :: ns, _, h => by
    obtain ⟨v, r, rfl, h1, t⟩ := h.cons_inv
    unfold Rep at h1
    rw [h1, Reps.strs t]; rfl
theorem Reps.of_strs : ∀ (ns : List Str), Reps G ι H (ns.map D.str) (ns.map V.str)
  | [] => .nil
  | n :: ns => .cons (by unfold Rep; rfl) (Reps.of_strs ns)
theorem Reps.bls : ∀ {ns : List Bool} {vs : List V}, Reps G ι H (ns.map D.bl) vs → vs = ns.map V.bl
  | [], _, h => h.nil_inv
  | n :: ns, _, h => by
    obtain ⟨v, r, rfl, h1, t⟩ := h.cons_inv
    unfold Rep at h1
    rw [h1, Reps.bls t]; rfl
end

/-- what stays: the tuples, the locked lists; places of cells -/
structure Ext (ι : List Addr) (H : Hp) (ι' : List Addr) (H' : Hp) : Prop where
  pre : ι <+: ι'
  tup : ∀ a xs, H a = some (.tup xs) → H' a = some (.tup xs)
  frz : ∀ a o u, H a = some (.frz o u) → (∃ xs, u = .lst xs ∨ u = .tup xs) → H' a = some (.frz o u)
section
variable {G : Gd} {ι ι' : List Addr} {H H' : Hp}
theorem prefix_get {ι ι' : List Addr} (p : ι <+: ι') {n : Nat} {a : Addr} (h : ι[n]? = some a) : ι'[n]? = some a := by
  obtain ⟨t, rfl⟩ := p
  rw [List.getElem?_append_left (List.getElem?_eq_some_iff.mp h).1]; exact h
mutual
theorem Rep.ext (x : Ext ι H ι' H') : ∀ {d : D} {v : V}, Rep G ι H d v → Rep G ι' H' d v
  | .non, _, h => by unfold Rep at h ⊢; exact h
  | .bl _, _, h => by unfold Rep at h ⊢; exact h
  | .int _, _, h => by unfold Rep at h ⊢; exact h
  | .str _, _, h => by unfold Rep at h ⊢; exact h
  | .fn _, _, h => by unfold Rep at h ⊢; exact h
  | .ref n, _, h => by
    unfold Rep at h ⊢
    obtain ⟨a, h1, h2⟩ := h
    exact ⟨a, prefix_get x.pre h1, h2⟩
  | .tup l, _, h => by
    unfold Rep at h ⊢
    obtain ⟨a, vs, h1, h2, h3⟩ := h
    refine ⟨a, vs, h1, ?_, Reps.ext x h3⟩
    rcases h2 with (h2 | ⟨o, h2⟩) | h2
    · exact .inl (.inl (x.tup _ _ h2))
    · exact .inl (.inr ⟨o, x.frz _ _ _ h2 ⟨_, .inr rfl⟩⟩)
    · exact .inr h2
  | .frl l, _, h => by
    unfold Rep at h ⊢
    obtain ⟨a, vs, h1, h2, h3⟩ := h
    refine ⟨a, vs, h1, ?_, Reps.ext x h3⟩
    rcases h2 with ⟨o, h2⟩ | h2
    · exact .inl ⟨o, x.frz _ _ _ h2 ⟨_, .inl rfl⟩⟩
    · exact .inr h2
theorem Reps.ext (x : Ext ι H ι' H') : ∀ {l : List D} {vs : List V}, Reps G ι H l vs → Reps G ι' H' l vs
  | [], _, h => by rw [h.nil_inv]; exact .nil
  | d :: l, _, h => by
    obtain ⟨v, r, rfl, h1, t⟩ := h.cons_inv
    exact .cons (Rep.ext x h1) (Reps.ext x t)
end
end

/-! ### cells -/
/-- keys of a plain dict: ints and texts -/
def D.key? : D → Option Key
  | .int i => some (.inl i)
  | .str s => some (.inr s)
  | _ => none
section
variable (G : Gd) (ι : List Addr) (H : Hp)
abbrev RepP : (D × D) → (Key × V) → Prop := fun p q => p.1.key? = some q.1 ∧ Rep G ι H p.2 q.2
abbrev RepF : (Str × D) → (Str × V) → Prop := fun p q => p.1 = q.1 ∧ Rep G ι H p.2 q.2
/-- the dict object at a, its keys nested tuples -/
def tdPhi (a : Addr) (xs : List (NestedKey × Addr × Value)) : Heap → Prop := fun h => ∃ o es ep, h.get? a = some o ∧ o.ExactDict ∧ o.data = .dict es ep ∧ es.toList = xs.map (entryOfKey (nestedKind G.P G.w))
mutual
def D.nk? : D → Option NestedKey
  | .non => some .none
  | .bl b => some (.num (if b = true then 1 else 0))
  | .int i => some (.num i)
  | .str s => some (.text s)
  | .tup l => (D.nks? l).map NestedKey.tup
  | _ => none
def D.nks? : List D → Option (List NestedKey)
  | [] => some []
  | d :: l => match D.nk? d, D.nks? l with
    | some k, some r => some (k :: r)
    | _, _ => none
end
abbrev RepT : (D × D) → (NestedKey × Addr × Value) → Prop := fun p x => p.1.nk? = some x.1 ∧ x.1.depth ≤ 8 ∧ Rep G ι H p.1 (.ref x.2.1) ∧ ∃ v, Rep G ι H p.2 v ∧ RelV v x.2.2
def CellOk (a : Addr) : Cell → Prop
  | .lst l => ∃ vs, H a = some (.lst vs) ∧ Reps G ι H l vs
  | .dic l => ∃ kvs, H a = some (.dK kvs) ∧ Paired (RepP G ι H) l kvs
  | .tdic l => ∃ xs, H a = some (.ext (tdPhi G a xs)) ∧ Paired (RepT G ι H) l xs ∧ (xs.map (·.1)).Nodup ∧ xs.length ≤ sizeLine ∧ (a == sysModules) = false
  | .iset l => H a = some (SetO G.w a (fun i => decide (i ∈ l)) l.length) ∧ l.Pairwise (· < ·)
  | .lck false l => ∃ od kvs, H a = some (.frz od (.dK kvs)) ∧ Paired (RepP G ι H) l kvs
  | .lck true l => ∃ od xs, H a = some (.frz od (.ext (tdPhi G a xs))) ∧ Paired (RepT G ι H) l xs ∧ (xs.map (·.1)).Nodup ∧ xs.length ≤ sizeLine ∧ (a == sysModules) = false
  | .ins c fs => ∃ C dx gs, G.mg c = some (.ref C) ∧ H a = some (.ins C dx gs) ∧ Paired (RepF G ι H) fs gs
structure Rel (μ : Mem) : Prop where
  len : ι.length = μ.length
  nd : ι.Nodup
  cell : ∀ (i : Nat) (c : Cell) (a : Addr), μ[i]? = some c → ι[i]? = some a → CellOk G ι H a c
/-- the environment -/
structure EnvOk (ρ : Rho) (σ : St) : Prop where
  len : ρ.length = σ.length
  at_ : ∀ (i : Nat) (d : D), ρ[i]? = some (some d) → ∃ v, σ[i]? = some (some v) ∧ Rep G ι H d v
end
end RW

/-! SEb: what grows; mirrors of expressions and statements; the judgements. -/
namespace RW
open PySem L2
def gOf (X : Cx) : Gd := ⟨X.prog, X.w, X.K, X.mg⟩

structure Grow (ι : List Addr) (H : Hp) (ι' : List Addr) (H' : Hp) : Prop where
  pre : ι <+: ι'
  keep : ∀ a o, H a = some o → a ∉ ι → H' a = some o
  new : ∀ a ∈ ι', a ∈ ι ∨ H a = none
  lock : ∀ a o u, H a = some (.frz o u) → H' a = some (.frz o u)
section
variable {G : Gd} {ι ι' ι2 : List Addr} {H H' H2 : Hp} {μ μ' : Mem} {ρ : Rho} {σ : St}
theorem Grow.refl : Grow ι H ι H := ⟨List.prefix_refl _, fun _ _ h _ => h, fun _ h => .inl h, fun _ _ _ h => h⟩
theorem Grow.trans (a : Grow ι H ι' H') (b : Grow ι' H' ι2 H2) : Grow ι H ι2 H2 := by
  refine ⟨a.pre.trans b.pre, fun x o h n => ?_, fun x h => ?_, fun x o u h => b.lock x o u (a.lock x o u h)⟩
  · refine b.keep x o (a.keep x o h n) fun z => ?_
    rcases a.new x z with z | z
    · exact n z
    · rw [h] at z; cases z
  · rcases b.new x h with z | z
    · exact a.new x z
    · by_cases n : x ∈ ι
      · exact .inl n
      · refine .inr ?_
        cases q : H x with
        | none => rfl
        | some o => rw [a.keep x o q n] at z; cases z
theorem mem_at {x : Addr} (h : x ∈ ι) : ∃ i : Nat, ι[i]? = some x := List.mem_iff_getElem?.mp h
theorem Rel.at_mem (r : Rel G ι H μ) {x : Addr} (h : x ∈ ι) : ∃ (i : Nat) (c : Cell), ι[i]? = some x ∧ μ[i]? = some c ∧ CellOk G ι H x c := by
  obtain ⟨i, e⟩ := mem_at h
  have hi : i < μ.length := by rw [← r.len]; exact (List.getElem?_eq_some_iff.mp e).1
  exact ⟨i, μ[i], e, List.getElem?_eq_getElem hi, r.cell i _ x (List.getElem?_eq_getElem hi) e⟩
/-- no tuple, no locked thing among the cells -/
theorem CellOk.some {x : Addr} {c : Cell} (h : CellOk G ι H x c) : ∃ o, H x = some o ∧ (∀ xs, o ≠ .tup xs) ∧ (∀ a xs, o ≠ .frz a (.lst xs)) ∧ (∀ a xs, o ≠ .frz a (.tup xs)) ∧ (∀ y, o ≠ .own y) := by
  cases c with
  | lst l => obtain ⟨vs, h, _⟩ := h; exact ⟨_, h, fun _ e => (nomatch e), fun _ _ e => (nomatch e), fun _ _ e => (nomatch e), fun _ e => (nomatch e)⟩
  | dic l => obtain ⟨vs, h, _⟩ := h; exact ⟨_, h, fun _ e => (nomatch e), fun _ _ e => (nomatch e), fun _ _ e => (nomatch e), fun _ e => (nomatch e)⟩
  | tdic l => obtain ⟨vs, h, _⟩ := h; exact ⟨_, h, fun _ e => (nomatch e), fun _ _ e => (nomatch e), fun _ _ e => (nomatch e), fun _ e => (nomatch e)⟩
  | iset l => obtain ⟨h, _⟩ := h; exact ⟨_, h, fun _ e => (nomatch e), fun _ _ e => (nomatch e), fun _ _ e => (nomatch e), fun _ e => (nomatch e)⟩
  | lck t l =>
    cases t with
    | false => obtain ⟨_, vs, h, _⟩ := h; exact ⟨_, h, fun _ e => (nomatch e), fun _ _ e => (nomatch e), fun _ _ e => (nomatch e), fun _ e => (nomatch e)⟩
    | true => obtain ⟨_, vs, h, _⟩ := h; exact ⟨_, h, fun _ e => (nomatch e), fun _ _ e => (nomatch e), fun _ _ e => (nomatch e), fun _ e => (nomatch e)⟩
  | ins c fs => obtain ⟨_, _, _, _, h, _⟩ := h; exact ⟨_, h, fun _ e => (nomatch e), fun _ _ e => (nomatch e), fun _ _ e => (nomatch e), fun _ e => (nomatch e)⟩
theorem Rel.notTup (r : Rel G ι H μ) {x : Addr} {xs : List V} (h : H x = some (.tup xs)) : x ∉ ι := fun hm => by
  obtain ⟨i, c, _, _, z⟩ := r.at_mem hm
  obtain ⟨o, e, n, _⟩ := z.some
  rw [h] at e; cases e; exact n _ rfl
theorem Rel.notFrz (r : Rel G ι H μ) {x : Addr} {o : Obj} {u : HO} (h : H x = some (.frz o u)) (hu : ∃ xs, u = .lst xs ∨ u = .tup xs) : x ∉ ι := fun hm => by
  obtain ⟨i, c, _, _, z⟩ := r.at_mem hm
  obtain ⟨o, e, _, n, n2, _⟩ := z.some
  obtain ⟨xs, rfl | rfl⟩ := hu
  · rw [h] at e; cases e; exact n _ _ rfl
  · rw [h] at e; cases e; exact n2 _ _ rfl
theorem Rel.notOwn (r : Rel G ι H μ) {x y : Addr} (h : H x = some (.own y)) : x ∉ ι := fun hm => by
  obtain ⟨i, c, _, _, z⟩ := r.at_mem hm
  obtain ⟨o, e, _, _, _, n⟩ := z.some
  rw [h] at e; cases e; exact n _ rfl
theorem Rel.notNone (r : Rel G ι H μ) {x : Addr} (h : H x = none) : x ∉ ι := fun hm => by
  obtain ⟨i, c, _, _, z⟩ := r.at_mem hm
  obtain ⟨o, e, _⟩ := z.some
  rw [h] at e; cases e
theorem Grow.ext (g : Grow ι H ι' H') (r : Rel G ι H μ) : Ext ι H ι' H' :=
  ⟨g.pre, fun _ _ h => g.keep _ _ h (r.notTup h), fun _ _ _ h q => g.keep _ _ h (r.notFrz h q)⟩
theorem EnvOk.ext (e : EnvOk G ι H ρ σ) (x : Ext ι H ι' H') : EnvOk G ι' H' ρ σ :=
  ⟨e.len, fun i d h => let ⟨v, h1, h2⟩ := e.at_ i d h; ⟨v, h1, h2.ext x⟩⟩
theorem EnvOk.set (e : EnvOk G ι H ρ σ) (i : Nat) {d : D} {v : V} (r : Rep G ι H d v) : EnvOk G ι H (ρ.set i (some d)) (σ.set i (some v)) := by
  refine ⟨by simp [e.len], fun j x h => ?_⟩
  by_cases hj : i = j
  · subst hj
    by_cases hi : i < ρ.length
    · rw [List.getElem?_set_self hi] at h
      cases h
      exact ⟨v, List.getElem?_set_self (by rw [← e.len]; exact hi), r⟩
    · rw [List.getElem?_eq_none (by simpa using hi)] at h; cases h
  · rw [List.getElem?_set_ne hj] at h
    rw [List.getElem?_set_ne hj]
    exact e.at_ j x h

/-! ### new things, things changed -/
theorem Paired.imp' {α β : Type} {F F' : α → β → Prop} : ∀ {l₁ : List α} {l₂ : List β}, Paired F l₁ l₂ → (∀ a b, F a b → F' a b) → Paired F' l₁ l₂
  | _, _, .nil, _ => .nil
  | _, _, .cons r t, f => .cons (f _ _ r) (Paired.imp' t f)
/-- a cell not touched stays a cell -/
theorem CellOk.ext {x : Addr} {c : Cell} (h : CellOk G ι H x c) (e : Ext ι H ι' H') (s : H' x = H x) : CellOk G ι' H' x c := by
  cases c with
  | lst l => obtain ⟨vs, h, r⟩ := h; exact ⟨vs, s.trans h, r.ext e⟩
  | dic l => obtain ⟨vs, h, r⟩ := h; exact ⟨vs, s.trans h, Paired.imp' r fun _ _ z => ⟨z.1, z.2.ext e⟩⟩
  | tdic l =>
    obtain ⟨vs, h, r, q⟩ := h
    exact ⟨vs, s.trans h, Paired.imp' r fun _ _ z => ⟨z.1, z.2.1, z.2.2.1.ext e, let ⟨v, z1, z2⟩ := z.2.2.2; ⟨v, z1.ext e, z2⟩⟩, q⟩
  | iset l => exact ⟨s.trans h.1, h.2⟩
  | lck t l =>
    cases t with
    | false => obtain ⟨od, vs, h, r⟩ := h; exact ⟨od, vs, s.trans h, Paired.imp' r fun _ _ z => ⟨z.1, z.2.ext e⟩⟩
    | true =>
      obtain ⟨od, vs, h, r, q⟩ := h
      exact ⟨od, vs, s.trans h, Paired.imp' r fun _ _ z => ⟨z.1, z.2.1, z.2.2.1.ext e, let ⟨v, z1, z2⟩ := z.2.2.2; ⟨v, z1.ext e, z2⟩⟩, q⟩
  | ins c fs => obtain ⟨C, dx, gs, h1, h2, h3⟩ := h; exact ⟨C, dx, gs, h1, s.trans h2, Paired.imp' h3 fun _ _ z => ⟨z.1, z.2.ext e⟩⟩
/-- a thing laid that is no cell -/
theorem grow_laid {p : Addr} {o : HO} (r : Rel G ι H μ) (h : H p = none) : Grow ι H ι (upd H p o) ∧ Rel G ι (upd H p o) μ := by
  have g : Grow ι H ι (upd H p o) := ⟨List.prefix_refl _, fun a u e _ => by rw [upd_ne (ne_of_none e h)]; exact e, fun _ z => .inl z, fun a o u e => by rw [upd_ne (ne_of_none e h)]; exact e⟩
  refine ⟨g, r.len, r.nd, fun i c a h1 h2 => ?_⟩
  have z := r.cell i c a h1 h2
  obtain ⟨u, e, _⟩ := z.some
  exact z.ext (g.ext r) (upd_ne (ne_of_none e h))
theorem nodup_snoc {p : Addr} (nd : ι.Nodup) (h : p ∉ ι) : (ι ++ [p]).Nodup := by
  rw [List.nodup_append]
  exact ⟨nd, by simp, fun a ha b hb e => by simp at hb; subst hb; subst e; exact h ha⟩
/-- what is tracked already becomes a cell -/
theorem grow_adopt {p : Addr} {c : Cell} (r : Rel G ι H μ) (hn : p ∉ ι) (new : CellOk G (ι ++ [p]) H p c) : Rel G (ι ++ [p]) H (μ ++ [c]) := by
  have x : Ext ι H (ι ++ [p]) H := ⟨List.prefix_append _ _, fun _ _ h => h, fun _ _ _ h _ => h⟩
  refine ⟨by simp [r.len], nodup_snoc r.nd hn, fun i d a h1 h2 => ?_⟩
  by_cases hi : i < μ.length
  · rw [List.getElem?_append_left hi] at h1
    rw [List.getElem?_append_left (by rw [r.len]; exact hi)] at h2
    exact (r.cell i d a h1 h2).ext x rfl
  · by_cases he : i = μ.length
    · subst he
      have e1 : (μ ++ [c])[μ.length]? = some c := by simp
      have e2 : (ι ++ [p])[μ.length]? = some p := by rw [← r.len]; simp
      rw [e1] at h1; rw [e2] at h2
      cases h1; cases h2
      exact new
    · rw [List.getElem?_eq_none (by simp; omega)] at h1; cases h1
theorem grow_cell {p : Addr} {o : HO} {c : Cell} (r : Rel G ι H μ) (h : H p = none) (new : Ext ι H (ι ++ [p]) (upd H p o) → CellOk G (ι ++ [p]) (upd H p o) p c) : Grow ι H (ι ++ [p]) (upd H p o) ∧ Rel G (ι ++ [p]) (upd H p o) (μ ++ [c]) := by
  obtain ⟨g, r'⟩ := grow_laid (o := o) r h
  have x : Ext ι H (ι ++ [p]) (upd H p o) := ⟨List.prefix_append _ _, (g.ext r).tup, (g.ext r).frz⟩
  have hn := r.notNone h
  refine ⟨⟨List.prefix_append _ _, g.keep, fun a ha => ?_, g.lock⟩, grow_adopt r' hn (new x)⟩
  rcases List.mem_append.mp ha with z | z
  · exact .inl z
  · simp at z; subst z; exact .inr h
/-- a cell changed -/
theorem grow_set {n : Nat} {p : Addr} {o : HO} {c : Cell} (r : Rel G ι H μ) (hp : ι[n]? = some p) (nf : ∀ a u, H p ≠ some (.frz a u)) (new : Ext ι H ι (upd H p o) → CellOk G ι (upd H p o) p c) : Grow ι H ι (upd H p o) ∧ Rel G ι (upd H p o) (μ.set n c) := by
  have hm : p ∈ ι := List.mem_of_getElem? hp
  have g : Grow ι H ι (upd H p o) := ⟨List.prefix_refl _, fun a u e na => by rw [upd_ne (fun z => na (by rw [z]; exact hm))]; exact e, fun _ z => .inl z, fun a o u e => by rw [upd_ne (fun z => nf o u (by rw [← z]; exact e))]; exact e⟩
  refine ⟨g, by simp [r.len], r.nd, fun i d a h1 h2 => ?_⟩
  have hn : n < μ.length := by rw [← r.len]; exact (List.getElem?_eq_some_iff.mp hp).1
  by_cases hi : n = i
  · subst hi
    rw [List.getElem?_set_self hn] at h1
    rw [hp] at h2
    cases h1; cases h2
    exact new (g.ext r)
  · rw [List.getElem?_set_ne hi] at h1
    have ne : a ≠ p := by
      rintro rfl
      have hn' : n < ι.length := (List.getElem?_eq_some_iff.mp hp).1
      have hi' : i < ι.length := (List.getElem?_eq_some_iff.mp h2).1
      have e1 : ι[n] = a := (List.getElem?_eq_some_iff.mp hp).2
      have e2 : ι[i] = a := (List.getElem?_eq_some_iff.mp h2).2
      exact hi ((List.getElem_inj r.nd).mp (e1.trans e2.symm))
    exact (r.cell i d a h1 h2).ext (g.ext r) (upd_ne ne)
theorem rep_new {p : Addr} {r : Rel G ι H μ} : Rep G (ι ++ [p]) H' (.ref μ.length) (.ref p) := by
  unfold Rep
  exact ⟨p, by rw [← r.len]; simp, rfl⟩
end

/-! ### mirrors -/
abbrev MD := Rho → Mem → Res D
abbrev MB := Rho → Mem → Res Bool
abbrev ML := Rho → Mem → Res (List D)
inductive Fl where
  | nx (ρ : Rho) | brk (ρ : Rho) | cnt (ρ : Rho) | ret (d : D) | exc (c : Str) (fs : List D) (ρ : Rho)
abbrev MS := Rho → Mem → Res Fl

section
variable (G : Gd) (ι : List Addr) (H : Hp)
/-- an exception as it lies -/
def ExcIs (c : Str) (fs : List D) (cls : Value) (dx : Option Addr) : Prop :=
  ∃ C, G.mg c = some (.ref C) ∧ cls = .ref C ∧ fs = []
def XPost (W : WX) (σ : St) (c : Str) (fs : List D) (μ' : Mem) : Prop :=
  ∀ ι' H' cls dx, Grow ι H ι' H' → Rel G ι' H' μ' → ExcIs G c fs cls dx → W cls dx σ H'
def Post {α : Type} (W : WX) (σ : St) (r : Res α) (k : List Addr → Hp → Mem → α → Prop) : Prop := match r with
  | .ok a μ' => ∀ ι' H', Grow ι H ι' H' → Rel G ι' H' μ' → k ι' H' μ' a
  | .exc c fs μ' => XPost G ι H W σ c fs μ'
  | .stuck => False
end
section
variable {G : Gd} {ι ι' : List Addr} {H H' : Hp} {W : WX} {σ : St} {μ : Mem} {α β : Type}
theorem Post.imp {r : Res α} {k k' : List Addr → Hp → Mem → α → Prop} (h : Post G ι H W σ r k) (f : ∀ ι' H' μ' a, Grow ι H ι' H' → Rel G ι' H' μ' → k ι' H' μ' a → k' ι' H' μ' a) : Post G ι H W σ r k' := by
  cases r with
  | ok a m => exact fun ι' H' g r => f _ _ _ _ g r (h ι' H' g r)
  | exc c fs m => exact h
  | stuck => exact h
theorem Post.grow {r : Res α} {k : List Addr → Hp → Mem → α → Prop} (h : Post G ι H W σ r k) (g : Grow ι H ι' H') : Post G ι' H' W σ r k := by
  cases r with
  | ok a m => exact fun ι2 H2 g2 r => h ι2 H2 (g.trans g2) r
  | exc c fs m => exact fun ι2 H2 cls dx g2 r e => h ι2 H2 cls dx (g.trans g2) r e
  | stuck => exact h
theorem Post.bind {r : Res α} {f : α → Mem → Res β} {k : List Addr → Hp → Mem → β → Prop} (h : Post G ι H W σ (r.bind f) k) :
    Post G ι H W σ r fun ι' H' μ' a => Grow ι H ι' H' ∧ Rel G ι' H' μ' ∧ Post G ι' H' W σ (f a μ') k := by
  cases r with
  | ok a m => exact fun ι' H' g r => ⟨g, r, Post.grow h g⟩
  | exc c fs m => exact h
  | stuck => exact h
end

section
variable (G : Gd) (W : WX)
def tE (m : MD) : TE := fun σ H Q => ∃ ρ μ ι, EnvOk G ι H ρ σ ∧ Rel G ι H μ ∧ Post G ι H W σ (m ρ μ) fun ι' H' _ d => ∀ v, Rep G ι' H' d v → Q v H'
def tB (m : MB) : TT := fun σ H Q => ∃ ρ μ ι, EnvOk G ι H ρ σ ∧ Rel G ι H μ ∧ Post G ι H W σ (m ρ μ) fun ι' H' _ b => Q b H'
def tL (m : ML) : TA := fun σ H Q => ∃ ρ μ ι, EnvOk G ι H ρ σ ∧ Rel G ι H μ ∧ Post G ι H W σ (m ρ μ) fun ι' H' _ ds => ∀ vs, Reps G ι' H' ds vs → Q vs H'
/-- a statement's end -/
def FlK (D : Ends) : List Addr → Hp → Mem → Fl → Prop := fun ι' H' _ f => match f with
  | .nx ρ' => ∀ σ', EnvOk G ι' H' ρ' σ' → D.nx σ' H'
  | .brk ρ' => ∀ σ', EnvOk G ι' H' ρ' σ' → D.bk σ' H'
  | .cnt ρ' => ∀ σ', EnvOk G ι' H' ρ' σ' → D.ct σ' H'
  | .ret d => ∀ v, Rep G ι' H' d v → D.rt v H'
  | .exc c fs ρ' => ∀ σ' cls dx, EnvOk G ι' H' ρ' σ' → ExcIs G c fs cls dx → W cls dx σ' H'
end
section
variable (G : Gd) (ι : List Addr) (H : Hp)
def PostS (r : Res Fl) (k : List Addr → Hp → Mem → Fl → Prop) : Prop := match r with
  | .ok f μ' => ∀ ι' H', Grow ι H ι' H' → Rel G ι' H' μ' → k ι' H' μ' f
  | _ => False
def tS (W : WX) (m : MS) : TS := fun D σ H => ∃ ρ μ ι, EnvOk G ι H ρ σ ∧ Rel G ι H μ ∧ PostS G ι H (m ρ μ) (FlK G W D)
end
section
variable {G : Gd} {ι ι' : List Addr} {H H' : Hp} {W : WX} {σ : St} {ρ : Rho} {α : Type}
theorem PostS.grow {r : Res Fl} {k : List Addr → Hp → Mem → Fl → Prop} (h : PostS G ι H r k) (g : Grow ι H ι' H') : PostS G ι' H' r k := by
  cases r with
  | ok a m => exact fun ι2 H2 g2 r => h ι2 H2 (g.trans g2) r
  | exc c fs m => exact h
  | stuck => exact h
/-- an expression within a statement -/
@[simp] def onE (r : Res α) (ρ : Rho) (k : α → Mem → Res Fl) : Res Fl := match r with
  | .ok a m => k a m
  | .exc c fs m => .ok (.exc c fs ρ) m
  | .stuck => .stuck
theorem PostS.onE {D : Ends} {r : Res α} {k : α → Mem → Res Fl} (h : PostS G ι H (onE r ρ k) (FlK G W D)) (e : EnvOk G ι H ρ σ) (rel : ∃ μ, Rel G ι H μ) :
    Post G ι H W σ r fun ι' H' μ' a => Grow ι H ι' H' ∧ Rel G ι' H' μ' ∧ EnvOk G ι' H' ρ σ ∧ PostS G ι' H' (k a μ') (FlK G W D) := by
  obtain ⟨μ, rel⟩ := rel
  cases r with
  | ok a m => exact fun ι' H' g r => ⟨g, r, e.ext (g.ext rel), PostS.grow h g⟩
  | exc c fs m => exact fun ι' H' cls dx g r x => h ι' H' g r σ cls dx (e.ext (g.ext rel)) x
  | stuck => exact h
end
end RW

/-! SEc: expressions. -/
namespace RW
open PySem L2
abbrev SE (X : Cx) (W : WX) (e : Expr) (m : MD) : Prop := PE X e (tE (gOf X) W m)
abbrev ST (X : Cx) (W : WX) (e : Expr) (m : MB) : Prop := PT X e (tB (gOf X) W m)
abbrev SW (X : Cx) (W : WX) (e : Expr) (m : MB) : Prop := PW X e (tB (gOf X) W m)
abbrev SA (X : Cx) (W : WX) (es : List Expr) (m : ML) : Prop := PA X es (tL (gOf X) W m)
theorem PE.mono {X : Cx} {e : Expr} {t t' : TE} (h : PE X e t) (f : ∀ σ H Q, t' σ H Q → t σ H Q) : PE X e t' := ⟨fun pins s σ H Q I w => h.run pins s σ H Q I (f σ H Q w)⟩
theorem PT.mono {X : Cx} {e : Expr} {t t' : TT} (h : PT X e t) (f : ∀ σ H Q, t' σ H Q → t σ H Q) : PT X e t' := ⟨fun pins s σ H Q I w => h.run pins s σ H Q I (f σ H Q w)⟩
theorem PW.mono {X : Cx} {e : Expr} {t t' : TT} (h : PW X e t) (f : ∀ σ H Q, t' σ H Q → t σ H Q) : PW X e t' := ⟨fun wh pins s σ H Q I w => h.run wh pins s σ H Q I (f σ H Q w)⟩
theorem PA.mono {X : Cx} {e : List Expr} {t t' : TA} (h : PA X e t) (f : ∀ σ H Q, t' σ H Q → t σ H Q) : PA X e t' := ⟨fun ps pins s σ H Q I w => h.run ps pins s σ H Q I (f σ H Q w)⟩
theorem PS.mono {X : Cx} {e : Stmt} {t t' : TS} (h : PS X e t) (f : ∀ D σ H, t' D σ H → t D σ H) : PS X e t' := ⟨fun pins s σ H D I w => h.run pins s σ H D I (f D σ H w)⟩
theorem PSs.mono {X : Cx} {e : List Stmt} {t t' : TS} (h : PSs X e t) (f : ∀ D σ H, t' D σ H → t D σ H) : PSs X e t' := ⟨fun pins s σ H D I w => h.run pins s σ H D I (f D σ H w)⟩

/-! ### mirrors -/
@[simp] def mVar (i : Nat) : MD := fun ρ μ => match ρ[i]? with
  | some (some d) => .ok d μ
  | _ => .stuck
@[simp] def mC (d : D) : MD := fun _ μ => .ok d μ
@[simp] def mBin (f : D → D → Mem → Res D) (a b : MD) : MD := fun ρ μ => (a ρ μ).bind fun x μ1 => (b ρ μ1).bind fun y μ2 => f x y μ2
@[simp] def mUn (f : D → Mem → Res D) (a : MD) : MD := fun ρ μ => (a ρ μ).bind fun x μ1 => f x μ1
@[simp] def mTest (a : MD) : MB := fun ρ μ => (a ρ μ).bind fun x μ1 => match x with
  | .bl b => .ok b μ1
  | _ => .stuck
@[simp] def mAnd (a b : MB) : MB := fun ρ μ => (a ρ μ).bind fun x μ1 => if x = true then b ρ μ1 else .ok false μ1
@[simp] def mOr (a b : MB) : MB := fun ρ μ => (a ρ μ).bind fun x μ1 => if x = true then .ok true μ1 else b ρ μ1
@[simp] def mNot (a : MB) : MB := fun ρ μ => (a ρ μ).bind fun x μ1 => .ok (!x) μ1
@[simp] def mAndV (a b : MD) : MD := fun ρ μ => (a ρ μ).bind fun x μ1 => match x with
  | .bl c => if c = true then b ρ μ1 else .ok (.bl false) μ1
  | _ => .stuck
@[simp] def mOrV (a b : MD) : MD := fun ρ μ => (a ρ μ).bind fun x μ1 => match x with
  | .bl c => if c = true then .ok (.bl true) μ1 else b ρ μ1
  | _ => .stuck
@[simp] def mNotV (a : MD) : MD := fun ρ μ => (a ρ μ).bind fun x μ1 => match x with
  | .bl c => .ok (.bl (!c)) μ1
  | _ => .stuck
@[simp] def mIfE (c : MB) (a b : MD) : MD := fun ρ μ => (c ρ μ).bind fun x μ1 => if x = true then a ρ μ1 else b ρ μ1
@[simp] def mNil : ML := fun _ μ => .ok [] μ
@[simp] def mCons (a : MD) (r : ML) : ML := fun ρ μ => (a ρ μ).bind fun x μ1 => (r ρ μ1).bind fun xs μ2 => .ok (x :: xs) μ2
@[simp] def mTup (a : ML) : MD := fun ρ μ => (a ρ μ).bind fun xs μ1 => if xs.length ≤ 1000 then .ok (.tup xs) μ1 else .stuck
@[simp] def mLst (a : ML) : MD := fun ρ μ => (a ρ μ).bind fun xs μ1 => if xs.length ≤ 1000 then .ok (.ref μ1.length) (μ1 ++ [.lst xs]) else .stuck

section
variable {X : Cx} {W : WX} {a b c e : Expr} {ma mb mc : MD} {pos : Pos}
theorem se_var (i : Nat) {x : Str} (hN : X.N[i]? = some x) (hv : Vis X.env.scope x) (hd : (x == ("__debug__" : Str)) = false := by decide) (hcd : (x == ("__classdict__" : Str)) = false := by decide) : SE X W (.Name x pos) (mVar i) :=
  PE.mono (pe_var hN hv hd hcd) fun σ H Q ⟨ρ, μ, ι, env, rel, h⟩ => by
    simp only [mVar] at h
    cases e : ρ[i]? with
    | none => rw [e] at h; exact h.elim
    | some o =>
      rw [e] at h
      cases o with
      | none => exact h.elim
      | some d =>
        obtain ⟨v, h1, h2⟩ := env.at_ i d e
        exact ⟨v, h1, h ι H .refl rel v h2⟩
theorem se_c {d : D} {v : V} (h : PE X e (tC v)) (hr : ∀ ι H, Rep (gOf X) ι H d v) : SE X W e (mC d) :=
  PE.mono h fun σ H Q ⟨ρ, μ, ι, env, rel, h⟩ => h ι H .refl rel v (hr ι H)
theorem se_int {i : Int} {j} : SE X W (.Constant (.int i) j pos) (mC (.int i)) := se_c pe_int fun _ _ => by unfold Rep; rfl
theorem se_bl {b : Bool} {j} : SE X W (.Constant (.bool b) j pos) (mC (.bl b)) := se_c pe_bl fun _ _ => by unfold Rep; rfl
theorem se_non {j} : SE X W (.Constant .none j pos) (mC .non) := se_c pe_non fun _ _ => by unfold Rep; rfl
theorem se_str {x : Str} {j} : SE X W (.Constant (.str x) j pos) (mC (.str x)) := se_c pe_str fun _ _ => by unfold Rep; rfl
/-- a module's whole number -/
theorem se_globI {x : Str} {i : Int} {t : Tok} (hg : Gl X x) (hm : X.mg x = some (.int i t)) (hd : (x == ("__debug__" : Str)) = false := by decide) : SE X W (.Name x pos) (mC (.int i)) :=
  se_c (v := .int i) (pe_glob hg hm ⟨t, rfl⟩ hd) fun _ _ => by unfold Rep; rfl
theorem se_globS {x : Str} {i : Str} {t : Tok} (hg : Gl X x) (hm : X.mg x = some (.str i t)) (hd : (x == ("__debug__" : Str)) = false := by decide) : SE X W (.Name x pos) (mC (.str i)) :=
  se_c (v := .str i) (pe_glob hg hm ⟨t, rfl⟩ hd) fun _ _ => by unfold Rep; rfl
/-- a def as a value -/
theorem se_globF {x : Str} {f : Addr} (hg : Gl X x) (hm : X.mg x = some (.ref f)) (hd : (x == ("__debug__" : Str)) = false := by decide) : SE X W (.Name x pos) (mC (.fn x)) :=
  se_c (v := .ref f) (pe_glob hg hm rfl hd) fun _ _ => by unfold Rep; exact ⟨f, hm, rfl⟩

/-- what a rule by values asks, from its mirror -/
def Snd2 (G : Gd) (r : R2) (f : D → D → Mem → Res D) : Prop := ∀ (ι : List Addr) (H : Hp) (μ : Mem) (x y : D) (v u : V) (W : WX) (σ : St) (Q : VK), Rel G ι H μ → Rep G ι H x v → Rep G ι H y u →
  Post G ι H W σ (f x y μ) (fun ι' H' _ d => ∀ v, Rep G ι' H' d v → Q v H') → r v u H Q
def Snd1 (G : Gd) (r : V → Hp → VK → Prop) (f : D → Mem → Res D) : Prop := ∀ (ι : List Addr) (H : Hp) (μ : Mem) (x : D) (v : V) (W : WX) (σ : St) (Q : VK), Rel G ι H μ → Rep G ι H x v →
  Post G ι H W σ (f x μ) (fun ι' H' _ d => ∀ v, Rep G ι' H' d v → Q v H') → r v H Q
theorem bin_red {r : R2} {f : D → D → Mem → Res D} (hf : Snd2 (gOf X) r f) {σ : St} {H : Hp} {Q : VK} (h : tE (gOf X) W (mBin f ma mb) σ H Q) : tOp r (tE (gOf X) W ma) (tE (gOf X) W mb) σ H Q := by
  obtain ⟨ρ, μ, ι, env, rel, h⟩ := h
  refine ⟨ρ, μ, ι, env, rel, (Post.bind h).imp fun ι1 H1 μ1 x _ _ ⟨g1, r1, h1⟩ v rv => ?_⟩
  refine ⟨ρ, μ1, ι1, env.ext (g1.ext rel), r1, (Post.bind h1).imp fun ι2 H2 μ2 y _ _ ⟨g2, r2, h2⟩ u ru => ?_⟩
  exact hf ι2 H2 μ2 x y v u W σ Q r2 (rv.ext (g2.ext r1)) ru h2
theorem se_op {op : Operator} {r : R2} {f : D → D → Mem → Res D} (ho : OpR X (binaryOp op) r) (hf : Snd2 (gOf X) r f) (ha : SE X W a ma) (hb : SE X W b mb) : SE X W (.BinOp a op b pos) (mBin f ma mb) :=
  PE.mono (pe_op ho ha hb) fun σ H Q h => bin_red hf h
theorem se_cmp {op : CmpOp} {r : R2} {f : D → D → Mem → Res D} (ho : OpR X (compareOp op) r) (hf : Snd2 (gOf X) r f) (ha : SE X W a ma) (hb : SE X W b mb) (hm : behindInMarks op b = false) : SE X W (.Compare a [op] [b] pos) (mBin f ma mb) :=
  PE.mono (pe_cmpR ho ha hb hm) fun σ H Q h => bin_red hf h
theorem se_un {op : UnaryOp} {r : V → Hp → VK → Prop} {f : D → Mem → Res D} (ho : UnR X (unaryOp op) r) (hf : Snd1 (gOf X) r f) (ha : SE X W a ma) : SE X W (.UnaryOp op a pos) (mUn f ma) :=
  PE.mono (pe_un ho ha) fun σ H Q ⟨ρ, μ, ι, env, rel, h⟩ =>
    ⟨ρ, μ, ι, env, rel, (Post.bind h).imp fun ι1 H1 μ1 x _ _ ⟨g1, r1, h1⟩ v rv => hf ι1 H1 μ1 x v W σ Q r1 rv h1⟩
theorem test_red {t : TE} (m : MD) (ht : ∀ σ H Q, tE (gOf X) W m σ H Q → t σ H Q) {σ : St} {H : Hp} {Q : Bool → Hp → Prop} (h : tB (gOf X) W (mTest m) σ H Q) : t σ H fun x H' => ∃ k, x = .bl k ∧ Q k H' := by
  obtain ⟨ρ, μ, ι, env, rel, h⟩ := h
  refine ht _ _ _ ⟨ρ, μ, ι, env, rel, (Post.bind h).imp fun ι1 H1 μ1 x _ _ ⟨g1, r1, h1⟩ v rv => ?_⟩
  cases x with
  | bl k => unfold Rep at rv; exact ⟨k, rv, h1 ι1 H1 .refl r1⟩
  | _ => exact h1.elim
/-- a comparison as a test -/
theorem st_cmp {op : CmpOp} {r : R2} {f : D → D → Mem → Res D} (ho : OpR X (compareOp op) r) (hf : Snd2 (gOf X) r f) (ha : SE X W a ma) (hb : SE X W b mb) (hm : behindInMarks op b = false) : ST X W (.Compare a [op] [b] pos) (mTest (mBin f ma mb)) :=
  PT.mono (pt_cmpR ho ha hb hm) fun σ H Q h => test_red (mBin f ma mb) (fun σ H Q h => bin_red hf h) h
/-- an expression whose value is a truth, as a test -/
theorem st_val (h : SE X W e ma) (he : ∀ whole, isTrue e X.env whole = (do let v ← whole; standAt e.pos; holding [v] (truthy v)) := by intro _; rfl) : ST X W e (mTest ma) :=
  PT.mono (pt_val h he) fun σ H Q h => test_red ma (fun _ _ _ h => h) h
variable {ta tb : MB} {rest : List Expr}
theorem sw_and1 (ha : ST X W a ta) : SW X W (.BoolOp .And [a] pos) ta := pw_and1 ha
theorem sw_or1 (ha : ST X W a ta) : SW X W (.BoolOp .Or [a] pos) ta := pw_or1 ha
theorem sw_and (ha : ST X W a ta) (hb : SW X W (.BoolOp .And (b :: rest) pos) tb) : SW X W (.BoolOp .And (a :: b :: rest) pos) (mAnd ta tb) :=
  PW.mono (pw_and ha hb) fun σ H Q ⟨ρ, μ, ι, env, rel, h⟩ =>
    ⟨ρ, μ, ι, env, rel, (Post.bind h).imp fun ι1 H1 μ1 x _ _ ⟨g1, r1, h1⟩ => by
      cases x with
      | true => exact iteT ⟨ρ, μ1, ι1, env.ext (g1.ext rel), r1, h1⟩
      | false => exact iteF (h1 ι1 H1 .refl r1)⟩
theorem sw_or (ha : ST X W a ta) (hb : SW X W (.BoolOp .Or (b :: rest) pos) tb) : SW X W (.BoolOp .Or (a :: b :: rest) pos) (mOr ta tb) :=
  PW.mono (pw_or ha hb) fun σ H Q ⟨ρ, μ, ι, env, rel, h⟩ =>
    ⟨ρ, μ, ι, env, rel, (Post.bind h).imp fun ι1 H1 μ1 x _ _ ⟨g1, r1, h1⟩ => by
      cases x with
      | true => exact iteT (h1 ι1 H1 .refl r1)
      | false => exact iteF ⟨ρ, μ1, ι1, env.ext (g1.ext rel), r1, h1⟩⟩
theorem st_not (ha : ST X W a ta) : ST X W (.UnaryOp .Not a pos) (mNot ta) :=
  PT.mono (pt_not ha) fun σ H Q ⟨ρ, μ, ι, env, rel, h⟩ =>
    ⟨ρ, μ, ι, env, rel, (Post.bind h).imp fun ι1 H1 μ1 x _ _ ⟨g1, r1, h1⟩ => h1 ι1 H1 .refl r1⟩
/-- .. as values -/
theorem se_one {op} (h : SE X W a ma) : SE X W (.BoolOp op [a] pos) ma := pe_one h
theorem se_and (ha : SE X W a ma) (hb : SE X W (.BoolOp .And (b :: rest) pos) mb) : SE X W (.BoolOp .And (a :: b :: rest) pos) (mAndV ma mb) :=
  PE.mono (pe_and ha hb) fun σ H Q ⟨ρ, μ, ι, env, rel, h⟩ =>
    ⟨ρ, μ, ι, env, rel, (Post.bind h).imp fun ι1 H1 μ1 x _ _ ⟨g1, r1, h1⟩ v rv => by
      cases x with
      | bl c =>
        unfold Rep at rv
        refine ⟨c, rv, ?_⟩
        cases c with
        | true => exact iteT ⟨ρ, μ1, ι1, env.ext (g1.ext rel), r1, h1⟩
        | false => exact iteF (h1 ι1 H1 .refl r1 _ (by unfold Rep; rfl))
      | _ => exact h1.elim⟩
theorem se_or (ha : SE X W a ma) (hb : SE X W (.BoolOp .Or (b :: rest) pos) mb) : SE X W (.BoolOp .Or (a :: b :: rest) pos) (mOrV ma mb) :=
  PE.mono (pe_or ha hb) fun σ H Q ⟨ρ, μ, ι, env, rel, h⟩ =>
    ⟨ρ, μ, ι, env, rel, (Post.bind h).imp fun ι1 H1 μ1 x _ _ ⟨g1, r1, h1⟩ v rv => by
      cases x with
      | bl c =>
        unfold Rep at rv
        refine ⟨c, rv, ?_⟩
        cases c with
        | true => exact iteT (h1 ι1 H1 .refl r1 _ (by unfold Rep; rfl))
        | false => exact iteF ⟨ρ, μ1, ι1, env.ext (g1.ext rel), r1, h1⟩
      | _ => exact h1.elim⟩
theorem se_not (ha : SE X W a ma) : SE X W (.UnaryOp .Not a pos) (mNotV ma) :=
  PE.mono (pe_not ha) fun σ H Q ⟨ρ, μ, ι, env, rel, h⟩ =>
    ⟨ρ, μ, ι, env, rel, (Post.bind h).imp fun ι1 H1 μ1 x _ _ ⟨g1, r1, h1⟩ v rv => by
      cases x with
      | bl c => unfold Rep at rv; exact ⟨c, rv, h1 ι1 H1 .refl r1 _ (by unfold Rep; rfl)⟩
      | _ => exact h1.elim⟩
theorem se_ifE {tc : MB} (hc : ST X W c tc) (ha : SE X W a ma) (hb : SE X W b mb) : SE X W (.IfExp c a b pos) (mIfE tc ma mb) :=
  PE.mono (pe_ifExp hc ha hb) fun σ H Q ⟨ρ, μ, ι, env, rel, h⟩ =>
    ⟨ρ, μ, ι, env, rel, (Post.bind h).imp fun ι1 H1 μ1 x _ _ ⟨g1, r1, h1⟩ => by
      cases x with
      | true => exact iteT ⟨ρ, μ1, ι1, env.ext (g1.ext rel), r1, h1⟩
      | false => exact iteF ⟨ρ, μ1, ι1, env.ext (g1.ext rel), r1, h1⟩⟩
/-! argument lists, displays -/
variable {es : List Expr} {me : MD} {ms : ML}
theorem sa_nil : SA X W [] mNil := PA.mono pa_nil fun σ H Q ⟨ρ, μ, ι, env, rel, h⟩ => h ι H .refl rel [] .nil
theorem sa_cons (ha : SE X W e me) (hr : SA X W es ms) (hs : starEach (e :: es) X.env = (false, eval e X.env) :: starEach es X.env := by rfl) : SA X W (e :: es) (mCons me ms) :=
  PA.mono (pa_cons ha hr hs) fun σ H Q ⟨ρ, μ, ι, env, rel, h⟩ => by
    refine ⟨ρ, μ, ι, env, rel, (Post.bind h).imp fun ι1 H1 μ1 x _ _ ⟨g1, r1, h1⟩ v rv => ?_⟩
    refine ⟨ρ, μ1, ι1, env.ext (g1.ext rel), r1, (Post.bind h1).imp fun ι2 H2 μ2 xs _ _ ⟨g2, r2, h2⟩ vs rvs => ?_⟩
    exact h2 ι2 H2 .refl r2 (v :: vs) (.cons (rv.ext (g2.ext r1)) rvs)
theorem le_line {n : Nat} (h : n ≤ 1000) : n ≤ sizeLine := Nat.le_of_lt (small1000 h)
theorem se_tup {k} (h : SA X W es ms) : SE X W (.Tuple es k pos) (mTup ms) :=
  PE.mono (pe_tup h) fun σ H Q ⟨ρ, μ, ι, env, rel, h⟩ => by
    refine ⟨ρ, μ, ι, env, rel, (Post.bind h).imp fun ι1 H1 μ1 xs _ _ ⟨g1, r1, h1⟩ vs rv => ?_⟩
    split at h1
    · rename_i hl
      refine ⟨by rw [rv.length]; exact le_line hl, fun p hp => ?_⟩
      obtain ⟨g2, r2⟩ := grow_laid (o := .tup vs) r1 hp
      refine h1 ι1 _ g2 r2 (.ref p) ?_
      unfold Rep
      exact ⟨p, vs, rfl, .of upd_same, rv.ext (g2.ext r1)⟩
    · exact h1.elim
theorem se_lst (h : SA X W es ms) : SE X W (.List es pos) (mLst ms) :=
  PE.mono (pe_lst h) fun σ H Q ⟨ρ, μ, ι, env, rel, h⟩ => by
    refine ⟨ρ, μ, ι, env, rel, (Post.bind h).imp fun ι1 H1 μ1 xs _ _ ⟨g1, r1, h1⟩ vs rv => ?_⟩
    split at h1
    · rename_i hl
      refine ⟨by rw [rv.length]; exact le_line hl, fun p hp => ?_⟩
      obtain ⟨g2, r2⟩ := grow_cell (o := .lst vs) (c := .lst xs) r1 hp fun x => ⟨vs, upd_same, rv.ext x⟩
      exact h1 _ _ g2 r2 (.ref p) (rep_new (r := r1))
    · exact h1.elim
end
end RW

/-! SEd: operators. -/
namespace RW
open PySem L2
open Classical in
section
noncomputable def addD : D → D → Mem → Res D
  | .int i, .int j, μ => .ok (.int (i + j)) μ
  | .str x, .str y, μ => if x.length + y.length ≤ sizeLine then .ok (.str (x ++ y)) μ else .stuck
  | .tup a, .tup b, μ => if a.length + b.length ≤ sizeLine then .ok (.tup (a ++ b)) μ else .stuck
  | .ref n, .ref m, μ => match μ[n]?, μ[m]? with
    | some (.lst a), some (.lst b) => if a.length + b.length ≤ sizeLine then .ok (.ref μ.length) (μ ++ [.lst (a ++ b)]) else .stuck
    | _, _ => .stuck
  | _, _, _ => .stuck
end
def subD : D → D → Mem → Res D
  | .int i, .int j, μ => .ok (.int (i - j)) μ
  | _, _, _ => .stuck
def mulD : D → D → Mem → Res D
  | .int i, .int j, μ => if i.natAbs < 18446744073709551616 ∨ j.natAbs < 18446744073709551616 then .ok (.int (i * j)) μ else .stuck
  | .ref n, .int k, μ => match μ[n]? with
    | some (.lst a) => if -(2 ^ 63) ≤ k ∧ k < 2 ^ 63 ∧ a.length * k.toNat ≤ sizeLine then .ok (.ref μ.length) (μ ++ [.lst (List.replicate k.toNat a).flatten]) else .stuck
    | _ => .stuck
  | _, _, _ => .stuck
def fdivD : D → D → Mem → Res D
  | .int i, .int j, μ => if 0 < j ∧ j < 18446744073709551616 then .ok (.int (i / j)) μ else .stuck
  | _, _, _ => .stuck
def modD : D → D → Mem → Res D
  | .int i, .int j, μ => if 0 < j then .ok (.int (i % j)) μ else .stuck
  | _, _, _ => .stuck
def powD : D → D → Mem → Res D
  | .int i, .int j, μ => if 0 ≤ j ∧ j ≤ 1000 ∧ i.natAbs < 18446744073709551616 then .ok (.int (i ^ j.toNat)) μ else .stuck
  | _, _, _ => .stuck
def negD : D → Mem → Res D
  | .int i, μ => .ok (.int (-i)) μ
  | _, _ => .stuck
def cmpI (p : Int → Int → Bool) : D → D → Mem → Res D
  | .int i, .int j, μ => .ok (.bl (p i j)) μ
  | _, _, _ => .stuck
def isNonD : D → Bool
  | .non => true
  | _ => false
def isD : D → D → Mem → Res D
  | x, .non, μ => .ok (.bl (isNonD x)) μ
  | _, _, _ => .stuck
def isNotD : D → D → Mem → Res D
  | x, .non, μ => .ok (.bl (!isNonD x)) μ
  | _, _, _ => .stuck

section
variable {G : Gd} {ι : List Addr} {H : Hp}
theorem Rep.int {i : Int} {v : V} (h : Rep G ι H (.int i) v) : v = .int i := by unfold Rep at h; exact h
theorem Rep.str {i : Str} {v : V} (h : Rep G ι H (.str i) v) : v = .str i := by unfold Rep at h; exact h
theorem Rep.bl {i : Bool} {v : V} (h : Rep G ι H (.bl i) v) : v = .bl i := by unfold Rep at h; exact h
theorem Rep.non {v : V} (h : Rep G ι H .non v) : v = .non := by unfold Rep at h; exact h
theorem Rep.tup {l : List D} {v : V} (h : Rep G ι H (.tup l) v) : ∃ a vs, v = .ref a ∧ SqT G.K H a vs ∧ Reps G ι H l vs := by unfold Rep at h; exact h
theorem Rep.frl {l : List D} {v : V} (h : Rep G ι H (.frl l) v) : ∃ a vs, v = .ref a ∧ FrL G H a vs ∧ Reps G ι H l vs := by unfold Rep at h; exact h
theorem Rep.ref {n : Nat} {v : V} (h : Rep G ι H (.ref n) v) : ∃ a, ι[n]? = some a ∧ v = .ref a := by unfold Rep at h; exact h
theorem rep_int (i : Int) : Rep G ι H (.int i) (.int i) := by unfold Rep; rfl
theorem rep_str (i : Str) : Rep G ι H (.str i) (.str i) := by unfold Rep; rfl
theorem rep_bl (i : Bool) : Rep G ι H (.bl i) (.bl i) := by unfold Rep; rfl
theorem rep_non : Rep G ι H .non .non := by unfold Rep; rfl
theorem rep_tup {l : List D} {a : Addr} {vs : List V} (h : SqT G.K H a vs) (r : Reps G ι H l vs) : Rep G ι H (.tup l) (.ref a) := by unfold Rep; exact ⟨a, vs, rfl, h, r⟩
theorem rep_ref {n : Nat} {a : Addr} (h : ι[n]? = some a) : Rep G ι H (.ref n) (.ref a) := by unfold Rep; exact ⟨a, h, rfl⟩
/-- a list cell at an address -/
theorem Rel.lst {μ : Mem} (r : Rel G ι H μ) {n : Nat} {l : List D} {v : V} (h : μ[n]? = some (.lst l)) (hv : Rep G ι H (.ref n) v) : ∃ a vs, v = .ref a ∧ ι[n]? = some a ∧ H a = some (.lst vs) ∧ Reps G ι H l vs := by
  obtain ⟨a, h1, rfl⟩ := hv.ref
  obtain ⟨vs, h2, h3⟩ := r.cell n _ a h h1
  exact ⟨a, vs, rfl, h1, h2, h3⟩
/-- a new list -/
theorem new_lst {μ : Mem} {W : WX} {σ : St} {l : List D} {vs : List V} {Q : VK} (r : Rel G ι H μ) (h : Reps G ι H l vs)
    (k : Post G ι H W σ (.ok (D.ref μ.length) (μ ++ [.lst l])) fun ι' H' _ d => ∀ v, Rep G ι' H' d v → Q v H') : ∀ p, H p = none → Q (.ref p) (upd H p (.lst vs)) := fun p hp => by
  obtain ⟨g2, r2⟩ := grow_cell (o := .lst vs) (c := .lst l) r hp fun x => ⟨vs, upd_same, h.ext x⟩
  exact k _ _ g2 r2 (.ref p) (rep_new (r := r))
theorem new_tup {μ : Mem} {W : WX} {σ : St} {l : List D} {vs : List V} {Q : VK} (r : Rel G ι H μ) (h : Reps G ι H l vs)
    (k : Post G ι H W σ (.ok (D.tup l) μ) fun ι' H' _ d => ∀ v, Rep G ι' H' d v → Q v H') : ∀ p, H p = none → Q (.ref p) (upd H p (.tup vs)) := fun p hp => by
  obtain ⟨g2, r2⟩ := grow_laid (o := .tup vs) r hp
  exact k _ _ g2 r2 (.ref p) (rep_tup (.of upd_same) (h.ext (g2.ext r)))
end

theorem snd_int {G : Gd} {g : Int → Int → Int} {f : D → D → Mem → Res D} (hf : ∀ x y μ, f x y μ = match x, y with
  | .int i, .int j => .ok (.int (g i j)) μ
  | _, _ => .stuck) : Snd2 G (rI0 fun i j => .int (g i j)) f := fun ι H μ x y v u W σ Q r rx ry h => by
  rw [hf] at h
  cases x <;> cases y <;> first | exact h.elim | skip
  exact ⟨_, _, rx.int, ry.int, h ι H .refl r _ (rep_int _)⟩
theorem snd_sub {G : Gd} : Snd2 G (rI0 fun i j => .int (i - j)) subD := snd_int fun x y μ => by cases x <;> cases y <;> rfl
theorem snd_cmpI {G : Gd} {p : Int → Int → Bool} : Snd2 G (rI0 fun i j => .bl (p i j)) (cmpI p) := fun ι H μ x y v u W σ Q r rx ry h => by
  cases x <;> cases y <;> first | exact h.elim | skip
  exact ⟨_, _, rx.int, ry.int, h ι H .refl r _ (rep_bl _)⟩
theorem snd_mod {G : Gd} : Snd2 G (rI (fun _ j => 0 < j) fun i j => .int (i % j)) modD := fun ι H μ x y v u W σ Q r rx ry h => by
  cases x <;> cases y <;> first | exact h.elim | skip
  rename_i i j
  simp only [modD] at h
  split at h
  · rename_i hc
    exact ⟨_, _, rx.int, ry.int, hc, h ι H .refl r _ (rep_int _)⟩
  · exact h.elim
theorem snd_fdiv {G : Gd} : Snd2 G (rI CDivW fun i j => .int (i / j)) fdivD := fun ι H μ x y v u W σ Q r rx ry h => by
  cases x <;> cases y <;> first | exact h.elim | skip
  rename_i i j
  simp only [fdivD] at h
  split at h
  · rename_i hc
    exact ⟨_, _, rx.int, ry.int, wide_div (b := 64) hc.1 (by omega) (by decide) (by decide), h ι H .refl r _ (rep_int _)⟩
  · exact h.elim
theorem snd_pow {G : Gd} : Snd2 G (rI CPow fun i j => .int (i ^ j.toNat)) powD := fun ι H μ x y v u W σ Q r rx ry h => by
  cases x <;> cases y <;> first | exact h.elim | skip
  rename_i i j
  simp only [powD] at h
  split at h
  · rename_i hc
    exact ⟨_, _, rx.int, ry.int, ⟨hc.1, by omega, by omega⟩, h ι H .refl r _ (rep_int _)⟩
  · exact h.elim
def rMulA : R2 := fun x y H Q => rI CMul (fun i j => .int (i * j)) x y H Q ∨ rRep x y H Q
theorem op_mulA {X : Cx} : OpR X (binaryOp .Mult) rMulA := op_mul.or op_rep
theorem Reps.rep {G : Gd} {ι : List Addr} {H : Hp} {l : List D} {vs : List V} (h : Reps G ι H l vs) : ∀ k : Nat, Reps G ι H (List.replicate k l).flatten (List.replicate k vs).flatten
  | 0 => .nil
  | k + 1 => by rw [List.replicate_succ, List.replicate_succ, List.flatten_cons, List.flatten_cons]; exact h.append (Reps.rep h k)
theorem snd_mul {G : Gd} : Snd2 G rMulA mulD := fun ι H μ x y v u W σ Q r rx ry h => by
  cases x <;> cases y <;> first | exact h.elim | skip
  · rename_i i j
    simp only [mulD] at h
    split at h
    · rename_i hc
      refine .inl ⟨_, _, rx.int, ry.int, ?_, h ι H .refl r _ (rep_int _)⟩
      rcases hc with hc | hc
      · exact .inl (by omega)
      · exact .inr (by omega)
    · exact h.elim
  · rename_i n k
    simp only [mulD] at h
    split at h
    · rename_i a e
      split at h
      · rename_i hc
        obtain ⟨p, vs, rfl, h1, h2, h3⟩ := r.lst e rx
        refine .inr ⟨p, k, vs, rfl, ry.int, h2, hc.1, hc.2.1, by rw [h3.length]; exact hc.2.2, ?_⟩
        exact new_lst r (h3.rep k.toNat) h
      · exact h.elim
    · exact h.elim
def rAddA (K : PySem.W.Frag) : R2 := fun x y H Q => rI0 (fun i j => .int (i + j)) x y H Q ∨ (∃ i j, x = .str i ∧ y = .str j ∧ i.length + j.length ≤ sizeLine ∧ Q (.str (i ++ j)) H) ∨ rCatA K x y H Q ∨ rCat x y H Q
theorem op_addA {X : Cx} : OpR X (binaryOp .Add) (rAddA X.K) := op_add.or (op_add_str.or (op_catA.or op_cat))
theorem snd_add {G : Gd} : Snd2 G (rAddA G.K) addD := fun ι H μ x y v u W σ Q r rx ry h => by
  cases x <;> cases y <;> first | exact h.elim | skip
  · exact .inl ⟨_, _, rx.int, ry.int, h ι H .refl r _ (rep_int _)⟩
  · simp only [addD] at h
    split at h
    · rename_i hc
      exact .inr (.inl ⟨_, _, rx.str, ry.str, hc, h ι H .refl r _ (rep_str _)⟩)
    · exact h.elim
  · simp only [addD] at h
    split at h
    · rename_i l l' hc
      obtain ⟨a, vs, rfl, h1, h2⟩ := rx.tup
      obtain ⟨b, ws, rfl, h3, h4⟩ := ry.tup
      refine .inr (.inr (.inl ⟨a, b, vs, ws, rfl, rfl, h1, h3, by rw [h2.length, h4.length]; exact hc, fun e => ?_, fun e1 e2 => ?_, fun _ _ => new_tup r (h2.append h4) h⟩))
      · subst e
        have e := h2.length
        cases l with
        | nil => exact h ι H .refl r _ ry
        | cons _ _ => simp at e
      · subst e2
        have e := h4.length
        cases l' with
        | nil => exact h ι H .refl r _ (by rw [List.append_nil]; exact rx)
        | cons _ _ => simp at e
    · exact h.elim
  · simp only [addD] at h
    split at h
    · rename_i a b e1 e2
      split at h
      · rename_i hc
        obtain ⟨p, vs, rfl, h1, h2, h3⟩ := r.lst e1 rx
        obtain ⟨q, ws, rfl, h4, h5, h6⟩ := r.lst e2 ry
        exact .inr (.inr (.inr ⟨p, q, vs, ws, rfl, rfl, h2, h5, by rw [h3.length, h6.length]; exact hc, new_lst r (h3.append h6) h⟩))
      · exact h.elim
    · exact h.elim
theorem snd_neg {G : Gd} : Snd1 G (rU fun i => .int (-i)) negD := fun ι H μ x v W σ Q r rx h => by
  cases x <;> first | exact h.elim | skip
  exact ⟨_, rx.int, h ι H .refl r _ (rep_int _)⟩
theorem isNon_of {G : Gd} {ι : List Addr} {H : Hp} {x : D} {v : V} (h : Rep G ι H x v) : decide (v = .non) = isNonD x := by
  cases x with
  | non => rw [h.non]; rfl
  | bl b => rw [h.bl]; rfl
  | int b => rw [h.int]; rfl
  | str b => rw [h.str]; rfl
  | tup l => obtain ⟨a, _, rfl, _⟩ := h.tup; rfl
  | frl l => obtain ⟨a, _, rfl, _⟩ := h.frl; rfl
  | ref l => obtain ⟨a, _, rfl⟩ := h.ref; rfl
  | fn l => unfold Rep at h; obtain ⟨a, _, rfl⟩ := h; rfl
theorem snd_is {G : Gd} : Snd2 G (fun x y H Q => y = .non ∧ Q (.bl (decide (x = .non))) H) isD := fun ι H μ x y v u W σ Q r rx ry h => by
  cases y <;> first | (simp only [isD] at h; exact h.elim) | (exact h.elim) | skip
  exact ⟨ry.non, by rw [isNon_of rx]; exact h ι H .refl r _ (rep_bl _)⟩
theorem snd_isNot {G : Gd} : Snd2 G (fun x y H Q => y = .non ∧ Q (.bl (!decide (x = .non))) H) isNotD := fun ι H μ x y v u W σ Q r rx ry h => by
  cases y <;> first | (simp only [isNotD] at h; exact h.elim) | (exact h.elim) | skip
  exact ⟨ry.non, by rw [isNon_of rx]; exact h ι H .refl r _ (rep_bl _)⟩

/-! ### == -/
mutual
/-- data, no deeper than so many, lists within read -/
def D.py? : Nat → Mem → D → Option PyData
  | _, _, .non => some .none
  | _, _, .bl b => some (.bool b)
  | _, _, .int i => some (.int i)
  | _, _, .str s => some (.str s)
  | n + 1, μ, .tup l => (D.pys? n μ l).map PyData.tuple
  | n + 1, μ, .frl l => (D.pys? n μ l).map PyData.list
  | n + 1, μ, .ref m => match μ[m]? with
    | some (.lst l) => (D.pys? n μ l).map PyData.list
    | _ => none
  | _, _, _ => none
def D.pys? : Nat → Mem → List D → Option (List PyData)
  | _, _, [] => some []
  | n, μ, d :: l => match D.py? n μ d, D.pys? n μ l with
    | some k, some r => some (k :: r)
    | _, _ => none
end
end RW

/-! SEe: ==, subscripts, slices. -/
namespace RW
open PySem L2
def eqD (x y : D) (μ : Mem) : Res D := match D.py? 8 μ x, D.py? 8 μ y with
  | some p, some q => if (SeqAt.shaped p && SeqAt.shaped q) = true then .ok (.bl (PyData.eqv p q)) μ else .stuck
  | _, _ => .stuck
def neD (x y : D) (μ : Mem) : Res D := match D.py? 8 μ x, D.py? 8 μ y with
  | some p, some q => if (SeqAt.shaped p && SeqAt.shaped q) = true then .ok (.bl (!PyData.eqv p q)) μ else .stuck
  | _, _ => .stuck
section
variable {G : Gd} {ι : List Addr} {H : Hp} {μ : Mem}
mutual
theorem dp_of (r : Rel G ι H μ) : ∀ (n : Nat) (d : D) (v : V) (p : PyData), Rep G ι H d v → D.py? n μ d = some p → Dp G.K H v p
  | n, .non, v, p, h, e => by unfold D.py? at e; cases e; rw [h.non]; exact .non
  | n, .bl b, v, p, h, e => by unfold D.py? at e; cases e; rw [h.bl]; exact .bl b
  | n, .int b, v, p, h, e => by unfold D.py? at e; cases e; rw [h.int]; exact .int b
  | n, .str b, v, p, h, e => by unfold D.py? at e; cases e; rw [h.str]; exact .str b
  | n + 1, .tup l, v, p, h, e => by
    unfold D.py? at e
    obtain ⟨q, e1, rfl⟩ := Option.map_eq_some_iff.mp e
    obtain ⟨a, vs, rfl, h1, h2⟩ := h.tup
    exact .tup h1 (dps_of r n l vs q h2 e1)
  | n + 1, .frl l, v, p, h, e => by
    unfold D.py? at e
    obtain ⟨q, e1, rfl⟩ := Option.map_eq_some_iff.mp e
    obtain ⟨a, vs, rfl, h1, h2⟩ := h.frl
    exact .lst (FrL.sq _ _ h1) (dps_of r n l vs q h2 e1)
  | n + 1, .ref m, v, p, h, e => by
    unfold D.py? at e
    split at e
    · rename_i l em
      obtain ⟨q, e1, rfl⟩ := Option.map_eq_some_iff.mp e
      obtain ⟨a, vs, rfl, h1, h2, h3⟩ := r.lst em h
      exact .lst (.of h2) (dps_of r n l vs q h3 e1)
    · cases e
  | _, .fn _, _, _, _, e => by unfold D.py? at e; cases e
  | 0, .tup _, _, _, _, e => by unfold D.py? at e; cases e
  | 0, .frl _, _, _, _, e => by unfold D.py? at e; cases e
  | 0, .ref _, _, _, _, e => by unfold D.py? at e; cases e
theorem dps_of (r : Rel G ι H μ) : ∀ (n : Nat) (l : List D) (vs : List V) (p : List PyData), Reps G ι H l vs → D.pys? n μ l = some p → DpAll G.K H vs p
  | n, [], vs, p, h, e => by unfold D.pys? at e; cases e; rw [h.nil_inv]; exact .nil
  | n, d :: l, vs, p, h, e => by
    unfold D.pys? at e
    obtain ⟨v, w, rfl, h1, h2⟩ := h.cons_inv
    split at e
    · rename_i k q e1 e2
      cases e
      exact .cons (dp_of r n d v k h1 e1) (dps_of r n l w q h2 e2)
    · cases e
end
end
theorem snd_eq {G : Gd} : Snd2 G (rEqD G.K) eqD := fun ι H μ x y v u W σ Q r rx ry h => by
  unfold eqD at h
  split at h
  · rename_i p q e1 e2
    split at h
    · rename_i hs
      rw [Bool.and_eq_true] at hs
      exact ⟨p, q, dp_of r _ _ _ _ rx e1, dp_of r _ _ _ _ ry e2, hs.1, hs.2, h ι H .refl r _ (rep_bl _)⟩
    · exact h.elim
  · exact h.elim
theorem snd_ne {G : Gd} : Snd2 G (rNeD G.K) neD := fun ι H μ x y v u W σ Q r rx ry h => by
  unfold neD at h
  split at h
  · rename_i p q e1 e2
    split at h
    · rename_i hs
      rw [Bool.and_eq_true] at hs
      exact ⟨p, q, dp_of r _ _ _ _ rx e1, dp_of r _ _ _ _ ry e2, hs.1, hs.2, h ι H .refl r _ (rep_bl _)⟩
    · exact h.elim
  · exact h.elim

/-! ### a[b] of lists, tuples, texts -/
def idxD : D → D → Mem → Res D
  | .tup l, .int i, μ => match atI l i with
    | some d => .ok d μ
    | none => .stuck
  | .frl l, .int i, μ => match atI l i with
    | some d => .ok d μ
    | none => .stuck
  | .ref n, .int i, μ => match μ[n]? with
    | some (.lst l) => (match atI l i with
      | some d => .ok d μ
      | none => .stuck)
    | _ => .stuck
  | .str z, .int i, μ => if z.length ≤ sizeLine then (match atI z.cps.toList i with
      | some c => .ok (.str ⟨#[c]⟩) μ
      | none => .stuck) else .stuck
  | _, _, _ => .stuck
theorem Reps.atI {G : Gd} {ι : List Addr} {H : Hp} {l : List D} {vs : List V} {i : Int} {d : D} (h : Reps G ι H l vs) (e : L2.atI l i = some d) : ∃ v, L2.atI vs i = some v ∧ Rep G ι H d v := by
  unfold L2.atI at e ⊢
  rw [h.length]
  obtain ⟨j, e1, e2⟩ := Option.bind_eq_some_iff.mp e
  obtain ⟨v, e3, r⟩ := h.get e2
  exact ⟨v, Option.bind_eq_some_iff.mpr ⟨j, e1, e3⟩, r⟩
theorem snd_idx {G : Gd} : Snd2 G (rIx G.K) idxD := fun ι H μ x y v u W σ Q r rx ry h => by
  cases x <;> cases y <;> first | exact h.elim | skip
  · rename_i z i
    simp only [idxD] at h
    split at h
    · rename_i hl
      split at h
      · rename_i c e
        exact .inr (.inr ⟨z, i, c, rx.str, ry.int, hl, e, h ι H .refl r _ (rep_str _)⟩)
      · exact h.elim
    · exact h.elim
  · rename_i l i
    simp only [idxD] at h
    split at h
    · rename_i d e
      obtain ⟨a, vs, rfl, h1, h2⟩ := rx.tup
      obtain ⟨w, e1, r1⟩ := h2.atI e
      exact .inr (.inl ⟨a, vs, i, w, rfl, ry.int, h1, e1, h ι H .refl r _ r1⟩)
    · exact h.elim
  · rename_i l i
    simp only [idxD] at h
    split at h
    · rename_i d e
      obtain ⟨a, vs, rfl, h1, h2⟩ := rx.frl
      obtain ⟨w, e1, r1⟩ := h2.atI e
      exact .inl ⟨a, vs, i, w, rfl, ry.int, FrL.sq _ _ h1, e1, h ι H .refl r _ r1⟩
    · exact h.elim
  · rename_i n i
    simp only [idxD] at h
    split at h
    · rename_i l em
      split at h
      · rename_i d e
        obtain ⟨a, vs, rfl, h1, h2, h3⟩ := r.lst em rx
        obtain ⟨w, e1, r1⟩ := h3.atI e
        exact .inl ⟨a, vs, i, w, rfl, ry.int, .of h2, e1, h ι H .refl r _ r1⟩
      · exact h.elim
    · exact h.elim
section
variable {X : Cx} {W : WX} {a b : Expr} {ma mb : MD} {pos p2 : Pos}
theorem se_idx (ha : SE X W a ma) (hb : SE X W b mb) (hs : PlainIx b := by exact fun _ _ => rfl) : SE X W (.Subscript a b pos) (mBin idxD ma mb) :=
  PE.mono (pe_ix ix_seq ha hb hs) fun σ H Q h => bin_red snd_idx h

/-! ### slices -/
abbrev MO := Rho → Mem → Res (Option Int)
@[simp] def oNone : MO := fun _ μ => .ok none μ
@[simp] def oSome (m : MD) : MO := fun ρ μ => (m ρ μ).bind fun x μ1 => match x with
  | .int i => .ok (some i) μ1
  | _ => .stuck
def tO (G : Gd) (W : WX) (m : MO) : TO := fun σ H Q => ∃ ρ μ ι, EnvOk G ι H ρ σ ∧ Rel G ι H μ ∧ Post G ι H W σ (m ρ μ) fun ι' H' _ o => Q o H'
theorem PO.mono {X : Cx} {e : Option Expr} {t t' : TO} (h : PO X e t) (f : ∀ σ H Q, t' σ H Q → t σ H Q) : PO X e t' := ⟨fun pins s σ H Q I w => h.run pins s σ H Q I (f σ H Q w)⟩
theorem so_none : PO X none (tO (gOf X) W oNone) := PO.mono po_none fun σ H Q ⟨ρ, μ, ι, env, rel, h⟩ => h ι H .refl rel
theorem so_some (h : SE X W a ma) : PO X (some a) (tO (gOf X) W (oSome ma)) := PO.mono (po_some h) fun σ H Q ⟨ρ, μ, ι, env, rel, h⟩ =>
  ⟨ρ, μ, ι, env, rel, (Post.bind h).imp fun ι1 H1 μ1 x _ _ ⟨g1, r1, h1⟩ v rv => by
    cases x with
    | int i => exact ⟨i, rv.int, h1 ι1 H1 .refl r1⟩
    | _ => exact h1.elim⟩
def cutD (l : List D) (lo hi : Option Int) : List D := (l.drop (HT.sIx l.length 0 lo)).take (HT.sIx l.length l.length hi - HT.sIx l.length 0 lo)
def slcD (x : D) (lo hi : Option Int) (μ : Mem) : Res D := match x with
  | .tup l => .ok (.tup (cutD l lo hi)) μ
  | .frl l => .ok (.ref μ.length) (μ ++ [.lst (cutD l lo hi)])
  | .ref n => (match μ[n]? with
    | some (.lst l) => .ok (.ref μ.length) (μ ++ [.lst (cutD l lo hi)])
    | _ => .stuck)
  | _ => .stuck
@[simp] def mSlc (a : MD) (lo hi : MO) : MD := fun ρ μ => (a ρ μ).bind fun x μ1 => (lo ρ μ1).bind fun l μ2 => (hi ρ μ2).bind fun u μ3 => slcD x l u μ3
def rSlAll (K : PySem.W.Frag) : V → Option Int → Option Int → Hp → VK → Prop := fun x lo hi H Q => rSlA K x lo hi H Q ∨ rSlL K x lo hi H Q
theorem Reps.cut {G : Gd} {ι : List Addr} {H : Hp} {l : List D} {vs : List V} (h : Reps G ι H l vs) (lo hi : Option Int) : Reps G ι H (cutD l lo hi) (cutV vs lo hi) := by
  unfold cutD cutV
  rw [h.length]
  exact (h.drop _).take _
theorem cutD_whole {l : List D} {lo hi : Option Int} (h : HT.sIx l.length 0 lo = 0 ∧ HT.sIx l.length l.length hi = l.length) : cutD l lo hi = l := by
  unfold cutD
  rw [h.1, h.2]; simp
theorem se_slc {lo hi : Option Expr} {ml mh : MO} (ha : SE X W a ma) (hl : PO X lo (tO (gOf X) W ml)) (hh : PO X hi (tO (gOf X) W mh)) : SE X W (.Subscript a (.Slice lo hi none p2) pos) (mSlc ma ml mh) :=
  PE.mono (pe_slice (SlR.or sl_tupA sl_list) ha hl hh) fun σ H Q ⟨ρ, μ, ι, env, rel, h⟩ => by
    refine ⟨ρ, μ, ι, env, rel, (Post.bind h).imp fun ι1 H1 μ1 x _ _ ⟨g1, r1, h1⟩ v rv => ?_⟩
    refine ⟨ρ, μ1, ι1, env.ext (g1.ext rel), r1, (Post.bind h1).imp fun ι2 H2 μ2 l _ _ ⟨g2, r2, h2⟩ => ?_⟩
    refine ⟨ρ, μ2, ι2, (env.ext (g1.ext rel)).ext (g2.ext r1), r2, (Post.bind h2).imp fun ι3 H3 μ3 u _ _ ⟨g3, r3, h3⟩ => ?_⟩
    have rv := (rv.ext (g2.ext r1)).ext (g3.ext r2)
    cases x with
    | tup t =>
      obtain ⟨a, vs, rfl, q1, q2⟩ := rv.tup
      refine .inl ⟨a, vs, rfl, q1, fun hw => ?_, fun _ => new_tup r3 (q2.cut l u) h3⟩
      rw [q2.length] at hw
      exact h3 ι3 H3 .refl r3 _ (by rw [cutD_whole hw]; exact rv)
    | frl t =>
      obtain ⟨a, vs, rfl, q1, q2⟩ := rv.frl
      exact .inr ⟨a, vs, rfl, FrL.sq _ _ q1, new_lst r3 (q2.cut l u) h3⟩
    | ref n =>
      simp only [slcD] at h3
      split at h3
      · rename_i t em
        obtain ⟨a, vs, rfl, q0, q1, q2⟩ := r3.lst em rv
        exact .inr ⟨a, vs, rfl, .of q1, new_lst r3 (q2.cut l u) h3⟩
      · exact h3.elim
    | _ => exact h3.elim
end

/-! ### built-in functions -/
section
variable {X : Cx} {W : WX} {x : Str} {p pos : Pos} {e : Expr} {es : List Expr} {ms : ML} {id T : String}
@[simp] def mB (f : List D → Mem → Res D) (a : ML) : MD := fun ρ μ => (a ρ μ).bind fun xs μ1 => f xs μ1
def SndL (G : Gd) (r : List V → Hp → VK → Prop) (f : List D → Mem → Res D) : Prop := ∀ (ι : List Addr) (H : Hp) (μ : Mem) (xs : List D) (vs : List V) (W : WX) (σ : St) (Q : VK), Rel G ι H μ → Reps G ι H xs vs →
  Post G ι H W σ (f xs μ) (fun ι' H' _ d => ∀ v, Rep G ι' H' d v → Q v H') → r vs H Q
theorem cb_red {r : List V → Hp → VK → Prop} {f : List D → Mem → Res D} (hf : SndL (gOf X) r f) {σ : St} {H : Hp} {Q : VK} (h : tE (gOf X) W (mB f ms) σ H Q) : tCB r (tL (gOf X) W ms) σ H Q := by
  obtain ⟨ρ, μ, ι, env, rel, h⟩ := h
  exact ⟨ρ, μ, ι, env, rel, (Post.bind h).imp fun ι1 H1 μ1 xs _ _ ⟨g1, r1, h1⟩ vs rvs => hf ι1 H1 μ1 xs vs W σ Q r1 rvs h1⟩
theorem se_B {r : List V → Hp → VK → Prop} {f : List D → Mem → Res D} (hc : CallR X (.builtin id) r) (hf : SndL (gOf X) r f) (hg : Gl X x) (hm : X.mg x = none) (hv : bootBuiltins x = some (.builtin id)) (ha : SA X W (e :: es) ms) (hn : x ≠ "__name__" := by decide) (hdb : (x == ("__debug__" : Str)) = false := by decide)
    (he : starEach (e :: es) X.env = (false, eval e X.env) :: starEach es X.env := by rfl) (hpl : (backTo pos (starEach es X.env)).any (·.1) = false := by rfl) : SE X W (.Call (.Name x p) (e :: es) [] pos) (mB f ms) :=
  PE.mono (pe_callB hc hg hm hv ha hn hdb he hpl) fun σ H Q h => cb_red hf h
theorem se_T {r : List V → Hp → VK → Prop} {f : List D → Mem → Res D} (hc : CallR X (.type T) r) (hf : SndL (gOf X) r f) (hg : Gl X x) (hm : X.mg x = none) (hv : bootBuiltins x = some (.type T)) (ha : SA X W (e :: es) ms) (hn : x ≠ "__name__" := by decide) (hdb : (x == ("__debug__" : Str)) = false := by decide)
    (he : starEach (e :: es) X.env = (false, eval e X.env) :: starEach es X.env := by rfl) (hpl : (backTo pos (starEach es X.env)).any (·.1) = false := by rfl) : SE X W (.Call (.Name x p) (e :: es) [] pos) (mB f ms) :=
  PE.mono (pe_callTy hc hg hm hv ha hn hdb he hpl) fun σ H Q h => cb_red hf h
end
theorem Reps.one {G : Gd} {ι : List Addr} {H : Hp} {x : D} {vs : List V} (h : Reps G ι H [x] vs) : ∃ v, vs = [v] ∧ Rep G ι H x v := by
  obtain ⟨v, r, rfl, h1, h2⟩ := h.cons_inv
  rw [h2.nil_inv]; exact ⟨v, rfl, h1⟩
theorem Reps.two {G : Gd} {ι : List Addr} {H : Hp} {x y : D} {vs : List V} (h : Reps G ι H [x, y] vs) : ∃ v w, vs = [v, w] ∧ Rep G ι H x v ∧ Rep G ι H y w := by
  obtain ⟨v, r, rfl, h1, h2⟩ := h.cons_inv
  obtain ⟨w, rfl, h3⟩ := h2.one
  exact ⟨v, w, rfl, h1, h3⟩
def absL : List D → Mem → Res D
  | [.int i], μ => .ok (.int (if i < 0 then -i else i)) μ
  | _, _ => .stuck
def lenL : List D → Mem → Res D
  | [.tup l], μ => .ok (.int l.length) μ
  | [.frl l], μ => .ok (.int l.length) μ
  | [.ref n], μ => (match μ[n]? with
    | some (.lst l) => .ok (.int l.length) μ
    | _ => .stuck)
  | [.str z], μ => if z.length ≤ sizeLine then .ok (.int z.length) μ else .stuck
  | _, _ => .stuck
def min2L : List D → Mem → Res D
  | [.int i, .int j], μ => .ok (.int (if j < i then j else i)) μ
  | _, _ => .stuck
def max2L : List D → Mem → Res D
  | [.int i, .int j], μ => .ok (.int (if j > i then j else i)) μ
  | _, _ => .stuck
def intL : List D → Mem → Res D
  | [.int i], μ => .ok (.int i) μ
  | [.bl k], μ => .ok (.int (if k then 1 else 0)) μ
  | _, _ => .stuck
def tupleL : List D → Mem → Res D
  | [.tup l], μ => .ok (.tup l) μ
  | [.frl l], μ => .ok (.tup l) μ
  | [.ref n], μ => (match μ[n]? with
    | some (.lst l) => .ok (.tup l) μ
    | _ => .stuck)
  | _, _ => .stuck
def listL : List D → Mem → Res D
  | [.tup l], μ => .ok (.ref μ.length) (μ ++ [.lst l])
  | [.frl l], μ => .ok (.ref μ.length) (μ ++ [.lst l])
  | [.ref n], μ => (match μ[n]? with
    | some (.lst l) => .ok (.ref μ.length) (μ ++ [.lst l])
    | _ => .stuck)
  | _, _ => .stuck
theorem snd_abs {G : Gd} : SndL G (fun xs H Q => ∃ i, xs = [.int i] ∧ Q (.int (if i < 0 then -i else i)) H) absL := fun ι H μ xs vs W σ Q r rxs h => by
  unfold absL at h
  split at h
  · obtain ⟨v, rfl, rv⟩ := rxs.one
    exact ⟨_, by rw [rv.int], h ι H .refl r _ (rep_int _)⟩
  · exact h.elim
theorem snd_min2 {G : Gd} : SndL G (fun xs H Q => ∃ i j, xs = [.int i, .int j] ∧ Q (.int (if j < i then j else i)) H) min2L := fun ι H μ xs vs W σ Q r rxs h => by
  unfold min2L at h
  split at h
  · obtain ⟨v, w, rfl, rv, rw'⟩ := rxs.two
    exact ⟨_, _, by rw [rv.int, rw'.int], h ι H .refl r _ (rep_int _)⟩
  · exact h.elim
theorem snd_max2 {G : Gd} : SndL G (fun xs H Q => ∃ i j, xs = [.int i, .int j] ∧ Q (.int (if j > i then j else i)) H) max2L := fun ι H μ xs vs W σ Q r rxs h => by
  unfold max2L at h
  split at h
  · obtain ⟨v, w, rfl, rv, rw'⟩ := rxs.two
    exact ⟨_, _, by rw [rv.int, rw'.int], h ι H .refl r _ (rep_int _)⟩
  · exact h.elim
theorem snd_intL {G : Gd} : SndL G (fun xs H Q => (∃ i, xs = [.int i] ∧ Q (.int i) H) ∨ ∃ k, xs = [.bl k] ∧ Q (.int (if k then 1 else 0)) H) intL := fun ι H μ xs vs W σ Q r rxs h => by
  unfold intL at h
  split at h
  · obtain ⟨v, rfl, rv⟩ := rxs.one
    exact .inl ⟨_, by rw [rv.int], h ι H .refl r _ (rep_int _)⟩
  · obtain ⟨v, rfl, rv⟩ := rxs.one
    exact .inr ⟨_, by rw [rv.bl], h ι H .refl r _ (rep_int _)⟩
  · exact h.elim
def rLenA (K : PySem.W.Frag) : List V → Hp → VK → Prop := fun xs H Q => (∃ p ys, xs = [.ref p] ∧ (SqL K H p ys ∨ SqT K H p ys) ∧ Q (.int ys.length) H) ∨ (∃ z, xs = [.str z] ∧ z.length ≤ sizeLine ∧ Q (.int z.length) H)
theorem call_lenA {X : Cx} : CallR X (.builtin "len") (rLenA X.K) := call_len_seq.or call_len_str
theorem snd_len {G : Gd} : SndL G (rLenA G.K) lenL := fun ι H μ xs vs W σ Q r rxs h => by
  unfold lenL at h
  split at h
  · obtain ⟨v, rfl, rv⟩ := rxs.one
    obtain ⟨a, vs, rfl, h1, h2⟩ := rv.tup
    exact .inl ⟨a, vs, rfl, .inr h1, by rw [h2.length]; exact h ι H .refl r _ (rep_int _)⟩
  · obtain ⟨v, rfl, rv⟩ := rxs.one
    obtain ⟨a, vs, rfl, h1, h2⟩ := rv.frl
    exact .inl ⟨a, vs, rfl, .inl (FrL.sq _ _ h1), by rw [h2.length]; exact h ι H .refl r _ (rep_int _)⟩
  · obtain ⟨v, rfl, rv⟩ := rxs.one
    split at h
    · rename_i l em
      obtain ⟨a, vs, rfl, h0, h1, h2⟩ := r.lst em rv
      exact .inl ⟨a, vs, rfl, .inl (.of h1), by rw [h2.length]; exact h ι H .refl r _ (rep_int _)⟩
    · exact h.elim
  · obtain ⟨v, rfl, rv⟩ := rxs.one
    split at h
    · rename_i hl
      exact .inr ⟨_, by rw [rv.str], hl, h ι H .refl r _ (rep_int _)⟩
    · exact h.elim
  · exact h.elim
theorem snd_tupleL {G : Gd} : SndL G (fun xs H Q => ∃ p ys, xs = [.ref p] ∧ ((SqL G.K H p ys ∧ ∀ l, H l = none → Q (.ref l) (upd H l (.tup ys))) ∨ (SqT G.K H p ys ∧ Q (.ref p) H))) tupleL := fun ι H μ xs vs W σ Q r rxs h => by
  unfold tupleL at h
  split at h
  · obtain ⟨v, rfl, rv⟩ := rxs.one
    obtain ⟨a, vs, rfl, h1, h2⟩ := id rv.tup
    exact ⟨a, vs, rfl, .inr ⟨h1, h ι H .refl r _ rv⟩⟩
  · obtain ⟨v, rfl, rv⟩ := rxs.one
    obtain ⟨a, vs, rfl, h1, h2⟩ := rv.frl
    exact ⟨a, vs, rfl, .inl ⟨FrL.sq _ _ h1, new_tup r h2 h⟩⟩
  · obtain ⟨v, rfl, rv⟩ := rxs.one
    split at h
    · rename_i l em
      obtain ⟨a, vs, rfl, h0, h1, h2⟩ := r.lst em rv
      exact ⟨a, vs, rfl, .inl ⟨.of h1, new_tup r h2 h⟩⟩
    · exact h.elim
  · exact h.elim
theorem snd_listL {G : Gd} : SndL G (fun xs H Q => ∃ p ys, xs = [.ref p] ∧ (SqL G.K H p ys ∨ SqT G.K H p ys) ∧ ∀ l, H l = none → Q (.ref l) (upd H l (.lst ys))) listL := fun ι H μ xs vs W σ Q r rxs h => by
  unfold listL at h
  split at h
  · obtain ⟨v, rfl, rv⟩ := rxs.one
    obtain ⟨a, vs, rfl, h1, h2⟩ := id rv.tup
    exact ⟨a, vs, rfl, .inr h1, new_lst r h2 h⟩
  · obtain ⟨v, rfl, rv⟩ := rxs.one
    obtain ⟨a, vs, rfl, h1, h2⟩ := rv.frl
    exact ⟨a, vs, rfl, .inl (FrL.sq _ _ h1), new_lst r h2 h⟩
  · obtain ⟨v, rfl, rv⟩ := rxs.one
    split at h
    · rename_i l em
      obtain ⟨a, vs, rfl, h0, h1, h2⟩ := r.lst em rv
      exact ⟨a, vs, rfl, .inl (.of h1), new_lst r h2 h⟩
    · exact h.elim
  · exact h.elim
end RW

/-! SEf: statements, loops. -/
namespace RW
open PySem L2
abbrev SS (X : Cx) (W : WX) (st : Stmt) (m : MS) : Prop := PS X st (tS (gOf X) W m)
abbrev SSs (X : Cx) (W : WX) (st : List Stmt) (m : MS) : Prop := PSs X st (tS (gOf X) W m)
abbrev MG := D → Rho → Mem → Res Rho
abbrev MIt := Rho → Mem → Res (List D × (Mem → Prop))
@[simp] def sNil : MS := fun ρ μ => .ok (.nx ρ) μ
@[simp] def sNever : MS := fun ρ μ => .stuck
@[simp] def sBrk : MS := fun ρ μ => .ok (.brk ρ) μ
@[simp] def sCnt : MS := fun ρ μ => .ok (.cnt ρ) μ
@[simp] def thenS (b : MS) : Fl → Mem → Res Fl
  | .nx ρ', μ => b ρ' μ
  | f, μ => .ok f μ
@[simp] def sSeq (a b : MS) : MS := fun ρ μ => (a ρ μ).bind (thenS b)
@[simp] def sIf (c : MB) (a b : MS) : MS := fun ρ μ => onE (c ρ μ) ρ fun t μ1 => if t = true then a ρ μ1 else b ρ μ1
@[simp] def sExpr (e : MD) : MS := fun ρ μ => onE (e ρ μ) ρ fun _ μ1 => .ok (.nx ρ) μ1
@[simp] def sRet (e : MD) : MS := fun ρ μ => onE (e ρ μ) ρ fun d μ1 => .ok (.ret d) μ1
@[simp] def sRetN : MS := fun ρ μ => .ok (.ret .non) μ
@[simp] def sSet (i : Nat) (e : MD) : MS := fun ρ μ => onE (e ρ μ) ρ fun d μ1 => .ok (.nx (ρ.set i (some d))) μ1
/-- no exception here -/
@[simp] def pureE {α β : Type} (r : Res α) (k : α → Mem → Res β) : Res β := match r with
  | .ok a m => k a m
  | _ => .stuck
@[simp] def sAsg (e : MD) (g : MG) : MS := fun ρ μ => onE (e ρ μ) ρ fun d μ1 => pureE (g d ρ μ1) fun ρ' μ2 => .ok (.nx ρ') μ2
@[simp] def sAug (i : Nat) (f : D → D → Mem → Res D) (e : MD) : MS := fun ρ μ => onE (mVar i ρ μ) ρ fun x μ1 => onE (e ρ μ1) ρ fun y μ2 => pureE (f x y μ2) fun z μ3 => .ok (.nx (ρ.set i (some z))) μ3
@[simp] def endL (k : MS) : Fl → Mem → Res Fl
  | .nx ρ, μ => k ρ μ
  | .cnt ρ, μ => k ρ μ
  | .brk ρ, μ => .ok (.nx ρ) μ
  | f, μ => .ok f μ
open Classical in
noncomputable def forL (chk : Mem → Prop) (g : MG) (body : MS) : List D → MS
  | [], ρ, μ => if chk μ then .ok (.nx ρ) μ else .stuck
  | d :: ds, ρ, μ => if chk μ then pureE (g d ρ μ) fun ρ1 μ1 => (body ρ1 μ1).bind (endL (forL chk g body ds)) else .stuck
@[simp] noncomputable def sFor (it : MIt) (g : MG) (body : MS) : MS := fun ρ μ => onE (it ρ μ) ρ fun p μ1 => forL p.2 g body p.1 ρ μ1
def whileL (c : MB) (body : MS) : Nat → MS
  | 0, _, _ => .stuck
  | n + 1, ρ, μ => onE (c ρ μ) ρ fun b μ1 => if b = true then (body ρ μ1).bind (endL (whileL c body n)) else .ok (.nx ρ) μ1

section
variable {G : Gd} {ι ι' : List Addr} {H H' : Hp} {W : WX} {σ : St} {ρ : Rho} {α : Type}
theorem PostS.bind {r : Res Fl} {f : Fl → Mem → Res Fl} {k : List Addr → Hp → Mem → Fl → Prop} (h : PostS G ι H (r.bind f) k) :
    PostS G ι H r fun ι' H' μ' a => Grow ι H ι' H' ∧ Rel G ι' H' μ' ∧ PostS G ι' H' (f a μ') k := by
  cases r with
  | ok a m => exact fun ι' H' g r => ⟨g, r, PostS.grow h g⟩
  | exc c fs m => exact h
  | stuck => exact h
theorem PostS.imp {r : Res Fl} {k k' : List Addr → Hp → Mem → Fl → Prop} (h : PostS G ι H r k) (f : ∀ ι' H' μ' a, Grow ι H ι' H' → Rel G ι' H' μ' → k ι' H' μ' a → k' ι' H' μ' a) : PostS G ι H r k' := by
  cases r with
  | ok a m => exact fun ι' H' g r => f _ _ _ _ g r (h ι' H' g r)
  | exc c fs m => exact h
  | stuck => exact h
/-- a step that may not raise -/
theorem PostS.pureE {D : Ends} {r : Res α} {k : α → Mem → Res Fl} (h : PostS G ι H (pureE r k) (FlK G W D)) :
    Post G ι H W σ r fun ι' H' μ' a => Grow ι H ι' H' ∧ Rel G ι' H' μ' ∧ PostS G ι' H' (k a μ') (FlK G W D) := by
  cases r with
  | ok a m => exact fun ι' H' g r => ⟨g, r, PostS.grow h g⟩
  | exc c fs m => exact h.elim
  | stuck => exact h.elim
end

section
variable {X : Cx} {W : WX} {st : Stmt} {rest : List Stmt} {m m' : MS} {e c : Expr} {me : MD} {pos : Pos}
theorem sss_nil : SSs X W [] sNil := PSs.mono pss_nil fun D σ H ⟨ρ, μ, ι, env, rel, h⟩ => h ι H .refl rel σ env
theorem sss_one (h : SS X W st m) : SSs X W [st] m := pss_one h
theorem sss_cons (h1 : SS X W st m) (h2 : SSs X W rest m') : SSs X W (st :: rest) (sSeq m m') :=
  PSs.mono (pss_cons h1 h2) fun D σ H ⟨ρ, μ, ι, env, rel, h⟩ => by
    refine ⟨ρ, μ, ι, env, rel, (PostS.bind h).imp fun ι1 H1 μ1 f _ _ ⟨g1, r1, h1⟩ => ?_⟩
    cases f with
    | nx ρ' => exact fun σ' env' => ⟨ρ', μ1, ι1, env', r1, h1⟩
    | brk ρ' => exact h1 ι1 H1 .refl r1
    | cnt ρ' => exact h1 ι1 H1 .refl r1
    | ret d => exact h1 ι1 H1 .refl r1
    | exc c fs ρ' => exact h1 ι1 H1 .refl r1
theorem ss_pass : SS X W (.Pass pos) sNil := PS.mono ps_pass fun D σ H ⟨ρ, μ, ι, env, rel, h⟩ => h ι H .refl rel σ env
theorem ss_brk : SS X W (.Break pos) sBrk := PS.mono ps_break fun D σ H ⟨ρ, μ, ι, env, rel, h⟩ => h ι H .refl rel σ env
theorem ss_cnt : SS X W (.Continue pos) sCnt := PS.mono ps_continue fun D σ H ⟨ρ, μ, ι, env, rel, h⟩ => h ι H .refl rel σ env
theorem ss_retN : SS X W (.Return none pos) sRetN := PS.mono ps_retN fun D σ H ⟨ρ, μ, ι, env, rel, h⟩ => h ι H .refl rel _ rep_non
theorem ss_expr (he : SE X W e me) (hs : swapsWith e none pos.line X.env = pure false := by rfl) : SS X W (.Expr e pos) (sExpr me) :=
  PS.mono (ps_expr he hs) fun D σ H ⟨ρ, μ, ι, env, rel, h⟩ =>
    ⟨ρ, μ, ι, env, rel, (PostS.onE h env ⟨μ, rel⟩).imp fun ι1 H1 μ1 d _ _ ⟨g1, r1, env1, h1⟩ v rv => h1 ι1 H1 .refl r1 σ env1⟩
theorem ss_ret (he : SE X W e me) : SS X W (.Return (some e) pos) (sRet me) :=
  PS.mono (ps_ret he) fun D σ H ⟨ρ, μ, ι, env, rel, h⟩ =>
    ⟨ρ, μ, ι, env, rel, (PostS.onE h env ⟨μ, rel⟩).imp fun ι1 H1 μ1 d _ _ ⟨g1, r1, env1, h1⟩ v rv => h1 ι1 H1 .refl r1 v rv⟩
theorem ss_if {a b : List Stmt} {mc : MB} (hc : ST X W c mc) (ha : SSs X W a m) (hb : SSs X W b m') : SS X W (.If c a b pos) (sIf mc m m') :=
  PS.mono (ps_if hc ha hb) fun D σ H ⟨ρ, μ, ι, env, rel, h⟩ => by
    refine ⟨ρ, μ, ι, env, rel, (PostS.onE h env ⟨μ, rel⟩).imp fun ι1 H1 μ1 t _ _ ⟨g1, r1, env1, h1⟩ => ?_⟩
    cases t with
    | true => exact iteT ⟨ρ, μ1, ι1, env1, r1, h1⟩
    | false => exact iteF ⟨ρ, μ1, ι1, env1, r1, h1⟩
theorem ss_set {i : Nat} {x : Str} {pos' : Pos} (hN : X.N.Nodup) (hi : X.N[i]? = some x) (hx : Loc X.env.scope x) (he : SE X W e me) (hs : swapsWith e (some (.Name x pos')) pos.line X.env = pure false := by rfl) (hf : X.fn x = true ∨ X.env.scope.names.lookup x = some .local := by first | exact .inl rfl | exact .inr rfl | assumption) :
    SS X W (.Assign [.Name x pos'] e pos) (sSet i me) :=
  PS.mono (ps_set hN hi hx he hs hf) fun D σ H ⟨ρ, μ, ι, env, rel, h⟩ =>
    ⟨ρ, μ, ι, env, rel, (PostS.onE h env ⟨μ, rel⟩).imp fun ι1 H1 μ1 d _ _ ⟨g1, r1, env1, h1⟩ v rv => h1 ι1 H1 .refl r1 _ (env1.set i rv)⟩
end

/-! ### targets -/
def tG (G : Gd) (W : WX) (g : MG) : TG := fun v σ H Q => ∃ d ρ μ ι, Rep G ι H d v ∧ EnvOk G ι H ρ σ ∧ Rel G ι H μ ∧ Post G ι H W σ (g d ρ μ) fun ι' H' _ ρ' => ∀ σ', EnvOk G ι' H' ρ' σ' → Q σ' H'
abbrev MGs := List D → Rho → Mem → Res Rho
def tGs (G : Gd) (W : WX) (g : MGs) : TGs := fun vs σ H Q => ∃ ds ρ μ ι, Reps G ι H ds vs ∧ EnvOk G ι H ρ σ ∧ Rel G ι H μ ∧ Post G ι H W σ (g ds ρ μ) fun ι' H' _ ρ' => ∀ σ', EnvOk G ι' H' ρ' σ' → Q σ' H'
@[simp] def gN (i : Nat) : MG := fun d ρ μ => .ok (ρ.set i (some d)) μ
@[simp] def gNilM : MGs := fun ds ρ μ => match ds with
  | [] => .ok ρ μ
  | _ => .stuck
/-- where an exception in a target would do, nothing is promised -/
@[simp] def gConsM (a : MG) (r : MGs) : MGs := fun ds ρ μ => match ds with
  | [] => .stuck
  | d :: l => pureE (a d ρ μ) fun ρ1 μ1 => pureE (r l ρ1 μ1) fun ρ2 μ2 => .ok ρ2 μ2
@[simp] def gTupM (n : Nat) (r : MGs) : MG := fun d ρ μ => match d with
  | .tup l => if l.length = n then r l ρ μ else .stuck
  | .ref k => (match μ[k]? with
    | some (.lst l) => if l.length = n then r l ρ μ else .stuck
    | _ => .stuck)
  | _ => .stuck
theorem PG.or {X : Cx} {e : Expr} {t t' : TG} (h : PG X e t) (h' : PG X e t') : PG X e fun v σ H Q => t v σ H Q ∨ t' v σ H Q := ⟨fun pins s σ H v u Q I r w => w.elim (h.run pins s σ H v u Q I r) (h'.run pins s σ H v u Q I r)⟩
theorem PG.mono {X : Cx} {e : Expr} {t t' : TG} (h : PG X e t) (f : ∀ v σ H Q, t' v σ H Q → t v σ H Q) : PG X e t' := ⟨fun pins s σ H v u Q I r w => h.run pins s σ H v u Q I r (f v σ H Q w)⟩
theorem PGs.mono {X : Cx} {e : List Expr} {t t' : TGs} (h : PGs X e t) (f : ∀ v σ H Q, t' v σ H Q → t v σ H Q) : PGs X e t' := ⟨fun pins s σ H v u Q I r w => h.run pins s σ H v u Q I r (f v σ H Q w)⟩
abbrev SG (X : Cx) (W : WX) (e : Expr) (g : MG) : Prop := PG X e (tG (gOf X) W g)
abbrev SGs (X : Cx) (W : WX) (e : List Expr) (g : MGs) : Prop := PGs X e (tGs (gOf X) W g)
section
variable {G : Gd} {ι ι' : List Addr} {H H' : Hp} {W : WX} {σ : St} {α β : Type}
theorem Post.pureE {r : Res α} {k : α → Mem → Res β} {kk : List Addr → Hp → Mem → β → Prop} (W' : WX) (σ' : St) (h : Post G ι H W σ (RW.pureE r k) kk) :
    Post G ι H W' σ' r fun ι' H' μ' a => Grow ι H ι' H' ∧ Rel G ι' H' μ' ∧ Post G ι' H' W σ (k a μ') kk := by
  cases r with
  | ok a m => exact fun ι' H' g r => ⟨g, r, Post.grow h g⟩
  | exc c fs m => exact h.elim
  | stuck => exact h.elim
end
section
variable {X : Cx} {W : WX} {pos : Pos} {e o i : Expr} {es : List Expr} {me mo mi : MD}
theorem sg_name {j : Nat} {x : Str} (hN : X.N.Nodup) (hi : X.N[j]? = some x) (hx : Loc X.env.scope x) (hf : X.fn x = true ∨ X.env.scope.names.lookup x = some .local := by first | exact .inl rfl | exact .inr rfl | assumption) : SG X W (.Name x pos) (gN j) :=
  PG.mono (pg_name hN hi hx hf) fun v σ H Q ⟨d, ρ, μ, ι, rv, env, rel, h⟩ => h ι H .refl rel _ (env.set j rv)
theorem sgs_nil : SGs X W [] gNilM := PGs.mono pgs_nil fun vs σ H Q ⟨ds, ρ, μ, ι, rv, env, rel, h⟩ => by
  cases ds with
  | nil => exact ⟨rv.nil_inv, h ι H .refl rel σ env⟩
  | cons _ _ => exact h.elim
theorem sgs_cons {g : MG} {gs : MGs} (h1 : SG X W e g) (h2 : SGs X W es gs) (hs : (assignEach (e :: es) X.env).map (·.2) = assign e X.env :: (assignEach es X.env).map (·.2) := by rfl) : SGs X W (e :: es) (gConsM g gs) :=
  PGs.mono (pgs_cons h1 h2 hs) fun vs σ H Q ⟨ds, ρ, μ, ι, rv, env, rel, h⟩ => by
    cases ds with
    | nil => exact h.elim
    | cons d l =>
      obtain ⟨v, r, rfl, h3, h4⟩ := rv.cons_inv
      refine ⟨v, r, rfl, d, ρ, μ, ι, h3, env, rel, (Post.pureE W σ h).imp fun ι1 H1 μ1 ρ1 _ _ ⟨g1, r1, h1⟩ σ1 env1 => ?_⟩
      exact ⟨l, ρ1, μ1, ι1, h4.ext (g1.ext rel), env1, r1, (Post.pureE W σ1 h1).imp fun ι2 H2 μ2 ρ2 _ _ ⟨g2, r2, h2⟩ σ2 env2 => h2 ι2 H2 .refl r2 σ2 env2⟩
theorem sg_tup {k n : Nat} {gs : MGs} (hc : X.calm = true) (h : SGs X W es gs) (hn : (assignEach es X.env).length = n := by rfl) (hst : (assignEach es X.env).findIdx? (·.1) = none := by rfl) : SG X W (.Tuple es k pos) (gTupM n gs) :=
  PG.mono (PG.or (pg_tup hc h hn hst) (pg_lst hc h hn hst)) fun v σ H Q ⟨d, ρ, μ, ι, rv, env, rel, h⟩ => by
    cases d with
    | tup l =>
      simp only [gTupM] at h
      split at h
      · rename_i hl
        obtain ⟨a, vs, rfl, h1, h2⟩ := rv.tup
        exact .inl ⟨a, vs, rfl, h1, h2.length.trans hl, l, ρ, μ, ι, h2, env, rel, h⟩
      · exact h.elim
    | ref m =>
      simp only [gTupM] at h
      split at h
      · rename_i l em
        split at h
        · rename_i hl
          obtain ⟨a, vs, rfl, h0, h1, h2⟩ := rel.lst em rv
          exact .inr ⟨a, vs, rfl, .of h1, h2.length.trans hl, l, ρ, μ, ι, h2, env, rel, h⟩
        · exact h.elim
      · exact h.elim
    | _ => exact h.elim
/-! a store at a place -/
def SndSet (G : Gd) (r : TSet) (f : D → D → D → Mem → Res Unit) : Prop := ∀ (ι : List Addr) (H : Hp) (μ : Mem) (o i x : D) (ov iv v : V) (W : WX) (σ : St) (Q : Hp → Prop), Rel G ι H μ → Rep G ι H o ov → Rep G ι H i iv → Rep G ι H x v →
  Post G ι H W σ (f o i x μ) (fun ι' H' _ _ => Q H') → r ov iv v H Q
@[simp] def gSubM (f : D → D → D → Mem → Res Unit) (o i : MD) : MG := fun d ρ μ => (o ρ μ).bind fun x μ1 => (i ρ μ1).bind fun y μ2 => pureE (f x y d μ2) fun _ μ3 => .ok ρ μ3
theorem sg_sub {t : TSet} {f : D → D → D → Mem → Res Unit} (ho : SE X W o mo) (hi : SE X W i mi) (hs : PSet X t) (hf : SndSet (gOf X) t f)
    (ha : ∀ v, assign (.Subscript o i pos) X.env v = (do
      let ov ← holding [v] (eval o X.env)
      let iv ← holding [v, ov] (eval i X.env)
      standAt pos
      holding [v, ov, iv] (setItem ov iv v)
      release [v, ov, iv] []) := by intro _; rfl) : SG X W (.Subscript o i pos) (gSubM f mo mi) :=
  PG.mono (pg_sub ho hi hs ha) fun v σ H Q ⟨d, ρ, μ, ι, rv, env, rel, h⟩ => by
    refine ⟨ρ, μ, ι, env, rel, (Post.bind h).imp fun ι1 H1 μ1 x _ _ ⟨g1, r1, h1⟩ ov rov => ?_⟩
    have env1 := env.ext (g1.ext rel)
    refine ⟨ρ, μ1, ι1, env1, r1, (Post.bind h1).imp fun ι2 H2 μ2 y _ _ ⟨g2, r2, h2⟩ iv riv => ?_⟩
    have env2 := env1.ext (g2.ext r1)
    exact hf ι2 H2 μ2 x y d ov iv v W σ _ r2 (rov.ext (g2.ext r1)) riv ((rv.ext (g1.ext rel)).ext (g2.ext r1)) ((Post.pureE W σ h2).imp fun ι3 H3 μ3 _ _ _ ⟨g3, r3, h3⟩ => h3 ι3 H3 .refl r3 σ (env2.ext (g3.ext r2)))
def setLD : D → D → D → Mem → Res Unit
  | .ref n, .int k, d, μ => (match μ[n]? with
    | some (.lst l) => (match ixN l.length k with
      | some j => .ok () (μ.set n (.lst (l.set j d)))
      | none => .stuck)
    | _ => .stuck)
  | _, _, _, _ => .stuck
theorem snd_setL {G : Gd} : SndSet G rSetL setLD := fun ι H μ o i x ov iv v W σ Q r ro ri rx h => by
  cases o <;> first | exact h.elim | skip
  cases i <;> first | exact h.elim | skip
  simp only [setLD] at h
  split at h
  · rename_i l em
    split at h
    · rename_i j ej
      obtain ⟨a, vs, rfl, h0, h1, h2⟩ := r.lst em ro
      refine ⟨a, vs, _, j, rfl, ri.int, h1, by rw [h2.length]; exact ej, ?_⟩
      obtain ⟨g2, r2⟩ := grow_set (o := .lst (vs.set j v)) (c := .lst (l.set j x)) r h0 (fun _ _ e => by rw [h1] at e; cases e) fun e => ⟨_, upd_same, (h2.set j rx).ext e⟩
      exact h ι _ g2 r2
    · exact h.elim
  · exact h.elim
theorem ss_asg {tg : Expr} {g : MG} (he : SE X W e me) (hg : SG X W tg g) (hs : swapsWithSole [tg] e pos.line X.env = pure false := by rfl) (hw : swappedStores [tg] e X.env = pure none := by rfl)
    (h1 : (assignEach [tg] X.env).map (·.2) = [assign tg X.env] := by rfl) : SS X W (.Assign [tg] e pos) (sAsg me g) :=
  PS.mono (ps_asg he hg hs hw h1) fun D σ H ⟨ρ, μ, ι, env, rel, h⟩ =>
    ⟨ρ, μ, ι, env, rel, (PostS.onE h env ⟨μ, rel⟩).imp fun ι1 H1 μ1 d _ _ ⟨g1, r1, env1, h1⟩ v rv =>
      ⟨d, ρ, μ1, ι1, rv, env1, r1, (PostS.pureE (W := W) (σ := σ) h1).imp fun ι2 H2 μ2 ρ2 _ _ ⟨g2, r2, h2⟩ σ2 env2 => h2 ι2 H2 .refl r2 σ2 env2⟩⟩
def SndIp (G : Gd) (r : TIp) (f : D → D → Mem → Res D) : Prop := Snd2 G r f
theorem ss_aug {j : Nat} {x : Str} {op : Operator} {ti : TIp} {f : D → D → Mem → Res D} {pos' : Pos} (hN : X.N.Nodup) (hi : X.N[j]? = some x) (hx : Loc X.env.scope x) (he : SE X W e me) (ho : PIp X op ti) (hf : Snd2 (gOf X) ti f) (hfn : X.fn x = true ∨ X.env.scope.names.lookup x = some .local := by first | exact .inl rfl | exact .inr rfl | assumption) :
    SS X W (.AugAssign (.Name x pos') op e pos) (sAug j f me) :=
  PS.mono (ps_aug hN hi hx he ho hfn) fun D σ H ⟨ρ, μ, ι, env, rel, h⟩ => by
    have h := PostS.onE h env ⟨μ, rel⟩
    simp only [mVar] at h
    cases eq : ρ[j]? with
    | none => rw [eq] at h; exact h.elim
    | some od =>
      rw [eq] at h
      cases od with
      | none => exact h.elim
      | some d =>
        obtain ⟨v, h1, h2⟩ := env.at_ j d eq
        obtain ⟨_, _, _, h3⟩ := h ι H .refl rel
        refine ⟨v, h1, ρ, μ, ι, env, rel, (PostS.onE h3 env ⟨μ, rel⟩).imp fun ι1 H1 μ1 y _ _ ⟨g1, r1, env1, h4⟩ u ru => ?_⟩
        exact hf ι1 H1 μ1 d y v u W σ _ r1 (h2.ext (g1.ext rel)) ru ((PostS.pureE h4).imp fun ι2 H2 μ2 z _ _ ⟨g2, r2, h5⟩ w rw' => h5 ι2 H2 .refl r2 _ ((env1.ext (g2.ext r1)).set j rw'))
theorem pip_of {op : Operator} {r : R2} (ho : OpR X (inplaceOp op) r) : PIp X op r := fun pins s σ H x y v u Q I r1 r2 h => augR ho I r1 r2 h
end

/-! ### what is walked -/
structure ItOk (G : Gd) (ι0 : List Addr) (H0 : Hp) (J : It) (items : List D) (chk : Mem → Prop) : Prop where
  go : ∀ (i : Nat) (d : D) (ι : List Addr) (H : Hp) (μ : Mem), items[i]? = some d → Grow ι0 H0 ι H → Rel G ι H μ → chk μ → J.go i H
  yld : ∀ (i : Nat) (d : D) (ι : List Addr) (H : Hp) (μ : Mem) (x : V) (H' : Hp), items[i]? = some d → Grow ι0 H0 ι H → Rel G ι H μ → chk μ → J.yld i H x H' → Grow ι H ι H' ∧ Rel G ι H' μ ∧ Rep G ι H' d x
  stop : ∀ (ι : List Addr) (H : Hp) (μ : Mem), Grow ι0 H0 ι H → Rel G ι H μ → chk μ → J.stop items.length H
def tI (G : Gd) (W : WX) (m : MIt) : TI := fun σ H R => ∃ ρ μ ι, EnvOk G ι H ρ σ ∧ Rel G ι H μ ∧ Post G ι H W σ (m ρ μ) fun ι' H' _ p => ∀ J, ItOk G ι' H' J p.1 p.2 → R J H'
abbrev SI (X : Cx) (W : WX) (tg iter : Expr) (m : MIt) : Prop := PI X tg iter (tI (gOf X) W m)
theorem PI.mono {X : Cx} {tg e : Expr} {t t' : TI} (h : PI X tg e t) (f : ∀ σ H Q, t' σ H Q → t σ H Q) : PI X tg e t' := ⟨fun pins s σ H Q I w => h.run pins s σ H Q I (f σ H Q w)⟩
theorem PI.or {X : Cx} {tg e : Expr} {t t' : TI} (h : PI X tg e t) (h' : PI X tg e t') : PI X tg e fun σ H R => t σ H R ∨ t' σ H R := ⟨fun pins s σ H Q I w => w.elim (h.run pins s σ H Q I) (h'.run pins s σ H Q I)⟩
def itSeq : D → Mem → Res (List D × (Mem → Prop))
  | .tup l, μ => .ok (l, fun _ => True) μ
  | .frl l, μ => .ok (l, fun _ => True) μ
  | .ref n, μ => (match μ[n]? with
    | some (.lst l) => .ok (l, fun μ' => μ'[n]? = some (.lst l)) μ
    | _ => .stuck)
  | _, _ => .stuck
@[simp] def iSeq (a : MD) : MIt := fun ρ μ => (a ρ μ).bind fun x μ1 => itSeq x μ1
section
variable {G : Gd} {ι : List Addr} {H : Hp} {μ : Mem}
theorem it_tup {a : Addr} {l : List D} {vs : List V} (rel : Rel G ι H μ) (h1 : SqT G.K H a vs) (h2 : Reps G ι H l vs) : ItOk G ι H (Itt G.K a) l (fun _ => True) where
  go := fun i d ι' H' μ' e g r _ => by
    have x := g.ext rel
    obtain ⟨v, e1, _⟩ := h2.get e
    refine ⟨vs, v, ?_, e1⟩
    rcases h1 with (h1 | ⟨o, h1⟩) | h1
    · exact .inl (.inl (x.tup _ _ h1))
    · exact .inl (.inr ⟨o, x.frz _ _ _ h1 ⟨_, by first | exact .inl rfl | exact .inr rfl⟩⟩)
    · exact .inr h1
  yld := fun i d ι' H' μ' v H2 e g r _ ⟨e1, e2⟩ => by
    subst e1
    have x := g.ext rel
    have sq : SqT G.K H2 a vs := by
      rcases h1 with (h1 | ⟨o, h1⟩) | h1
      · exact .inl (.inl (x.tup _ _ h1))
      · exact .inl (.inr ⟨o, x.frz _ _ _ h1 ⟨_, by first | exact .inl rfl | exact .inr rfl⟩⟩)
      · exact .inr h1
    obtain ⟨v', e3, r3⟩ := h2.get e
    rw [e2 vs sq] at e3; cases e3
    exact ⟨.refl, r, r3.ext x⟩
  stop := fun ι' H' μ' g r _ => by
    have x := g.ext rel
    refine ⟨vs, ?_, by rw [h2.length]; exact Nat.le_refl _⟩
    rcases h1 with (h1 | ⟨o, h1⟩) | h1
    · exact .inl (.inl (x.tup _ _ h1))
    · exact .inl (.inr ⟨o, x.frz _ _ _ h1 ⟨_, by first | exact .inl rfl | exact .inr rfl⟩⟩)
    · exact .inr h1
theorem it_frl {a : Addr} {l : List D} {vs : List V} (rel : Rel G ι H μ) (h1 : FrL G H a vs) (h2 : Reps G ι H l vs) : ItOk G ι H (Itl G.K a) l (fun _ => True) := by
  have key : ∀ {ι' : List Addr} {H' : Hp}, Grow ι H ι' H' → SqL G.K H' a vs := fun {ι' H'} g => by
    have x := g.ext rel
    rcases h1 with ⟨o, h1⟩ | h1
    · exact .inl (.inr ⟨o, x.frz _ _ _ h1 ⟨_, by first | exact .inl rfl | exact .inr rfl⟩⟩)
    · exact .inr h1
  refine ⟨fun i d ι' H' μ' e g r _ => ?_, fun i d ι' H' μ' v H2 e g r _ ⟨e1, e2⟩ => ?_, fun ι' H' μ' g r _ => ⟨vs, key g, by rw [h2.length]; exact Nat.le_refl _⟩⟩
  · obtain ⟨v, e1, _⟩ := h2.get e
    exact ⟨vs, v, key g, e1⟩
  · subst e1
    obtain ⟨v', e3, r3⟩ := h2.get e
    rw [e2 vs (key g)] at e3; cases e3
    exact ⟨.refl, r, r3.ext (g.ext rel)⟩
theorem it_lst {a : Addr} {n : Nat} {l : List D} (hn : ι[n]? = some a) : ItOk G ι H (Itl G.K a) l (fun μ' => μ'[n]? = some (.lst l)) := by
  have key : ∀ {ι' : List Addr} {H' : Hp} {μ' : Mem}, Grow ι H ι' H' → Rel G ι' H' μ' → μ'[n]? = some (.lst l) → ∃ vs, SqL G.K H' a vs ∧ Reps G ι' H' l vs := fun {ι' H' μ'} g r e => by
    obtain ⟨vs, h1, h2⟩ := r.cell n _ a e (prefix_get g.pre hn)
    exact ⟨vs, .of h1, h2⟩
  refine ⟨fun i d ι' H' μ' e g r c => ?_, fun i d ι' H' μ' v H2 e g r c ⟨e1, e2⟩ => ?_, fun ι' H' μ' g r c => ?_⟩
  · obtain ⟨vs, h1, h2⟩ := key g r c
    obtain ⟨v, e1, _⟩ := h2.get e
    exact ⟨vs, v, h1, e1⟩
  · subst e1
    obtain ⟨vs, h1, h2⟩ := key g r c
    obtain ⟨v', e3, r3⟩ := h2.get e
    rw [e2 vs h1] at e3; cases e3
    exact ⟨.refl, r, r3⟩
  · obtain ⟨vs, h1, h2⟩ := key g r c
    exact ⟨vs, h1, by rw [h2.length]; exact Nat.le_refl _⟩
end
section
variable {X : Cx} {W : WX} {tg e : Expr} {me : MD} {pos p : Pos}
theorem si_seq (he : SE X W e me) : SI X W tg e (iSeq me) :=
  PI.mono (PI.or (pi_tup he) (pi_list he)) fun σ H R ⟨ρ, μ, ι, env, rel, h⟩ => by
    have h := Post.bind h
    cases hm : me ρ μ with
    | stuck => rw [hm] at h; exact h.elim
    | exc c fs m => exact .inl ⟨ρ, μ, ι, env, rel, by rw [hm] at h ⊢; exact h⟩
    | ok d μ1 =>
      rw [hm] at h
      by_cases ht : ∃ l, d = .tup l
      · obtain ⟨l, rfl⟩ := ht
        refine .inl ⟨ρ, μ, ι, env, rel, ?_⟩
        rw [hm]
        intro ι1 H1 g1 r1 v rv
        obtain ⟨a, vs, rfl, h1, h2⟩ := rv.tup
        obtain ⟨_, _, h3⟩ := h ι1 H1 g1 r1
        exact ⟨a, rfl, ⟨vs, h1⟩, h3 ι1 H1 .refl r1 _ (it_tup r1 h1 h2)⟩
      · refine .inr ⟨ρ, μ, ι, env, rel, ?_⟩
        rw [hm]
        intro ι1 H1 g1 r1 v rv
        obtain ⟨_, _, h3⟩ := h ι1 H1 g1 r1
        cases d with
        | tup l => exact (ht ⟨l, rfl⟩).elim
        | frl l =>
          obtain ⟨a, vs, rfl, h1, h2⟩ := rv.frl
          exact ⟨a, rfl, ⟨vs, FrL.sq _ _ h1⟩, h3 ι1 H1 .refl r1 _ (it_frl r1 h1 h2)⟩
        | ref n =>
          simp only [itSeq] at h3
          split at h3
          · rename_i l em
            obtain ⟨a, vs, rfl, h0, h1, h2⟩ := r1.lst em rv
            exact ⟨a, rfl, ⟨vs, .of h1⟩, h3 ι1 H1 .refl r1 _ (it_lst h0)⟩
          · exact h3.elim
        | _ => exact h3.elim
/-! range -/
def rangeItems (lo : Int) (n : Nat) : List D := (List.range n).map fun (i : Nat) => D.int (lo + (i : Int))
def range1 : List D → Mem → Res (List D × (Mem → Prop))
  | [.int j], μ => if -4611686018427387904 ≤ j ∧ j < 4611686018427387904 then .ok (rangeItems 0 j.toNat, fun _ => True) μ else .stuck
  | _, _ => .stuck
def range2 : List D → Mem → Res (List D × (Mem → Prop))
  | [.int i, .int j], μ => if -4611686018427387904 ≤ i ∧ i < 4611686018427387904 ∧ -4611686018427387904 ≤ j ∧ j < 4611686018427387904 then .ok (rangeItems i (j - i).toNat, fun _ => True) μ else .stuck
  | _, _ => .stuck
@[simp] def iRange1 (a : ML) : MIt := fun ρ μ => (a ρ μ).bind fun xs μ1 => range1 xs μ1
@[simp] def iRange2 (a : ML) : MIt := fun ρ μ => (a ρ μ).bind fun xs μ1 => range2 xs μ1
theorem it_range {G : Gd} {ι : List Addr} {H : Hp} (lo : Int) (n : Nat) : ItOk G ι H (Itr lo n) (rangeItems lo n) (fun _ => True) := by
  have key : ∀ {i : Nat} {d : D}, (rangeItems lo n)[i]? = some d → i < n ∧ d = .int (lo + (i : Int)) := fun {i d} e => by
    unfold rangeItems at e
    rw [List.getElem?_map] at e
    obtain ⟨k, e1, rfl⟩ := Option.map_eq_some_iff.mp e
    obtain ⟨h1, h2⟩ := List.getElem?_eq_some_iff.mp e1
    simp at h1 h2
    subst h2
    exact ⟨h1, rfl⟩
  refine ⟨fun i d ι' H' μ' e g r _ => (key e).1, fun i d ι' H' μ' v H2 e g r _ ⟨e1, e2⟩ => ?_, fun ι' H' μ' g r _ => ?_⟩
  · subst e1; subst e2
    obtain ⟨_, rfl⟩ := key e
    exact ⟨.refl, r, rep_int _⟩
  · show n ≤ (rangeItems lo n).length
    unfold rangeItems; simp
theorem si_range1 {a : Expr} {ms : ML} (hg : Gl X "range") (hm : X.mg "range" = none) (ha : SA X W [a] ms) (hs : starEach [a] X.env = [(false, eval a X.env)] := by rfl) : SI X W tg (.Call (.Name "range" p) [a] [] pos) (iRange1 ms) :=
  PI.mono (pi_range1 hg hm ha hs) fun σ H R ⟨ρ, μ, ι, env, rel, h⟩ =>
    ⟨ρ, μ, ι, env, rel, (Post.bind h).imp fun ι1 H1 μ1 xs _ _ ⟨g1, r1, h1⟩ vs rvs => by
      unfold range1 at h1
      split at h1
      · split at h1
        · rename_i hc
          obtain ⟨v, rfl, rv⟩ := rvs.one
          exact ⟨_, by rw [rv.int], by omega, by omega, h1 ι1 H1 .refl r1 _ (it_range 0 _)⟩
        · exact h1.elim
      · exact h1.elim⟩
theorem si_range2 {a b : Expr} {ms : ML} (hg : Gl X "range") (hm : X.mg "range" = none) (ha : SA X W [a, b] ms) (hs : starEach [a, b] X.env = [(false, eval a X.env), (false, eval b X.env)] := by rfl) (hs2 : starEach [b] X.env = [(false, eval b X.env)] := by rfl) : SI X W tg (.Call (.Name "range" p) [a, b] [] pos) (iRange2 ms) :=
  PI.mono (pi_range2 hg hm ha hs hs2) fun σ H R ⟨ρ, μ, ι, env, rel, h⟩ =>
    ⟨ρ, μ, ι, env, rel, (Post.bind h).imp fun ι1 H1 μ1 xs _ _ ⟨g1, r1, h1⟩ vs rvs => by
      unfold range2 at h1
      split at h1
      · split at h1
        · rename_i hc
          obtain ⟨v, w, rfl, rv, rw'⟩ := rvs.two
          exact ⟨_, _, by rw [rv.int, rw'.int], by omega, h1 ι1 H1 .refl r1 _ (it_range _ _)⟩
        · exact h1.elim
      · exact h1.elim⟩
end

/-! ### loops -/
section
variable {X : Cx} {W : WX} {tg iter c : Expr} {body : List Stmt} {pos : Pos} {mi : MIt} {g : MG} {m : MS} {mc : MB}
theorem ss_for (hp : PassesOwn (model X.prog X.w) X.A X.env X.xe) (hc : X.calm = true) (hi : SI X W tg iter mi) (hg : SG X W tg g) (hb : SSs X W body m)
    (hs : ∀ x, foldedSetIterable iter X.env x = pure x := by intro _; rfl) : SS X W (.For tg iter body [] pos) (sFor mi g m) :=
  PS.mono (ps_for hp hc hi hg hb hs) fun D σ H ⟨ρ, μ, ι, env, rel, h⟩ => by
    refine ⟨ρ, μ, ι, env, rel, (PostS.onE h env ⟨μ, rel⟩).imp fun ι1 H1 μ1 p _ _ ⟨g1, r1, env1, h1⟩ J ok => ?_⟩
    obtain ⟨items, chk⟩ := p
    refine ⟨fun i n σ' H' => n + i = items.length ∧ ∃ ρ' μ' ι', Grow ι1 H1 ι' H' ∧ EnvOk (gOf X) ι' H' ρ' σ' ∧ Rel (gOf X) ι' H' μ' ∧ PostS (gOf X) ι' H' (forL chk g m (items.drop i) ρ' μ') (FlK (gOf X) W D),
      ⟨items.length, rfl, ρ, μ1, ι1, .refl, env1, r1, h1⟩, ?_⟩
    rintro i n σ' H' ⟨hn, ρ', μ', ι', gr, env', rel', h'⟩
    by_cases hi : i < items.length
    · have e : items.drop i = items[i] :: items.drop (i + 1) := List.drop_eq_getElem_cons hi
      have ei : items[i]? = some items[i] := List.getElem?_eq_getElem hi
      rw [e] at h'
      simp only [forL] at h'
      split at h'
      · rename_i hk
        refine .inr ⟨ok.go i _ ι' H' μ' ei gr rel' hk, fun σ2 H2 => ∃ ρ2 μ2 ι2, Grow ι1 H1 ι2 H2 ∧ EnvOk (gOf X) ι2 H2 ρ2 σ2 ∧ Rel (gOf X) ι2 H2 μ2 ∧ PostS (gOf X) ι2 H2 (forL chk g m (items.drop (i + 1)) ρ2 μ2) (FlK (gOf X) W D),
          fun σ2 H2 ⟨ρ2, μ2, ι2, q⟩ => ⟨n - 1, by omega, by omega, ρ2, μ2, ι2, q⟩, fun x H2 y => ?_⟩
        obtain ⟨g2, r2, rx⟩ := ok.yld i _ ι' H' μ' x H2 ei gr rel' hk y
        have env2 := env'.ext (g2.ext rel')
        refine ⟨_, ρ', μ', ι', rx, env2, r2, (PostS.pureE (PostS.grow h' g2)).imp fun ι3 H3 μ3 ρ3 _ _ ⟨g3, r3, h3⟩ σ3 env3 => ?_⟩
        refine ⟨ρ3, μ3, ι3, env3, r3, (PostS.bind h3).imp fun ι4 H4 μ4 f _ _ ⟨g4, r4, h4⟩ => ?_⟩
        have gr4 := ((gr.trans g2).trans g3).trans g4
        cases f with
        | nx ρ4 => exact fun σ4 env4 => ⟨ρ4, μ4, ι4, gr4, env4, r4, h4⟩
        | cnt ρ4 => exact fun σ4 env4 => ⟨ρ4, μ4, ι4, gr4, env4, r4, h4⟩
        | brk ρ4 => exact h4 ι4 H4 .refl r4
        | ret d => exact h4 ι4 H4 .refl r4
        | exc c fs ρ4 => exact h4 ι4 H4 .refl r4
      · exact h'.elim
    · have e : items.drop i = [] := List.drop_eq_nil_of_le (by omega)
      rw [e] at h'
      simp only [forL] at h'
      split at h'
      · rename_i hk
        have ei : i = items.length := by omega
        subst ei
        exact .inl ⟨ok.stop ι' H' μ' gr rel' hk, h' ι' H' .refl rel' σ' env'⟩
      · exact h'.elim
theorem ss_while (n : Nat) (hp : PassesOwn (model X.prog X.w) X.A X.env X.xe) (hc : ST X W c mc) (hb : SSs X W body m) : SS X W (.While c body [] pos) (whileL mc m n) :=
  PS.mono (ps_while hp hc hb) fun D σ H ⟨ρ, μ, ι, env, rel, h⟩ => by
    refine ⟨fun k σ' H' => ∃ ρ' μ' ι', EnvOk (gOf X) ι' H' ρ' σ' ∧ Rel (gOf X) ι' H' μ' ∧ PostS (gOf X) ι' H' (whileL mc m k ρ' μ') (FlK (gOf X) W D), ⟨n, ρ, μ, ι, env, rel, h⟩, ?_⟩
    rintro k σ' H' ⟨ρ', μ', ι', env', rel', h'⟩
    cases k with
    | zero => exact h'.elim
    | succ k =>
      simp only [whileL] at h'
      refine ⟨ρ', μ', ι', env', rel', (PostS.onE h' env' ⟨μ', rel'⟩).imp fun ι1 H1 μ1 b _ _ ⟨g1, r1, env1, h1⟩ => ?_⟩
      cases b with
      | false => exact iteF (h1 ι1 H1 .refl r1 σ' env1)
      | true =>
        refine iteT ⟨fun σ2 H2 => ∃ ρ2 μ2 ι2, EnvOk (gOf X) ι2 H2 ρ2 σ2 ∧ Rel (gOf X) ι2 H2 μ2 ∧ PostS (gOf X) ι2 H2 (whileL mc m k ρ2 μ2) (FlK (gOf X) W D), fun σ2 H2 q => ⟨k, Nat.lt_succ_self k, q⟩, ?_⟩
        refine ⟨ρ', μ1, ι1, env1, r1, (PostS.bind h1).imp fun ι4 H4 μ4 f _ _ ⟨g4, r4, h4⟩ => ?_⟩
        cases f with
        | nx ρ4 => exact fun σ4 env4 => ⟨ρ4, μ4, ι4, env4, r4, h4⟩
        | cnt ρ4 => exact fun σ4 env4 => ⟨ρ4, μ4, ι4, env4, r4, h4⟩
        | brk ρ4 => exact h4 ι4 H4 .refl r4
        | ret d => exact h4 ι4 H4 .refl r4
        | exc c fs ρ4 => exact h4 ι4 H4 .refl r4
end
end RW

/-! SEg: comprehensions, own defs, classes. -/
namespace RW
open PySem L2
/-! ### list comprehensions -/
def tGv (G : Gd) (W : WX) (vs : List Nat) (g : MG) : TG := fun v σ H Q => ∃ d ρ μ ι, Rep G ι H d v ∧ EnvOk G ι H ρ σ ∧ Rel G ι H μ ∧ Post G ι H W σ (g d ρ μ) fun ι' H' _ ρ' => ∀ σ', EnvOk G ι' H' ρ' σ' → wipe σ' vs = wipe σ vs → Q σ' H'
def tGsv (G : Gd) (W : WX) (is : List Nat) (g : MGs) : TGs := fun vs σ H Q => ∃ ds ρ μ ι, Reps G ι H ds vs ∧ EnvOk G ι H ρ σ ∧ Rel G ι H μ ∧ Post G ι H W σ (g ds ρ μ) fun ι' H' _ ρ' => ∀ σ', EnvOk G ι' H' ρ' σ' → wipe σ' is = wipe σ is → Q σ' H'
abbrev SGv (X : Cx) (W : WX) (vs : List Nat) (e : Expr) (g : MG) : Prop := PG X e (tGv (gOf X) W vs g)
abbrev SGsv (X : Cx) (W : WX) (vs : List Nat) (e : List Expr) (g : MGs) : Prop := PGs X e (tGsv (gOf X) W vs g)
theorem wipe_set {σ : St} {j : Nat} {o : Option V} : ∀ {vs : List Nat}, j ∈ vs → wipe (σ.set j o) vs = wipe σ vs
  | v :: vs, h => by
    unfold wipe
    by_cases hm : j ∈ vs
    · rw [wipe_set hm]
    · have e : j = v := by
        rcases List.mem_cons.mp h with e | e
        · exact e
        · exact absurd e hm
      subst e
      have : wipe (σ.set j o) vs = (wipe σ vs).set j o := by
        clear h
        induction vs with
        | nil => rfl
        | cons w ws ih =>
          simp only [List.mem_cons, not_or] at hm
          unfold wipe
          rw [ih hm.2, List.set_comm _ _ (Ne.symm hm.1)]
      rw [this, List.set_set]
section
variable {X : Cx} {W : WX} {vs : List Nat} {pos : Pos} {e : Expr} {es : List Expr}
theorem sgv_name {j : Nat} {x : Str} (hN : X.N.Nodup) (hi : X.N[j]? = some x) (hx : Loc X.env.scope x) (hj : j ∈ vs) (hf : X.fn x = true ∨ X.env.scope.names.lookup x = some .local := by first | exact .inl rfl | exact .inr rfl | assumption) : SGv X W vs (.Name x pos) (gN j) :=
  PG.mono (pg_name hN hi hx hf) fun v σ H Q ⟨d, ρ, μ, ι, rv, env, rel, h⟩ => h ι H .refl rel _ (env.set j rv) (wipe_set hj)
theorem sgsv_nil : SGsv X W vs [] gNilM := PGs.mono pgs_nil fun vs σ H Q ⟨ds, ρ, μ, ι, rv, env, rel, h⟩ => by
  cases ds with
  | nil => exact ⟨rv.nil_inv, h ι H .refl rel σ env rfl⟩
  | cons _ _ => exact h.elim
theorem sgsv_cons {g : MG} {gs : MGs} (h1 : SGv X W vs e g) (h2 : SGsv X W vs es gs) (hs : (assignEach (e :: es) X.env).map (·.2) = assign e X.env :: (assignEach es X.env).map (·.2) := by rfl) : SGsv X W vs (e :: es) (gConsM g gs) :=
  PGs.mono (pgs_cons h1 h2 hs) fun vs σ H Q ⟨ds, ρ, μ, ι, rv, env, rel, h⟩ => by
    cases ds with
    | nil => exact h.elim
    | cons d l =>
      obtain ⟨v, r, rfl, h3, h4⟩ := rv.cons_inv
      refine ⟨v, r, rfl, d, ρ, μ, ι, h3, env, rel, (Post.pureE W σ h).imp fun ι1 H1 μ1 ρ1 _ _ ⟨g1, r1, h1⟩ σ1 env1 w1 => ?_⟩
      exact ⟨l, ρ1, μ1, ι1, h4.ext (g1.ext rel), env1, r1, (Post.pureE W σ1 h1).imp fun ι2 H2 μ2 ρ2 _ _ ⟨g2, r2, h2⟩ σ2 env2 w2 => h2 ι2 H2 .refl r2 σ2 env2 (w2.trans w1)⟩
theorem sgv_tup {k n : Nat} {gs : MGs} (hc : X.calm = true) (h : SGsv X W vs es gs) (hn : (assignEach es X.env).length = n := by rfl) (hst : (assignEach es X.env).findIdx? (·.1) = none := by rfl) : SGv X W vs (.Tuple es k pos) (gTupM n gs) :=
  PG.mono (PG.or (pg_tup hc h hn hst) (pg_lst hc h hn hst)) fun v σ H Q ⟨d, ρ, μ, ι, rv, env, rel, h⟩ => by
    cases d with
    | tup l =>
      simp only [gTupM] at h
      split at h
      · rename_i hl
        obtain ⟨a, vs, rfl, h1, h2⟩ := rv.tup
        exact .inl ⟨a, vs, rfl, h1, h2.length.trans hl, l, ρ, μ, ι, h2, env, rel, h⟩
      · exact h.elim
    | ref m =>
      simp only [gTupM] at h
      split at h
      · rename_i l em
        split at h
        · rename_i hl
          obtain ⟨a, vs, rfl, h0, h1, h2⟩ := rel.lst em rv
          exact .inr ⟨a, vs, rfl, .of h1, h2.length.trans hl, l, ρ, μ, ι, h2, env, rel, h⟩
        · exact h.elim
      · exact h.elim
    | _ => exact h.elim
end
theorem wipe_at {σ : St} {i : Nat} : ∀ {vs : List Nat}, (L2.wipe σ vs)[i]? = if i ∈ vs then (σ[i]?).map (fun _ => none) else σ[i]?
  | [] => by simp [L2.wipe]
  | v :: vs => by
    unfold L2.wipe
    by_cases h : v = i
    · subst h
      rw [List.getElem?_set_self']
      have e : ((L2.wipe σ vs)[v]?).isSome = (σ[v]?).isSome := by
        rw [wipe_at]; split <;> simp
      simp only [List.mem_cons, true_or, if_true]
      cases h1 : (L2.wipe σ vs)[v]? <;> cases h2 : σ[v]? <;> simp_all
    · rw [List.getElem?_set_ne h, wipe_at]
      have : (i ∈ v :: vs) ↔ i ∈ vs := by simp [Ne.symm h]
      simp only [this]
theorem wipe_idem {σ : St} {vs : List Nat} : L2.wipe (L2.wipe σ vs) vs = L2.wipe σ vs := by
  refine List.ext_getElem? fun i => ?_
  rw [wipe_at, wipe_at]
  split
  · cases σ[i]? <;> rfl
  · rfl
def wipeR (ρ : Rho) : List Nat → Rho
  | [] => ρ
  | v :: vs => (wipeR ρ vs).set v none
open Classical in
noncomputable def compL (chk : Mem → Prop) (g : MG) (tt : MB) (te : MD) (ρ0 : Rho) : List D → List D → Mem → Res (List D)
  | [], acc, μ => if chk μ then .ok acc μ else .stuck
  | d :: ds, acc, μ => if chk μ then pureE (g d ρ0 μ) fun ρ1 μ1 => pureE (tt ρ1 μ1) fun b μ2 => if b = true then
      (pureE (te ρ1 μ2) fun y μ3 => if acc.length < sizeLine then compL chk g tt te ρ0 ds (acc ++ [y]) μ3 else .stuck) else compL chk g tt te ρ0 ds acc μ2 else .stuck
@[simp] noncomputable def mComp (it : MIt) (g : MG) (tt : MB) (te : MD) (own : List Nat) : MD := fun ρ μ => (it ρ μ).bind fun p μ1 => (compL p.2 g tt te (wipeR ρ own) p.1 [] μ1).bind fun l μ2 => .ok (.ref μ2.length) (μ2 ++ [.lst l])
@[simp] def mYes : MB := fun _ μ => .ok true μ
abbrev W0 : WX := fun _ _ _ _ => False
theorem EnvOk.wipe {G : Gd} {ι : List Addr} {H : Hp} {ρ : Rho} {σ : St} (e : EnvOk G ι H ρ σ) : ∀ vs, EnvOk G ι H (wipeR ρ vs) (L2.wipe σ vs)
  | [] => e
  | v :: vs => by
    have ih := EnvOk.wipe e vs
    unfold wipeR L2.wipe
    refine ⟨by simp [ih.len], fun i d h => ?_⟩
    by_cases hi : v = i
    · subst hi
      by_cases hl : v < (wipeR ρ vs).length
      · rw [List.getElem?_set_self hl] at h; cases h
      · rw [List.getElem?_eq_none (by simpa using hl)] at h; cases h
    · rw [List.getElem?_set_ne hi] at h ⊢
      exact ih.at_ i d h
theorem Post.step {G : Gd} {ι ι' : List Addr} {H H' : Hp} {W W' : WX} {σ σ' : St} {α β : Type} {r : Res α} {k : α → Mem → Res β} {kk : List Addr → Hp → Mem → β → Prop} (h : Post G ι H W σ (RW.pureE r k) kk) :
    Post G ι' H' W' σ' r fun ι2 H2 μ2 a => Grow ι' H' ι2 H2 ∧ Rel G ι2 H2 μ2 ∧ Post G ι H W σ (k a μ2) kk := by
  cases r with
  | ok a m => exact fun ι2 H2 g r => ⟨g, r, h⟩
  | exc c fs m => exact h.elim
  | stuck => exact h.elim
section
variable {X : Cx} {W : WX}
theorem lc_red {wi : TI} {g : MG} {tt : MB} {te : MD} {mi : MIt} {vs : List Nat} (hwi : ∀ σ H R, tI (gOf X) W mi σ H R → wi σ H R) {σ : St} {H : Hp} {Q : VK}
    (h : tE (gOf X) W (mComp mi g tt te vs) σ H Q) : tLc wi (tGv (gOf X) W0 vs g) (tB (gOf X) W0 tt) (tE (gOf X) W0 te) vs σ H Q := by
  obtain ⟨ρ, μ, ι, env, rel, h⟩ := h
  refine hwi _ _ _ ⟨ρ, μ, ι, env, rel, (Post.bind h).imp fun ι1 H1 μ1 p _ _ ⟨g1, r1, h1⟩ J ok => ?_⟩
  obtain ⟨items, chk⟩ := p
  intro dd hD
  obtain ⟨gD, rD⟩ := grow_laid (o := .lst []) r1 hD
  have env1 := env.ext (g1.ext rel)
  -- what is wanted at the end, from the place where the walk begins
  refine ⟨fun i m H' => m + i = items.length ∧ ∃ μ' ι' acc ws, Grow ι1 H1 ι' H' ∧ Rel (gOf X) ι' H' μ' ∧ H' dd = some (.lst ws) ∧ dd ∉ ι' ∧ Reps (gOf X) ι' H' acc ws ∧
    Post (gOf X) ι1 H1 W σ ((compL chk g tt te (wipeR ρ vs) (items.drop i) acc μ').bind fun l μ2 => .ok (RW.D.ref μ2.length) (μ2 ++ [Cell.lst l])) fun ι' H' _ d => ∀ v, Rep (gOf X) ι' H' d v → Q v H',
    ⟨items.length, rfl, μ1, ι1, [], [], gD, rD, upd_same, r1.notNone hD, .nil, h1⟩, ?_⟩
  rintro i m H' ⟨hm, μ', ι', acc, ws, grB, rel', hHD, hDn, ra, h'⟩
  by_cases hi : i < items.length
  · have e : items.drop i = items[i] :: items.drop (i + 1) := List.drop_eq_getElem_cons hi
    have ei : items[i]? = some items[i] := List.getElem?_eq_getElem hi
    rw [e] at h'
    simp only [compL] at h'
    split at h'
    · rename_i hk
      refine .inr ⟨ok.go i _ ι' H' μ' ei grB rel' hk, fun H2 => ∃ μ2 ι2 acc ws, Grow ι1 H1 ι2 H2 ∧ Rel (gOf X) ι2 H2 μ2 ∧ H2 dd = some (.lst ws) ∧ dd ∉ ι2 ∧ Reps (gOf X) ι2 H2 acc ws ∧
        Post (gOf X) ι1 H1 W σ ((compL chk g tt te (wipeR ρ vs) (items.drop (i + 1)) acc μ2).bind fun l μ2 => .ok (RW.D.ref μ2.length) (μ2 ++ [Cell.lst l])) fun ι' H' _ d => ∀ v, Rep (gOf X) ι' H' d v → Q v H',
        fun H2 q => ⟨m - 1, by omega, by omega, q⟩, fun x H2 y => ?_⟩
      obtain ⟨g2, r2, rx⟩ := ok.yld i _ ι' H' μ' x H2 ei grB rel' hk y
      have env2 : EnvOk (gOf X) ι' H2 (wipeR ρ vs) (L2.wipe σ vs) := ((env1.ext (grB.ext r1)).ext (g2.ext rel')).wipe vs
      -- the list in hand stands through steps
      have stand : ∀ {ιa ιb : List Addr} {Ha Hb : Hp} {ws : List V}, Grow ιa Ha ιb Hb → Ha dd = some (.lst ws) → dd ∉ ιa → Hb dd = some (.lst ws) ∧ dd ∉ ιb := fun {ιa ιb Ha Hb ws} gg e n =>
        ⟨gg.keep _ _ e n, fun z => (gg.new dd z).elim n fun z => by rw [e] at z; cases z⟩
      have h'' : Post (gOf X) ι1 H1 W σ (RW.pureE (g items[i] (wipeR ρ vs) μ') fun ρ1 μ1 => ((RW.pureE (tt ρ1 μ1) fun b μ2 => if b = true then
          (RW.pureE (te ρ1 μ2) fun y μ3 => if acc.length < sizeLine then compL chk g tt te (wipeR ρ vs) (items.drop (i + 1)) (acc ++ [y]) μ3 else .stuck) else compL chk g tt te (wipeR ρ vs) (items.drop (i + 1)) acc μ2).bind fun l μ2 => .ok (RW.D.ref μ2.length) (μ2 ++ [Cell.lst l])))
          fun ι' H' _ d => ∀ v, Rep (gOf X) ι' H' d v → Q v H' := by
        cases hg : g items[i] (wipeR ρ vs) μ' with
        | ok a m => rw [hg] at h'; exact h'
        | exc c fs m => rw [hg] at h'; exact h'.elim
        | stuck => rw [hg] at h'; exact h'.elim
      refine ⟨_, wipeR ρ vs, μ', ι', rx, env2, r2, (Post.step (ι' := ι') (H' := H2) (W' := W0) (σ' := L2.wipe σ vs) h'').imp fun ι3 H3 μ3 ρ3 _ _ ⟨g3, r3, h3⟩ σ3 env3 w3 => ⟨w3.trans wipe_idem, ?_⟩⟩
      have h3' : Post (gOf X) ι1 H1 W σ (RW.pureE (tt ρ3 μ3) fun b μ2 => ((if b = true then
          (RW.pureE (te ρ3 μ2) fun y μ3 => if acc.length < sizeLine then compL chk g tt te (wipeR ρ vs) (items.drop (i + 1)) (acc ++ [y]) μ3 else .stuck) else compL chk g tt te (wipeR ρ vs) (items.drop (i + 1)) acc μ2 : Res (List RW.D)).bind fun l μ2 => .ok (RW.D.ref μ2.length) (μ2 ++ [Cell.lst l])))
          fun ι' H' _ d => ∀ v, Rep (gOf X) ι' H' d v → Q v H' := by
        cases hg : tt ρ3 μ3 with
        | ok a m => rw [hg] at h3; exact h3
        | exc c fs m => rw [hg] at h3; exact h3.elim
        | stuck => rw [hg] at h3; exact h3.elim
      refine ⟨ρ3, μ3, ι3, env3, r3, (Post.step (ι' := ι3) (H' := H3) (W' := W0) (σ' := σ3) h3').imp fun ι4 H4 μ4 b _ _ ⟨g4, r4, h4⟩ => ?_⟩
      have gA := ((grB.trans g2).trans g3).trans g4
      obtain ⟨d2, n2⟩ := stand g2 hHD hDn
      obtain ⟨d3, n3⟩ := stand g3 d2 n2
      obtain ⟨d4, n4⟩ := stand g4 d3 n3
      have ra4 := ((ra.ext (g2.ext rel')).ext (g3.ext r2)).ext (g4.ext r3)
      cases b with
      | false => exact iteF ⟨μ4, ι4, acc, ws, gA, r4, d4, n4, ra4, h4⟩
      | true =>
        refine iteT ?_
        have h4' : Post (gOf X) ι1 H1 W σ (RW.pureE (te ρ3 μ4) fun y μ3 => ((if acc.length < sizeLine then compL chk g tt te (wipeR ρ vs) (items.drop (i + 1)) (acc ++ [y]) μ3 else .stuck : Res (List RW.D)).bind fun l μ2 => .ok (RW.D.ref μ2.length) (μ2 ++ [Cell.lst l])))
            fun ι' H' _ d => ∀ v, Rep (gOf X) ι' H' d v → Q v H' := by
          cases hg : te ρ3 μ4 with
          | ok a m => rw [hg] at h4; exact h4
          | exc c fs m => rw [hg] at h4; exact h4.elim
          | stuck => rw [hg] at h4; exact h4.elim
        refine ⟨ρ3, μ4, ι4, env3.ext (g4.ext r3), r4, (Post.step (ι' := ι4) (H' := H4) (W' := W0) (σ' := σ3) h4').imp fun ι5 H5 μ5 y' _ _ ⟨g5, r5, h5⟩ v rv => ?_⟩
        obtain ⟨d5, n5⟩ := stand g5 d4 n4
        split at h5
        · rename_i hsz
          have ra5 := ra4.ext (g5.ext r4)
          refine ⟨ws, d5, by rw [ra5.length]; exact hsz, μ5, ι5, acc ++ [y'], ws ++ [v], ?_⟩
          have ex : Ext ι5 H5 ι5 (upd H5 dd (.lst (ws ++ [v]))) := ⟨List.prefix_refl _, fun a xs z => by rw [upd_ne (fun q => by rw [q, d5] at z; cases z)]; exact z, fun a o u z _ => by rw [upd_ne (fun q => by rw [q, d5] at z; cases z)]; exact z⟩
          have r6 : Rel (gOf X) ι5 (upd H5 dd (.lst (ws ++ [v]))) μ5 := ⟨r5.len, r5.nd, fun j c a e1 e2 => (r5.cell j c a e1 e2).ext ex (upd_ne fun q => n5 (q ▸ List.mem_of_getElem? e2))⟩
          have gA5 := gA.trans g5
          refine ⟨⟨gA5.pre, fun a o z na => ?_, gA5.new, fun a o u z => by rw [upd_ne (fun q => by rw [q, hD] at z; cases z)]; exact gA5.lock a o u z⟩, r6, upd_same, n5, (ra5.append (.cons rv .nil)).ext ex, h5⟩
          rw [upd_ne (fun q => by rw [q, hD] at z; cases z)]; exact gA5.keep a o z na
        · exact h5.elim
    · exact h'.elim
  · have e : items.drop i = [] := List.drop_eq_nil_of_le (by omega)
    rw [e] at h'
    simp only [compL] at h'
    split at h'
    · rename_i hk
      have ei : i = items.length := by omega
      subst ei
      refine .inl ⟨ok.stop ι' H' μ' grB rel' hk, ?_⟩
      have rA := grow_adopt (c := .lst acc) rel' hDn ⟨ws, hHD, ra.ext ⟨List.prefix_append _ _, fun _ _ z => z, fun _ _ _ z _ => z⟩⟩
      refine h' (ι' ++ [dd]) H' ⟨grB.pre.trans (List.prefix_append _ _), grB.keep, fun a ha => ?_, grB.lock⟩ rA (.ref dd) (rep_new (r := rel'))
      rcases List.mem_append.mp ha with z | z
      · exact grB.new a z
      · simp at z; subst z; exact .inr hD
    · exact h'.elim
end
end RW

/-! SEgr: room in which no repr is under way, and what stands on it: defs, calls, classes, the law's head. -/
namespace RW
open PySem PySem.Spec L2
open PyProof.Rows hiding St

structure RoomG (k : Nat) (A : Around) : Prop extends Room k A where
  gd : A.guards = some []
theorem RoomG.le {j k : Nat} {A : Around} (r : RoomG k A) (h : j ≤ k) : RoomG j A := ⟨r.toRoom.mono h, r.gd⟩
theorem RoomG.down {k : Nat} {A : Around} (r : RoomG (k + 1) A) (n : Env) : RoomG k (A.deeper n) := ⟨r.toRoom.deeper n, r.gd⟩
theorem RoomG.born {k : Nat} {A : Around} (r : RoomG (k + 1) A) (C : Addr) (xs : List Value) : RoomG k (A.under (.builtin "type.__call__" ⟨.ref C :: xs, []⟩)) :=
  ⟨r.toRoom.make C xs [], by
    have h := r.gd
    show pushGuards (Code.builtin "type.__call__" ⟨.ref C :: xs, []⟩).guards A.guards = some []
    rw [h]; rfl⟩

/-- what a def promises where no repr is under way -/
structure FnG (P : Program) (w : World) (K : PySem.W.Frag) (mg : Str → Option Value) (base : Heap) (Z : CXT) (k : Nat) (g : Addr) (d : FuncData) (ns : List Str) (pr : Sp) : Prop where
  many : ∀ xs M R T, pr xs M R T → xs.length = ns.length
  goes : ∀ (A : Around) (fr : List Env) (c : Shared) (M : Hp) (al : Args) (ws : List Value) (xs : List V) (R : VK) (T : XK), RoomG k A → Env0 P w K mg base A fr c M → BindsTo c d al (ns.zip ws) → Vals xs ws → pr xs M R T →
    codeAny (model P w) A (.call (.ref g) al) (CR Z fr P w M c R T) c
section
variable {P : Program} {w : World} {K : PySem.W.Frag} {mg : Str → Option Value} {base : Heap} {Z : CXT} {j k : Nat} {g : Addr} {d : FuncData} {ns : List Str} {pr pr' : Sp}
theorem FnG.le (F : FnG P w K mg base Z j g d ns pr) (h : j ≤ k) : FnG P w K mg base Z k g d ns pr := ⟨F.many, fun A fr c M al ws xs R T r => F.goes A fr c M al ws xs R T (r.le h)⟩
theorem FnG.less (F : FnG P w K mg base Z k g d ns pr) (h : ∀ xs M R T, pr' xs M R T → pr xs M R T) : FnG P w K mg base Z k g d ns pr' :=
  ⟨fun xs M R T q => F.many xs M R T (h xs M R T q), fun A fr c M al ws xs R T r e b v q => F.goes A fr c M al ws xs R T r e b v (h xs M R T q)⟩
/-- the def by its body -/
theorem fnG_of {nm qu : Str} {pa : Arguments} {bo : List Stmt} {sco : Scope} {v1 v2 v3 v4 v5 v6 v7 : Value} {u1 u2 : Option Addr} {sl : Array (Option Value)} {L : List Str}
    (h1 : K.lookup g = some ⟨v7, u2, .func (PySem.W.fnOf nm qu pa bo sco v1 v2 v3 v4 u1 v5 v6), sl⟩) (h2 : PySem.W.codeIn K v5 qu = true) (S : FnScope L ns sco) (hn : ∀ xs M R T, pr xs M R T → xs.length = ns.length)
    (hb : ∀ (A : Around) (fr : List Env) (c : Shared) (M : Hp) (xs : List V) (R : VK) (T : XK), RoomG k (A.deeper (envOfC qu sco c.heap.objs.size g v5)) → pr xs M R T →
      ∃ t, PSs (cxOf Z P w K mg base L qu sco g v5 A fr c M T) bo t ∧ t { nx := fun _ N => R .non N, rt := R } (start L xs) M) :
    FnG P w K mg base Z (k + 1) g (PySem.W.fnOf nm qu pa bo sco v1 v2 v3 v4 u1 v5 v6) ns pr := by
  constructor
  · exact hn
  · intro A fr c M al ws xs R T r e b v q
    have kin : K.In c.heap := e.mod.kin.keeps fun i o z => (e.bs i o z).1
    have nol : c.heap.NoLimit := e.mod.nolimit.keeps fun i o z => (e.bs i o z).1
    have where_ : ∀ z ∈ ns.zip ws, sco.names.lookup z.1 = some .local ∨ (sco.names.lookup z.1 = some .cell ∧ ((cellsFrom (c.heap.objs.size + 1) sco.names []).lookup z.1).isSome = true) := by
      rintro ⟨n, x⟩ hz
      exact (S.par n (List.of_mem_zip hz).1).imp id fun q => ⟨q, PySem.W.cellsFrom_some _ _ _ (.inl q)⟩
    apply codeAny_call_function r.toRoom.depth (kin _ _ h1) rfl S.co S.gen rfl (PySem.W.codeRec_of kin h2)
    apply b
    apply wpAny_newFunctionEnv_cells S.kind where_
    rintro env rfl c1 x
    refine ⟨nol.keeps x.toInCall.keep, codeAny_func ?_⟩
    obtain ⟨t, ht, tq⟩ := hb A fr c M xs R T (r.down _) q
    have J0 := inv_start (CX := Z) (E := T) S r.toRoom.hd e (hn _ _ _ _ q) v x
    apply wpAny_mono (ht.run [] c1 (start L xs) M _ J0 tq) _ fun _ _ z => z
    rintro (_ | _ | _ | u) c2 hs
    · obtain ⟨τ, N, J, z⟩ := hs
      exact ⟨.non, N, J.os, J.bare, J.base, J.hok, rfl, z⟩
    · exact hs.elim fun _ z => z.elim fun _ z => z.2.elim
    · exact hs.elim fun _ z => z.elim fun _ z => z.2.elim
    · obtain ⟨x, τ, N, J, rx, z⟩ := hs
      exact ⟨x, N, J.os, J.bare, J.base, J.hok, rx, z⟩
theorem okG {x qual : Str} {st : Stmt} {L : List Str} (F : L2.Fun K x qual st g d) (S : FnScope L ns (defScope st)) (hn : ∀ xs M R T, pr xs M R T → xs.length = ns.length)
    (hb : ∀ (cd : Value) (A : Around) (fr : List Env) (c : Shared) (M : Hp) (xs : List V) (R : VK) (T : XK), RoomG k (A.deeper (envOfC qual (defScope st) c.heap.objs.size g cd)) → pr xs M R T →
      ∃ t, PSs (cxOf Z P w K mg base L qual (defScope st) g cd A fr c M T) (defBody st) t ∧ t { nx := fun _ N => R .non N, rt := R } (start L xs) M) : FnG P w K mg base Z (k + 1) g d ns pr := by
  obtain ⟨_, _, _, _, _, _, cd, _, _, rfl, h1, h2⟩ := F.ex
  exact fnG_of h1 h2 S hn fun A fr c M xs R T => hb cd A fr c M xs R T
end
section
variable {X : Cx} {Z : CXT} {k : Nat} {f C g : Addr} {d : FuncData} {ns : List Str} {pr : Sp} {x : Str} {p pos : Pos} {e : Expr} {es : List Expr} {t : TA}
/-- how a call ends -/
theorem end_of {pins : List (Addr × Obj)} {τ : St} {M : Hp} {c c' : Shared} {R : VK} {T : XK} {r : Result} (I : Inv X pins τ M c) (hx : ∀ v, Z X.stack M c T v c' → X.xe v c') (h : CR Z X.stack X.prog X.w M c R T r c') :
    match (motive := Result → Prop) r with
    | .ok (.ret u) => EP X pins τ R u c'
    | .ok _ => False
    | .error v => X.xe v c' := by
  rcases r with v | fl
  · exact hx v h
  · cases fl <;> first | exact h.elim | exact I.after h
theorem goG {pins : List (Addr × Obj)} {τ : St} {M : Hp} {c : Shared} {R : VK} {ws : List Value} {xs : List V} {T : St → XK} (F : FnG X.prog X.w X.K X.mg X.base Z k f d ns pr) (hr : RoomG k X.A) (hb : Binds X.K d ns []) (hx : PassesAt Z X τ (T τ)) (I : Inv X pins τ M c)
    (v : Vals xs ws) (h : pr xs M R (T τ)) : wpAny (model X.prog X.w) X.A (call (.ref f) ws) (EP X pins τ R) X.xe c := by
  have b := hb c ws I.kIn (by simp [← v.length, F.many _ _ _ _ h])
  simp only [List.append_nil] at b
  apply wpAny_call
  apply codeAny_mono (F.goes X.A X.stack c M ⟨ws, []⟩ ws xs R (T τ) hr I.env0 b v h)
  intro r c' q
  have z := end_of I (fun v q => hx pins M c v c' I q) q
  rcases r with _ | fl
  · exact z
  · cases fl <;> first | exact z | exact z.elim
theorem callG {T : St → XK} (F : FnG X.prog X.w X.K X.mg X.base Z k f d ns pr) (hr : RoomG k X.A) (hg : Gl X x) (hm : X.mg x = some (.ref f)) (hk : PySem.W.keepIn X.K (.ref f) = true) (hb : Binds X.K d ns []) (hx : ∀ τ, PassesAt Z X τ (T τ)) (ha : PA X (e :: es) t)
    (hdb : (x == ("__debug__" : Str)) = false) (he : starEach (e :: es) X.env = (false, eval e X.env) :: starEach es X.env) (hpl : (backTo pos (starEach es X.env)).any (·.1) = false) : PE X (.Call (.Name x p) (e :: es) [] pos) (tCallS pr T t) := by
  constructor
  intro pins c τ M R I h
  apply wpAny_Call_Name_kw (ld_glob I hg hm _ hdb)
  apply PySem.W.callWith_K (h₀ := X.base) I.ok.mod.kin hk _ he hpl
  apply thn (ha.run pos pins c τ M _ I h)
  rintro ws c1 ⟨xs, M1, I1, v, q⟩
  exact ⟨I1.kIn, goG F hr hb (hx τ) I1 v q⟩
theorem bornG {pins : List (Addr × Obj)} {τ : St} {M : Hp} {c : Shared} {R : VK} {ws : List Value} {xs : List V} {T : XK} (B : Mk X.K C g) (F : FnG X.prog X.w X.K X.mg X.base Z k g d ns pr) (hr : RoomG (k + 1) X.A) (hb : Binds X.K d ns []) (hx : Passes Z X T) (I : Inv X pins τ M c) (v : Vals xs ws)
    (h : ∀ y dy, M y = none → M dy = none → dy ≠ y → pr (.ref y :: xs) (upd (upd M dy (.own y)) y (.ins C dy [])) (fun u N => u = .non ∧ R (.ref y) N) T) :
    wpAny (model X.prog X.w) X.A (call (.ref C) ws) (EP X pins τ R) X.xe c := by
  have I2 := Inv.made (C := C) I
  have above : ∀ n, c.heap.objs.size ≤ n → M n = none := fun n => I.hok.fresh
  have q := h _ _ (above _ (Nat.le_succ _)) (above _ (Nat.le_refl _)) (Nat.ne_of_lt (Nat.lt_succ_self _))
  have v2 : Vals (V.ref (c.heap.objs.size + 1) :: xs) (Value.ref (c.heap.objs.size + 1) :: ws) := .cons rfl v
  have b := hb _ (Value.ref (c.heap.objs.size + 1) :: ws) I2.kIn (by rw [List.append_nil, ← v2.length]; exact F.many _ _ _ _ q)
  rw [List.append_nil] at b
  have go := F.goes _ X.stack _ _ ⟨Value.ref (c.heap.objs.size + 1) :: ws, []⟩ (Value.ref (c.heap.objs.size + 1) :: ws) _ _ T (hr.born C ws) (I2.env0.make C ws []) b v2 q
  apply wpAny_call
  apply make_map (f := g) I.kIn B.makes B.init (beq_iff_eq.mp B.fn)
  apply codeAny_mono go
  intro r c' q'
  have z := end_of I2 (fun u q => hx pins τ _ _ u c' I2 q) q'
  rcases r with _ | fl
  · exact z
  · cases fl <;> first | exact z.elim | skip
    obtain ⟨u, N, I3, ru, rfl, q3⟩ := z
    exact ⟨ru, V.ref (c.heap.objs.size + 1), N, I3, rfl, q3⟩
theorem makeG {T : XK} (B : Mk X.K C g) (F : FnG X.prog X.w X.K X.mg X.base Z k g d ns pr) (hr : RoomG (k + 1) X.A) (hg : Gl X x) (hm : X.mg x = some (.ref C)) (hb : Binds X.K d ns []) (hx : Passes Z X T) (ha : PA X (e :: es) t) (hdb : (x == ("__debug__" : Str)) = false)
    (he : starEach (e :: es) X.env = (false, eval e X.env) :: starEach es X.env) (hpl : (backTo pos (starEach es X.env)).any (·.1) = false) : PE X (.Call (.Name x p) (e :: es) [] pos) (tMake C pr [] T t) := by
  constructor
  intro pins c τ M R I h
  apply wpAny_Call_Name_kw (ld_glob I hg hm _ hdb)
  apply PySem.W.callWith_K (h₀ := X.base) I.ok.mod.kin B.kp _ he hpl
  apply thn (ha.run pos pins c τ M _ I h)
  rintro ws c1 ⟨xs, M1, I1, v, q⟩
  refine ⟨I1.kIn, bornG B F hr hb hx I1 v fun y dy h1 h2 h3 => ?_⟩
  have q := q y dy h1 h2 h3
  rw [List.append_nil] at q
  exact q
end
end RW

/-! SEgt: the head of a law that stands on guarded room. -/
namespace RW
open PySem PySem.Spec L2
open PyProof.Rows hiding St
section
variable {P : Program} {w : World} {K : PySem.W.Frag} {mg mb : Str → Option Value} {Z : CXT} {k : Nat} {g a : Addr} {d : FuncData} {x : Str} {pr : Sp} {c : Shared} {ws : List Value} {ns : List Int}
abbrev told (c : Shared) (r : Result) (c' : Shared) : Prop := r = .ok (.ret (.bool true)) ∧ OldK c.heap c'.heap ∧ c'.os = c.os ∧ AllBare c'.gens
/-- the call at a heap of which at most the script is known -/
theorem head_at (kin : K.In c.heap) (hns : c.heap.Ns mainGlobals mg) (hb : c.heap.Ns builtinsNs mb) (hbb : ∀ x : Str, x ≠ "__name__" → mb x = bootBuiltins x) (nol : c.heap.NoLimit) (hg : c.gens = #[])
    (hr : RoomG k callerA) (F : ∀ base : Heap, K.In base → base.Ns mainGlobals mg → FnG P w K mg base Z k g d [x] pr) (bi : ∀ (c : Shared) (u : Value), BindsTo c d ⟨[u], []⟩ [(x, u)])
    (hZ : ∀ M v c', Z [] M c (fun _ _ _ => False) v c' → False) (M : Hp) (hO : Only M) (lists : ∀ b o, c.heap.get? b = some o → M b ≠ none → K.lookup b = none ∧ ∀ es n, o.data ≠ .dict es n)
    (hok : HOk P w M c.heap) (hp : pr [.ref a] M (fun v _ => v = .bl true) fun _ _ _ => False) : codeAny (model P w) callerA (.call (.ref g) ⟨[.ref a], []⟩) (told c) c := by
  have plain : ∀ {b : Addr} {m : Str → Option Value}, c.heap.Ns b m → (hidT c.heap M).Ns b m := by
    rintro b m ⟨o, es, n, h1, h2, h3⟩
    have free : M b = none := Classical.byContradiction fun z => (lists b o h1 z).2 es n h2
    exact ⟨o, es, n, hidT_get h1 free, h2, h3⟩
  have kb : K.In (hidT c.heap M) := fun b o h => hidT_get (kin b o h) (Classical.byContradiction fun z => by
    have := (lists b o (kin b o h) z).1
    rw [h] at this
    cases this)
  obtain ⟨ml, n1, n2⟩ := nol
  have md : Mod K mg (hidT c.heap M) := ⟨kb, plain hns, ⟨mb, plain hb, hbb⟩, ⟨ml, plain n1, n2⟩⟩
  have en : Env0 P w K mg (hidT c.heap M) callerA [] c M :=
    ⟨rfl, md, fun _ _ z => of_hidT z, Nat.le_of_eq (hidT_size _ _), trivial, fun _ z => absurd (show _ ∈ ([] : List Addr) from z) List.not_mem_nil, hok, .of_eq hg⟩
  apply codeAny_mono ((F _ kb (plain hns)).goes callerA [] c M ⟨[.ref a], []⟩ [.ref a] [.ref a] _ _ hr en (bi c (.ref a)) (.cons rfl .nil) hp)
  rintro (v | fl) c' q
  · exact (hZ M v c' q).elim
  cases fl <;> first | exact q.elim | skip
  obtain ⟨v, N, e1, e2, un, ok2, rv, rfl⟩ := q
  cases (show _ = Value.bool true from rv)
  refine ⟨rfl, OldK.of_keep fun b o h => ?_, e1, e2⟩
  rcases hO b with z | ⟨ob, ys, z⟩
  · exact un.keep b o h z (fun y => absurd (show b ∈ ([] : List Addr) from y) List.not_mem_nil) List.not_mem_nil
  · have t1 := (hok b _ z).1
    rw [h] at t1
    cases t1
    exact (ok2 b _ (un.frzs b _ _ z)).1
theorem headG (kin : K.In c.heap) (hns : c.heap.Ns mainGlobals mg) (hb : c.heap.Ns builtinsNs mb) (hbb : ∀ x : Str, x ≠ "__name__" → mb x = bootBuiltins x) (nol : c.heap.NoLimit) (hg : c.gens = #[])
    (ha : c.heap.get? a = some { cls := .type "list", data := .seq ws.toArray }) (hi : IntsAre ws ns) (hl : ns.length ≤ sizeLine) (hr : RoomG k callerA)
    (F : ∀ base : Heap, K.In base → base.Ns mainGlobals mg → FnG P w K mg base Z k g d [x] pr) (bi : ∀ (c : Shared) (u : Value), BindsTo c d ⟨[u], []⟩ [(x, u)])
    (hp : ∀ M : Hp, Only M → SqL K M a (ns.map V.int) → pr [.ref a] M (fun v _ => v = .bl true) fun _ _ _ => False) (hZ : ∀ M v c', Z [] M c (fun _ _ _ => False) v c' → False) :
    codeAny (model P w) callerA (.call (.ref g) ⟨[.ref a], []⟩) (told c) c := by
  have vals := vals_ints hi
  by_cases hk : K.lookup a = none
  · let M : Hp := fun b => if b = a then some (.frz { cls := .type "list", data := .seq ws.toArray } (.lst (ns.map V.int))) else none
    have at_ : ∀ {b u}, M b = some u → b = a ∧ u = .frz { cls := .type "list", data := .seq ws.toArray } (.lst (ns.map V.int)) := by
      intro b u h
      simp only [M] at h
      split at h
      · exact ⟨‹_›, (Option.some.inj h).symm⟩
      · cases h
    have hO : Only M := fun b => by
      cases h : M b with
      | none => exact .inl rfl
      | some u => exact .inr ⟨_, _, congrArg some (at_ h).2⟩
    refine head_at kin hns hb hbb nol hg hr F bi hZ M hO (fun b o h z => ?_) (fun b u h => ?_) (hp M hO (.inl (.inr ⟨{ cls := .type "list", data := .seq ws.toArray }, if_pos rfl⟩)))
    · obtain ⟨u, hu⟩ := Option.ne_none_iff_exists'.mp z
      obtain ⟨rfl, -⟩ := at_ hu
      rw [ha] at h
      cases h
      exact ⟨hk, fun _ _ z => by cases z⟩
    · obtain ⟨rfl, rfl⟩ := at_ h
      exact ⟨ha, by simpa using hl, ws, _, vals, ha⟩
  · obtain ⟨o, hk⟩ := Option.ne_none_iff_exists'.mp hk
    have h := kin a o hk
    rw [ha] at h
    cases h
    have hO : Only (fun _ => none) := fun _ => .inl rfl
    exact head_at kin hns hb hbb nol hg hr F bi hZ _ hO (fun _ _ _ z => absurd rfl z) (fun _ _ z => by cases z) (hp _ hO (.inr ⟨_, ws.toArray, _, hk, rfl, rfl, rfl, by rw [List.size_toArray, hi.length]; exact hl, by simpa using vals⟩))
end
theorem walkG {l : PySem.W.OpenLaw} {n k : Nat} {q : Program} {lo : List Str} {XP : (Str → Option Value) → Heap → Prop} {YP : World → Heap → Prop} {d : DefRec} {K : Params → PySem.W.Frag} {Z : World → CXT} {pr : World → Sp} {x : Str}
    (hn : l.most = some n) (hs : n ≤ sizeLine) (hdf : d.params.defaults = []) (hr : RoomG k callerA) (hY : ∀ (w : World) (h : Heap), YP w h → (K w.params).In h)
    (F : ∀ (w : World) (mg : Str → Option Value) (g : Addr) (h : Heap), (K w.params).In h → h.Ns mainGlobals mg → mg d.name = some (.ref g) → ∃ f : FuncData, (∀ (c : Shared) (u : Value), BindsTo c f ⟨[u], []⟩ [(x, u)]) ∧
      ∀ base : Heap, (K w.params).In base → base.Ns mainGlobals mg → FnG l.prog w (K w.params) mg base (Z w) k g f [x] (pr w))
    (hp : ∀ (w : World) (M : Hp) (a : Addr) (ns : List Int), ns.length ≤ n → Only M → SqL (K w.params) M a (ns.map V.int) → pr w [.ref a] M (fun v _ => v = .bl true) fun _ _ _ => False)
    (hZ : ∀ (w : World) (M : Hp) (c : Shared) (v : Value) (c' : Shared), Z w [] M c (fun _ _ _ => False) v c' → False) : PySem.W.WalkO q lo XP YP l.row.toRowW d [] (fun f vs => PySem.call f vs) := by
  apply Att.attach_call hn hdf
  intro w s₀ s₁ mg mb fa o pm cd doc a vs ns G Y ho hd hcd hmg hobj hints hlen hg
  obtain ⟨f, bi, hF⟩ := F w mg fa _ (hY w _ Y) G.T.g hmg
  exact headG (hY w _ Y) G.T.g G.T.b G.T.builtins G.T.nolimit hg hobj hints (Nat.le_trans hlen hs) hr hF bi (fun M h1 h2 => hp w M a ns hlen h1 h2) fun M v c' => hZ w M s₁ v c'
end RW

/-! SEh: comprehensions as rules, own defs, classes, methods of lists. -/
namespace RW
open PySem L2
open PyProof.Rows (envOfC)
section
variable {X : Cx} {W : WX}
theorem sts_nil : PTs X [] (tB (gOf X) W mYes) := ⟨fun pins s σ H Q I ⟨ρ, μ, ι, env, rel, h⟩ => pts_nil.run pins s σ H Q I (h ι H .refl rel)⟩
theorem sts_one {c : Expr} {m : MB} (h : ST X W c m) : PTs X [c] (tB (gOf X) W m) := pts_one h
theorem se_lc {elt tg iter : Expr} {ifs : List Expr} {scope : Scope} {own : List (Str × Nat)} {pos : Pos} {mi : MIt} {g : MG} {tt : MB} {te : MD} (hc : X.calm = true) (hN : X.N.Nodup) (hi : SI X W tg iter mi) (ok : BlkOk X.N X.env.scope scope own)
    (hg : ∀ (s : Shared) (H : Hp) (C : Addr) (cl : List (Str × Addr)) (fp : List Addr), SGv (X.blk s H scope (compEnvC scope cl C X.env) fp) W0 (own.map (·.2)) tg g)
    (ht : ∀ (s : Shared) (H : Hp) (C : Addr) (cl : List (Str × Addr)) (fp : List Addr), PTs (X.blk s H scope (compEnvC scope cl C X.env) fp) ifs (tB (gOf X) W0 tt))
    (he : ∀ (s : Shared) (H : Hp) (C : Addr) (cl : List (Str × Addr)) (fp : List Addr), SE (X.blk s H scope (compEnvC scope cl C X.env) fp) W0 elt te) (hs : ∀ x, foldedSetIterable iter X.env x = pure x := by intro _; rfl) :
    SE X W (.ListComp elt [⟨tg, iter, ifs, 0⟩] scope pos) (mComp mi g tt te (own.map (·.2))) :=
  PE.mono (pe_lc hc hN hi ok hg ht he hs) fun σ H Q h => lc_red (fun _ _ _ z => z) h
theorem ss_setLc {i : Nat} {y : Str} {py : Pos} {elt tg iter : Expr} {ifs : List Expr} {scope : Scope} {own : List (Str × Nat)} {pos spos : Pos} {mi : MIt} {g : MG} {tt : MB} {te : MD} (hc : X.calm = true) (hN : X.N.Nodup) (hy : X.N[i]? = some y) (hyl : X.env.scope.names.lookup y = some .local)
    (hsw : swapsWith (.ListComp elt [⟨tg, iter, ifs, 0⟩] scope pos) (some (.Name y py)) spos.line X.env = pure true) (hi : SI X W tg iter mi) (ok : BlkOk X.N X.env.scope scope own)
    (hg : ∀ (s : Shared) (H : Hp) (C : Addr) (cl : List (Str × Addr)) (fp : List Addr), SGv (X.blk s H scope (compEnvC scope cl C X.env) fp) W0 (own.map (·.2)) tg g)
    (ht : ∀ (s : Shared) (H : Hp) (C : Addr) (cl : List (Str × Addr)) (fp : List Addr), PTs (X.blk s H scope (compEnvC scope cl C X.env) fp) ifs (tB (gOf X) W0 tt))
    (he : ∀ (s : Shared) (H : Hp) (C : Addr) (cl : List (Str × Addr)) (fp : List Addr), SE (X.blk s H scope (compEnvC scope cl C X.env) fp) W0 elt te) (hs : ∀ x, foldedSetIterable iter X.env x = pure x := by intro _; rfl) :
    SS X W (.Assign [.Name y py] (.ListComp elt [⟨tg, iter, ifs, 0⟩] scope pos) spos) (sSet i (mComp mi g tt te (own.map (·.2)))) :=
  PS.mono (ps_setLc (g := tGv (gOf X) W0 (own.map fun x : Str × Nat => x.2) g) (te := tE (gOf X) W0 te) hc hN hy hyl hsw hi ok hg ht he hs) fun D σ H ⟨ρ, μ, ι, env, rel, h⟩ => by
    refine lc_red (W := W) (X := X) (mi := mi) (g := g) (tt := tt) (te := te) (fun _ _ _ z => z) ⟨ρ, μ, ι, env, rel, ?_⟩
    exact (PostS.onE h env ⟨μ, rel⟩).imp fun ι1 H1 μ1 d _ _ ⟨g1, r1, env1, h1⟩ v rv => h1 ι1 H1 .refl r1 _ (env1.set i rv)
end

/-! ### own defs -/
abbrev Sem := List D → Mem → Res D
def spM (G : Gd) (n : Nat) (sem : Sem) : Sp := fun vs H Q E => ∃ ds μ ι, Reps G ι H ds vs ∧ ds.length = n ∧ Rel G ι H μ ∧ Post G ι H (fun cls dx _ H' => E cls dx H') [] (sem ds μ) fun ι' H' _ d => ∀ v, Rep G ι' H' d v → Q v H'
theorem Post.re {G : Gd} {ι : List Addr} {H : Hp} {W W' : WX} {σ σ' : St} {α : Type} {r : Res α} {k : List Addr → Hp → Mem → α → Prop} (h : Post G ι H W σ r k) (f : ∀ c d H, W c d σ H → W' c d σ' H) : Post G ι H W' σ' r k := by
  cases r with
  | ok a m => exact h
  | exc c fs m => exact fun ι' H' cls dx g r e => f _ _ _ (h ι' H' cls dx g r e)
  | stuck => exact h
def startR (n : Nat) (ds : List D) : Rho := ds.map some ++ List.replicate (n - ds.length) none
@[simp] def endB : Fl → Mem → Res D
  | .nx _, μ => .ok .non μ
  | .ret d, μ => .ok d μ
  | .exc c fs _, μ => .exc c fs μ
  | _, _ => .stuck
def runB (n : Nat) (m : MS) : Sem := fun ds μ => pureE (m (startR n ds) μ) endB
theorem env_start {G : Gd} {ι : List Addr} {H : Hp} {N : List Str} {ds : List D} {vs : List V} (h : Reps G ι H ds vs) : EnvOk G ι H (startR N.length ds) (L2.start N vs) := by
  unfold startR L2.start
  refine ⟨by simp [h.length], fun i d e => ?_⟩
  by_cases hi : i < ds.length
  · rw [List.getElem?_append_left (by simpa using hi), List.getElem?_map] at e
    obtain ⟨x, e1, e2⟩ := Option.map_eq_some_iff.mp e
    cases e2
    obtain ⟨v, e3, r⟩ := h.get e1
    refine ⟨v, ?_, r⟩
    rw [List.getElem?_append_left (by simpa [h.length] using hi), List.getElem?_map, e3]; rfl
  · rw [List.getElem?_append_right (by simpa using hi), List.getElem?_replicate] at e
    split at e <;> cases e
/-- what a caller has of a def -/
def Fn (G : Gd) (base : Heap) (x : Str) (k n : Nat) (sem : Sem) : Prop := ∃ (f : Addr) (fd : FuncData) (ps : List Str),
  G.mg x = some (.ref f) ∧ PySem.W.keepIn G.K (.ref f) = true ∧ Binds G.K fd ps [] ∧ FnG G.P G.w G.K G.mg base (L2.CX G.P G.w) k f fd ps (spM G n sem)
theorem spM_len {G : Gd} {n : Nat} {sem : Sem} {vs : List V} {H : Hp} {Q : VK} {E : XK} (h : spM G n sem vs H Q E) : vs.length = n := by
  obtain ⟨ds, μ, ι, h1, h2, _⟩ := h
  rw [h1.length, h2]
section
variable {P : Program} {w : World} {K : PySem.W.Frag} {mg : Str → Option Value} {base : Heap}
theorem fn_ok {x qual : Str} {st : Stmt} {f : Addr} {fd : FuncData} {N ps : List Str} {k : Nat} {m : MS} (F : L2.Fun K x qual st f fd) (S : FnScope N ps (defScope st))
    (hb : ∀ (cdv : Value) (A : Around) (outer : List Env) (s : Shared) (H : Hp) (E : XK), RoomG k (A.deeper (envOfC qual (defScope st) s.heap.objs.size f cdv)) →
      SSs (cxOf (L2.CX P w) P w K mg base N qual (defScope st) f cdv A outer s H E) (fun cls dx _ H' => E cls dx H') (defBody st) m) :
    FnG P w K mg base (L2.CX P w) (k + 1) f fd ps (spM ⟨P, w, K, mg⟩ ps.length (runB N.length m)) := by
  refine okG F S (fun vs H Q E h => spM_len h) fun cdv A outer s H vs Q E hr ⟨ds, μ, ι, h1, h2, h3, h4⟩ => ⟨_, hb cdv A outer s H E hr, ?_⟩
  refine ⟨startR N.length ds, μ, ι, env_start h1, h3, ?_⟩
  unfold runB at h4
  cases hm : m (startR N.length ds) μ with
  | stuck => rw [hm] at h4; exact h4.elim
  | exc c fs m' => rw [hm] at h4; exact h4.elim
  | ok fl μ' =>
    rw [hm] at h4
    intro ι' H' g r
    cases fl with
    | nx ρ' => exact fun σ' env' => h4 ι' H' g r _ rep_non
    | brk ρ' => exact h4.elim
    | cnt ρ' => exact h4.elim
    | ret d => exact fun v rv => h4 ι' H' g r v rv
    | exc c fs ρ' => exact fun σ' cls dx env' ex => h4 ι' H' cls dx g r ex
end
section
variable {X : Cx} {W : WX} {k n : Nat} {sem : Sem} {x : Str} {p pos : Pos} {e : Expr} {es : List Expr} {ms : ML}
theorem se_call {j : Nat} (F : Fn (gOf X) X.base x j n sem) (hr : RoomG k X.A) (hj : j ≤ k) (hg : Gl X x) (tk : Takes X W) (ha : SA X W (e :: es) ms) (hn : ∀ ρ μ ds μ', ms ρ μ = .ok ds μ' → ds.length = n)
    (hdb : (x == ("__debug__" : Str)) = false := by decide) (he : starEach (e :: es) X.env = (false, eval e X.env) :: starEach es X.env := by rfl) (hpl : (backTo pos (starEach es X.env)).any (·.1) = false := by rfl) :
    SE X W (.Call (.Name x p) (e :: es) [] pos) (mB sem ms) := by
  obtain ⟨f, fd, ps, hm, hk, hb, F⟩ := F
  refine PE.mono (callG F (hr.le hj) hg hm hk hb (T := WE W) (fun σ => passAt tk σ) ha hdb he hpl) fun σ H Q ⟨ρ, μ, ι, env, rel, h⟩ => ?_
  refine ⟨ρ, μ, ι, env, rel, ?_⟩
  have h := Post.bind h
  cases hm : ms ρ μ with
  | stuck => rw [hm] at h; exact h.elim
  | exc c fs m => rw [hm] at h; exact h
  | ok ds μ1 =>
    rw [hm] at h
    intro ι1 H1 g1 r1 vs rvs
    obtain ⟨_, _, h1⟩ := h ι1 H1 g1 r1
    exact ⟨ds, μ1, ι1, rvs, hn ρ μ ds μ1 hm, r1, h1.re fun c d H z => z⟩
end
theorem mCons_len {a : MD} {r : ML} {n : Nat} (h : ∀ ρ μ ds μ', r ρ μ = .ok ds μ' → ds.length = n) : ∀ ρ μ ds μ', mCons a r ρ μ = .ok ds μ' → ds.length = n + 1 := fun ρ μ ds μ' e => by
  simp only [mCons] at e
  cases h1 : a ρ μ with
  | ok x m =>
    rw [h1] at e
    simp only [Res.bind] at e
    cases h2 : r ρ m with
    | ok xs m2 =>
      rw [h2] at e
      simp only [Res.bind, Res.ok.injEq] at e
      rw [← e.1, List.length_cons, h _ _ _ _ h2]
    | exc c fs m2 => rw [h2] at e; cases e
    | stuck => rw [h2] at e; cases e
  | exc c fs m2 => rw [h1] at e; cases e
  | stuck => rw [h1] at e; cases e
theorem mNil_len : ∀ ρ μ ds μ', mNil ρ μ = .ok ds μ' → ds.length = 0 := fun ρ μ ds μ' e => by
  simp only [mNil, Res.ok.injEq] at e
  rw [← e.1]; rfl

/-! ### classes -/
def Cl (G : Gd) (c : Str) (C : Addr) : Prop := G.mg c = some (.ref C) ∧ Cls G.K C
def putD (f : Str) (v : D) : List (Str × D) → List (Str × D)
  | [] => [(f, v)]
  | (g, x) :: r => if g = f then (g, v) :: r else (g, x) :: putD f v r
def fldD (c f : Str) : D → Mem → Res D
  | .ref n, μ => (match μ[n]? with
    | some (.ins c' fs) => if c' = c then (match fs.lookup f with
      | some d => .ok d μ
      | none => .stuck) else .stuck
    | _ => .stuck)
  | _, _ => .stuck
def setFD (c f : Str) : D → D → Mem → Res Unit
  | .ref n, v, μ => (match μ[n]? with
    | some (.ins c' fs) => if c' = c ∧ fs.length < 1000 then .ok () (μ.set n (.ins c (putD f v fs))) else .stuck
    | _ => .stuck)
  | _, _, _ => .stuck
@[simp] def sFldM (c f : Str) (o v : MD) : MS := fun ρ μ => onE (v ρ μ) ρ fun y μ1 => onE (o ρ μ1) ρ fun x μ2 => pureE (setFD c f x y μ2) fun _ μ3 => .ok (.nx ρ) μ3
@[simp] def mMake (c : Str) (sem : Sem) (a : ML) : MD := fun ρ μ => (a ρ μ).bind fun ds μ1 => (sem (.ref μ1.length :: ds) (μ1 ++ [.ins c []])).bind fun d μ2 => match d with
  | .non => .ok (.ref μ1.length) μ2
  | _ => .stuck
section
variable {G : Gd} {ι : List Addr} {H : Hp}
theorem repF_lookup {f : Str} {d : D} : ∀ {fs : List (Str × D)} {gs : List (Str × V)}, Paired (RepF G ι H) fs gs → fs.lookup f = some d → ∃ v, gs.lookup f = some v ∧ Rep G ι H d v
  | _, _, .nil, e => by simp at e
  | (g, x) :: r, (g', y) :: r', .cons ⟨h1, h2⟩ t, e => by
    have h1 : g = g' := h1
    subst h1
    rw [List.lookup_cons] at e ⊢
    split at e
    · cases e; exact ⟨y, rfl, h2⟩
    · exact repF_lookup t e
theorem repF_put {f : Str} {d : D} {v : V} (h : Rep G ι H d v) : ∀ {fs : List (Str × D)} {gs : List (Str × V)}, Paired (RepF G ι H) fs gs → Paired (RepF G ι H) (putD f d fs) (putF f v gs)
  | _, _, .nil => .cons ⟨rfl, h⟩ .nil
  | (g, x) :: r, (g', y) :: r', .cons ⟨h1, h2⟩ t => by
    have h1 : g = g' := h1
    subst h1
    unfold putD putF
    split
    · exact .cons ⟨rfl, h⟩ t
    · exact .cons ⟨rfl, h2⟩ (repF_put h t)
theorem Rel.ins {μ : Mem} (r : Rel G ι H μ) {n : Nat} {c : Str} {fs : List (Str × D)} {v : V} (h : μ[n]? = some (.ins c fs)) (hv : Rep G ι H (.ref n) v) :
    ∃ a C dx gs, v = .ref a ∧ ι[n]? = some a ∧ G.mg c = some (.ref C) ∧ H a = some (.ins C dx gs) ∧ Paired (RepF G ι H) fs gs := by
  obtain ⟨a, h1, rfl⟩ := hv.ref
  obtain ⟨C, dx, gs, h2, h3, h4⟩ := r.cell n _ a h h1
  exact ⟨a, C, dx, gs, rfl, h1, h2, h3, h4⟩
end
section
variable {X : Cx} {W : WX} {e o value : Expr} {me mo mv : MD} {c f : Str} {pos pos' : Pos} {C : Addr}
theorem se_fld (hc : Cl (gOf X) c C) (hn : NoAttr X.K C f) (he : SE X W e me) (hb : attributeBase e f X.env (eval e X.env) = eval e X.env := by rfl) : SE X W (.Attribute e f pos) (mUn (fldD c f) me) :=
  PE.mono (pe_fld he hb) fun σ H Q ⟨ρ, μ, ι, env, rel, h⟩ =>
    ⟨ρ, μ, ι, env, rel, (Post.bind h).imp fun ι1 H1 μ1 x _ _ ⟨g1, r1, h1⟩ v rv => by
      cases x <;> first | exact h1.elim | skip
      simp only [fldD] at h1
      split at h1
      · rename_i c' fs em
        split at h1
        · rename_i hcc
          subst hcc
          split at h1
          · rename_i d el
            obtain ⟨a, C', dx, gs, rfl, q1, q2, q3, q4⟩ := r1.ins em rv
            obtain rfl : C' = C := by
              have := q2.symm.trans hc.1
              cases this; rfl
            obtain ⟨u, e1, ru⟩ := repF_lookup q4 el
            exact ⟨a, C', dx, gs, u, rfl, q3, hc.2, hn, e1, h1 ι1 H1 .refl r1 u ru⟩
          · exact h1.elim
        · exact h1.elim
      · exact h1.elim⟩
theorem ss_fld (hc : Cl (gOf X) c C) (hn : NoAttr X.K C f) (ha : SE X W o mo) (hv : SE X W value mv) (hs : swapsWith value (some (.Attribute o f pos')) pos.line X.env = pure false := by rfl) : SS X W (.Assign [.Attribute o f pos'] value pos) (sFldM c f mo mv) :=
  PS.mono (ps_fld ha hv hs) fun D σ H ⟨ρ, μ, ι, env, rel, h⟩ => by
    refine ⟨ρ, μ, ι, env, rel, (PostS.onE h env ⟨μ, rel⟩).imp fun ι1 H1 μ1 y _ _ ⟨g1, r1, env1, h1⟩ u ru => ?_⟩
    refine ⟨ρ, μ1, ι1, env1, r1, (PostS.onE h1 env1 ⟨μ1, r1⟩).imp fun ι2 H2 μ2 x _ _ ⟨g2, r2, env2, h2⟩ v rv => ?_⟩
    have h2 := PostS.pureE (W := W) (σ := σ) h2
    have ru := ru.ext (g2.ext r1)
    cases x <;> first | exact h2.elim | skip
    simp only [setFD] at h2
    split at h2
    · rename_i c' fs em
      split at h2
      · rename_i hcc
        obtain ⟨hcc, hl⟩ := hcc
        subst hcc
        obtain ⟨a, C', dx, gs, rfl, q1, q2, q3, q4⟩ := r2.ins em rv
        obtain rfl : C' = C := by
          have := q2.symm.trans hc.1
          cases this; rfl
        have hlen : fs.length = gs.length := Paired.length q4
        refine ⟨a, C', dx, gs, rfl, q3, hc.2, hn, by omega, ?_⟩
        obtain ⟨g3, r3⟩ := grow_set (o := .ins C' dx (putF f u gs)) (c := .ins c' (putD f y fs)) r2 q1 (fun _ _ e => by rw [q3] at e; cases e) fun ex => ⟨C', dx, _, q2, upd_same, Paired.imp' (repF_put ru q4) fun _ _ z => ⟨z.1, z.2.ext ex⟩⟩
        obtain ⟨_, _, h3⟩ := h2 ι2 _ g3 r3
        exact h3 ι2 _ .refl r3 σ (env2.ext (g3.ext r2))
      · exact h2.elim
    · exact h2.elim
/-- C(..) -/
theorem se_make {k j n : Nat} {sem : Sem} {x : Str} {f : Addr} {fd : FuncData} {ps : List Str} {p : Pos} {es : List Expr} {ms : ML} (M : Mk X.K C f) (F : FnG X.prog X.w X.K X.mg X.base (L2.CX X.prog X.w) j f fd ps (spM (gOf X) (n + 1) sem)) (hr : RoomG k X.A) (hj : j + 1 ≤ k) (hg : Gl X x) (hm : X.mg x = some (.ref C))
    (hb : Binds X.K fd ps []) (hns : ∀ ds μ, (∃ d m, sem ds μ = .ok d m) ∨ sem ds μ = .stuck) (ha : SA X W (e :: es) ms) (hn : ∀ ρ μ ds μ', ms ρ μ = .ok ds μ' → ds.length = n) (hdb : (x == ("__debug__" : Str)) = false := by decide) (he : starEach (e :: es) X.env = (false, eval e X.env) :: starEach es X.env := by rfl)
    (hpl : (backTo pos (starEach es X.env)).any (·.1) = false := by rfl) : SE X W (.Call (.Name x p) (e :: es) [] pos) (mMake x sem ms) :=
  PE.mono (makeG (T := E0) M F (hr.le hj) hg hm hb passL ha hdb he hpl) fun σ H Q ⟨ρ, μ, ι, env, rel, h⟩ => by
    refine ⟨ρ, μ, ι, env, rel, ?_⟩
    have h := Post.bind h
    cases hms : ms ρ μ with
    | stuck => rw [hms] at h; exact h.elim
    | exc c fs m => rw [hms] at h; exact h
    | ok ds μ1 =>
      rw [hms] at h
      intro ι1 H1 g1 r1 vs rvs x' dx hx hdx hne
      obtain ⟨_, _, h1⟩ := h ι1 H1 g1 r1
      obtain ⟨g2, r2⟩ := grow_laid (o := .own x') r1 hdx
      have hx2 : upd H1 dx (.own x') x' = none := by rw [upd_ne hne.symm]; exact hx
      obtain ⟨g3, r3⟩ := grow_cell (o := .ins C dx []) (c := .ins x []) r2 hx2 fun ex => ⟨C, dx, [], hm, upd_same, .nil⟩
      have g := g2.trans g3
      refine ⟨.ref μ1.length :: ds, μ1 ++ [.ins x []], ι1 ++ [x'], ?_, by rw [List.length_cons, hn ρ μ ds μ1 hms], r3, ?_⟩
      · rw [List.append_nil]
        exact .cons (rep_new (r := r1)) (rvs.ext (g.ext r1))
      · have h1 := Post.bind h1
        rcases hns (.ref μ1.length :: ds) (μ1 ++ [.ins x []]) with ⟨d, m, e⟩ | e
        · rw [e] at h1 ⊢
          intro ι4 H4 g4 r4 v rv
          obtain ⟨_, _, h5⟩ := h1 ι4 H4 (g.trans g4) r4
          cases d <;> first | exact h5.elim | skip
          refine ⟨rv.non, h5 ι4 H4 .refl r4 _ ?_⟩
          refine rep_ref (prefix_get g4.pre ?_)
          rw [← r1.len]; simp
        · rw [e] at h1; exact h1.elim
end

/-! ### methods of lists -/
def SndM (G : Gd) (r : V → List V → Hp → VK → Prop) (f : D → List D → Mem → Res D) : Prop := ∀ (ι : List Addr) (H : Hp) (μ : Mem) (x : D) (xs : List D) (v : V) (vs : List V) (W : WX) (σ : St) (Q : VK), Rel G ι H μ → Rep G ι H x v → Reps G ι H xs vs →
  Post G ι H W σ (f x xs μ) (fun ι' H' _ d => ∀ v, Rep G ι' H' d v → Q v H') → r v vs H Q
def SndTy (G : Gd) (T : String) (ty : D → Mem → Bool) : Prop := ∀ (ι : List Addr) (H : Hp) (μ : Mem) (x : D) (v : V), Rel G ι H μ → Rep G ι H x v → ty x μ = true → tyV G.K T v H
@[simp] def mMt (ty : D → Mem → Bool) (f : D → List D → Mem → Res D) (o : MD) (a : ML) : MD := fun ρ μ => (o ρ μ).bind fun x μ1 => if ty x μ1 = true then (a ρ μ1).bind fun xs μ2 => f x xs μ2 else .stuck
@[simp] def mMt0 (ty : D → Mem → Bool) (f : D → List D → Mem → Res D) (o : MD) : MD := fun ρ μ => (o ρ μ).bind fun x μ1 => if ty x μ1 = true then f x [] μ1 else .stuck
section
variable {X : Cx} {W : WX} {o e : Expr} {es : List Expr} {mo : MD} {ms : ML} {name : Str} {apos cpos : Pos} {T id : String} {r : V → List V → Hp → VK → Prop} {f : D → List D → Mem → Res D} {ty : D → Mem → Bool}
theorem se_mt0 (pa : PlainAttrs T) (slot : Slot T name id) (hty : typeOf (.builtin id) = pure (.type "method_descriptor")) (hm : MtR X id r) (hT : SndTy (gOf X) T ty) (hf : SndM (gOf X) r f) (ho : SE X W o mo)
    (hbase : attributeBase o name X.env (eval o X.env) = eval o X.env := by rfl) (hline : (apos.endLine == cpos.line) = true := by rfl) : SE X W (.Call (.Attribute o name apos) [] [] cpos) (mMt0 ty f mo) :=
  PE.mono (pe_bm0 pa slot hty hm ho hbase hline) fun σ H Q ⟨ρ, μ, ι, env, rel, h⟩ =>
    ⟨ρ, μ, ι, env, rel, (Post.bind h).imp fun ι1 H1 μ1 x _ _ ⟨g1, r1, h1⟩ v rv => by
      split at h1
      · rename_i ht
        exact ⟨hT _ _ _ _ _ r1 rv ht, hf _ _ _ _ _ _ _ _ _ _ r1 rv .nil h1⟩
      · exact h1.elim⟩
theorem se_mt (pa : PlainAttrs T) (slot : Slot T name id) (hty : typeOf (.builtin id) = pure (.type "method_descriptor")) (hm : MtR X id r) (hT : SndTy (gOf X) T ty) (hf : SndM (gOf X) r f) (ho : SE X W o mo) (ha : SA X W (e :: es) ms)
    (hbase : attributeBase o name X.env (eval o X.env) = eval o X.env := by rfl)
    (hfew : ((backTo cpos (starEach (e :: es) X.env)).all (fun x => !x.1) && (backToKw cpos (keywordEach [] X.env)).all (fun x => x.1.isSome)
      && decide ((e :: es).length + ([] : List Keyword).length + (if ([] : List Keyword).isEmpty then 0 else 1) < 30)) = true := by rfl)
    (hline : (apos.endLine == cpos.line) = true := by rfl) (hs : starEach (e :: es) X.env = (false, eval e X.env) :: starEach es X.env := by rfl) (hplain : (backTo cpos (starEach es X.env)).any (·.1) = false := by rfl) :
    SE X W (.Call (.Attribute o name apos) (e :: es) [] cpos) (mMt ty f mo ms) :=
  PE.mono (pe_bm pa slot hty hm ho ha hbase hfew hline hs hplain) fun σ H Q ⟨ρ, μ, ι, env, rel, h⟩ =>
    ⟨ρ, μ, ι, env, rel, (Post.bind h).imp fun ι1 H1 μ1 x _ _ ⟨g1, r1, h1⟩ v rv => by
      split at h1
      · rename_i ht
        refine ⟨hT _ _ _ _ _ r1 rv ht, ρ, μ1, ι1, env.ext (g1.ext rel), r1, (Post.bind h1).imp fun ι2 H2 μ2 xs _ _ ⟨g2, r2, h2⟩ vs rvs => ?_⟩
        exact hf _ _ _ _ _ _ _ _ _ _ r2 (rv.ext (g2.ext r1)) rvs h2
      · exact h1.elim⟩
end
def isLst : D → Mem → Bool
  | .ref n, μ => (match μ[n]? with
    | some (.lst _) => true
    | _ => false)
  | _, _ => false
theorem ty_list {G : Gd} : SndTy G "list" isLst := fun ι H μ x v r rx h => by
  cases x <;> first | (simp [isLst] at h; done) | skip
  simp only [isLst] at h
  split at h
  · rename_i l em
    obtain ⟨a, vs, rfl, h0, h1, h2⟩ := r.lst em rx
    exact .inl ⟨rfl, vs, .of h1⟩
  · cases h
def appendM : D → List D → Mem → Res D
  | .ref n, [y], μ => (match μ[n]? with
    | some (.lst l) => if l.length < sizeLine then .ok .non (μ.set n (.lst (l ++ [y]))) else .stuck
    | _ => .stuck)
  | _, _, _ => .stuck
def extendM : D → List D → Mem → Res D
  | .ref n, [.ref m], μ => (match μ[n]?, μ[m]? with
    | some (.lst l), some (.lst k) => if l.length + k.length ≤ sizeLine then .ok .non (μ.set n (.lst (l ++ k))) else .stuck
    | _, _ => .stuck)
  | _, _, _ => .stuck
def insertM : D → List D → Mem → Res D
  | .ref n, [.int i, y], μ => (match μ[n]? with
    | some (.lst l) => if l.length < sizeLine ∧ 0 ≤ i ∧ i < 2 ^ 63 then .ok .non (μ.set n (.lst (l.take i.toNat ++ [y] ++ l.drop i.toNat))) else .stuck
    | _ => .stuck)
  | _, _, _ => .stuck
def popM : D → List D → Mem → Res D
  | .ref n, [], μ => (match μ[n]? with
    | some (.lst l) => (match l.getLast? with
      | some y => .ok y (μ.set n (.lst l.dropLast))
      | none => .stuck)
    | _ => .stuck)
  | _, _, _ => .stuck
/-- the list at a is another one -/
theorem set_lst {G : Gd} {ι : List Addr} {H : Hp} {μ : Mem} {n : Nat} {a : Addr} {l : List D} {vs : List V} (r : Rel G ι H μ) (h0 : ι[n]? = some a) (hl : ∃ ws, H a = some (.lst ws)) (h : Reps G ι H l vs) : Grow ι H ι (upd H a (.lst vs)) ∧ Rel G ι (upd H a (.lst vs)) (μ.set n (.lst l)) :=
  grow_set (o := .lst vs) (c := .lst l) r h0 (fun _ _ e => by obtain ⟨_, q⟩ := hl; rw [q] at e; cases e) fun e => ⟨vs, upd_same, h.ext e⟩
theorem snd_append {G : Gd} : SndM G rAppend appendM := fun ι H μ x xs v vs W σ Q r rx rxs h => by
  unfold appendM at h
  split at h
  · split at h
    · rename_i l em
      split at h
      · rename_i hl
        obtain ⟨a, ws, rfl, h0, h1, h2⟩ := r.lst em rx
        obtain ⟨u, rfl, ru⟩ := rxs.one
        obtain ⟨g2, r2⟩ := set_lst r h0 ⟨_, h1⟩ (h2.append (.cons ru .nil))
        exact ⟨a, ws, u, rfl, rfl, h1, by rw [h2.length]; exact hl, h ι _ g2 r2 _ rep_non⟩
      · exact h.elim
    · exact h.elim
  · exact h.elim
theorem snd_extend {G : Gd} : SndM G rExtend extendM := fun ι H μ x xs v vs W σ Q r rx rxs h => by
  unfold extendM at h
  split at h
  · split at h
    · rename_i l k em ek
      split at h
      · rename_i hl
        obtain ⟨a, ws, rfl, h0, h1, h2⟩ := r.lst em rx
        obtain ⟨u, rfl, ru⟩ := rxs.one
        obtain ⟨b, zs, rfl, h3, h4, h5⟩ := r.lst ek ru
        obtain ⟨g2, r2⟩ := set_lst r h0 ⟨_, h1⟩ (h2.append h5)
        exact ⟨a, b, ws, zs, rfl, rfl, h1, h4, by rw [h2.length, h5.length]; exact hl, h ι _ g2 r2 _ rep_non⟩
      · exact h.elim
    · exact h.elim
  · exact h.elim
theorem snd_insert {G : Gd} : SndM G (fun x vs H Q => ∃ (l : Addr) (xs : List V) (i : Int) (y : V), x = .ref l ∧ vs = [.int i, y] ∧ H l = some (.lst xs) ∧ xs.length < sizeLine ∧ 0 ≤ i ∧ i < 2 ^ 63 ∧
    Q .non (upd H l (.lst (xs.take i.toNat ++ [y] ++ xs.drop i.toNat)))) insertM := fun ι H μ x xs v vs W σ Q r rx rxs h => by
  unfold insertM at h
  split at h
  · split at h
    · rename_i l em
      split at h
      · rename_i hl
        obtain ⟨a, ws, rfl, h0, h1, h2⟩ := r.lst em rx
        obtain ⟨u, u2, rfl, ru, ru2⟩ := rxs.two
        obtain ⟨g2, r2⟩ := set_lst r h0 ⟨_, h1⟩ (((h2.take _).append (.cons ru2 .nil)).append (h2.drop _))
        exact ⟨a, ws, _, u2, rfl, by rw [ru.int], h1, by rw [h2.length]; exact hl.1, hl.2.1, hl.2.2, h ι _ g2 r2 _ rep_non⟩
      · exact h.elim
    · exact h.elim
  · exact h.elim
theorem snd_pop {G : Gd} : SndM G rPop popM := fun ι H μ x xs v vs W σ Q r rx rxs h => by
  unfold popM at h
  split at h
  · split at h
    · rename_i l em
      split at h
      · rename_i y ey
        obtain ⟨a, ws, rfl, h0, h1, h2⟩ := r.lst em rx
        obtain ⟨u, e1, ru⟩ := h2.get (i := l.length - 1) (by rw [← List.getLast?_eq_getElem?]; exact ey)
        have h3 : Reps G ι H l.dropLast ws.dropLast := by
          rw [List.dropLast_eq_take, List.dropLast_eq_take, h2.length]; exact h2.take _
        obtain ⟨g2, r2⟩ := set_lst r h0 ⟨_, h1⟩ h3
        exact ⟨a, ws, u, rfl, rxs.nil_inv, h1, by rw [h2.length]; exact e1, h ι _ g2 r2 _ (ru.ext (g2.ext r))⟩
      · exact h.elim
    · exact h.elim
  · exact h.elim
end RW

/-! SEi: dicts. -/
namespace RW
open PySem L2
/-! ### by keys -/
def dGet : List (D × D) → D → Option D
  | [], _ => none
  | (a, d) :: r, k => if a.nk? = k.nk? then some d else dGet r k
def dHas (l : List (D × D)) (k : D) : Bool := (dGet l k).isSome
def dRep (k v : D) : List (D × D) → List (D × D)
  | [] => []
  | (a, d) :: r => (if a.nk? = k.nk? then (a, v) else (a, d)) :: dRep k v r
def dPut (l : List (D × D)) (k v : D) : List (D × D) := if dHas l k = true then dRep k v l else l ++ [(k, v)]
/-- a key that a plain dict may have, one that a dict of tuples may -/
def isK (k : D) : Bool := k.key?.isSome
def isT : D → Bool
  | .tup l => match D.nk? (.tup l) with
    | some n => decide (n.depth ≤ 8)
    | none => false
  | _ => false
def Key.nk : Key → NestedKey
  | .inl i => .num i
  | .inr s => .text s
theorem Key.nk_inj {a b : Key} : Key.nk a = Key.nk b ↔ a = b := by
  cases a <;> cases b <;> simp [Key.nk]
theorem key_nk {d : D} {k : Key} (h : d.key? = some k) : d.nk? = some (Key.nk k) := by
  cases d <;> simp [D.key?] at h <;> subst h <;> simp [D.nk?, Key.nk]
section
variable {G : Gd} {ι ι' : List Addr} {H H' : Hp}
theorem key_rep {d : D} {k : Key} {v : V} (h : d.key? = some k) (r : Rep G ι H d v) : v = kV k := by
  cases d <;> simp [D.key?] at h <;> subst h
  · exact r.int
  · exact r.str
theorem dGet_K {k : D} {kk : Key} (hk : k.key? = some kk) : ∀ {l : List (D × D)} {kvs : List (Key × V)}, Paired (RepP G ι H) l kvs →
    (dGet l k = none ∧ valV kvs kk = none) ∨ ∃ d v, dGet l k = some d ∧ valV kvs kk = some v ∧ Rep G ι H d v
  | _, _, .nil => .inl ⟨rfl, rfl⟩
  | (a, d) :: r, (q, v) :: r', .cons ⟨h1, h2⟩ t => by
    have e1 : a.nk? = some (Key.nk q) := key_nk h1
    have e2 := key_nk hk
    by_cases hq : q = kk
    · exact .inr ⟨d, v, by simp [dGet, e1, e2, hq], valV_pos hq, h2⟩
    · have hne : ¬ (a.nk? = k.nk?) := by rw [e1, e2]; simp [Key.nk_inj, hq]
      rcases dGet_K hk t with ⟨x, y⟩ | ⟨d', v', x, y, z⟩
      · exact .inl ⟨by simp [dGet, hne, x], by rw [valV_neg hq]; exact y⟩
      · exact .inr ⟨d', v', by simp [dGet, hne, x], by rw [valV_neg hq]; exact y, z⟩
theorem dRep_K {k x : D} {kk : Key} {u : V} (hk : k.key? = some kk) (rx : Rep G ι H x u) : ∀ {l : List (D × D)} {kvs : List (Key × V)}, Paired (RepP G ι H) l kvs →
    Paired (RepP G ι H) (dRep k x l) (kvs.map fun kv => if kv.1 = kk then (kv.1, u) else kv)
  | _, _, .nil => .nil
  | (a, d) :: r, (q, v) :: r', .cons ⟨h1, h2⟩ t => by
    have e1 : a.nk? = some (Key.nk q) := key_nk h1
    have e2 := key_nk hk
    have ih := dRep_K hk rx t
    unfold dRep
    rw [List.map_cons]
    by_cases hq : q = kk
    · have he : a.nk? = k.nk? := by rw [e1, e2, hq]
      rw [if_pos he]
      have : (if (q, v).1 = kk then ((q, v).1, u) else (q, v)) = (q, u) := if_pos hq
      rw [this]
      exact .cons ⟨h1, rx⟩ ih
    · have hne : ¬ (a.nk? = k.nk?) := by rw [e1, e2]; simp [Key.nk_inj, hq]
      rw [if_neg hne]
      have : (if (q, v).1 = kk then ((q, v).1, u) else (q, v)) = (q, v) := if_neg hq
      rw [this]
      exact .cons ⟨h1, h2⟩ ih
theorem Paired.snoc {α β : Type} {F : α → β → Prop} : ∀ {l : List α} {l' : List β} {a : α} {b : β}, Paired F l l' → F a b → Paired F (l ++ [a]) (l' ++ [b])
  | _, _, _, _, .nil, h => .cons h .nil
  | _, _, _, _, .cons r t, h => .cons r (Paired.snoc t h)
theorem dPut_K {k x : D} {kk : Key} {u : V} (hk : k.key? = some kk) (rx : Rep G ι H x u) {l : List (D × D)} {kvs : List (Key × V)} (p : Paired (RepP G ι H) l kvs) : Paired (RepP G ι H) (dPut l k x) (putK kvs kk u) := by
  unfold dPut putK
  rw [valV_any kk kvs]
  unfold dHas
  rcases dGet_K hk p with ⟨e1, e2⟩ | ⟨d, v, e1, e2, _⟩
  · rw [e1, e2]; exact Paired.snoc p ⟨hk, rx⟩
  · rw [e1, e2]; exact dRep_K hk rx p
/-! nested keys -/
theorem dGet_T {k : D} {kk : NestedKey} (hk : k.nk? = some kk) : ∀ {l : List (D × D)} {xs : List (NestedKey × Addr × Value)}, Paired (RepT G ι H) l xs →
    (dGet l k = none ∧ atKey xs kk = none) ∨ ∃ d p v, dGet l k = some d ∧ atKey xs kk = some p ∧ Rep G ι H d v ∧ RelV v p.2
  | _, _, .nil => .inl ⟨rfl, rfl⟩
  | (a, d) :: r, (q, b, w) :: r', .cons ⟨h1, h2, h3, v, h4, h5⟩ t => by
    by_cases hq : q = kk
    · exact .inr ⟨d, (b, w), v, by simp [dGet, show a.nk? = some q from h1, hk, hq], by simp [atKey, hq], h4, h5⟩
    · have hne : ¬ (a.nk? = k.nk?) := by rw [show a.nk? = some q from h1, hk]; simp [hq]
      rcases dGet_T hk t with ⟨x, y⟩ | ⟨d', p, v', x, y, z⟩
      · refine .inl ⟨by simp [dGet, hne, x], ?_⟩
        unfold atKey at y ⊢
        rw [List.find?_cons_of_neg (by simpa using hq)]; exact y
      · refine .inr ⟨d', p, v', by simp [dGet, hne, x], ?_, z⟩
        unfold atKey at y ⊢
        rw [List.find?_cons_of_neg (by simpa using hq)]; exact y
theorem dRep_T {k x : D} {kk : NestedKey} {u : V} {w : Value} (hk : k.nk? = some kk) (rx : Rep G ι H x u) (rw' : RelV u w) : ∀ {l : List (D × D)} {xs : List (NestedKey × Addr × Value)}, Paired (RepT G ι H) l xs →
    Paired (RepT G ι H) (dRep k x l) (xs.map (putAt kk w))
  | _, _, .nil => .nil
  | (a, d) :: r, (q, b, z) :: r', .cons ⟨h1, h2, h3, v, h4, h5⟩ t => by
    have ih := dRep_T hk rx rw' t
    unfold dRep
    rw [List.map_cons]
    unfold putAt
    by_cases hq : q = kk
    · rw [if_pos (show a.nk? = k.nk? by rw [show a.nk? = some q from h1, hk, hq]), if_pos (show (q, b, z).1 = kk from hq)]
      exact .cons ⟨h1, h2, h3, u, rx, rw'⟩ ih
    · rw [if_neg (show ¬ a.nk? = k.nk? by rw [show a.nk? = some q from h1, hk]; simp [hq]), if_neg (show ¬ (q, b, z).1 = kk from hq)]
      exact .cons ⟨h1, h2, h3, v, h4, h5⟩ ih
theorem dPut_T {k x : D} {kk : NestedKey} {t : Addr} {u : V} {w : Value} (hk : k.nk? = some kk) (hd : kk.depth ≤ 8) (rk : Rep G ι H k (.ref t)) (rx : Rep G ι H x u) (rw' : RelV u w) {l : List (D × D)} {xs : List (NestedKey × Addr × Value)} (p : Paired (RepT G ι H) l xs) :
    Paired (RepT G ι H) (dPut l k x) (storedH xs kk t w) := by
  unfold dPut storedH dHas
  rcases dGet_T hk p with ⟨e1, e2⟩ | ⟨d, v, _, e1, e2, _⟩
  · rw [e1, e2]; exact Paired.snoc p ⟨hk, hd, rk, u, rx, rw'⟩
  · rw [e1, e2]; exact dRep_T hk rx rw' p
end

/-! ### in the heap itself -/
section
variable {X : Cx} {pins : List (Addr × Obj)} {σ : St} {H : Hp} {s : Shared} {ι : List Addr}
mutual
theorem nest_of (I : Inv X pins σ H s) : ∀ (d : D) (k : NestedKey) (v : V) (u : Value), D.nk? d = some k → Rep (gOf X) ι H d v → RelV v u → NestedIs s.heap k u
  | .non, k, v, u, e, r, ru => by unfold D.nk? at e; cases e; cases r.non; cases ru; exact .none
  | .bl b, k, v, u, e, r, ru => by unfold D.nk? at e; cases e; cases r.bl; cases ru; exact .bool rfl
  | .int i, k, v, u, e, r, ru => by unfold D.nk? at e; cases e; cases r.int; obtain ⟨t, rfl⟩ := ru; exact .int i t
  | .str i, k, v, u, e, r, ru => by unfold D.nk? at e; cases e; cases r.str; obtain ⟨t, rfl⟩ := ru; exact .text i t
  | .tup l, k, v, u, e, r, ru => by
    unfold D.nk? at e
    obtain ⟨ks, e1, rfl⟩ := Option.map_eq_some_iff.mp e
    obtain ⟨a, vs, rfl, h1, h2⟩ := r.tup
    cases ru
    obtain ⟨its, rv, ⟨o, ho, hc, n, hd⟩, _⟩ := I.tuple h1
    exact .tup ho hc hd (nests_of I l ks vs its e1 h2 rv)
  | .frl _, _, _, _, e, _, _ => by unfold D.nk? at e; cases e
  | .ref _, _, _, _, e, _, _ => by unfold D.nk? at e; cases e
  | .fn _, _, _, _, e, _, _ => by unfold D.nk? at e; cases e
theorem nests_of (I : Inv X pins σ H s) : ∀ (l : List D) (ks : List NestedKey) (vs : List V) (us : List Value), D.nks? l = some ks → Reps (gOf X) ι H l vs → Vals vs us → NestedAll s.heap ks us
  | [], ks, vs, us, e, r, ru => by unfold D.nks? at e; cases e; rw [r.nil_inv] at ru; cases ru; exact .nil
  | d :: l, ks, vs, us, e, r, ru => by
    unfold D.nks? at e
    obtain ⟨v, w, rfl, h1, h2⟩ := r.cons_inv
    split at e
    · rename_i k q e1 e2
      cases e
      cases ru with
      | cons ra rb => exact .cons (nest_of I d k v _ e1 h1 ra) (nests_of I l q w _ e2 h2 rb)
    · cases e
end
/-- the dict of tuples at a, as it lies -/
def TdIs (G : Gd) (ι : List Addr) (H : Hp) (a : Addr) (l : List (D × D)) (xs : List (NestedKey × Addr × Value)) : Prop :=
  Rd H a (.ext (tdPhi G a xs)) ∧ Paired (RepT G ι H) l xs ∧ (xs.map (·.1)).Nodup ∧ xs.length ≤ sizeLine ∧ (a == sysModules) = false
theorem TdIs.dictOf {a : Addr} {l : List (D × D)} {xs : List (NestedKey × Addr × Value)} (t : TdIs (gOf X) ι H a l xs) (I : Inv X pins σ H s) : s.heap.DictOfH (nestedKind X.prog X.w) a xs := by
  obtain ⟨h1, h2, h3, _⟩ := t
  obtain ⟨⟨o, es, ep, e1, e2, e3, e4⟩, _⟩ := h1.ok I.hok
  refine ⟨o, es, ep, e1, e2, e3, e4, ?_, h3⟩
  have key : ∀ {l : List (D × D)} {xs : List (NestedKey × Addr × Value)}, Paired (RepT (gOf X) ι H) l xs → ∀ x ∈ xs, (nestedKind X.prog X.w).is s.heap x.1 x.2.1 := by
    intro l xs p
    induction p with
    | nil => exact fun x hx => nomatch hx
    | cons h t ih =>
      intro x hx
      rcases List.mem_cons.mp hx with e | hx
      · subst e; exact ⟨nest_of I _ _ _ _ h.1 h.2.2.1 rfl, h.2.1⟩
      · exact ih x hx
  exact key h2
theorem td_obj {P : Program} {w : World} {H' : Hp} {h' : Heap} {G : Gd} {a : Addr} {xs : List (NestedKey × Addr × Value)} (d : h'.DictOfH (nestedKind G.P G.w) a xs) : ObjOk P w H' h' a (.ext (tdPhi G a xs)) := by
  obtain ⟨o, es, ep, e1, e2, e3, e4, _⟩ := d
  exact ⟨⟨o, es, ep, e1, e2, e3, e4⟩, ⟨o, e1⟩, fun h1 h2 ⟨o, es, ep, e1, e2⟩ k => ⟨o, es, ep, k _ e1, e2⟩⟩
end

/-! ### by values: both kinds of dict -/
/-- the dict at a holds r at the key y -/
@[reducible] def AtIs (xs : List (NestedKey × Addr × Value)) (kk : NestedKey) (r : Option V) : Prop := match r with
  | none => atKey xs kk = none
  | some v => ∃ p, atKey xs kk = some p ∧ RelV v p.2
def DIs (G : Gd) (H : Hp) (a : Addr) (y : V) (r : Option V) : Prop := DGet H a y r ∨
  ∃ ι l xs k kk t, TdIs G ι H a l xs ∧ Rep G ι H k (.ref t) ∧ y = .ref t ∧ D.nk? k = some kk ∧ kk.depth ≤ 8 ∧ AtIs xs kk r
section
variable {X : Cx} {pins : List (Addr × Obj)} {σ : St} {H : Hp} {s : Shared} {a : Addr} {y v : V} {u : Value} {o : Option V}
theorem di_typeIs (I : Inv X pins σ H s) (g : DIs (gOf X) H a y o) : s.TypeIs (.ref a) "dict" := by
  rcases g with g | ⟨ι, l, xs, k, kk, t, h, _⟩
  · exact dict_typeIs I g
  · exact (h.dictOf I).typeIs
theorem di_getItem {Q : Value → Shared → Prop} (hu : X.A.units + 64 < cLine) (I : Inv X pins σ H s) (g : DIs (gOf X) H a y (some v)) (ry : RelV y u) (h : ∀ w' s', Inv X pins σ H s' → RelV v w' → Q w' s') :
    wpAny (model X.prog X.w) X.A (getItem (.ref a) u) Q X.xe s := by
  rcases g with g | ⟨ι, l, xs, k, kk, t, hd, rk, ey, hk, hk8, p, hp, rp⟩
  · exact d_getItem (by omega) I g ry h
  · subst ey
    cases (show u = Value.ref t from ry)
    refine wpAny_getItem_heap (knd := nestedKind X.prog X.w) (by show X.A.units + 1 + 8 < cLine; omega) ⟨nest_of I k kk _ _ hk rk rfl, hk8⟩ (hd.dictOf I) hp ?_
    exact h p.2 _ (I.tok _) rp
theorem di_in {Q : Value → Shared → Prop} (hu : X.A.units + 64 < cLine) (I : Inv X pins σ H s) (g : DIs (gOf X) H a y o) (ry : RelV y u) (h : ∀ s', Inv X pins σ H s' → Q (.bool o.isSome) s') :
    wpAny (model X.prog X.w) X.A (compareOp .In u (.ref a)) Q X.xe s := by
  rcases g with g | ⟨ι, l, xs, k, kk, t, hd, rk, ey, hk, hk8, hp⟩
  · exact d_in (by omega) I g ry h
  · subst ey
    cases (show u = Value.ref t from ry)
    refine wpAny_in_heap (knd := nestedKind X.prog X.w) (by show X.A.units + 1 + 8 < cLine; omega) ⟨nest_of I k kk _ _ hk rk rfl, hk8⟩ hd.2.2.2.2 (hd.dictOf I) ?_
    have e : (atKey xs kk).isSome = o.isSome := by
      cases o with
      | none => rw [show atKey xs kk = none from hp]; rfl
      | some v => obtain ⟨p, e, _⟩ := hp; rw [e]; rfl
    rw [e]
    exact h _ (I.tok _)
theorem di_notIn {Q : Value → Shared → Prop} (hu : X.A.units + 64 < cLine) (I : Inv X pins σ H s) (g : DIs (gOf X) H a y o) (ry : RelV y u) (h : ∀ s', Inv X pins σ H s' → Q (.bool (!o.isSome)) s') :
    wpAny (model X.prog X.w) X.A (compareOp .NotIn u (.ref a)) Q X.xe s := by
  rcases g with g | ⟨ι, l, xs, k, kk, t, hd, rk, ey, hk, hk8, hp⟩
  · exact d_notIn (by omega) I g ry h
  · subst ey
    cases (show u = Value.ref t from ry)
    refine PyProof.Rows.wpAny_notIn_heap (knd := nestedKind X.prog X.w) (by show X.A.units + 1 + 8 < cLine; omega) ⟨nest_of I k kk _ _ hk rk rfl, hk8⟩ hd.2.2.2.2 (hd.dictOf I) ?_
    have e : (atKey xs kk).isSome = o.isSome := by
      cases o with
      | none => rw [show atKey xs kk = none from hp]; rfl
      | some v => obtain ⟨p, e, _⟩ := hp; rw [e]; rfl
    rw [e]
    exact h _ (I.tok _)
end
def rInD (G : Gd) : R2 := fun x y H Q => ∃ a o, y = .ref a ∧ DIs G H a x o ∧ Q (.bl o.isSome) H
def rNotInD (G : Gd) : R2 := fun x y H Q => ∃ a o, y = .ref a ∧ DIs G H a x o ∧ Q (.bl (!o.isSome)) H
def rIxD (G : Gd) : R2 := fun x y H Q => ∃ a v, x = .ref a ∧ DIs G H a y (some v) ∧ Q v H
section
variable {X : Cx}
theorem op_inD (hu : X.A.units + 64 < cLine) : OpR X (compareOp .In) (rInD (gOf X)) := by
  intro pins s σ H x y v u Q I rx ry ⟨a, o, ey, g, q⟩
  subst ey; cases ry
  exact di_in hu I g rx fun s' I' => ⟨.bl o.isSome, H, I', rfl, q⟩
theorem op_notInD (hu : X.A.units + 64 < cLine) : OpR X (compareOp .NotIn) (rNotInD (gOf X)) := by
  intro pins s σ H x y v u Q I rx ry ⟨a, o, ey, g, q⟩
  subst ey; cases ry
  exact di_notIn hu I g rx fun s' I' => ⟨.bl (!o.isSome), H, I', rfl, q⟩
open PyProof.Rows (subscriptTail) in
theorem ix_dict (hu : X.A.units + 64 < cLine) : IxR X (rIxD (gOf X)) := by
  intro value slice pins s σ H x y v u Q I rx ry ⟨a, z, ex, g, q⟩ hs
  subst ex; cases rx
  have hT := di_typeIs I g
  unfold subscriptTail
  refine wpAny_bind ?_
  rw [getitemInPython_of_ne hT.not_modules]
  refine wpAny_bind (wpAny_specialOf hT PySem.F.slot_dict_getitem.lookup ?_)
  have fin : wpAny (model X.prog X.w) X.A (subscripted slice false (.ref a) u) (fun r s₃ => wpAny (model X.prog X.w) X.A (letTemporaryGo value (.ref a) r >>= fun _ => pure r) (EP X pins σ Q) X.xe s₃) X.xe s := by
    rw [hs]
    exact wpAny_operating (di_getItem hu I g ry fun w' s' I' r' => wpAny_bind (wpAny_letTemporaryGo (wpAny_pure ⟨z, H, I', r', q⟩)))
  first
    | exact wpAny_pure (wpAny_bind fin)
    | exact wpAny_bind (wpAny_pure (wpAny_bind fin))
    | exact wpAny_bind fin
end
/-! ### mirrors -/
def dictD (l : List (D × D)) (t : Bool) (k : D) : Option (Option D) := if (if t = true then isT k else isK k) = true then some (dGet l k) else none
def dictAt (x : D) (k : D) (μ : Mem) : Option (Option D) := match x with
  | .ref n => (match μ[n]? with
    | some (.dic l) => if isK k = true then some (dGet l k) else none
    | some (.tdic l) => if isT k = true then some (dGet l k) else none
    | some (.lck false l) => if isK k = true then some (dGet l k) else none
    | some (.lck true l) => if isT k = true then some (dGet l k) else none
    | _ => none)
  | _ => none
def inDD (k x : D) (μ : Mem) : Res D := match dictAt x k μ with
  | some o => .ok (.bl o.isSome) μ
  | none => .stuck
def notInDD (k x : D) (μ : Mem) : Res D := match dictAt x k μ with
  | some o => .ok (.bl (!o.isSome)) μ
  | none => .stuck
def idxDD (x k : D) (μ : Mem) : Res D := match dictAt x k μ with
  | some (some d) => .ok d μ
  | _ => .stuck
section
variable {G : Gd} {ι : List Addr} {H : Hp} {μ : Mem}
theorem isT_key {k : D} (h : isT k = true) : ∃ l kk, k = .tup l ∧ D.nk? k = some kk ∧ kk.depth ≤ 8 := by
  cases k <;> first | (simp [isT] at h; done) | skip
  rename_i l
  simp only [isT] at h
  split at h
  · rename_i n e
    exact ⟨l, n, rfl, e, of_decide_eq_true h⟩
  · cases h
theorem dictAt_is {x k : D} {v u : V} {o : Option D} (r : Rel G ι H μ) (rx : Rep G ι H x v) (rk : Rep G ι H k u) (h : dictAt x k μ = some o) :
    ∃ a w, v = .ref a ∧ DIs G H a u w ∧ w.isSome = o.isSome ∧ ∀ d, o = some d → ∃ z, w = some z ∧ Rep G ι H d z := by
  have K1 : ∀ {n : Nat} {l : List (D × D)} {a : Addr} {kvs : List (Key × V)}, x = .ref n → ι[n]? = some a → Rd H a (.dK kvs) → Paired (RepP G ι H) l kvs → isK k = true → some (dGet l k) = some o →
      ∃ a w, v = .ref a ∧ DIs G H a u w ∧ w.isSome = o.isSome ∧ ∀ d, o = some d → ∃ z, w = some z ∧ Rep G ι H d z := by
    intro n l a kvs ex h0 h1 h2 hk ho
    subst ex; cases ho
    obtain ⟨a', h0', rfl⟩ := rx.ref
    obtain rfl : a = a' := by rw [h0] at h0'; cases h0'; rfl
    unfold isK at hk
    obtain ⟨kk, ek⟩ := Option.isSome_iff_exists.mp hk
    have eu := key_rep ek rk
    subst eu
    have g : DGet H a (kV kk) (valV kvs kk) := .inl ⟨kvs, kk, h1, rfl, rfl⟩
    rcases dGet_K ek h2 with ⟨e1, e2⟩ | ⟨d, z, e1, e2, e3⟩
    · refine ⟨a, none, rfl, .inl (by rw [← e2]; exact g), by rw [e1]; rfl, fun d ed => by rw [e1] at ed; cases ed⟩
    · exact ⟨a, some z, rfl, .inl (by rw [← e2]; exact g), by rw [e1]; rfl, fun d' ed => by rw [e1] at ed; cases ed; exact ⟨z, rfl, e3⟩⟩
  have K2 : ∀ {n : Nat} {l : List (D × D)} {a : Addr} {xs : List (NestedKey × Addr × Value)}, x = .ref n → ι[n]? = some a → TdIs G ι H a l xs → isT k = true → some (dGet l k) = some o →
      ∃ a w, v = .ref a ∧ DIs G H a u w ∧ w.isSome = o.isSome ∧ ∀ d, o = some d → ∃ z, w = some z ∧ Rep G ι H d z := by
    intro n l a xs ex h0 h1 hk ho
    subst ex; cases ho
    obtain ⟨a', h0', rfl⟩ := rx.ref
    obtain rfl : a = a' := by rw [h0] at h0'; cases h0'; rfl
    obtain ⟨kl, kk, ekl, ek, ek8⟩ := isT_key hk
    subst ekl
    obtain ⟨t, ts, eu, _, _⟩ := id rk.tup
    subst eu
    rcases dGet_T ek h1.2.1 with ⟨e1, e2⟩ | ⟨d, p, z, e1, e2, e3, e4⟩
    · exact ⟨a, none, rfl, .inr ⟨ι, l, xs, .tup kl, kk, t, h1, rk, rfl, ek, ek8, e2⟩, by rw [e1]; rfl, fun d ed => by rw [e1] at ed; cases ed⟩
    · exact ⟨a, some z, rfl, .inr ⟨ι, l, xs, .tup kl, kk, t, h1, rk, rfl, ek, ek8, p, e2, e4⟩, by rw [e1]; rfl, fun d' ed => by rw [e1] at ed; cases ed; exact ⟨z, rfl, e3⟩⟩
  unfold dictAt at h
  split at h
  · rename_i n
    obtain ⟨a, h0, _⟩ := rx.ref
    split at h
    · rename_i l em
      obtain ⟨kvs, h1, h2⟩ := r.cell n _ a em h0
      split at h
      · rename_i hk; exact K1 rfl h0 (.inl h1) h2 hk h
      · cases h
    · rename_i l em
      obtain ⟨xs, h1⟩ := r.cell n _ a em h0
      split at h
      · rename_i hk; exact K2 rfl h0 ⟨.inl h1.1, h1.2⟩ hk h
      · cases h
    · rename_i l em
      obtain ⟨od, kvs, h1, h2⟩ := r.cell n _ a em h0
      split at h
      · rename_i hk; exact K1 rfl h0 (.inr ⟨od, h1⟩) h2 hk h
      · cases h
    · rename_i l em
      obtain ⟨od, xs, h1⟩ := r.cell n _ a em h0
      split at h
      · rename_i hk; exact K2 rfl h0 ⟨.inr ⟨od, h1.1⟩, h1.2⟩ hk h
      · cases h
    · cases h
  · cases h
theorem snd_inD : Snd2 G (rInD G) inDD := fun ι H μ x y v u W σ Q r rx ry h => by
  unfold inDD at h
  split at h
  · rename_i o e
    obtain ⟨a, w, rfl, h1, h2, _⟩ := dictAt_is r ry rx e
    exact ⟨a, w, rfl, h1, by rw [h2]; exact h ι H .refl r _ (rep_bl _)⟩
  · exact h.elim
theorem snd_notInD : Snd2 G (rNotInD G) notInDD := fun ι H μ x y v u W σ Q r rx ry h => by
  unfold notInDD at h
  split at h
  · rename_i o e
    obtain ⟨a, w, rfl, h1, h2, _⟩ := dictAt_is r ry rx e
    exact ⟨a, w, rfl, h1, by rw [h2]; exact h ι H .refl r _ (rep_bl _)⟩
  · exact h.elim
theorem snd_ixD : Snd2 G (rIxD G) idxDD := fun ι H μ x y v u W σ Q r rx ry h => by
  unfold idxDD at h
  split at h
  · rename_i d e
    obtain ⟨a, w, rfl, h1, _, h3⟩ := dictAt_is r rx ry e
    obtain ⟨z, rfl, rz⟩ := h3 d rfl
    exact ⟨a, z, rfl, h1, h ι H .refl r _ rz⟩
  · exact h.elim
end
section
variable {X : Cx} {W : WX} {a b : Expr} {ma mb : MD} {pos : Pos}
theorem se_idxD (hu : X.A.units + 64 < cLine) (ha : SE X W a ma) (hb : SE X W b mb) (hs : PlainIx b := by exact fun _ _ => rfl) : SE X W (.Subscript a b pos) (mBin idxDD ma mb) :=
  PE.mono (pe_ix (ix_dict hu) ha hb hs) fun σ H Q h => bin_red snd_ixD h
end
end RW

/-! SEj: dicts stored, made, walked. -/
namespace RW
open PySem L2
/-! ### a[k] = v of lists and dicts -/
def rSetT (G : Gd) : TSet := fun o i v H Q => ∃ a ι l xs k kk t, o = .ref a ∧ H a = some (.ext (tdPhi G a xs)) ∧ TdIs G ι H a l xs ∧ Rep G ι H k (.ref t) ∧ i = .ref t ∧ D.nk? k = some kk ∧ kk.depth ≤ 8 ∧ xs.length < sizeLine ∧
  ∀ w, RelV v w → Q (upd H a (.ext (tdPhi G a (storedH xs kk t w))))
def rSetK : TSet := fun o i v H Q => ∃ a H', o = .ref a ∧ DPut H a i v H' ∧ Q H'
def rSetA (G : Gd) : TSet := fun o i v H Q => rSetL o i v H Q ∨ rSetK o i v H Q ∨ rSetT G o i v H Q
section
variable {X : Cx}
theorem PSet.or {t t' : TSet} (h : PSet X t) (h' : PSet X t') : PSet X (fun o i v H Q => t o i v H Q ∨ t' o i v H Q) := fun pins s σ H o i v ov iv u Q I r1 r2 r3 q => q.elim (h pins s σ H o i v ov iv u Q I r1 r2 r3) (h' pins s σ H o i v ov iv u Q I r1 r2 r3)
theorem set_K (hu : X.A.units + 64 < cLine) : PSet X rSetK := by
  intro pins s σ H o i v ov iv u Q I ro ri rv ⟨a, H', eo, g, q⟩
  subst eo; cases ro
  exact d_setItem (by omega) I g ri rv fun s' I' => ⟨H', I', q⟩
theorem set_T (hu : X.A.units + 64 < cLine) : PSet X (rSetT (gOf X)) := by
  intro pins s σ H o i v ov iv u Q I ro ri rv ⟨a, ι, l, xs, k, kk, t, eo, ha, hd, rk, ei, hk, hk8, hz, q⟩
  subst eo; cases ro
  subst ei; cases ri
  refine wpAny_setItem_heap (knd := nestedKind X.prog X.w) (by show X.A.units + 1 + 8 < cLine; omega) ⟨nest_of I k kk _ _ hk rk rfl, hk8⟩ (hd.dictOf I) (fun h' hm' hs => ?_) (Nat.le_of_lt hz)
  refine ⟨_, ?_, q u rv⟩
  refine I.write (x := a) (e := a) (by rw [ha]; trivial) (.inl rfl) (fun b ob hb e => (hs.2 b hb).trans e) ?_ (td_obj (G := gOf X) hm')
  obtain ⟨ob, _, _, e, _⟩ := hm'
  exact ⟨ob, e⟩
end
def setDD (o k d : D) (μ : Mem) : Res Unit := match o with
  | .ref n => (match μ[n]? with
    | some (.lst l) => setLD o k d μ
    | some (.dic l) => if isK k = true ∧ l.length < sizeLine then .ok () (μ.set n (.dic (dPut l k d))) else .stuck
    | some (.tdic l) => if isT k = true ∧ l.length < sizeLine then .ok () (μ.set n (.tdic (dPut l k d))) else .stuck
    | _ => .stuck)
  | _ => .stuck
theorem snd_setA {G : Gd} : SndSet G (rSetA G) setDD := fun ι H μ o i x ov iv v W σ Q r ro ri rx h => by
  cases o <;> first | exact h.elim | skip
  rename_i n
  simp only [setDD] at h
  split at h
  · exact .inl (snd_setL ι H μ (.ref n) i x ov iv v W σ Q r ro ri rx h)
  · rename_i l em
    split at h
    · rename_i hk
      obtain ⟨a, h0, rfl⟩ := ro.ref
      obtain ⟨kvs, h1, h2⟩ := r.cell n _ a em h0
      obtain ⟨kk, ek⟩ := Option.isSome_iff_exists.mp (show (D.key? i).isSome = true from hk.1)
      obtain rfl := key_rep ek ri
      have hlen : l.length = kvs.length := Paired.length h2
      obtain ⟨g2, r2⟩ := grow_set (o := .dK (putK kvs kk v)) (c := .dic (dPut l i x)) r h0 (fun _ _ e => by rw [h1] at e; cases e) fun e => ⟨_, upd_same, Paired.imp' (dPut_K ek rx h2) fun _ _ z => ⟨z.1, z.2.ext e⟩⟩
      exact .inr (.inl ⟨a, _, rfl, .k h1 (by omega), h ι _ g2 r2⟩)
    · exact h.elim
  · rename_i l em
    split at h
    · rename_i hk
      obtain ⟨a, h0, rfl⟩ := ro.ref
      obtain ⟨xs, h1⟩ := r.cell n _ a em h0
      obtain ⟨kl, kk, ekl, ek, ek8⟩ := isT_key hk.1
      subst ekl
      obtain ⟨t, ts, eu, _, _⟩ := id ri.tup
      subst eu
      have hlen : l.length = xs.length := Paired.length h1.2.1
      refine .inr (.inr ⟨a, ι, l, xs, .tup kl, kk, t, rfl, h1.1, ⟨.inl h1.1, h1.2⟩, ri, rfl, ek, ek8, by omega, fun w hw => ?_⟩)
      have hn : ((storedH xs kk t w).map (·.1)).Nodup ∧ (storedH xs kk t w).length ≤ sizeLine := by
        have nd := h1.2.2.1
        have hl : (storedH xs kk t w).length ≤ xs.length + 1 := by unfold storedH; split <;> simp
        refine ⟨?_, by omega⟩
        unfold storedH
        split
        · rw [keys_map_putAt]; exact nd
        · rename_i hf
          rw [List.map_append, List.nodup_append]
          refine ⟨nd, by simp, fun b hb c hc => ?_⟩
          simp at hc; subst hc
          rintro rfl
          apply hf
          cases e : atKey xs b with
          | some p => rfl
          | none =>
            exfalso
            obtain ⟨y, hy, rfl⟩ := List.mem_map.mp hb
            unfold atKey at e
            rw [Option.map_eq_none_iff, List.find?_eq_none] at e
            exact e y hy (by simp)
      obtain ⟨g2, r2⟩ := grow_set (o := .ext (tdPhi G a (storedH xs kk t w))) (c := .tdic (dPut l (.tup kl) x)) r h0 (fun _ _ e => by rw [h1.1] at e; cases e) fun e => ⟨_, upd_same, Paired.imp' (dPut_T ek ek8 ri rx hw h1.2.1) fun _ _ z => ⟨z.1, z.2.1, z.2.2.1.ext e, let ⟨v, z1, z2⟩ := z.2.2.2; ⟨v, z1.ext e, z2⟩⟩, hn.1, hn.2, h1.2.2.2.2⟩
      exact h ι _ g2 r2
    · exact h.elim
  · exact h.elim
section
variable {X : Cx} {W : WX} {pos : Pos} {o i : Expr} {mo mi : MD}
theorem sg_set (hu : X.A.units + 64 < cLine) (ho : SE X W o mo) (hi : SE X W i mi)
    (ha : ∀ v, assign (.Subscript o i pos) X.env v = (do
      let ov ← holding [v] (eval o X.env)
      let iv ← holding [v, ov] (eval i X.env)
      standAt pos
      holding [v, ov, iv] (setItem ov iv v)
      release [v, ov, iv] []) := by intro _; rfl) : SG X W (.Subscript o i pos) (gSubM setDD mo mi) :=
  sg_sub ho hi (PSet.or set_list (PSet.or (set_K hu) (set_T hu))) snd_setA ha
end
/-! ### a[b] of anything -/
def idxA (x i : D) (μ : Mem) : Res D := match x with
  | .ref n => (match μ[n]? with
    | some (.lst l) => idxD x i μ
    | _ => idxDD x i μ)
  | _ => idxD x i μ
def rIxA (G : Gd) : R2 := fun x y H Q => rIx G.K x y H Q ∨ rIxD G x y H Q
theorem snd_ixA {G : Gd} : Snd2 G (rIxA G) idxA := fun ι H μ x y v u W σ Q r rx ry h => by
  unfold idxA at h
  split at h
  · split at h
    · exact .inl (snd_idx ι H μ _ y v u W σ Q r rx ry h)
    · exact .inr (snd_ixD ι H μ _ y v u W σ Q r rx ry h)
  · exact .inl (snd_idx ι H μ _ y v u W σ Q r rx ry h)
section
variable {X : Cx} {W : WX} {a b : Expr} {ma mb : MD} {pos : Pos}
theorem se_ix (hu : X.A.units + 64 < cLine) (ha : SE X W a ma) (hb : SE X W b mb) (hs : PlainIx b := by exact fun _ _ => rfl) : SE X W (.Subscript a b pos) (mBin idxA ma mb) :=
  PE.mono (pe_ix (IxR.or ix_seq (ix_dict hu)) ha hb hs) fun σ H Q h => bin_red snd_ixA h
end
/-! ### x in y -/
def inA (x y : D) (μ : Mem) : Res D := match y with
  | .ref n => (match μ[n]? with
    | some (.lst l) => .stuck
    | _ => inDD x y μ)
  | _ => .stuck

/-! ### {} and {k: v, ..} -/
def mDicNew : MD := fun _ μ => .ok (.ref μ.length) (μ ++ [.dic []])
def mTdicNew : MD := fun _ μ => .ok (.ref μ.length) (μ ++ [.tdic []])
section
variable {X : Cx} {W : WX} {pos : Pos}
theorem se_dicNew : SE X W (.Dict [] [] pos) mDicNew := PE.mono pe_dnewK fun σ H Q ⟨ρ, μ, ι, env, rel, h⟩ p hp => by
  obtain ⟨g2, r2⟩ := grow_cell (o := .dK []) (c := .dic []) rel hp fun x => ⟨[], upd_same, .nil⟩
  exact h _ _ g2 r2 _ (rep_new (r := rel))
theorem td_empty {P : Program} {w : World} {H : Hp} {G : Gd} (h : Heap) : ObjOk P w H (h.push { cls := .type "dict", data := .dict #[] }) h.objs.size (.ext (tdPhi G h.objs.size [])) :=
  td_obj (Heap.DictOfH.new h)
theorem pe_dnewN : PE X (.Dict [] [] pos) (fun _ H Q => ∀ p, H p = none → (p == sysModules) = false → Q (.ref p) (upd H p (.ext (tdPhi (gOf X) p [])))) := ⟨fun pins s σ H Q I h =>
  wpAny_Dict_empty ⟨.ref s.heap.objs.size, _, I.laid (a := s.heap.objs.size) (o := .ext (tdPhi (gOf X) s.heap.objs.size [])) (t' := s.toks) (fun _ _ q => Heap.get?_push_of_some _ q) (Nat.le_refl _) (td_empty s.heap), rfl, h _ (I.hok.fresh (Nat.le_refl _)) (beq_eq_false_iff_ne.mpr (Ne.symm (Nat.ne_of_lt I.big)))⟩⟩
theorem se_tdicNew : SE X W (.Dict [] [] pos) mTdicNew := PE.mono pe_dnewN fun σ H Q ⟨ρ, μ, ι, env, rel, h⟩ p hp hs => by
  obtain ⟨g2, r2⟩ := grow_cell (o := .ext (tdPhi (gOf X) p [])) (c := .tdic []) rel hp fun x => ⟨[], upd_same, .nil, by simp, Nat.zero_le _, hs⟩
  exact h _ _ g2 r2 _ (rep_new (r := rel))
end
/-- the pairs of a display -/
@[simp] def mPairs : List (MD × MD) → Rho → Mem → Res (List (D × D))
  | [], _, μ => .ok [] μ
  | (k, v) :: r, ρ, μ => (k ρ μ).bind fun x μ1 => (v ρ μ1).bind fun y μ2 => (mPairs r ρ μ2).bind fun l μ3 => .ok ((x, y) :: l) μ3
def dicOf : List (D × D) → List (D × D) := fun l => l.foldl (fun acc p => dPut acc p.1 p.2) []
@[simp] def mDic (ps : List (MD × MD)) : MD := fun ρ μ => (mPairs ps ρ μ).bind fun l μ1 => if l.length ≤ 15 ∧ l.all (fun p => isK p.1) = true then .ok (.ref μ1.length) (μ1 ++ [.dic (dicOf l)]) else .stuck
@[simp] def mTdic (ps : List (MD × MD)) : MD := fun ρ μ => (mPairs ps ρ μ).bind fun l μ1 => if l.length ≤ 15 ∧ l.all (fun p => isT p.1) = true then .ok (.ref μ1.length) (μ1 ++ [.tdic (dicOf l)]) else .stuck
section
variable {X : Cx} {W : WX}
theorem pairs_red {σ : St} {ρ : Rho} : ∀ {ps : List (MD × MD)} {ι : List Addr} {H : Hp} {μ : Mem} {k : List Addr → Hp → Mem → List (D × D) → Prop} {Q : List (V × V) → Hp → Prop}, EnvOk (gOf X) ι H ρ σ → Rel (gOf X) ι H μ → Post (gOf X) ι H W σ (mPairs ps ρ μ) k →
    (∀ ι' H' μ' l vs, Grow ι H ι' H' → Rel (gOf X) ι' H' μ' → Paired (fun (p : D × D) (q : V × V) => Rep (gOf X) ι' H' p.1 q.1 ∧ Rep (gOf X) ι' H' p.2 q.2) l vs → k ι' H' μ' l → Q vs H') →
    tPairs (ps.map fun p => (tE (gOf X) W p.1, tE (gOf X) W p.2)) σ H Q
  | [], ι, H, μ, k, Q, env, rel, h, f => f ι H μ [] [] .refl rel .nil (h ι H .refl rel)
  | (mk, mv) :: ps, ι, H, μ, k, Q, env, rel, h, f => by
    simp only [mPairs] at h
    refine ⟨ρ, μ, ι, env, rel, (Post.bind h).imp fun ι1 H1 μ1 x _ _ ⟨g1, r1, h1⟩ v rv => ?_⟩
    have env1 := env.ext (g1.ext rel)
    refine ⟨ρ, μ1, ι1, env1, r1, (Post.bind h1).imp fun ι2 H2 μ2 y _ _ ⟨g2, r2, h2⟩ u ru => ?_⟩
    have env2 := env1.ext (g2.ext r1)
    refine pairs_red (ps := ps) env2 r2 (Post.bind h2) fun ι3 H3 μ3 l vs g3 r3 pr ⟨_, _, h3⟩ => ?_
    exact f ι3 H3 μ3 ((x, y) :: l) ((v, u) :: vs) ((g1.trans g2).trans g3) r3 (.cons ⟨(rv.ext (g2.ext r1)).ext (g3.ext r2), ru.ext (g3.ext r2)⟩ pr) (h3 ι3 H3 .refl r3)
theorem dic_fold {G : Gd} {ι : List Addr} {H : Hp} : ∀ {l : List (D × D)} {vs : List (V × V)} {acc : List (D × D)} {kvs : List (Key × V)}, Paired (fun (p : D × D) (q : V × V) => Rep G ι H p.1 q.1 ∧ Rep G ι H p.2 q.2) l vs → l.all (fun p => isK p.1) = true → Paired (RepP G ι H) acc kvs →
    ∃ more : List (Key × V), vs = more.map (fun kv => (kV kv.1, kv.2)) ∧ Paired (RepP G ι H) (l.foldl (fun acc p => dPut acc p.1 p.2) acc) (mergeK kvs more)
  | _, _, acc, kvs, .nil, _, p => ⟨[], rfl, p⟩
  | (k, x) :: l, (u, y) :: vs, acc, kvs, .cons ⟨h1, h2⟩ t, hk, p => by
    rw [List.all_cons, Bool.and_eq_true] at hk
    obtain ⟨kk, ek⟩ := Option.isSome_iff_exists.mp (show (D.key? k).isSome = true from hk.1)
    obtain rfl : u = kV kk := key_rep ek h1
    obtain ⟨more, e1, e2⟩ := dic_fold t hk.2 (dPut_K ek h2 p)
    exact ⟨(kk, y) :: more, by rw [e1]; rfl, e2⟩
theorem Post.bindB {ι ι' : List Addr} {H H' : Hp} {σ : St} {α β : Type} {r : Res α} {f : α → Mem → Res β} {kk : List Addr → Hp → Mem → β → Prop} {G : Gd} (h : Post G ι H W σ (r.bind f) kk) (g : Grow ι H ι' H') :
    Post G ι' H' W σ r fun _ _ μ2 a => Post G ι H W σ (f a μ2) kk := by
  cases r with
  | ok a m => exact fun ι2 H2 g2 r2 => h
  | exc c fs m => exact fun ι2 H2 cls dx g2 r e => h ι2 H2 cls dx (g.trans g2) r e
  | stuck => exact h
theorem se_dic {keys : List (Option Expr)} {values : List Expr} {pos : Pos} {ps : List (MD × MD)} (h : PPs X pos keys values (ps.map fun p => (tE (gOf X) W p.1, tE (gOf X) W p.2))) (hall : keys.all (·.isSome) = true) (hl : keys.length = values.length) (h0 : keys ≠ []) (h15 : keys.length ≤ 15) :
    SE X W (.Dict keys values pos) (mDic ps) :=
  PE.mono (pe_disp h hall hl h0 h15) fun σ H Q ⟨ρ, μ, ι, env, rel, h⟩ p hp => by
    obtain ⟨gD, rD⟩ := grow_laid (o := .dK []) rel hp
    have hpn := rel.notNone hp
    refine pairs_red (env.ext (gD.ext rel)) rD (Post.bindB h gD) fun ι1 H1 μ1 l vs g1 r1 pr h1 => ?_
    have e1 : H1 p = some (.dK []) := g1.keep _ _ upd_same hpn
    have hn1 : p ∉ ι1 := fun z => (g1.new p z).elim hpn fun z => by rw [upd_same] at z; cases z
    split at h1
    · rename_i hc
      obtain ⟨more, e2, e3⟩ := dic_fold (acc := []) (kvs := []) pr hc.2 .nil
      have hlen : l.length = vs.length := Paired.length pr
      refine ⟨e1, more, e2, by rw [e2] at hlen; simp at hlen; omega, ?_⟩
      -- the dict is adopted
      have ex : Ext ι1 H1 (ι1 ++ [p]) (upd H1 p (.dK (mergeK [] more))) := ⟨List.prefix_append _ _, fun a xs z => by rw [upd_ne (fun q => by rw [q, e1] at z; cases z)]; exact z, fun a o u z _ => by rw [upd_ne (fun q => by rw [q, e1] at z; cases z)]; exact z⟩
      have ex1 : Ext ι1 H1 ι1 (upd H1 p (.dK (mergeK [] more))) := ⟨List.prefix_refl _, ex.tup, ex.frz⟩
      have r2 : Rel (gOf X) ι1 (upd H1 p (.dK (mergeK [] more))) μ1 := ⟨r1.len, r1.nd, fun j c a q1 q2 => (r1.cell j c a q1 q2).ext ex1 (upd_ne fun q => hn1 (q ▸ List.mem_of_getElem? q2))⟩
      have r3 := grow_adopt (c := .dic (dicOf l)) r2 hn1 ⟨_, upd_same, Paired.imp' e3 fun _ _ z => ⟨z.1, z.2.ext ex⟩⟩
      have gA := gD.trans g1
      refine h1 (ι1 ++ [p]) _ ⟨gA.pre.trans (List.prefix_append _ _), fun a o z na => ?_, fun a ha => ?_, fun a o u z => by rw [upd_ne (fun q => by rw [q, hp] at z; cases z)]; exact gA.lock a o u z⟩ r3 _ (rep_new (r := r1))
      · rw [upd_ne (fun q => by rw [q, hp] at z; cases z)]; exact gA.keep a o z na
      · rcases List.mem_append.mp ha with z | z
        · exact gA.new a z
        · simp at z; subst z; exact .inr hp
    · exact h1.elim
/-! keys that are tuples -/
def NkL (G : Gd) (H : Hp) : List (V × V) → List (NestedKey × Addr × V) → Prop := Paired fun p x => p.1 = .ref x.2.1 ∧ p.2 = x.2.2 ∧ x.1.depth ≤ 8 ∧ ∃ ι k, Rep G ι H k (.ref x.2.1) ∧ D.nk? k = some x.1
def tDispT (G : Gd) (trs : List (TE × TE)) : TE := fun σ H Q => ∀ p, H p = none → (p == sysModules) = false → tPairs trs σ (upd H p (.ext (tdPhi G p []))) fun ps H2 => H2 p = some (.ext (tdPhi G p [])) ∧ ∃ ks : List (NestedKey × Addr × V), NkL G H2 ps ks ∧ ps.length ≤ 15 ∧
  ∀ ws : List Value, Vals (ks.map fun x => x.2.2) ws → Q (.ref p) (upd H2 p (.ext (tdPhi G p (storedAllH [] (List.zipWith (fun x w => (x.1, x.2.1, w)) ks ws)))))
theorem carriesH_of {pins : List (Addr × Obj)} {σ : St} {H : Hp} {s : Shared} (I : Inv X pins σ H s) : ∀ {ps : List (V × V)} {ks : List (NestedKey × Addr × V)} {vs : List (Value × Value)}, NkL (gOf X) H ps ks → VV ps vs →
    ∃ ws, Vals (ks.map fun x => x.2.2) ws ∧ CarriesH (nestedKind X.prog X.w) s.heap vs (List.zipWith (fun x w => (x.1, x.2.1, w)) ks ws)
  | _, _, _, .nil, .nil => ⟨[], .nil, trivial⟩
  | (k, v) :: ps, (n, a, y) :: ks, (kv, vv) :: vs, .cons ⟨h1, h2, h3, ι, d, h4, h5⟩ t, .cons ⟨r1, r2⟩ rt => by
    obtain ⟨ws, w1, w2⟩ := carriesH_of I t rt
    have h1 : k = .ref a := h1
    have h2 : v = y := h2
    subst h1; subst h2
    cases r1
    exact ⟨vv :: ws, .cons r2 w1, rfl, rfl, ⟨nest_of I d n _ _ h5 h4 rfl, h3⟩, w2⟩
theorem pe_dispT {keys : List (Option Expr)} {values : List Expr} {pos : Pos} {trs : List (TE × TE)} (hu : X.A.units + 64 < cLine) (h : PPs X pos keys values trs) (hall : keys.all (·.isSome) = true) (hl : keys.length = values.length) (h0 : keys ≠ []) (h15 : keys.length ≤ 15) :
    PE X (.Dict keys values pos) (tDispT (gOf X) trs) := by
  refine ⟨fun pins s σ H Q I q => ?_⟩
  have hn := I.hok.fresh (Nat.le_refl s.heap.objs.size)
  have I1 := I.laid (a := s.heap.objs.size) (o := .ext (tdPhi (gOf X) s.heap.objs.size [])) (h' := s.heap.push { cls := .type "dict", data := .dict #[] }) (t' := s.toks) (fun _ _ q => Heap.get?_push_of_some _ q) (Nat.le_refl _) (td_empty s.heap)
  have hnn := pairTrees_length keys values X.env pos hall hl
  rw [arm_eval_Dict, zip_pairTrees keys values X.env pos hall hl, dictDisplay_pairs (pairTrees keys values X.env pos) (fun he => h0 (List.length_eq_zero_iff.mp (by rw [← hnn, he]; rfl))) (by rw [hnn]; omega)]
  refine wpAny_bind (wpAny_standAt (wpAny_bind (wpAny_subDictH (knd := nestedKind X.prog X.w) (Q := fun d s' => wpAny (model X.prog X.w) X.A (pure (Value.ref d)) (EP X pins σ Q) X.xe s') (by show X.A.units + 8 < cLine; omega) (by rw [hnn]; exact h15) ?_)))
  refine thn (h.run pins _ σ _ _ I1 (q _ hn (beq_eq_false_iff_ne.mpr (Ne.symm (Nat.ne_of_lt I.big))))) fun ws s2 ⟨ps, H2, I2, rel, e, ks, hk, hz, q2⟩ => ?_
  obtain ⟨us, u1, u2⟩ := carriesH_of I2 hk rel
  have t0 : TdIs (gOf X) [] H2 s.heap.objs.size [] [] := ⟨.inl e, .nil, by simp, Nat.zero_le _, beq_eq_false_iff_ne.mpr (Ne.symm (Nat.ne_of_lt I.big))⟩
  refine ⟨_, u2, t0.dictOf I2, fun h' tk hm' hs => wpAny_pure ⟨.ref s.heap.objs.size, _, ?_, rfl, q2 us u1⟩⟩
  refine I2.write (x := s.heap.objs.size) (e := s.heap.objs.size) (by rw [e]; trivial) (.inl rfl) (fun b ob hb e => (hs.2 b hb).trans e) ?_ (td_obj (G := gOf X) hm')
  obtain ⟨ob, _, _, e', _⟩ := hm'
  exact ⟨ob, e'⟩
theorem td_fold {G : Gd} {ι : List Addr} {H : Hp} : ∀ {l : List (D × D)} {vs : List (V × V)}, Paired (fun (p : D × D) (q : V × V) => Rep G ι H p.1 q.1 ∧ Rep G ι H p.2 q.2) l vs → l.all (fun p => isT p.1) = true →
    ∃ ks : List (NestedKey × Addr × V), NkL G H vs ks ∧ ∀ ws : List Value, Vals (ks.map fun x => x.2.2) ws → ∀ (acc : List (D × D)) (xs : List (NestedKey × Addr × Value)), Paired (RepT G ι H) acc xs → Paired (RepT G ι H) (l.foldl (fun acc p => dPut acc p.1 p.2) acc) (storedAllH xs (List.zipWith (fun x w => (x.1, x.2.1, w)) ks ws))
  | _, _, .nil, _ => ⟨[], .nil, fun ws h acc xs p => by cases h; exact p⟩
  | (k, x) :: l, (u, y) :: vs, .cons ⟨h1, h2⟩ t, hk => by
    rw [List.all_cons, Bool.and_eq_true] at hk
    obtain ⟨kl, kk, ekl, ek, ek8⟩ := isT_key hk.1
    have ekl : k = .tup kl := ekl
    subst ekl
    obtain ⟨tt, ts, eu, _, _⟩ := id (Rep.tup h1)
    have eu : u = .ref tt := eu
    subst eu
    obtain ⟨ks, k1, k2⟩ := td_fold t hk.2
    refine ⟨(kk, tt, y) :: ks, .cons ⟨rfl, rfl, ek8, ι, _, h1, ek⟩ k1, fun ws hw acc xs p => ?_⟩
    cases hw with
    | cons r rt => exact k2 _ rt _ _ (dPut_T ek ek8 h1 h2 r p)
theorem nodup_storedH {xs : List (NestedKey × Addr × Value)} {kk : NestedKey} {t : Addr} {w : Value} (nd : (xs.map (·.1)).Nodup) : ((storedH xs kk t w).map (·.1)).Nodup := by
  unfold storedH
  split
  · rw [keys_map_putAt]; exact nd
  · rename_i hf
    rw [List.map_append, List.nodup_append]
    refine ⟨nd, by simp, fun b hb c hc => ?_⟩
    simp at hc; subst hc
    rintro rfl
    apply hf
    cases e : atKey xs b with
    | some p => rfl
    | none =>
      exfalso
      obtain ⟨y, hy, rfl⟩ := List.mem_map.mp hb
      unfold atKey at e
      rw [Option.map_eq_none_iff, List.find?_eq_none] at e
      exact e y hy (by simp)
theorem nodup_storedAllH : ∀ (ps xs : List (NestedKey × Addr × Value)), (xs.map (·.1)).Nodup → ((storedAllH xs ps).map (·.1)).Nodup
  | [], _, h => h
  | (k, t, w) :: ps, xs, h => nodup_storedAllH ps _ (nodup_storedH h)
theorem len_storedAllH : ∀ (ps xs : List (NestedKey × Addr × Value)), (storedAllH xs ps).length ≤ xs.length + ps.length
  | [], xs => Nat.le_refl _
  | (k, t, w) :: ps, xs => by
    have h1 := len_storedAllH ps (storedH xs k t w)
    have h2 : (storedH xs k t w).length ≤ xs.length + 1 := by unfold storedH; split <;> simp
    show (storedAllH (storedH xs k t w) ps).length ≤ _
    simp only [List.length_cons]; omega
theorem se_tdic {keys : List (Option Expr)} {values : List Expr} {pos : Pos} {ps : List (MD × MD)} (hu : X.A.units + 64 < cLine) (h : PPs X pos keys values (ps.map fun p => (tE (gOf X) W p.1, tE (gOf X) W p.2))) (hall : keys.all (·.isSome) = true) (hl : keys.length = values.length) (h0 : keys ≠ []) (h15 : keys.length ≤ 15) :
    SE X W (.Dict keys values pos) (mTdic ps) :=
  PE.mono (pe_dispT hu h hall hl h0 h15) fun σ H Q ⟨ρ, μ, ι, env, rel, h⟩ p hp hsys => by
    obtain ⟨gD, rD⟩ := grow_laid (o := .ext (tdPhi (gOf X) p [])) rel hp
    have hpn := rel.notNone hp
    refine pairs_red (env.ext (gD.ext rel)) rD (Post.bindB h gD) fun ι1 H1 μ1 l vs g1 r1 pr h1 => ?_
    have e1 : H1 p = some (.ext (tdPhi (gOf X) p [])) := g1.keep _ _ upd_same hpn
    have hn1 : p ∉ ι1 := fun z => (g1.new p z).elim hpn fun z => by rw [upd_same] at z; cases z
    split at h1
    · rename_i hc
      obtain ⟨ks, k1, k2⟩ := td_fold pr hc.2
      have hlen : l.length = vs.length := Paired.length pr
      refine ⟨e1, ks, k1, by omega, fun ws hw => ?_⟩
      have e3 := k2 ws hw [] [] .nil
      generalize hxs : storedAllH [] (List.zipWith (fun x w => (x.1, x.2.1, w)) ks ws) = xs at e3
      have hnd : (xs.map (·.1)).Nodup := by rw [← hxs]; exact nodup_storedAllH _ _ (by simp)
      have hle : xs.length ≤ sizeLine := by
        have a := len_storedAllH (List.zipWith (fun x w => (x.1, x.2.1, w)) ks ws) []
        have b : ks.length = vs.length := (Paired.length k1).symm
        rw [hxs, List.length_zipWith, List.length_nil] at a
        have : ks.length ≤ 15 := by omega
        rw [sizeLine_eq]; omega
      have ex : Ext ι1 H1 (ι1 ++ [p]) (upd H1 p (.ext (tdPhi (gOf X) p xs))) := ⟨List.prefix_append _ _, fun a xs z => by rw [upd_ne (fun q => by rw [q, e1] at z; cases z)]; exact z, fun a o u z _ => by rw [upd_ne (fun q => by rw [q, e1] at z; cases z)]; exact z⟩
      have ex1 : Ext ι1 H1 ι1 (upd H1 p (.ext (tdPhi (gOf X) p xs))) := ⟨List.prefix_refl _, ex.tup, ex.frz⟩
      have r2 : Rel (gOf X) ι1 (upd H1 p (.ext (tdPhi (gOf X) p xs))) μ1 := ⟨r1.len, r1.nd, fun j c a q1 q2 => (r1.cell j c a q1 q2).ext ex1 (upd_ne fun q => hn1 (q ▸ List.mem_of_getElem? q2))⟩
      have r3 := grow_adopt (c := .tdic (dicOf l)) r2 hn1 ⟨xs, upd_same, Paired.imp' e3 fun _ _ z => ⟨z.1, z.2.1, z.2.2.1.ext ex, let ⟨v, z1, z2⟩ := z.2.2.2; ⟨v, z1.ext ex, z2⟩⟩, hnd, hle, hsys⟩
      have gA := gD.trans g1
      refine h1 (ι1 ++ [p]) _ ⟨gA.pre.trans (List.prefix_append _ _), fun a o z na => ?_, fun a ha => ?_, fun a o u z => by rw [upd_ne (fun q => by rw [q, hp] at z; cases z)]; exact gA.lock a o u z⟩ r3 _ (rep_new (r := r1))
      · rw [upd_ne (fun q => by rw [q, hp] at z; cases z)]; exact gA.keep a o z na
      · rcases List.mem_append.mp ha with z | z
        · exact gA.new a z
        · simp at z; subst z; exact .inr hp
    · exact h1.elim
end

/-! ### d.get(k, x) -/
def isDic : D → Mem → Bool
  | .ref n, μ => (match μ[n]? with
    | some (.dic _) => true
    | some (.tdic _) => true
    | some (.lck _ _) => true
    | _ => false)
  | _, _ => false
def getM : D → List D → Mem → Res D
  | x, [k], μ => (match dictAt x k μ with
    | some o => .ok (o.getD .non) μ
    | none => .stuck)
  | x, [k, y], μ => (match dictAt x k μ with
    | some o => .ok (o.getD y) μ
    | none => .stuck)
  | _, _, _ => .stuck
def DicV (G : Gd) (H : Hp) (x : V) : Prop := ∃ a, x = .ref a ∧ ((∃ kvs, Rd H a (.dK kvs)) ∨ ∃ xs, Rd H a (.ext (tdPhi G a xs)))
section
variable {X : Cx} {W : WX} {pins : List (Addr × Obj)} {σ : St} {H : Hp} {s : Shared}
theorem dicV_at {x : V} {v : Value} (I : Inv X pins σ H s) (d : DicV (gOf X) H x) (r : RelV x v) : s.TypeIs v "dict" ∧ ∀ b, v = .ref b → ∃ ob, s.heap.get? b = some ob ∧ ob.dict = none := by
  obtain ⟨a, rfl, d⟩ := d
  cases r
  rcases d with ⟨kvs, e⟩ | ⟨xs, e⟩
  · obtain ⟨_, hd, vs, _, ob, _, _, h1, h2, _⟩ := dk_rd I.hok e
    exact ⟨⟨ob, h1, h2.1⟩, fun b q => by cases q; exact ⟨ob, h1, h2.2.1⟩⟩
  · obtain ⟨⟨ob, es, ep, h1, h2, _⟩, _⟩ := e.ok I.hok
    exact ⟨⟨ob, h1, h2.1⟩, fun b q => by cases q; exact ⟨ob, h1, h2.2.1⟩⟩
theorem isDic_V {G : Gd} {ι : List Addr} {H : Hp} {μ : Mem} {x : D} {v : V} (r : Rel G ι H μ) (rx : Rep G ι H x v) (h : isDic x μ = true) : DicV G H v := by
  cases x <;> first | (simp [isDic] at h; done) | skip
  rename_i n
  simp only [isDic] at h
  obtain ⟨a, h0, rfl⟩ := rx.ref
  split at h
  · rename_i l em
    obtain ⟨kvs, h1, _⟩ := r.cell n _ a em h0
    exact ⟨a, rfl, .inl ⟨kvs, .inl h1⟩⟩
  · rename_i l em
    obtain ⟨xs, h1, _⟩ := r.cell n _ a em h0
    exact ⟨a, rfl, .inr ⟨xs, .inl h1⟩⟩
  · rename_i t l em
    cases t with
    | false =>
      obtain ⟨od, kvs, h1, _⟩ := r.cell n _ a em h0
      exact ⟨a, rfl, .inl ⟨kvs, .inr ⟨od, h1⟩⟩⟩
    | true =>
      obtain ⟨od, xs, h1, _⟩ := r.cell n _ a em h0
      exact ⟨a, rfl, .inr ⟨xs, .inr ⟨od, h1⟩⟩⟩
  · cases h
/-- get by values -/
def rGet (G : Gd) : V → List V → Hp → VK → Prop := fun x vs H Q => ∃ a y o, x = .ref a ∧ DIs G H a y o ∧ ((vs = [y] ∧ Q (o.getD .non) H) ∨ ∃ z, vs = [y, z] ∧ Q (o.getD z) H)
theorem di_get {a : Addr} {y : V} {u : Value} {o : Option V} {more : List V} {ms : List Value} {Q : Value → Shared → Prop} (hu : X.A.units + 64 < cLine) (I : Inv X pins σ H s) (g : DIs (gOf X) H a y o) (ry : RelV y u) (rm : Vals more ms) (hm : more.length ≤ 1)
    (h : ∀ w' s', Inv X pins σ H s' → RelV (o.getD (more.headD .non)) w' → Q w' s') : wpAny (model X.prog X.w) X.A (call (.builtin "dict.get") (.ref a :: u :: ms)) Q X.xe s := by
  have key : ∀ (d : V) (dv : Value), RelV d dv → (∀ w' s', Inv X pins σ H s' → RelV (o.getD d) w' → Q w' s') → (∃ l xs ι k kk t, TdIs (gOf X) ι H a l xs ∧ Rep (gOf X) ι H k (.ref t) ∧ y = .ref t ∧ D.nk? k = some kk ∧ kk.depth ≤ 8 ∧ AtIs xs kk o) → ∃ (b : Addr) (kk : NestedKey) (xs : List (NestedKey × Addr × Value)), u = .ref b ∧ (nestedKind X.prog X.w).is s.heap kk b ∧ s.heap.DictOfH (nestedKind X.prog X.w) a xs ∧ (a == sysModules) = false ∧ RelV (o.getD d) (((atKey xs kk).map (·.2)).getD dv) := by
    intro d dv rd _ ⟨l, xs, ι, k, kk, t, hd, rk, ey, hk, hk8, hp⟩
    subst ey; cases ry
    refine ⟨t, kk, xs, rfl, ⟨nest_of I k kk _ _ hk rk rfl, hk8⟩, hd.dictOf I, hd.2.2.2.2, ?_⟩
    cases o with
    | none => rw [show atKey xs kk = none from hp]; exact rd
    | some v => obtain ⟨p, e, rp⟩ := hp; rw [e]; exact rp
  cases rm with
  | nil =>
    rcases g with g | ⟨ι, l, xs, k, kk, t, q⟩
    · exact d_get1 (by omega) I g ry h
    · obtain ⟨b, kk', xs', eu, k1, k2, k3, k4⟩ := key .non .none rfl h ⟨l, xs, ι, k, kk, t, q⟩
      subst eu
      exact call_meetsIn PySem.F.slot_dict_get k2.typeIs PySem.F.entry_dict_get (PySem.F.args_dict_get_2 _ _) (meetsH_dict_get (nestedKind X.prog X.w) a b k3) ⟨by show X.A.units + 1 + 8 < cLine; omega, kk', xs', k1, k2, h _ _ (I.tok _) k4⟩
  | @cons d dv _ _ rd rt =>
    cases rt with
    | cons _ _ => simp at hm
    | nil =>
      rcases g with g | ⟨ι, l, xs, k, kk, t, q⟩
      · exact d_get2 (by omega) I g ry rd h
      · obtain ⟨b, kk', xs', eu, k1, k2, k3, k4⟩ := key d dv rd h ⟨l, xs, ι, k, kk, t, q⟩
        subst eu
        exact call_meetsIn PySem.F.slot_dict_get k2.typeIs PySem.F.entry_dict_get (PySem.F.args_dict_get_3 _ _ _) (meetsH_dict_get_default (nestedKind X.prog X.w) a b k3 dv) ⟨by show X.A.units + 1 + 8 < cLine; omega, kk', xs', k1, k2, h _ _ (I.tok _) k4⟩
variable {o e : Expr} {es : List Expr} {mo : MD} {ms : ML} {apos cpos : Pos} {to : TE} {t : TA}
theorem pe_getM (hu : X.A.units + 64 < cLine) (ho : PE X o to) (ha : PA X (e :: es) t)
    (hbase : attributeBase o "get" X.env (eval o X.env) = eval o X.env := by rfl)
    (hfew : ((backTo cpos (starEach (e :: es) X.env)).all (fun x => !x.1) && (backToKw cpos (keywordEach [] X.env)).all (fun x => x.1.isSome)
      && decide ((e :: es).length + ([] : List Keyword).length + (if ([] : List Keyword).isEmpty then 0 else 1) < 30)) = true := by rfl)
    (hline : (apos.endLine == cpos.line) = true := by rfl) (hs : starEach (e :: es) X.env = (false, eval e X.env) :: starEach es X.env := by rfl) (hplain : (backTo cpos (starEach es X.env)).any (·.1) = false := by rfl) :
    PE X (.Call (.Attribute o "get" apos) (e :: es) [] cpos) (fun σ H Q => to σ H fun x H1 => DicV (gOf X) H1 x ∧ t σ H1 fun xs H2 => rGet (gOf X) x xs H2 Q) := by
  refine ⟨fun pins s σ H Q I h => ?_⟩
  refine wpAny_Call_method_late hbase hfew hline rfl (thn (ho.run pins s σ H _ I h) fun v s1 ⟨x, H1, I1, r1, ty, q1⟩ => ?_)
  obtain ⟨h1, h2⟩ := dicV_at I1 ty r1
  refine ⟨"dict", "dict.get", PySem.F.plainAttrs_dict, PySem.F.slot_dict_get, PySem.F.type_dict_get, h1, h2, ?_⟩
  have hA := ha.run cpos pins s1 σ H1 _ I1 q1
  rw [hs] at hA ⊢
  refine Calls.callWith_builtin (by show (false || (backTo cpos (starEach es X.env)).any (·.1)) = false; rw [hplain] <;> rfl) (Calls.evalArgs_plain ?_)
  refine thn hA fun us s2 ⟨vs, H2, I2, r2, a, y, oo, ex, g, q⟩ => ?_
  subst ex; cases r1
  rcases q with ⟨rfl, q⟩ | ⟨z, rfl, q⟩
  · cases r2 with
    | cons ry rt =>
      cases rt
      exact di_get hu I2 g ry .nil (by simp) fun w' s' I' r' => ⟨_, H2, I', r', q⟩
  · cases r2 with
    | cons ry rt =>
      exact di_get hu I2 g ry rt (by simp) fun w' s' I' r' => ⟨_, H2, I', r', q⟩
theorem se_get (hu : X.A.units + 64 < cLine) (ho : SE X W o mo) (ha : SA X W (e :: es) ms)
    (hbase : attributeBase o "get" X.env (eval o X.env) = eval o X.env := by rfl)
    (hfew : ((backTo cpos (starEach (e :: es) X.env)).all (fun x => !x.1) && (backToKw cpos (keywordEach [] X.env)).all (fun x => x.1.isSome)
      && decide ((e :: es).length + ([] : List Keyword).length + (if ([] : List Keyword).isEmpty then 0 else 1) < 30)) = true := by rfl)
    (hline : (apos.endLine == cpos.line) = true := by rfl) (hs : starEach (e :: es) X.env = (false, eval e X.env) :: starEach es X.env := by rfl) (hplain : (backTo cpos (starEach es X.env)).any (·.1) = false := by rfl) :
    SE X W (.Call (.Attribute o "get" apos) (e :: es) [] cpos) (mMt isDic getM mo ms) :=
  PE.mono (pe_getM hu ho ha hbase hfew hline hs hplain) fun σ H Q ⟨ρ, μ, ι, env, rel, h⟩ =>
    ⟨ρ, μ, ι, env, rel, (Post.bind h).imp fun ι1 H1 μ1 x _ _ ⟨g1, r1, h1⟩ v rv => by
      split at h1
      · rename_i ht
        refine ⟨isDic_V r1 rv ht, ρ, μ1, ι1, env.ext (g1.ext rel), r1, (Post.bind h1).imp fun ι2 H2 μ2 xs _ _ ⟨g2, r2, h2⟩ vs rvs => ?_⟩
        have rv2 := rv.ext (g2.ext r1)
        unfold getM at h2
        split at h2
        · split at h2
          · rename_i k o' ed
            obtain ⟨u, rfl, ru⟩ := rvs.one
            obtain ⟨a, w, rfl, q1, q2, q3⟩ := dictAt_is r2 rv2 ru ed
            refine ⟨a, u, w, rfl, q1, .inl ⟨rfl, h2 ι2 H2 .refl r2 _ ?_⟩⟩
            cases o' with
            | none => cases w with
              | none => exact rep_non
              | some _ => simp at q2
            | some d => obtain ⟨z, rfl, rz⟩ := q3 d rfl; exact rz
          · exact h2.elim
        · split at h2
          · rename_i k y o' ed
            obtain ⟨u, u2, rfl, ru, ru2⟩ := rvs.two
            obtain ⟨a, w, rfl, q1, q2, q3⟩ := dictAt_is r2 rv2 ru ed
            refine ⟨a, u, w, rfl, q1, .inr ⟨u2, rfl, h2 ι2 H2 .refl r2 _ ?_⟩⟩
            cases o' with
            | none => cases w with
              | none => exact ru2
              | some _ => simp at q2
            | some d => obtain ⟨z, rfl, rz⟩ := q3 d rfl; exact rz
          · exact h2.elim
        · exact h2.elim
      · exact h1.elim⟩
end
end RW

/-! SEk: enumerate of a tuple or list; a dict walked by its keys, locked meanwhile. -/
namespace RW
open PySem L2 PySem.Spec PyProof.Rows
open Sem (wp)
open AutoSeq1 (wpAny_loadPart')
/-! ### enumerate(tuple) -/
def objEnum (n : Nat) : Obj := { cls := .type "enumerate", data := .fields #[.none, .bool false, .ref n, rawInt 0, .none, .none] }
def objTupIt (t : Addr) : Obj := { cls := .type "tuple_iterator", data := .fields #[.ref t, .int 0 0] }
theorem meets_enumT (t : Addr) (items : Array Value) (n : Nat) (dct : Option Addr) (sl : Array (Option Value)) :
    Meets (Builtin.«enumerate.__new__» ⟨[.type "enumerate", .ref t], []⟩) (fun _ R s => s.heap.get? t = some { cls := .type "tuple", dict := dct, data := .seq items n, slots := sl } ∧
      R (.ok (.ret (.ref (s.heap.push (objTupIt t)).objs.size))) { s with heap := (s.heap.push (objTupIt t)).push (objEnum s.heap.objs.size) }) :=
  .of_wp fun prog w A R s h => by
    obtain ⟨hp, g, d, tk, os⟩ := s; obtain ⟨hl, h⟩ := h
    have hsub := sub_enumerate
    have hT : Heap.IsTuple (Shared.heap ⟨hp, g, d, tk, os⟩) t items := ⟨_, hl, rfl, n, rfl⟩
    wp_walk using wpAny_loadPart' hl
    refine wpAny_stack_any fun st => wpAny_pure ?_
    split
    · rename_i c _ _ _ _ _
      cases (c == Value.type "enumerate") <;> (wp_walk using wpAny_loadPart' hl, wpAny_pyIter_tuple hT; exact ⟨_, rfl, h⟩)
    · wp_walk using wpAny_loadPart' hl, wpAny_pyIter_tuple hT
      exact ⟨_, rfl, h⟩
section
variable {prog : Program} {w : World} {A : Around} {E : Value → Shared → Prop} {s : Shared}
theorem call_enumT {t : Addr} {items : Array Value} {Q : Value → Shared → Prop} (hT : s.heap.IsTuple t items)
    (h : ∀ h', IsEnum h' (s.heap.objs.size + 1) s.heap.objs.size 0 .none → h'.IsTupleIter s.heap.objs.size t 0 → h'.objs.size = s.heap.objs.size + 2 →
      (∀ b o, s.heap.get? b = some o → h'.get? b = some o) → Q (.ref (s.heap.objs.size + 1)) { s with heap := h' }) : wpAny (model prog w) A (call (.type "enumerate") [.ref t]) Q E s := by
  obtain ⟨⟨c, dct, dt, sl⟩, hl, hc, n, hd⟩ := hT
  replace hc : c = .type "tuple" := hc
  replace hd : dt = .seq items n := hd
  subst hc hd
  refine callType_new F.called_enumerate (by decide) (F.typeCall_enumerate_1 _) (F.newCall_enumerate_1 _) (fun ob => F.args_object_init_2 ob _) F.entry_enumerate_new (meets_enumT t items n dct sl) ⟨hl, ?_⟩
  have hz : (s.heap.push (objTupIt t)).objs.size = s.heap.objs.size + 1 := Heap.size_push ..
  show _ ∧ _
  rw [hz]
  have he : IsEnum ((s.heap.push (objTupIt t)).push (objEnum s.heap.objs.size)) (s.heap.objs.size + 1) s.heap.objs.size 0 .none := by
    have q := Heap.get?_push_size (s.heap.push (objTupIt t)) (o := objEnum s.heap.objs.size) rfl
    rw [hz] at q; exact q
  exact ⟨⟨_, he, rfl⟩, h _ he ⟨_, Heap.get?_push_of_some _ (Heap.get?_push_size _ rfl), rfl, rfl⟩ (by rw [Heap.size_push, hz]) fun b o x => Heap.get?_push_of_some _ (Heap.get?_push_of_some _ x)⟩
end
/-- the tuple at a, each item in a new pair with its number -/
def Ent (K : PySem.W.Frag) (a : Addr) : It :=
  ⟨fun i H => ∃ (xs : List V) (x : V), SqT K H a xs ∧ xs[i]? = some x, fun i H v H' => ∃ T x, v = .ref T ∧ H T = none ∧ H' = upd H T (.tup [.int (i : Nat), x]) ∧ ∀ xs, SqT K H a xs → xs[i]? = some x, fun i H => ∃ xs : List V, SqT K H a xs ∧ xs.length = i⟩
theorem turn_entT {P : Program} {w : World} {K : PySem.W.Frag} {elts : List Expr} {kk : Nat} {tpos : Pos} (a e it : Addr) (hai : a ≠ it) (hae : a ≠ e) :
    Turn P w K (.Tuple elts kk tpos) (Ent K a) [e, it] e (fun i h => (∃ old, IsEnum h e it ((i : Nat) : Int) old) ∧ h.IsTupleIter it a i ∧ e ≠ it) where
  mem := by simp
  obj := fun i h st b hb => by
    obtain ⟨⟨old, he⟩, ⟨o, ho, hc, hd⟩, _⟩ := st
    rcases (by simpa using hb : b = e ∨ b = it) with z | z
    · subst z; exact ⟨_, he, fun v q => nomatch q⟩
    · subst z; exact ⟨o, ho, fun v q => by rw [hd] at q; cases q⟩
  keep := fun i h h' st k => by
    obtain ⟨⟨old, he⟩, hi, hne⟩ := st
    exact ⟨⟨old, k e (by simp) _ he⟩, hi.at fun o q => k it (by simp) o q, hne⟩
  item := by
    intro X hP hw hK hc i pins s σ H E I hf st hg
    subst hP hw hK
    obtain ⟨⟨old, he⟩, hit, hne⟩ := st
    obtain ⟨xs, x, hq, hx⟩ := hg
    obtain ⟨its, rv, p, hz⟩ := I.tuple hq
    obtain ⟨u, hu, ru⟩ := rv.get hx
    have hel : e < s.heap.objs.size := Heap.lt_size he
    have hil : it < s.heap.objs.size := by obtain ⟨_, q, _⟩ := hit; exact Heap.lt_size q
    have hT : s.heap.IsTuple a its.toArray := p
    refine wpAny_pyNext_enum_itemD (Draws.tuple (prog := X.prog) (w := X.w) (A := X.A.in1) (I.ok.hd hc) it a hai its.toArray) he ⟨hit, hT⟩ (by simpa using (List.getElem?_eq_some_iff.mp hu).1) hne (by simp [hne, Ne.symm hae]) fun x' h' tk hP ho st' hT' hsz hk => ?_
    obtain rfl : u = x' := by simpa [hu] using hP
    refine ⟨_, rfl, wpAny_letOwnedTupleGo_enum (s := { s with heap := h', toks := tk + 1 }) ho fun h'' he' sb => ?_⟩
    have hT2 : h''.get? s.heap.objs.size = some { cls := .type "tuple", data := .seq #[.int i tk, u] } := (sb.2 _ (Nat.ne_of_gt hel)).trans hT'
    have new : ObjOk X.prog X.w (upd H s.heap.objs.size (.tup [.int (i : Nat), x])) h'' s.heap.objs.size (.tup [.int (i : Nat), x]) :=
      ⟨by show 2 ≤ sizeLine; decide, [.int i tk, u], .cons ⟨_, rfl⟩ (.cons ru .nil), ⟨_, hT2, rfl, _, rfl⟩⟩
    have I1 : Inv X pins σ (upd H s.heap.objs.size (.tup [.int (i : Nat), x])) { s with heap := h'', toks := tk + 1 } :=
      I.turnedNew (ch := [e, it]) (fun b ob hb q => (sb.2 b (fun z => hb (by simp [z]))).trans (hk b ob (fun z => hb (by simp [z])) (fun z => hb (by simp [z])) q)) hf (Nat.le_refl _) new
    refine ⟨.ref s.heap.objs.size, _, I1, rfl, ⟨_, x, rfl, I.hok.fresh (Nat.le_refl _), rfl, fun ys hy => by rw [I.tuple_inj hy hq]; exact hx⟩, ⟨⟨u, ?_⟩, st'.1.at fun o q => (sb.2 it (Ne.symm hne)).trans q, hne⟩, fun b hb => ?_⟩
    · have e1 : ((i + 1 : Nat) : Int) = (i : Int) + 1 := by omega
      rw [e1]; exact he'
    · have hb' : b < s.heap.objs.size := by
        rcases (by simpa using hb : b = e ∨ b = it) with z | z
        · subst z; exact hel
        · subst z; exact hil
      rw [upd_ne (Nat.ne_of_lt hb')]
      exact (hf b hb).1
  done := by
    intro X hP hw hK hc i pins s σ H E I hf st hg
    subst hP hw hK
    obtain ⟨⟨old, he⟩, hit, hne⟩ := st
    obtain ⟨xs, hq, hx⟩ := hg
    obtain ⟨its, rv, p, hz⟩ := I.tuple hq
    obtain ⟨f0, f1, f2, f3, f4, f5⟩ := hf it (by simp)
    have hl := rv.length
    have hT : s.heap.IsTuple a its.toArray := p
    have hn : i = its.toArray.size := by simp; omega
    subst hn
    exact wpAny_pyNext_enum_endD (Draws.tuple (prog := X.prog) (w := X.w) (A := X.A.in1) (I.ok.hd hc) it a hai its.toArray) he ⟨hit, hT⟩ fun h' eb => ⟨rfl, I.turned (t' := s.toks) (fun b o hb q => eb b o hb q) f0 f1 f3 f4 f5⟩
  self := fun A i s Q E st h => wpAny_pyIter_enum st.1.choose_spec h
def enItems (k : Nat) : List D → List D
  | [] => []
  | d :: l => .tup [.int (k : Int), d] :: enItems (k + 1) l
theorem enItems_len : ∀ (l : List D) (k : Nat), (enItems k l).length = l.length
  | [], _ => rfl
  | d :: l, k => by simp [enItems, enItems_len l]
theorem enItems_get : ∀ (l : List D) (k i : Nat) (x : D), (enItems k l)[i]? = some x → ∃ d, l[i]? = some d ∧ x = .tup [.int ((k + i : Nat) : Int), d]
  | [], k, i, x, e => by simp [enItems] at e
  | d :: l, k, 0, x, e => ⟨d, rfl, by simpa [enItems] using e.symm⟩
  | d :: l, k, i + 1, x, e => by
    obtain ⟨d', e1, e2⟩ := enItems_get l (k + 1) i x (by simpa [enItems] using e)
    exact ⟨d', by simpa using e1, by rw [e2]; congr 3; omega⟩
section
variable {G : Gd} {ι : List Addr} {H : Hp} {μ : Mem}
theorem it_pair {i : Nat} {d : D} {x : V} {T : Addr} (r : Rel G ι H μ) (hT : H T = none) (rx : Rep G ι H d x) : Grow ι H ι (upd H T (.tup [.int (i : Nat), x])) ∧ Rel G ι (upd H T (.tup [.int (i : Nat), x])) μ ∧ Rep G ι (upd H T (.tup [.int (i : Nat), x])) (.tup [.int ((0 + i : Nat) : Int), d]) (.ref T) := by
  obtain ⟨g, r2⟩ := grow_laid (o := .tup [.int (i : Nat), x]) r hT
  refine ⟨g, r2, rep_tup (.of upd_same) (.cons ?_ (.cons (rx.ext (g.ext r)) .nil))⟩
  rw [Nat.zero_add]
  unfold Rep; rfl
theorem it_entT {a : Addr} {l : List D} {vs : List V} (rel : Rel G ι H μ) (h1 : SqT G.K H a vs) (h2 : Reps G ι H l vs) : ItOk G ι H (Ent G.K a) (enItems 0 l) (fun _ => True) := by
  have base := it_tup rel h1 h2
  have sq : ∀ {ι' : List Addr} {H' : Hp}, Grow ι H ι' H' → SqT G.K H' a vs := fun {ι' H'} g => by
    have x := g.ext rel
    rcases h1 with (h1 | ⟨o, h1⟩) | h1
    · exact .inl (.inl (x.tup _ _ h1))
    · exact .inl (.inr ⟨o, x.frz _ _ _ h1 ⟨_, .inr rfl⟩⟩)
    · exact .inr h1
  refine ⟨fun i d ι' H' μ' e g r c => ?_, fun i d ι' H' μ' v H2 e g r c ⟨T, x, e1, e2, e3, e4⟩ => ?_, fun ι' H' μ' g r c => ⟨vs, sq g, by rw [enItems_len, h2.length]⟩⟩
  · obtain ⟨d', e1, _⟩ := enItems_get l 0 i d e
    exact base.go i d' ι' H' μ' e1 g r c
  · obtain ⟨d', q1, q2⟩ := enItems_get l 0 i d e
    obtain ⟨_, _, rx⟩ := base.yld i d' ι' H' μ' x H' q1 g r c ⟨rfl, e4⟩
    subst q2 e1 e3
    exact it_pair r e2 rx
theorem it_entL {a : Addr} {l : List D} {chk : Mem → Prop} (base : ItOk G ι H (Itl G.K a) l chk) : ItOk G ι H (Ite G.K a) (enItems 0 l) chk := by
  refine ⟨fun i d ι' H' μ' e g r c => ?_, fun i d ι' H' μ' v H2 e g r c ⟨T, x, e1, e2, e3, e4⟩ => ?_, fun ι' H' μ' g r c => by rw [enItems_len]; exact base.stop ι' H' μ' g r c⟩
  · obtain ⟨d', e1, _⟩ := enItems_get l 0 i d e
    exact base.go i d' ι' H' μ' e1 g r c
  · obtain ⟨d', q1, q2⟩ := enItems_get l 0 i d e
    obtain ⟨_, _, rx⟩ := base.yld i d' ι' H' μ' x H' q1 g r c ⟨rfl, e4⟩
    subst q2 e1 e3
    exact it_pair r e2 rx
end
def enumD : List D → Mem → Res (List D × (Mem → Prop))
  | [x], μ => (itSeq x μ).bind fun p μ1 => .ok (enItems 0 p.1, p.2) μ1
  | _, _ => .stuck
@[simp] def iEnumD (a : ML) : MIt := fun ρ μ => (a ρ μ).bind fun xs μ1 => enumD xs μ1
def iEntT (K : PySem.W.Frag) (ta : TA) : TI := fun σ H R => ta σ H fun vs H1 => ∃ a xs, vs = [.ref a] ∧ SqT K H1 a xs ∧ R (Ent K a) H1
section
variable {X : Cx} {W : WX} {e : Expr} {ms : ML} {p pos tpos : Pos} {elts : List Expr} {kk : Nat}
theorem pi_entT {ta : TA} (hg : Gl X "enumerate") (hm : X.mg "enumerate" = none) (ha : PA X [e] ta) (hs : starEach [e] X.env = [(false, eval e X.env)] := by rfl) :
    PI X (.Tuple elts kk tpos) (.Call (.Name "enumerate" p) [e] [] pos) (iEntT X.K ta) := by
  refine ⟨fun pins s σ H R I h => ?_⟩
  refine Call_ (ld_blt I hg hm boot_enumerate (PyProof.Rows.callWith_type1 (thn (ha.run pos pins s σ H _ I h) fun us s1 ⟨vs, H1, I1, r1, a, xs, ex, hq, q⟩ => ?_) hs rfl))
  subst ex
  cases r1 with
  | cons r rr =>
    cases rr
    cases r
    obtain ⟨its, rv, p', hz⟩ := I1.tuple hq
    have hlt : a < s1.heap.objs.size := by obtain ⟨_, q, _⟩ := p'; exact Heap.lt_size q
    refine call_enumT (t := a) (items := its.toArray) p' fun h' he hit hsz hk => wpAny_pyIter_enum he ?_
    have I2 : Inv X pins σ H1 { s1 with heap := h' } := I1.kept (t' := s1.toks) hk
    refine ⟨s1.heap.objs.size + 1, [s1.heap.objs.size + 1, s1.heap.objs.size], _, _, H1, rfl, I2, turn_entT a (s1.heap.objs.size + 1) s1.heap.objs.size (Nat.ne_of_lt hlt) (Nat.ne_of_lt (Nat.lt_succ_of_lt hlt)), ⟨⟨.none, he⟩, hit, Nat.succ_ne_self _⟩, fun b hb => ?_, q⟩
    have hle : s1.heap.objs.size ≤ b := by
      rcases (by simpa using hb : b = s1.heap.objs.size + 1 ∨ b = s1.heap.objs.size) with z | z
      · rw [z]; exact Nat.le_add_right _ _
      · rw [z]; exact Nat.le_refl _
    exact I1.fpOk hle (I1.hok.fresh hle)
theorem si_enum (hg : Gl X "enumerate") (hm : X.mg "enumerate" = none) (ha : SA X W [e] ms) (hs : starEach [e] X.env = [(false, eval e X.env)] := by rfl) :
    SI X W (.Tuple elts kk tpos) (.Call (.Name "enumerate" p) [e] [] pos) (iEnumD ms) :=
  PI.mono (PI.or (pi_entT hg hm ha hs) (pi_enum hg hm ha hs)) fun σ H R ⟨ρ, μ, ι, env, rel, h⟩ => by
    have h := Post.bind h
    cases hm : ms ρ μ with
    | stuck => rw [hm] at h; exact h.elim
    | exc c fs m => exact .inl ⟨ρ, μ, ι, env, rel, by rw [hm] at h ⊢; exact h⟩
    | ok ds μ1 =>
      rw [hm] at h
      by_cases ht : ∃ l, ds = [.tup l]
      · obtain ⟨l, rfl⟩ := ht
        refine .inl ⟨ρ, μ, ι, env, rel, ?_⟩
        rw [hm]
        intro ι1 H1 g1 r1 vs rvs
        obtain ⟨v, rfl, rv⟩ := rvs.one
        obtain ⟨a, vs, rfl, h1, h2⟩ := rv.tup
        obtain ⟨_, _, h3⟩ := h ι1 H1 g1 r1
        exact ⟨a, vs, rfl, h1, h3 ι1 H1 .refl r1 _ (it_entT r1 h1 h2)⟩
      · refine .inr ⟨ρ, μ, ι, env, rel, ?_⟩
        rw [hm]
        intro ι1 H1 g1 r1 vs rvs
        obtain ⟨_, _, h3⟩ := h ι1 H1 g1 r1
        unfold enumD at h3
        split at h3
        · rename_i d
          obtain ⟨v, rfl, rv⟩ := rvs.one
          cases d with
          | tup l => exact (ht ⟨l, rfl⟩).elim
          | frl l =>
            obtain ⟨a, vs, rfl, h1, h2⟩ := rv.frl
            exact ⟨a, vs, rfl, FrL.sq _ _ h1, h3 ι1 H1 .refl r1 _ (it_entL (it_frl r1 h1 h2))⟩
          | ref n =>
            simp only [itSeq] at h3
            split at h3
            · rename_i l em
              obtain ⟨a, vs, rfl, h0, h1, h2⟩ := r1.lst em rv
              exact ⟨a, vs, rfl, .of h1, h3 ι1 H1 .refl r1 _ (it_entL (it_lst h0))⟩
            · exact h3.elim
          | _ => exact h3.elim
        · exact h3.elim
end
end RW

/-! SEl: a dict walked by its keys, locked meanwhile. -/
namespace RW
open PySem L2 PySem.Spec
open PyProof.Rows hiding St
/-- the keys of the locked dict of tuples at d -/
def Itx (d : Addr) (od : Obj) (φ : Heap → Prop) (ks : List Addr) : It :=
  ⟨fun i H => H d = some (.frz od (.ext φ)) ∧ i < ks.length, fun i H x H' => H' = H ∧ ∃ q, ks[i]? = some q ∧ x = .ref q, fun i H => H d = some (.frz od (.ext φ)) ∧ ks.length ≤ i⟩
section
variable {X : Cx} {pins : List (Addr × Obj)} {σ : St} {H : Hp} {s : Shared} {d : Addr} {o : Obj} {xs : List (NestedKey × Addr × Value)} {G : Gd}
theorem frzX (I : Inv X pins σ H s) (h : H d = some (.frz o (.ext (tdPhi G d xs)))) : s.heap.get? d = some o ∧ o.ExactDict ∧ ∃ (es : Array DictEntry) (ep : Nat), o.data = .dict es ep ∧ es.size = xs.length ∧ ∀ (i : Nat) (hi : i < es.size), ∃ x, xs[i]? = some x ∧ es[i].key = .ref x.2.1 := by
  obtain ⟨hd, ⟨o', es, ep, h1, h2, h3, h4⟩, _⟩ := I.hok d _ h
  rw [hd] at h1; cases h1
  have hz : es.size = xs.length := by
    have q := congrArg List.length h4
    simpa using q
  refine ⟨hd, h2, es, ep, h3, hz, fun i hi => ?_⟩
  have q := congrArg (fun l => l[i]?) h4
  simp only [List.getElem?_map] at q
  rw [show es.toList[i]? = some es[i] by simp [hi], List.getElem?_eq_getElem (by omega : i < xs.length)] at q
  refine ⟨xs[i], List.getElem?_eq_getElem (by omega), ?_⟩
  simp only [Option.map_some, Option.some.injEq] at q
  rw [q]; rfl
end
theorem turn_keysX {P : Program} {w : World} {K : PySem.W.Frag} {tg : Expr} {d : Addr} {o : Obj} {es : Array DictEntry} {ep : Nat} {G : Gd} {xs : List (NestedKey × Addr × Value)} (it : Addr) (hod : o.data = .dict es ep) :
    Turn P w K tg (Itx d o (tdPhi G d xs) (xs.map fun x => x.2.1)) [it] it (fun i h => h.IsKeyIter it d i es.size ep) where
  mem := by simp
  obj := fun i h st b hb => by
    obtain rfl : b = it := by simpa using hb
    obtain ⟨oi, e, c, dd⟩ := st
    exact ⟨oi, e, fun v z => by rw [dd] at z; cases z⟩
  keep := fun i h h' st k => st.at fun oi e => k it (by simp) oi e
  item := by
    intro X hP hw hK hc i pins s σ H E I hf st hg
    subst hP hw hK
    obtain ⟨hd, hi⟩ := hg
    obtain ⟨f0, f1, f2, f3, f4, f5⟩ := hf it (by simp)
    obtain ⟨hgd, hx, es', ep', hdt, hsz, hk⟩ := frzX I hd
    obtain ⟨rfl, rfl⟩ := dict_ep hod hdt
    rw [List.length_map] at hi
    obtain ⟨x, hx1, hx2⟩ := hk i (by omega)
    refine wpAny_pyNext_keys_item_raw st ⟨o, hgd, hx, hdt⟩ (by omega) fun h' st' sb => ?_
    have I1 : Inv X pins σ H { s with heap := h' } := I.turned (t' := s.toks) (fun b ob hb e => (sb.2 b hb).trans e) f0 f1 f3 f4 f5
    obtain ⟨oi, e, c, dd⟩ := id st'
    exact ⟨_, rfl, go_of (s := { s with heap := h' }) e c dd (by decide) ⟨.ref x.2.1, H, I1, hx2, ⟨rfl, x.2.1, by rw [List.getElem?_map, hx1]; rfl, rfl⟩, st', fun b hb => (hf b hb).1⟩⟩
  done := by
    intro X hP hw hK hc i pins s σ H E I hf st hg
    subst hP hw hK
    obtain ⟨hd, hi⟩ := hg
    obtain ⟨f0, f1, f2, f3, f4, f5⟩ := hf it (by simp)
    obtain ⟨hgd, hx, es', ep', hdt, hsz, hk⟩ := frzX I hd
    obtain ⟨rfl, rfl⟩ := dict_ep hod hdt
    rw [List.length_map] at hi
    exact wpAny_pyNext_keys_end_raw (I.ok.hd hc) st ⟨o, hgd, hx, hdt⟩ (by omega) fun h' eb => ⟨rfl, I.turned (t' := s.toks) (fun b o hb e => eb b o hb e) f0 f1 f3 f4 f5⟩
  self := fun A i s Q E st h => wpAny_pyIter_keyiter st h
def iKeysX (G : Gd) (td : TE) : TI := fun σ H R => td σ H fun x H1 => ∃ d o xs, x = .ref d ∧ (d == sysModules) = false ∧ H1 d = some (.frz o (.ext (tdPhi G d xs))) ∧ R (Itx d o (tdPhi G d xs) (xs.map fun x => x.2.1)) H1
section
variable {X : Cx} {W : WX} {tg e : Expr} {me : MD}
theorem pi_keysX {td : TE} {G : Gd} (he : PE X e td) : PI X tg e (iKeysX G td) := by
  refine ⟨fun pins s σ H R I h => thn (he.run pins s σ H _ I h) fun u s1 ⟨x, H1, I1, rx, d, o, xs, ex, hs, hd, q⟩ => ?_⟩
  subst ex
  obtain rfl : u = Value.ref d := rx
  obtain ⟨hgd, hx, es, ep, hdt, hsz, hk⟩ := frzX I1 hd
  exact wpAny_pyIter_dict_raw hs ⟨o, hgd, hx, hdt⟩ (pi_one (tk := s1.toks) I1 _ (turn_keysX (G := G) (xs := xs) _ hdt) ⟨_, Heap.get?_push_size _ rfl, rfl, rfl⟩ q)
/-! mirrors -/
def itKeys : D → Mem → Res (List D × (Mem → Prop))
  | .ref n, μ => (match μ[n]? with
    | some (.lck t l) => .ok (l.map (·.1), fun μ' => μ'[n]? = some (.lck t l)) μ
    | _ => .stuck)
  | _, _ => .stuck
@[simp] def iKeysD (a : MD) : MIt := fun ρ μ => (a ρ μ).bind fun x μ1 => itKeys x μ1
theorem it_keysK {G : Gd} {ι : List Addr} {H : Hp} {n : Nat} {a : Addr} {o : Obj} {kvs : List (Key × V)} {l : List (D × D)} (hn : ι[n]? = some a) (h : H a = some (.frz o (.dK kvs))) (hl : l.length = kvs.length) :
    ItOk G ι H (Itk a o kvs) (l.map (·.1)) (fun μ' => μ'[n]? = some (.lck false l)) := by
  have key : ∀ {ι' : List Addr} {H' : Hp} {μ' : Mem}, Grow ι H ι' H' → Rel G ι' H' μ' → μ'[n]? = some (.lck false l) → Paired (RepP G ι' H') l kvs := fun {ι' H' μ'} g r e => by
    obtain ⟨od, kvs', h1, h2⟩ := r.cell n _ a e (prefix_get g.pre hn)
    rw [g.lock a _ _ h] at h1; cases h1
    exact h2
  refine ⟨fun i d ι' H' μ' e g r c => ⟨g.lock _ _ _ h, ?_⟩, fun i d ι' H' μ' v H2 e g r c ⟨e1, k, w, e2, e3⟩ => ?_, fun ι' H' μ' g r c => ⟨g.lock _ _ _ h, by simp [hl]⟩⟩
  · have := (List.getElem?_eq_some_iff.mp e).1
    simpa [hl] using this
  · subst e1 e3
    have p := key g r c
    rw [List.getElem?_map] at e
    obtain ⟨q, e4, rfl⟩ := Option.map_eq_some_iff.mp e
    obtain ⟨b, e5, q1, q2⟩ := paired_get p e4
    rw [e2] at e5; cases e5
    exact ⟨.refl, r, by have := q1; revert this; cases q.1 <;> simp [D.key?] <;> (intro e; subst e; unfold Rep; rfl)⟩
theorem it_keysX {G : Gd} {ι : List Addr} {H : Hp} {n : Nat} {a : Addr} {o : Obj} {xs : List (NestedKey × Addr × Value)} {l : List (D × D)} {μ : Mem} (rel : Rel G ι H μ) (hn : ι[n]? = some a) (h : H a = some (.frz o (.ext (tdPhi G a xs)))) (hl : Paired (RepT G ι H) l xs) :
    ItOk G ι H (Itx a o (tdPhi G a xs) (xs.map fun x => x.2.1)) (l.map (·.1)) (fun μ' => μ'[n]? = some (.lck true l)) := by
  have hlen : l.length = xs.length := Paired.length hl
  refine ⟨fun i d ι' H' μ' e g r c => ⟨g.lock _ _ _ h, ?_⟩, fun i d ι' H' μ' v H2 e g r c ⟨e1, q, e2, e3⟩ => ?_, fun ι' H' μ' g r c => ⟨g.lock _ _ _ h, by simp [hlen]⟩⟩
  · have := (List.getElem?_eq_some_iff.mp e).1
    simpa [hlen] using this
  · subst e1 e3
    rw [List.getElem?_map] at e e2
    obtain ⟨p, e4, rfl⟩ := Option.map_eq_some_iff.mp e
    obtain ⟨b, e5, q1, q2, q3, q4⟩ := paired_get hl e4
    rw [e5] at e2; cases e2
    exact ⟨.refl, r, q3.ext (g.ext rel)⟩
theorem si_keys (he : SE X W e me) : SI X W tg e (iKeysD me) :=
  PI.mono (PI.or (pi_keysX (G := gOf X) he) (pi_keys he)) fun σ H R ⟨ρ, μ, ι, env, rel, h⟩ => by
    have h := Post.bind h
    cases hm : me ρ μ with
    | stuck => rw [hm] at h; exact h.elim
    | exc c fs m => exact .inl ⟨ρ, μ, ι, env, rel, by rw [hm] at h ⊢; exact h⟩
    | ok d μ1 =>
      rw [hm] at h
      by_cases ht : ∃ n l, d = .ref n ∧ μ1[n]? = some (.lck true l)
      · obtain ⟨n, l, rfl, em⟩ := ht
        refine .inl ⟨ρ, μ, ι, env, rel, ?_⟩
        rw [hm]
        intro ι1 H1 g1 r1 v rv
        obtain ⟨_, _, h3⟩ := h ι1 H1 g1 r1
        simp only [itKeys, em] at h3
        obtain ⟨a, h0, rfl⟩ := rv.ref
        obtain ⟨od, xs, q1, q2, q3, q4, q5⟩ := r1.cell n _ a em h0
        exact ⟨a, od, xs, rfl, q5, q1, h3 ι1 H1 .refl r1 _ (it_keysX r1 h0 q1 q2)⟩
      · refine .inr ⟨ρ, μ, ι, env, rel, ?_⟩
        rw [hm]
        intro ι1 H1 g1 r1 v rv
        obtain ⟨_, _, h3⟩ := h ι1 H1 g1 r1
        unfold itKeys at h3
        split at h3
        · rename_i n
          split at h3
          · rename_i t l em
            cases t with
            | true => exact (ht ⟨n, l, rfl, em⟩).elim
            | false =>
              obtain ⟨a, h0, rfl⟩ := rv.ref
              obtain ⟨od, kvs, q1, q2⟩ := r1.cell n _ a em h0
              exact ⟨a, od, rfl, .inl ⟨kvs, q1, h3 ι1 H1 .refl r1 _ (it_keysK h0 q1 (Paired.length q2))⟩⟩
          · exact h3.elim
        · exact h3.elim
end
/-! ### the lock -/
def lockC : Cell → Option Cell
  | .dic l => some (.lck false l)
  | .tdic l => some (.lck true l)
  | _ => none
/-- which cell slot i names, if it is to be locked -/
def toLock (i : Nat) (ρ : Rho) (μ : Mem) : Option (Nat × Cell × Cell) := match ρ[i]? with
  | some (some (.ref n)) => (match μ[n]? with
    | some c => (lockC c).map fun c' => (n, c, c')
    | none => none)
  | _ => none
def openF (n : Nat) (c : Cell) : Fl → Mem → Res Fl
  | .exc e fs ρ, μ => .ok (.exc e fs ρ) μ
  | f, μ => .ok f (μ.set n c)
@[simp] def sLock (i : Nat) (m : MS) : MS := fun ρ μ => match toLock i ρ μ with
  | some (n, c, c') => (m ρ (μ.set n c')).bind (openF n c)
  | none => m ρ μ
theorem lock_h {G : Gd} {ι : List Addr} {H : Hp} {c c' : Cell} {a : Addr} (h : CellOk G ι H a c) (e : lockC c = some c') : ∃ u, H a = some u ∧ Mut (some u) ∧ (∀ o v, u ≠ .frz o v) ∧ (∀ xs, u ≠ .tup xs) ∧ (∀ xs, u ≠ .lst xs) ∧
    (∀ od ι' H', Ext ι H ι' H' → H' a = some (.frz od u) → CellOk G ι' H' a c') ∧ ∀ ι' H', Ext ι H ι' H' → H' a = some u → CellOk G ι' H' a c := by
  cases c with
  | dic l =>
    cases e
    obtain ⟨kvs, h1, h2⟩ := h
    exact ⟨_, h1, trivial, fun _ _ z => (nomatch z), fun _ z => (nomatch z), fun _ z => (nomatch z), fun od ι' H' x q => ⟨od, kvs, q, Paired.imp' h2 fun _ _ z => ⟨z.1, z.2.ext x⟩⟩, fun ι' H' x q => ⟨kvs, q, Paired.imp' h2 fun _ _ z => ⟨z.1, z.2.ext x⟩⟩⟩
  | tdic l =>
    cases e
    obtain ⟨xs, h1, h2, h3⟩ := h
    exact ⟨_, h1, trivial, fun _ _ z => (nomatch z), fun _ z => (nomatch z), fun _ z => (nomatch z), fun od ι' H' x q => ⟨od, xs, q, Paired.imp' h2 fun _ _ z => ⟨z.1, z.2.1, z.2.2.1.ext x, let ⟨v, z1, z2⟩ := z.2.2.2; ⟨v, z1.ext x, z2⟩⟩, h3⟩,
      fun ι' H' x q => ⟨xs, q, Paired.imp' h2 fun _ _ z => ⟨z.1, z.2.1, z.2.2.1.ext x, let ⟨v, z1, z2⟩ := z.2.2.2; ⟨v, z1.ext x, z2⟩⟩, h3⟩⟩
  | _ => cases e
section
variable {G : Gd} {ι ι' : List Addr} {H H' : Hp} {μ μ' : Mem} {a : Addr} {n : Nat} {c c' : Cell} {u : HO} {od : Obj}
/-- a cell locked -/
theorem grow_lock (r : Rel G ι H μ) (em : μ[n]? = some c) (h0 : ι[n]? = some a) (hc : lockC c = some c') (hu : H a = some u) : Grow ι H ι (upd H a (.frz od u)) ∧ Rel G ι (upd H a (.frz od u)) (μ.set n c') := by
  obtain ⟨u', e, mu, n1, n2, n3, k1, k2⟩ := lock_h (r.cell n c a em h0) hc
  rw [hu] at e; cases e
  exact grow_set r h0 (fun o v z => by rw [hu] at z; cases z; exact n1 _ _ rfl) fun x => k1 od ι _ x upd_same
/-- .. and opened again -/
theorem grow_open (r : Rel G ι H μ) (em : μ[n]? = some c) (h0 : ι[n]? = some a) (hc : lockC c = some c') (hu : H a = some u) (g : Grow ι (upd H a (.frz od u)) ι' H') (r' : Rel G ι' H' μ') :
    H' a = some (.frz od u) ∧ Grow ι H ι' (upd H' a u) ∧ Rel G ι' (upd H' a u) (μ'.set n c) ∧ Ext ι' H' ι' (upd H' a u) := by
  obtain ⟨u', e, mu, n1, n2, n3, k1, k2⟩ := lock_h (r.cell n c a em h0) hc
  rw [hu] at e; cases e
  obtain ⟨gl, rl⟩ := grow_lock (od := od) r em h0 hc hu
  have e1 : H' a = some (.frz od u) := g.lock a _ _ upd_same
  have hm : a ∈ ι := List.mem_of_getElem? h0
  have h0' : ι'[n]? = some a := prefix_get g.pre h0
  have x1 : Ext ι' H' ι' (upd H' a u) := ⟨List.prefix_refl _, fun b xs z => by rw [upd_ne (fun q => by rw [q, e1] at z; cases z)]; exact z,
    fun b o v z q => by
      rw [upd_ne (fun w => ?_)]
      · exact z
      · rw [w, e1] at z
        cases z
        obtain ⟨xs, rfl | rfl⟩ := q
        · exact n3 xs rfl
        · exact n2 xs rfl⟩
  have g2 : Grow ι H ι' (upd H' a u) := by
    have gg := gl.trans g
    refine ⟨gg.pre, fun b o z na => ?_, gg.new, fun b o v z => ?_⟩
    · rw [upd_ne (fun q => na (by rw [q]; exact hm))]; exact gg.keep b o z na
    · rw [upd_ne (fun q => by rw [q, hu] at z; cases z; exact n1 _ _ rfl)]; exact gg.lock b o v z
  refine ⟨e1, g2, ⟨by simp [r'.len], r'.nd, fun i d b h1 h2 => ?_⟩, x1⟩
  have hn : n < μ'.length := by rw [← r'.len]; exact (List.getElem?_eq_some_iff.mp h0').1
  by_cases hi : n = i
  · subst hi
    rw [List.getElem?_set_self hn] at h1
    rw [h0'] at h2
    cases h1; cases h2
    exact k2 ι' _ (g2.ext r) upd_same
  · rw [List.getElem?_set_ne hi] at h1
    refine (r'.cell i d b h1 h2).ext x1 (upd_ne ?_)
    rintro rfl
    have hn' : n < ι'.length := (List.getElem?_eq_some_iff.mp h0').1
    have hi' : i < ι'.length := (List.getElem?_eq_some_iff.mp h2).1
    have e1 : ι'[n] = b := (List.getElem?_eq_some_iff.mp h0').2
    have e2 : ι'[i] = b := (List.getElem?_eq_some_iff.mp h2).2
    exact hi ((List.getElem_inj r'.nd).mp (e1.trans e2.symm))
end
theorem PS.or {X : Cx} {st : Stmt} {t t' : TS} (h : PS X st t) (h' : PS X st t') : PS X st fun D σ H => t D σ H ∨ t' D σ H := ⟨fun pins s σ H D I w => w.elim (h.run pins s σ H D I) (h'.run pins s σ H D I)⟩
theorem ss_lock {X : Cx} {W : WX} {st : Stmt} {i : Nat} {m : MS} (h : SS X W st m) : SS X W st (sLock i m) :=
  PS.mono (PS.or h (ps_lock h)) fun D σ H ⟨ρ, μ, ι, env, rel, h⟩ => by
    simp only [sLock] at h
    split at h
    · rename_i n c c' et
      refine .inr ?_
      unfold toLock at et
      split at et
      · rename_i n' er
        split at et
        · rename_i c0 em
          obtain ⟨c1, hc, e⟩ := Option.map_eq_some_iff.mp et
          cases e
          obtain ⟨v, _, rv⟩ := env.at_ i _ er
          obtain ⟨a, h0, rfl⟩ := rv.ref
          obtain ⟨u, hu, mu, _⟩ := lock_h (rel.cell _ _ a em h0) hc
          refine ⟨a, u, hu, mu, fun od => ?_⟩
          obtain ⟨gl, rl⟩ := grow_lock (od := od) rel em h0 hc hu
          refine ⟨ρ, _, ι, env.ext (gl.ext rel), rl, ?_⟩
          cases hr : m ρ (μ.set n c') with
          | stuck => rw [hr] at h; exact h.elim
          | exc e fs m => rw [hr] at h; exact h.elim
          | ok f μ2 =>
            rw [hr] at h
            intro ι2 H2 g2 r2
            obtain ⟨e1, g3, r3, x3⟩ := grow_open rel em h0 hc hu g2 r2
            cases f with
            | nx ρ' => exact fun σ' env' => ⟨e1, h ι2 _ g3 r3 σ' (env'.ext x3)⟩
            | brk ρ' => exact fun σ' env' => ⟨e1, h ι2 _ g3 r3 σ' (env'.ext x3)⟩
            | cnt ρ' => exact fun σ' env' => ⟨e1, h ι2 _ g3 r3 σ' (env'.ext x3)⟩
            | ret d => exact fun v rv => ⟨e1, h ι2 _ g3 r3 v (rv.ext x3)⟩
            | exc e fs ρ' => exact h ι2 H2 (gl.trans g2) r2
        · cases et
      · cases et
    · exact .inl ⟨ρ, μ, ι, env, rel, h⟩
end RW

/-! SEm: set(list of ints), sorted, min, max, sum, all, any, isinstance. -/
namespace RW
open PySem L2 PySem.Spec
open PyProof.Rows hiding St
/-- the object of a new set -/
abbrev oSet (w : World) : Obj := { cls := .type "set", dict := none, data := .set #[] 0 (.fresh 0 0 (!w.params.followText "set-order")) }
section
variable {P : Program} {w : World} {A : Around} {E : Value → Shared → Prop} {s : Shared}
set_option maxHeartbeats 3200000 in
theorem set_of_list {l : Addr} {us : Array Value} (ns : List Int) {Q : Value → Shared → Prop} (hh : A.handled = none) (hl : s.heap.IsList l us) (hit : IntsAre us.toList ns) (hb : ns.length + 1 < scanBound)
    (h : ∀ (h' : Heap) (tk c : Nat), SetR w h' s.heap.objs.size (fun j => decide (j ∈ ns)) c → c ≤ ns.length → (∀ b o, s.heap.get? b = some o → h'.get? b = some o) → Q (.ref s.heap.objs.size) { s with heap := h', toks := tk }) :
    wpAny (model P w) A (call (.type "set") [.ref l]) Q E s := by
  have hz : us.size = ns.length := by have q := IntsAre.length hit; rwa [Array.length_toList] at q
  obtain ⟨c, tl, hmro⟩ := F.called_set.mro
  have hA := F.called_set.made; have hB := F.called_set.sub
  refine wpAny_call (codeAny_of_tree (wpAny_pure ⟨Code.quiet_builtin _ (by decide +kernel), codeAny_builtin F.entry_type_call ?_⟩))
  rw [Around.under_plain (weight_type_call_type "set" [.ref l] []) rfl]
  have hC := F.called_set.notType; have hD := F.called_set.canCreate; have hE := F.typeCall_set_1 (.ref l)
  repeat (any_goals (first | assumption | wp_step))
  refine codeAny_mono (code_set_led1 (.ref l) (E := E) (Q₁ := fun ob t => ob = .ref s.heap.objs.size ∧ t = { s with heap := s.heap.push (oSet w) }) ⟨rfl, rfl⟩) fun r t hr => ?_
  match r, hr with
  | .error _, hr => exact hr
  | .ok (.ret ob), ⟨e1, e2⟩ =>
    subst e1 e2
    have hS : (s.heap.push (oSet w)).get? s.heap.objs.size = some (oSet w) := Heap.get?_push_size _ rfl
    have hT : Shared.TypeIs { s with heap := s.heap.push (oSet w) } (.ref s.heap.objs.size) "set" := ⟨_, hS, rfl⟩
    have hF := F.called_set.init.lookup; have hG := F.called_set.init.bind (.ref s.heap.objs.size)
    repeat (any_goals (first | assumption | wp_step))
    refine codeAny_mono (codeAny_call_builtin (R := wants (fun r t => r = .none ∧ ∃ h' tk c, t = { s with heap := h', toks := tk } ∧ SetR w h' s.heap.objs.size (fun j => decide (j ∈ ns)) c ∧ c ≤ ns.length ∧
        (∀ b o, s.heap.get? b = some o → h'.get? b = some o)) E) F.called_set.init.plain F.entry_set_init (check_set_init_1 hT ?_)) fun r₂ t₂ hr₂ => ?_
    · obtain ⟨⟨oc, od, dt, sl⟩, hol, hcl, nl, hdl⟩ := hl
      replace hcl : oc = .type "list" := hcl
      replace hdl : dt = .seq us nl := hdl
      subst hcl hdl
      have hol' : (s.heap.push (oSet w)).get? l = some { cls := .type "list", dict := od, data := .seq us nl, slots := sl } := Heap.get?_push_of_some _ hol
      have k1 := F.sub_list_set; have k2 := F.sub_list_frozenset
      have k3 : (Value.type "list" == Value.type "dict") = false := by decide
      have hl1 : (s.heap.push (oSet w)).IsList l us := ⟨_, hol', rfl, nl, rfl⟩
      unfold Builtin.«set.__init__» noKeywords Builtin.Frozenset.updateFrom
      generalize hPI : pyIter = PI
      wp_walk
      subst hPI
      refine wpAny_pyIter_list hl1 (wpAny_bind (wpAny_runValue ?_))
      have hlS : l < s.heap.objs.size := Heap.lt_size hol
      have zz : (s.heap.push (oSet w)).objs.size = s.heap.objs.size + 1 := Heap.size_push ..
      have n1 : l ≠ (s.heap.push (oSet w)).objs.size := by rw [zz]; exact Nat.ne_of_lt (Nat.lt_succ_of_lt hlS)
      have n2 : s.heap.objs.size ∉ [(s.heap.push (oSet w)).objs.size, l] := by
        rw [zz]; simp only [List.mem_cons, List.not_mem_nil, or_false, not_or]
        exact ⟨Nat.ne_of_lt (Nat.lt_succ_self _), Nat.ne_of_gt hlS⟩
      have hval : ∀ (i : Nat) (v : Value), us[i]? = some v → ∃ k t, ns[i]? = some k ∧ v = .int k t := fun i v hv => by
        have hi : i < ns.length := by rw [← hz]; exact (Array.getElem?_eq_some_iff.mp hv).1
        obtain ⟨t, e⟩ := IntsAre.int_at hit i v (by rw [Array.getElem?_toList]; exact hv)
        exact ⟨ns[i], t, List.getElem?_eq_getElem hi, by rw [e, List.getD_eq_getElem?_getD, List.getElem?_eq_getElem hi] <;> rfl⟩
      refine set_update_ints ((Walks.list (by simp [hh]) _ l n1 us).toS) s.heap.objs.size n2 ns hz hb hval (us.size - 0) 0 _ (by omega) (Nat.zero_le _) ⟨⟨_, Heap.get?_push_size _ rfl, rfl, rfl⟩, (hl1.push _)⟩ ⟨0, Nat.le_refl 0, setR_new_at (Heap.get?_push_of_some _ hS)⟩ ?_
      intro t' c' hm hc' hS'
      obtain ⟨h', g2, d', tk', os'⟩ := t'
      obtain rfl : g2 = s.gens := hm.gens
      obtain rfl : d' = s.drawn := hm.drawn
      obtain rfl : os' = s.os := hm.os
      rw [hz] at hc'
      refine wpAny_pure (wpAny_pure ⟨rfl, h', tk', c', rfl, hS', hc', fun b o e => ?_⟩)
      have lb : b < s.heap.objs.size := Heap.lt_size e
      refine hm.heap b o ?_ (Heap.get?_push_of_some _ (Heap.get?_push_of_some _ e))
      simp only [List.mem_cons, List.not_mem_nil, or_false, not_or]
      exact ⟨Nat.ne_of_lt lb, by rw [zz]; exact Nat.ne_of_lt (Nat.lt_succ_of_lt lb)⟩
    · match r₂, hr₂ with
      | .error _, hr₂ => exact hr₂
      | .ok (.ret _), ⟨e1, h', tk, c', e2, hS', hc', hk'⟩ =>
        subst e1 e2
        repeat (any_goals (first | assumption | wp_step))
        exact h _ _ _ hS' hc' hk'
end
/-! ### lists of ints -/
def toInts : List D → Option (List Int)
  | [] => some []
  | .int i :: l => (toInts l).map (i :: ·)
  | _ :: _ => none
theorem toInts_eq : ∀ {l : List D} {ns : List Int}, toInts l = some ns → l = ns.map D.int
  | [], ns, h => by cases h; rfl
  | .int i :: l, ns, h => by
    obtain ⟨r, e, rfl⟩ := Option.map_eq_some_iff.mp h
    rw [toInts_eq e]; rfl
  | .non :: _, _, h => nomatch h
  | .bl _ :: _, _, h => nomatch h
  | .str _ :: _, _, h => nomatch h
  | .tup _ :: _, _, h => nomatch h
  | .frl _ :: _, _, h => nomatch h
  | .ref _ :: _, _, h => nomatch h
  | .fn _ :: _, _, h => nomatch h
@[simp] theorem toInts_map : ∀ ns : List Int, toInts (ns.map D.int) = some ns
  | [] => rfl
  | n :: ns => by simp [toInts, toInts_map ns]
def insI (x : Int) : List Int → List Int
  | [] => [x]
  | y :: l => if x ≤ y then x :: y :: l else y :: insI x l
/-- sorted -/
def isort : List Int → List Int
  | [] => []
  | x :: l => insI x (isort l)
theorem insI_perm (x : Int) : ∀ l, (insI x l).Perm (x :: l)
  | [] => .refl _
  | y :: l => by
    unfold insI
    split
    · exact .refl _
    · exact ((insI_perm x l).cons y).trans (.swap _ _ _)
theorem isort_perm : ∀ l, (isort l).Perm l
  | [] => .refl _
  | x :: l => (insI_perm x _).trans ((isort_perm l).cons x)
theorem insI_sorted (x : Int) : ∀ l, l.Pairwise (· ≤ ·) → (insI x l).Pairwise (· ≤ ·)
  | [], _ => by simp [insI]
  | y :: l, h => by
    unfold insI
    split
    · rename_i hxy
      refine List.pairwise_cons.mpr ⟨fun z hz => ?_, h⟩
      rcases List.mem_cons.mp hz with e | hz
      · omega
      · have := (List.pairwise_cons.mp h).1 z hz; omega
    · rename_i hxy
      have hp := List.pairwise_cons.mp h
      refine List.pairwise_cons.mpr ⟨fun z hz => ?_, insI_sorted x l hp.2⟩
      rcases List.mem_cons.mp ((insI_perm x l).subset hz) with e | hz
      · omega
      · exact hp.1 z hz
theorem isort_sorted : ∀ l, (isort l).Pairwise (· ≤ ·)
  | [] => .nil
  | x :: l => insI_sorted x _ (isort_sorted l)
theorem isort_mem {x : Int} {l : List Int} : x ∈ isort l ↔ x ∈ l := (isort_perm l).mem_iff
theorem sorted_unique {l l' : List Int} (p : l.Perm l') (h : l.Pairwise (· ≤ ·)) (h' : l'.Pairwise (· ≤ ·)) : l = l' :=
  List.Perm.eq_of_pairwise (le := (· ≤ ·)) (fun a b _ _ h1 h2 => by omega) h h' p
/-- without what stands twice, sorted -/
def usort : List Int → List Int
  | [] => []
  | x :: l => if x ∈ l then usort l else insI x (usort l)
theorem usort_mem {x : Int} : ∀ {l : List Int}, x ∈ usort l ↔ x ∈ l
  | [] => Iff.rfl
  | y :: l => by
    unfold usort
    split
    · rename_i h
      rw [usort_mem (l := l), List.mem_cons]
      exact ⟨.inr, fun q => q.elim (fun e => e ▸ h) id⟩
    · rw [(insI_perm y _).mem_iff, List.mem_cons, List.mem_cons, usort_mem (l := l)]
theorem usort_sorted : ∀ l, (usort l).Pairwise (· < ·)
  | [] => .nil
  | y :: l => by
    unfold usort
    split
    · exact usort_sorted l
    · rename_i h
      have hn : (insI y (usort l)).Nodup := by
        rw [(insI_perm y _).nodup_iff, List.nodup_cons]
        exact ⟨fun q => h (usort_mem.mp q), (usort_sorted l).imp fun {a b} q e => by omega⟩
      have hs := insI_sorted y (usort l) ((usort_sorted l).imp fun {a b} q => by omega)
      exact (hs.and hn).imp fun {a b} q => by omega
theorem nodup_len {l l' : List Int} (h : l.Nodup) (h' : l'.Nodup) (e : ∀ x, x ∈ l ↔ x ∈ l') : l.length = l'.length :=
  ((List.perm_ext_iff_of_nodup h h').mpr e).length_eq
def minI : List Int → Int
  | [] => 0
  | [x] => x
  | x :: l => if minI l < x then minI l else x
def maxI : List Int → Int
  | [] => 0
  | [x] => x
  | x :: l => if x < maxI l then maxI l else x
theorem minI_spec : ∀ {l : List Int}, l ≠ [] → minI l ∈ l ∧ ∀ y ∈ l, minI l ≤ y
  | [x], _ => by simp [minI]
  | x :: y :: l, _ => by
    obtain ⟨h1, h2⟩ := minI_spec (l := y :: l) (by simp)
    rw [minI]
    · split
      · exact ⟨List.mem_cons_of_mem _ h1, fun z hz => (List.mem_cons.mp hz).elim (fun e => by omega) (h2 z)⟩
      · exact ⟨List.mem_cons_self, fun z hz => (List.mem_cons.mp hz).elim (fun e => by omega) (fun hz => by have := h2 z hz; omega)⟩
    · simp
theorem maxI_spec : ∀ {l : List Int}, l ≠ [] → maxI l ∈ l ∧ ∀ y ∈ l, y ≤ maxI l
  | [x], _ => by simp [maxI]
  | x :: y :: l, _ => by
    obtain ⟨h1, h2⟩ := maxI_spec (l := y :: l) (by simp)
    rw [maxI]
    · split
      · exact ⟨List.mem_cons_of_mem _ h1, fun z hz => (List.mem_cons.mp hz).elim (fun e => by omega) (h2 z)⟩
      · exact ⟨List.mem_cons_self, fun z hz => (List.mem_cons.mp hz).elim (fun e => by omega) (fun hz => by have := h2 z hz; omega)⟩
    · simp
/-- the ints of a list that lies in a cell, or of the script -/
def intsAt : D → Mem → Option (List Int)
  | .ref n, μ => (match μ[n]? with
    | some (.lst l) => toInts l
    | _ => none)
  | .frl l, _ => toInts l
  | _, _ => none
theorem intsAt_is {G : Gd} {ι : List Addr} {H : Hp} {μ : Mem} {d : D} {v : V} {ns : List Int} (r : Rel G ι H μ) (rv : Rep G ι H d v) (e : intsAt d μ = some ns) : ∃ a, v = .ref a ∧ SqL G.K H a (ns.map V.int) := by
  unfold intsAt at e
  split at e
  · split at e
    · rename_i l em
      obtain ⟨a, vs, rfl, h0, h1, h2⟩ := r.lst em rv
      have q := toInts_eq e
      subst q
      obtain rfl := h2.ints
      exact ⟨a, rfl, .of h1⟩
    · cases e
  · obtain ⟨a, vs, rfl, h1, h2⟩ := rv.frl
    have q := toInts_eq e
    subst q
    obtain rfl := h2.ints
    exact ⟨a, rfl, FrL.sq _ _ h1⟩
  · cases e
def minLL : List D → Mem → Res D
  | [d], μ => (match intsAt d μ with
    | some (x :: ns) => .ok (.int (minI (x :: ns))) μ
    | _ => .stuck)
  | _, _ => .stuck
def maxLL : List D → Mem → Res D
  | [d], μ => (match intsAt d μ with
    | some (x :: ns) => .ok (.int (maxI (x :: ns))) μ
    | _ => .stuck)
  | _, _ => .stuck
def sumL : List D → Mem → Res D
  | [d], μ => (match intsAt d μ with
    | some ns => .ok (.int ns.sum) μ
    | _ => .stuck)
  | _, _ => .stuck
theorem snd_minLL {G : Gd} : SndL G (rMin G.K) minLL := fun ι H μ xs vs W σ Q r rxs h => by
  unfold minLL at h
  split at h
  · split at h
    · rename_i d _ x ns e
      obtain ⟨v, rfl, rv⟩ := rxs.one
      obtain ⟨a, rfl, h1⟩ := intsAt_is r rv e
      obtain ⟨m1, m2⟩ := minI_spec (l := x :: ns) (by simp)
      refine ⟨a, x :: ns, rfl, h1, by simp, fun m q1 q2 => ?_⟩
      have e2 : m = minI (x :: ns) := by have := m2 m q1; have := q2 _ m1; omega
      subst e2
      exact h ι H .refl r _ (rep_int _)
    · exact h.elim
  · exact h.elim
theorem snd_maxLL {G : Gd} : SndL G (rMax G.K) maxLL := fun ι H μ xs vs W σ Q r rxs h => by
  unfold maxLL at h
  split at h
  · split at h
    · rename_i d _ x ns e
      obtain ⟨v, rfl, rv⟩ := rxs.one
      obtain ⟨a, rfl, h1⟩ := intsAt_is r rv e
      obtain ⟨m1, m2⟩ := maxI_spec (l := x :: ns) (by simp)
      refine ⟨a, x :: ns, rfl, h1, by simp, fun m q1 q2 => ?_⟩
      have e2 : m = maxI (x :: ns) := by have := m2 m q1; have := q2 _ m1; omega
      subst e2
      exact h ι H .refl r _ (rep_int _)
    · exact h.elim
  · exact h.elim
theorem snd_sum {G : Gd} : SndL G (rSum G.K) sumL := fun ι H μ xs vs W σ Q r rxs h => by
  unfold sumL at h
  split at h
  · split at h
    · rename_i d _ ns e
      obtain ⟨v, rfl, rv⟩ := rxs.one
      obtain ⟨a, rfl, h1⟩ := intsAt_is r rv e
      exact ⟨a, ns, rfl, h1, h ι H .refl r _ (rep_int _)⟩
    · exact h.elim
  · exact h.elim
/-! ### sets of ints, sorted -/
def setL : List D → Mem → Res D
  | [d], μ => (match intsAt d μ with
    | some ns => if ns.length ≤ 4000 then .ok (.ref μ.length) (μ ++ [.iset (usort ns)]) else .stuck
    | _ => .stuck)
  | _, _ => .stuck
def rSetOfL (G : Gd) : List V → Hp → VK → Prop := fun xs H Q => ∃ (a : Addr) (ns : List Int), xs = [.ref a] ∧ SqL G.K H a (ns.map V.int) ∧ ns.length ≤ 4000 ∧ ∀ p, H p = none → Q (.ref p) (upd H p (SetO G.w p (fun i => decide (i ∈ usort ns)) (usort ns).length))
theorem cr_setOfL {X : Cx} (hc : X.calm = true) : CallR X (.type "set") (rSetOfL (gOf X)) := by
  intro pins s σ H xs us Q I r h
  obtain ⟨a, ns, rfl, hs, h4, q⟩ := h
  obtain ⟨its, rv, hl, _⟩ := I.list hs
  rw [Vals.ref1 r]
  refine set_of_list ns (I.ok.hd hc) hl.isList (by simpa using rv.ints) (by unfold scanBound; omega) fun h' tk c R hcn hk => ?_
  have e1 : (fun j => decide (j ∈ ns)) = fun j => decide (j ∈ usort ns) := funext fun j => by rw [decide_eq_decide]; exact usort_mem.symm
  have e2 : c = (usort ns).length := by
    obtain ⟨o, es, ep, t, _, _, _, _, nd, hm, _, _, hn, _⟩ := R
    rw [← hn, ← Array.length_toList, ← List.length_map]
    refine nodup_len nd ((usort_sorted ns).imp fun {a b} q e => by omega) fun x => ?_
    rw [← hm x, usort_mem]; simp
  rw [e1, e2] at R
  exact ⟨.ref _, _, I.laid (t' := tk) hk (Nat.le_refl _) (setO_new (P := X.prog) R), rfl, q _ (I.hok.fresh (Nat.le_refl _))⟩
theorem snd_setOf {G : Gd} : SndL G (rSetOfL G) setL := fun ι H μ xs vs W σ Q r rxs h => by
  unfold setL at h
  split at h
  · split at h
    · rename_i d _ ns e
      split at h
      · rename_i h4
        obtain ⟨v, rfl, rv⟩ := rxs.one
        obtain ⟨a, rfl, h1⟩ := intsAt_is r rv e
        refine ⟨a, ns, rfl, h1, h4, fun p hp => ?_⟩
        obtain ⟨g2, r2⟩ := grow_cell (o := SetO G.w p (fun i => decide (i ∈ usort ns)) (usort ns).length) (c := .iset (usort ns)) r hp fun x => ⟨upd_same, usort_sorted ns⟩
        exact h _ _ g2 r2 (.ref p) (rep_new (r := r))
      · exact h.elim
    · exact h.elim
  · exact h.elim
def sortedL : List D → Mem → Res D
  | [d], μ => (match d with
    | .ref n => (match μ[n]? with
      | some (.iset l) => if l.length < 64 then .ok (.ref μ.length) (μ ++ [.lst (l.map D.int)]) else .stuck
      | _ => (match intsAt d μ with
        | some ns => .ok (.ref μ.length) (μ ++ [.lst ((isort ns).map D.int)])
        | none => .stuck))
    | _ => (match intsAt d μ with
      | some ns => .ok (.ref μ.length) (μ ++ [.lst ((isort ns).map D.int)])
      | none => .stuck))
  | _, _ => .stuck
def rSortedA (G : Gd) : List V → Hp → VK → Prop := fun xs H Q => rSortedI G.K xs H Q ∨ rSortedSet G.w xs H Q
theorem cr_sortedA {X : Cx} (hc : X.calm = true) : CallR X (.builtin "sorted") (rSortedA (gOf X)) := CallR.or cr_sortedI (cr_sortedSet hc)
theorem snd_sorted {G : Gd} : SndL G (rSortedA G) sortedL := fun ι H μ xs vs W σ Q r rxs h => by
  have key : ∀ {d : D} {ns : List Int}, xs = [d] → intsAt d μ = some ns → Post G ι H W σ (.ok (D.ref μ.length) (μ ++ [.lst ((isort ns).map D.int)])) (fun ι' H' _ d => ∀ v, Rep G ι' H' d v → Q v H') → rSortedA G vs H Q := fun {d ns} ex e k => by
    subst ex
    obtain ⟨v, rfl, rv⟩ := rxs.one
    obtain ⟨a, rfl, h1⟩ := intsAt_is r rv e
    refine .inl ⟨a, ns, rfl, h1, fun ns' p hp hs => ?_⟩
    obtain rfl : ns' = isort ns := sorted_unique (hp.trans (isort_perm ns).symm) hs (isort_sorted ns)
    exact new_lst r (.of_ints _) k p
  unfold sortedL at h
  split at h
  · rename_i d
    split at h
    · rename_i n
      split at h
      · rename_i l em
        split at h
        · rename_i h6
          obtain ⟨v, rfl, rv⟩ := rxs.one
          obtain ⟨a, h0, rfl⟩ := rv.ref
          obtain ⟨h1, h2⟩ := r.cell n _ a em h0
          refine .inr ⟨a, _, _, rfl, h1, h6, fun ns p hs hm hl hp => ?_⟩
          have e : ns = l := by
            have nd : ∀ {l : List Int}, l.Pairwise (· < ·) → l.Nodup := fun h => h.imp fun {a b} q e => by omega
            refine sorted_unique ((List.perm_ext_iff_of_nodup (nd hs) (nd h2)).mpr fun x => ?_) (hs.imp fun {a b} q => by omega) (h2.imp fun {a b} q => by omega)
            rw [hm]; simp
          subst e
          exact new_lst r (.of_ints _) h p hp
        · exact h.elim
      · split at h
        · rename_i e; exact key rfl e h
        · exact h.elim
    · split at h
      · rename_i e; exact key rfl e h
      · exact h.elim
  · exact h.elim
end RW

/-! SEn: isinstance, all, any. -/
namespace RW
open PySem L2
def tyD : D → Mem → Option String
  | .non, _ => some "NoneType"
  | .bl _, _ => some "bool"
  | .int _, _ => some "int"
  | .str _, _ => some "str"
  | .tup _, _ => some "tuple"
  | .frl _, _ => some "list"
  | .ref n, μ => (match μ[n]? with
    | some (.lst _) => some "list"
    | some (.dic _) => some "dict"
    | some (.lck false _) => some "dict"
    | _ => none)
  | .fn _, _ => none
/-- a kind of one of the types below -/
def subT (a b : String) : Bool := a == b || (a == "bool" && b == "int")
def isT1 (c : String) : D → Mem → Res D := fun d μ => match tyD d μ with
  | some t => .ok (.bl (subT t c)) μ
  | none => .stuck
def isT2 (c c2 : String) : D → Mem → Res D := fun d μ => match tyD d μ with
  | some t => .ok (.bl (subT t c || subT t c2)) μ
  | none => .stuck
theorem kitB_tab : (["NoneType", "bool", "int", "str", "tuple", "list", "dict"].all fun a => ["bool", "int", "str", "tuple", "list", "dict"].all fun b => kitB a b == some (subT a b)) = true := by decide +kernel
theorem kitB_is {d : D} {μ : Mem} {t c : String} (h : tyD d μ = some t) (hc : c ∈ ["bool", "int", "str", "tuple", "list", "dict"]) : kitB t c = some (subT t c) := by
  have q := kitB_tab
  rw [List.all_eq_true] at q
  have ht : t ∈ ["NoneType", "bool", "int", "str", "tuple", "list", "dict"] := by
    unfold tyD at h
    split at h <;> first | (cases h; simp; done) | (split at h <;> first | (cases h; simp; done) | cases h) | cases h
  have q2 := q t ht
  rw [List.all_eq_true] at q2
  exact eq_of_beq (q2 c hc)
theorem tyX_of {G : Gd} {ι : List Addr} {H : Hp} {μ : Mem} {d : D} {v : V} {t : String} (r : Rel G ι H μ) (rv : Rep G ι H d v) (h : tyD d μ = some t) : TyX G.K H v (.type t) := by
  cases d with
  | non => cases h; rw [rv.non]; exact .base .non
  | bl b => cases h; rw [rv.bl]; exact .base (.bl b)
  | int i => cases h; rw [rv.int]; exact .base (.int i)
  | str x => cases h; rw [rv.str]; exact .base (.str x)
  | tup l =>
    cases h
    obtain ⟨a, vs, rfl, h1, _⟩ := rv.tup
    rcases h1 with (h1 | ⟨o, h1⟩) | ⟨o, its, n, h1, h2, _⟩
    · exact .base (.tup h1)
    · exact .fTuple h1
    · exact .kTuple h1 h2
  | frl l =>
    cases h
    obtain ⟨a, vs, rfl, h1, _⟩ := rv.frl
    rcases h1 with ⟨o, h1⟩ | ⟨o, its, n, h1, h2, _⟩
    · exact .base (.frz h1)
    · exact .kList h1 h2
  | fn x => cases h
  | ref n =>
    obtain ⟨a, h0, rfl⟩ := rv.ref
    simp only [tyD] at h
    split at h
    · rename_i l em
      cases h
      obtain ⟨vs, h1, _⟩ := r.cell n _ a em h0
      exact .base (.lst h1)
    · rename_i l em
      cases h
      obtain ⟨vs, h1, _⟩ := r.cell n _ a em h0
      exact .base (.dK h1)
    · rename_i l em
      cases h
      obtain ⟨o, vs, h1, _⟩ := r.cell n _ a em h0
      exact .fDict h1
    · cases h
section
variable {X : Cx} {W : WX} {e : Expr} {me : MD} {p p1 p2 tp pos : Pos} {c c2 : Str} {k : Nat}
theorem se_isi1 {t : String} (hg : Gl X "isinstance") (hm : X.mg "isinstance" = none) (he : SE X W e me) (hgc : Gl X c) (hmc : X.mg c = none) (hv : bootBuiltins c = some (.type t)) (ht : t ∈ ["bool", "int", "str", "tuple", "list", "dict"]) (hn : c ≠ "__name__" := by decide) (hd : (c == ("__debug__" : Str)) = false := by decide)
    (h1 : starEach [e, .Name c p1] X.env = (false, eval e X.env) :: starEach [.Name c p1] X.env := by rfl) (h2 : starEach [.Name c p1] X.env = (false, eval (.Name c p1) X.env) :: starEach [] X.env := by rfl)
    (hpl : (backTo pos (starEach [.Name c p1] X.env)).any (·.1) = false := by rfl) : SE X W (.Call (.Name "isinstance" p) [e, .Name c p1] [] pos) (mUn (isT1 t) me) :=
  PE.mono (pe_callB call_isi hg hm PyProof.Rows.boot_isinstance (pa_cons he (pa_cons (pe_bltn (v := .ty t) hgc hmc hv rfl hn hd) pa_nil h2) h1) (by decide) (by decide) h1 hpl) fun σ H Q ⟨ρ, μ, ι, env, rel, h⟩ =>
    ⟨ρ, μ, ι, env, rel, (Post.bind h).imp fun ι1 H1 μ1 x _ _ ⟨g1, r1, h1⟩ v rv => by
      simp only [isT1] at h1
      split at h1
      · rename_i t' et
        exact ⟨v, .ty t, _, _, _, rfl, .ty t, tyX_of r1 rv et, kit_ty (kitB_is et ht), h1 ι1 H1 .refl r1 _ (rep_bl _)⟩
      · exact h1.elim⟩
theorem se_isi2 {t t2 : String} (hg : Gl X "isinstance") (hm : X.mg "isinstance" = none) (he : SE X W e me) (hgc : Gl X c) (hmc : X.mg c = none) (hv : bootBuiltins c = some (.type t)) (ht : t ∈ ["bool", "int", "str", "tuple", "list", "dict"])
    (hgd : Gl X c2) (hmd : X.mg c2 = none) (hv2 : bootBuiltins c2 = some (.type t2)) (ht2 : t2 ∈ ["bool", "int", "str", "tuple", "list", "dict"]) (hn : c ≠ "__name__" := by decide) (hd : (c == ("__debug__" : Str)) = false := by decide) (hn2 : c2 ≠ "__name__" := by decide) (hd2 : (c2 == ("__debug__" : Str)) = false := by decide)
    (h1 : starEach [e, .Tuple [.Name c p1, .Name c2 p2] k tp] X.env = (false, eval e X.env) :: starEach [.Tuple [.Name c p1, .Name c2 p2] k tp] X.env := by rfl)
    (h2 : starEach [.Tuple [.Name c p1, .Name c2 p2] k tp] X.env = (false, eval (.Tuple [.Name c p1, .Name c2 p2] k tp) X.env) :: starEach [] X.env := by rfl)
    (h3 : starEach [.Name c p1, .Name c2 p2] X.env = (false, eval (.Name c p1) X.env) :: starEach [.Name c2 p2] X.env := by rfl) (h4 : starEach [.Name c2 p2] X.env = (false, eval (.Name c2 p2) X.env) :: starEach [] X.env := by rfl)
    (hpl : (backTo pos (starEach [.Tuple [.Name c p1, .Name c2 p2] k tp] X.env)).any (·.1) = false := by rfl) : SE X W (.Call (.Name "isinstance" p) [e, .Tuple [.Name c p1, .Name c2 p2] k tp] [] pos) (mUn (isT2 t t2) me) :=
  PE.mono (pe_callB call_isiT hg hm PyProof.Rows.boot_isinstance (pa_cons he (pa_cons (pe_tup (pa_cons (pe_bltn (v := .ty t) hgc hmc hv rfl hn hd) (pa_cons (pe_bltn (v := .ty t2) hgd hmd hv2 rfl hn2 hd2) pa_nil h4) h3)) pa_nil h2) h1) (by decide) (by decide) h1 hpl) fun σ H Q ⟨ρ, μ, ι, env, rel, h⟩ =>
    ⟨ρ, μ, ι, env, rel, (Post.bind h).imp fun ι1 H1 μ1 x _ _ ⟨g1, r1, h1⟩ v rv => by
      simp only [isT2] at h1
      split at h1
      · rename_i t' et
        refine ⟨by show 2 ≤ sizeLine; decide, fun q hq => ?_⟩
        obtain ⟨g2, r2⟩ := grow_laid (o := .tup [.ty t, .ty t2]) r1 hq
        refine ⟨v, q, _, .type t', [.type t, .type t2], subT t' t || subT t' t2, rfl, upd_same, .cons (.ty t) (.cons (.ty t2) .nil), tyX_of r2 (rv.ext (g2.ext r1)) et, ?_, h1 ι1 _ g2 r2 _ (rep_bl _)⟩
        refine kitAny_cons (kit_ty (kitB_is et ht)) (fun e => ?_) (fun e => by rw [e]; rfl)
        refine kitAny_cons (kit_ty (kitB_is et ht2)) (fun e2 => ?_) (fun e2 => by rw [e2, Bool.or_true])
        rw [e, e2]; rfl
      · exact h1.elim⟩
end
end RW

/-! SEo: what a law's own text needs: defs together, the law's promise. -/
namespace RW
open PySem L2
def iaddD : D → D → Mem → Res D
  | .int i, .int j, μ => .ok (.int (i + j)) μ
  | _, _, _ => .stuck
theorem snd_iadd {G : Gd} : Snd2 G (rI0 fun i j => .int (i + j)) iaddD := snd_int fun x y μ => by cases x <;> cases y <;> rfl
def stuckS : Sem := fun _ _ => .stuck
/-- as s, where it doesn't raise -/
def noX (s : Sem) : Sem := fun ds μ => match s ds μ with
  | .ok d m => .ok d m
  | _ => .stuck
section
variable {P : Program} {w : World} {K : PySem.W.Frag} {mg : Str → Option Value} {base : Heap} {f : Addr} {fd : FuncData} {ps : List Str} {k n : Nat} {sem : Sem} {x c : Str}
theorem fn_stuck (h : ps.length = n) : FnG P w K mg base (L2.CX P w) k f fd ps (spM ⟨P, w, K, mg⟩ n stuckS) :=
  ⟨fun vs H Q E q => (spM_len q).trans h.symm, fun A outer s H args us vs Q E hr he hb hv ⟨ds, μ, ι, _, _, _, q⟩ => q.elim⟩
theorem fn_noX (F : FnG P w K mg base (L2.CX P w) k f fd ps (spM ⟨P, w, K, mg⟩ n sem)) : FnG P w K mg base (L2.CX P w) k f fd ps (spM ⟨P, w, K, mg⟩ n (noX sem)) :=
  F.less fun vs H Q E ⟨ds, μ, ι, h1, h2, h3, h4⟩ => ⟨ds, μ, ι, h1, h2, h3, by
    unfold noX at h4
    split at h4
    · rename_i e; rw [e]; exact h4
    · exact h4.elim⟩
theorem noX_noX (ds : List D) (μ : Mem) : (∃ d m, noX sem ds μ = .ok d m) ∨ noX sem ds μ = .stuck := by
  unfold noX
  split
  · exact .inl ⟨_, _, rfl⟩
  · exact .inr rfl
/-- a class with an own __init__ of n arguments -/
def Mks (G : Gd) (base : Heap) (c : Str) (k n : Nat) (sem : Sem) : Prop := ∃ (C f : Addr) (fd : FuncData) (ps : List Str), G.mg c = some (.ref C) ∧ Mk G.K C f ∧ Binds G.K fd ps [] ∧ FnG G.P G.w G.K G.mg base (L2.CX G.P G.w) k f fd ps (spM G (n + 1) (noX sem))
theorem Fn.le {G : Gd} {j : Nat} (F : Fn G base x j n sem) (h : j ≤ k) : Fn G base x k n sem := by
  obtain ⟨f, fd, ps, h1, h2, h3, h4⟩ := F
  exact ⟨f, fd, ps, h1, h2, h3, h4.le h⟩
end
section
variable {X : Cx} {W : WX} {k n j : Nat} {sem : Sem} {c : Str} {p pos : Pos} {e : Expr} {es : List Expr} {ms : ML}
theorem se_mks (M : Mks (gOf X) X.base c j n sem) (hr : RoomG k X.A) (hj : j + 1 ≤ k) (hg : Gl X c) (ha : SA X W (e :: es) ms) (hn : ∀ ρ μ ds μ', ms ρ μ = .ok ds μ' → ds.length = n) (hdb : (c == ("__debug__" : Str)) = false := by decide)
    (he : starEach (e :: es) X.env = (false, eval e X.env) :: starEach es X.env := by rfl) (hpl : (backTo pos (starEach es X.env)).any (·.1) = false := by rfl) : SE X W (.Call (.Name c p) (e :: es) [] pos) (mMake c (noX sem) ms) := by
  obtain ⟨C, f, fd, ps, h1, h2, h3, h4⟩ := M
  exact se_make h2 h4 hr hj hg h1 h3 noX_noX ha hn hdb he hpl
theorem se_stuck {e : Expr} : SE X W e (fun _ _ => .stuck) := ⟨fun pins s σ H Q I ⟨ρ, μ, ι, env, rel, h⟩ => h.elim⟩
theorem ss_stuck {st : Stmt} : SS X W st (fun _ _ => .stuck) := ⟨fun pins s σ H D I ⟨ρ, μ, ι, env, rel, h⟩ => h.elim⟩
end
/-- a list that nobody changes, by the written part alone -/
def FrL0 (K : PySem.W.Frag) (H : Hp) (a : Addr) (vs : List V) : Prop := (∃ o, H a = some (.frz o (.lst vs))) ∨
  ∃ (o : Obj) (its : Array Value) (n : Nat), K.lookup a = some o ∧ o.cls = .type "list" ∧ o.dict = none ∧ o.data = .seq its n ∧ its.size ≤ sizeLine ∧ Vals vs its.toList
/-- the law's own promise -/
def spLaw (K : PySem.W.Frag) : Sp := fun vs H Q _ => ∃ (a : Addr) (ns : List Int), vs = [.ref a] ∧ FrL0 K H a (ns.map V.int) ∧ ns.length ≤ 63 ∧ ∀ H', Q (.bl true) H'
theorem law_sp {G : Gd} {m : Sem} (h : ∀ ns : List Int, ns.length ≤ 63 → ∃ μ, m [.frl (ns.map D.int)] [] = .ok (.bl true) μ) {vs : List V} {H : Hp} {Q : VK} {E : XK} (q : spLaw G.K vs H Q E) : spM G 1 m vs H Q E := by
  obtain ⟨a, ns, rfl, h1, h2, h3⟩ := q
  obtain ⟨μ, e⟩ := h ns h2
  refine ⟨[.frl (ns.map D.int)], [], [], .cons ?_ .nil, rfl, ⟨rfl, List.nodup_nil, fun i c a e _ => by simp at e⟩, ?_⟩
  · unfold Rep
    exact ⟨a, _, rfl, h1, .of_ints ns⟩
  · rw [e]
    intro ι' H' g r v rv
    rw [rv.bl]
    exact h3 H'
theorem only_frl {K : PySem.W.Frag} {H : Hp} {a : Addr} {vs : List V} (o : Only H) (h : SqL K H a vs) : FrL0 K H a vs := by
  rcases h with (h | ⟨od, h⟩) | h
  · rcases o a with z | ⟨od, xs, z⟩
    · rw [h] at z; cases z
    · rw [h] at z; cases z
  · exact .inl ⟨od, h⟩
  · exact .inr h
end RW

/-! SEp: plain laws of mirrors. -/
namespace RW
open PySem L2
/-- r ends well, with P -/
def Ok {α : Type} (r : Res α) (P : α → Mem → Prop) : Prop := ∃ a μ, r = .ok a μ ∧ P a μ
section
variable {α β : Type} {r : Res α} {P P' : α → Mem → Prop} {Q : β → Mem → Prop} {f : α → Mem → Res β}
theorem Ok.mk {a : α} {μ : Mem} (e : r = .ok a μ) (h : P a μ) : Ok r P := ⟨a, μ, e, h⟩
theorem Ok.pure {a : α} {μ : Mem} (h : P a μ) : Ok (.ok a μ) P := ⟨a, μ, rfl, h⟩
theorem Ok.imp (h : Ok r P) (k : ∀ a μ, P a μ → P' a μ) : Ok r P' := let ⟨a, μ, e, p⟩ := h; ⟨a, μ, e, k a μ p⟩
theorem Ok.bind (h : Ok r P) (k : ∀ a μ, P a μ → Ok (f a μ) Q) : Ok (r.bind f) Q := by
  obtain ⟨a, μ, e, p⟩ := h
  subst e
  exact k a μ p
theorem Ok.pureE (h : Ok r P) (k : ∀ a μ, P a μ → Ok (f a μ) Q) : Ok (pureE r f) Q := by
  obtain ⟨a, μ, e, p⟩ := h
  subst e
  exact k a μ p
theorem Ok.onE {ρ : Rho} {f : α → Mem → Res Fl} {Q : Fl → Mem → Prop} (h : Ok r P) (k : ∀ a μ, P a μ → Ok (f a μ) Q) : Ok (onE r ρ f) Q := by
  obtain ⟨a, μ, e, p⟩ := h
  subst e
  exact k a μ p
end
/-! ### memory -/
/-- but for ex, the cells there were stay -/
def Keep (ex : List Nat) (μ μ' : Mem) : Prop := μ.length ≤ μ'.length ∧ ∀ i, i < μ.length → i ∉ ex → μ'[i]? = μ[i]?
section
variable {ex ex' : List Nat} {μ μ' μ2 : Mem} {i n : Nat} {c : Cell}
theorem Keep.refl : Keep ex μ μ := ⟨Nat.le_refl _, fun _ _ _ => rfl⟩
theorem Keep.trans (h : Keep ex μ μ') (h' : Keep ex μ' μ2) : Keep ex μ μ2 :=
  ⟨Nat.le_trans h.1 h'.1, fun i hi hn => (h'.2 i (Nat.lt_of_lt_of_le hi h.1) hn).trans (h.2 i hi hn)⟩
theorem Keep.mono (h : Keep ex μ μ') (s : ∀ i ∈ ex, i ∈ ex' ∨ μ.length ≤ i) : Keep ex' μ μ' :=
  ⟨h.1, fun i hi hn => h.2 i hi fun z => (s i z).elim hn fun q => by omega⟩
theorem at_lt (h : μ[i]? = some c) : i < μ.length := (List.getElem?_eq_some_iff.mp h).1
theorem Keep.get (h : Keep ex μ μ') (e : μ[i]? = some c) (hn : i ∉ ex) : μ'[i]? = some c := (h.2 i (at_lt e) hn).trans e
theorem Keep.app {cs : List Cell} : Keep ex μ (μ ++ cs) := ⟨by simp, fun i hi _ => List.getElem?_append_left hi⟩
theorem Keep.set (h : n ∈ ex) : Keep ex μ (μ.set n c) := ⟨by simp, fun i hi hn => List.getElem?_set_ne (by rintro rfl; exact hn h)⟩
theorem app_at {cs : List Cell} (e : μ[i]? = some c) : (μ ++ cs)[i]? = some c := (List.getElem?_append_left (at_lt e)).trans e
theorem app_new : (μ ++ [c])[μ.length]? = some c := by simp
theorem set_at (e : n < μ.length) : (μ.set n c)[n]? = some c := List.getElem?_set_self e
theorem set_ne' (h : n ≠ i) : (μ.set n c)[i]? = μ[i]? := List.getElem?_set_ne h
end
/-! ### a[i], a[i] = x -/
section
variable {μ : Mem} {n : Nat} {l : List D} {i : Int} {d x : D}
theorem ixN_pos {k : Nat} (h0 : 0 ≤ i) (h1 : i < k) : ixN k i = some i.toNat := by unfold ixN; rw [if_pos h0, if_pos h1]
theorem atI_pos {α : Type} {l : List α} {d : α} (h0 : 0 ≤ i) (e : l[i.toNat]? = some d) : atI l i = some d := by
  have h1 := (List.getElem?_eq_some_iff.mp e).1
  unfold atI
  rw [ixN_pos h0 (by omega)]
  exact e
theorem ix_lst (h : μ[n]? = some (.lst l)) (h0 : 0 ≤ i) (e : l[i.toNat]? = some d) : idxA (.ref n) (.int i) μ = .ok d μ := by
  simp only [idxA, h, idxD, atI_pos h0 e]
theorem ix_tup (h0 : 0 ≤ i) (e : l[i.toNat]? = some d) : idxA (.tup l) (.int i) μ = .ok d μ := by
  simp only [idxA, idxD, atI_pos h0 e]
theorem set_lst' (h : μ[n]? = some (.lst l)) (h0 : 0 ≤ i) (h1 : i < l.length) : setDD (.ref n) (.int i) d μ = .ok () (μ.set n (.lst (l.set i.toNat d))) := by
  simp only [setDD, h, setLD, ixN_pos h0 h1]
end
/-! ### loops -/
theorem forL_ok {chk : Mem → Prop} {g : MG} {body : MS} : ∀ (items : List D) (I : Nat → Rho → Mem → Prop) (k : Nat) {ρ : Rho} {μ : Mem}, I k ρ μ →
    (∀ i ρ μ, I i ρ μ → chk μ) → (∀ i d ρ μ, items[i]? = some d → I (k + i) ρ μ → Ok (g d ρ μ) fun ρ1 μ1 => Ok (body ρ1 μ1) fun f μ2 => ∃ ρ2, (f = .nx ρ2 ∨ f = .cnt ρ2) ∧ I (k + i + 1) ρ2 μ2) →
    Ok (forL chk g body items ρ μ) fun f μ' => ∃ ρ', f = .nx ρ' ∧ I (k + items.length) ρ' μ'
  | [], I, k, ρ, μ, h0, hc, hs => by
    unfold forL
    rw [if_pos (hc _ _ _ h0)]
    exact .pure ⟨ρ, rfl, h0⟩
  | d :: ds, I, k, ρ, μ, h0, hc, hs => by
    unfold forL
    rw [if_pos (hc _ _ _ h0)]
    refine (hs 0 d ρ μ rfl h0).pureE fun ρ1 μ1 h1 => h1.bind fun f μ2 ⟨ρ2, hf, h2⟩ => ?_
    have ih := forL_ok ds I (k + 1) h2 hc fun i d ρ μ e h => by
      have := hs (i + 1) d ρ μ (by simpa using e) (by rw [show k + (i + 1) = k + 1 + i by omega]; exact h)
      rw [show k + (i + 1) + 1 = k + 1 + i + 1 by omega] at this
      exact this
    rw [show k + 1 + ds.length = k + (d :: ds).length by simp; omega] at ih
    rcases hf with rfl | rfl
    · exact ih
    · exact ih
/-- as forL_ok, where the body may return -/
theorem compL_ok {chk : Mem → Prop} {g : MG} {tt : MB} {te : MD} {ρ0 : Rho} : ∀ (items : List D) (I : Nat → List D → Mem → Prop) (k : Nat) {acc : List D} {μ : Mem}, I k acc μ →
    (∀ i acc μ, I i acc μ → chk μ) →
    (∀ i d acc μ, items[i]? = some d → I (k + i) acc μ → Ok (g d ρ0 μ) fun ρ1 μ1 => Ok (tt ρ1 μ1) fun b μ2 => if b = true then (acc.length < sizeLine ∧ Ok (te ρ1 μ2) fun y μ3 => I (k + i + 1) (acc ++ [y]) μ3) else I (k + i + 1) acc μ2) →
    Ok (compL chk g tt te ρ0 items acc μ) fun l μ' => I (k + items.length) l μ'
  | [], I, k, acc, μ, h0, hc, hs => by
    unfold compL
    rw [if_pos (hc _ _ _ h0)]
    exact .pure h0
  | d :: ds, I, k, acc, μ, h0, hc, hs => by
    unfold compL
    rw [if_pos (hc _ _ _ h0)]
    have step : ∀ {acc μ}, I (k + 1) acc μ → Ok (compL chk g tt te ρ0 ds acc μ) fun l μ' => I (k + (d :: ds).length) l μ' := fun {acc μ} h => by
      have ih := compL_ok ds I (k + 1) h hc fun i d acc μ e h => by
        have := hs (i + 1) d acc μ (by simpa using e) (by rw [show k + (i + 1) = k + 1 + i by omega]; exact h)
        rw [show k + (i + 1) + 1 = k + 1 + i + 1 by omega] at this
        exact this
      rw [show k + 1 + ds.length = k + (d :: ds).length by simp; omega] at ih
      exact ih
    refine (hs 0 d acc μ rfl h0).pureE fun ρ1 μ1 h1 => h1.pureE fun b μ2 h2 => ?_
    cases b with
    | false =>
      rw [if_neg (by simp)] at h2
      simp only [Bool.false_eq_true, if_false]
      exact step h2
    | true =>
      rw [if_pos rfl] at h2
      simp only [if_true]
      refine h2.2.pureE fun y μ3 h3 => ?_
      rw [if_pos h2.1]
      exact step h3
theorem whileL_ok {c : MB} {body : MS} (I : Nat → Rho → Mem → Prop) : ∀ (m : Nat) {n : Nat} {ρ : Rho} {μ : Mem}, m < n → I m ρ μ → (R : Rho → Mem → Prop) →
    (∀ m ρ μ, I m ρ μ → Ok (c ρ μ) fun b μ1 => if b = true then Ok (body ρ μ1) fun f μ2 => ∃ ρ2 m2, (f = .nx ρ2 ∨ f = .cnt ρ2) ∧ m2 < m ∧ I m2 ρ2 μ2 else R ρ μ1) →
    Ok (whileL c body n ρ μ) fun f μ' => ∃ ρ', f = .nx ρ' ∧ R ρ' μ'
  | m, 0, ρ, μ, hm, h0, R, hs => by omega
  | m, n + 1, ρ, μ, hm, h0, R, hs => by
    unfold whileL
    refine (hs m ρ μ h0).onE fun b μ1 h1 => ?_
    cases b with
    | false =>
      rw [if_neg (by simp)] at h1
      exact .pure ⟨ρ, rfl, h1⟩
    | true =>
      rw [if_pos rfl] at h1
      simp only [if_true]
      refine h1.bind fun f μ2 ⟨ρ2, m2, hf, hlt, h2⟩ => ?_
      have ih := whileL_ok (c := c) (body := body) I m2 (n := n) (by omega) h2 R hs
      rcases hf with rfl | rfl
      · exact ih
      · exact ih
  termination_by _ n => n
/-! ### a def -/
theorem run_ret {n : Nat} {m : MS} {ds : List D} {μ : Mem} {P : D → Mem → Prop} (h : Ok (m (startR n ds) μ) fun f μ' => ∃ d, f = .ret d ∧ P d μ') : Ok (runB n m ds μ) P := by
  unfold runB
  refine h.pureE fun f μ' ⟨d, e, p⟩ => ?_
  subst e
  exact .pure p
end RW
namespace RW
open PySem L2
section
variable {ρ : Rho} {μ μ1 : Mem} {d : D} {e : MD} {a b : MS} {i : Nat} {g : MG} {c : MB} {t : Bool}
theorem seq_set (h : e ρ μ = .ok d μ1) : sSeq (sSet i e) b ρ μ = b (ρ.set i (some d)) μ1 := by simp [h]
theorem seq_asg {ρ2 : Rho} {μ2 : Mem} (h : e ρ μ = .ok d μ1) (h2 : g d ρ μ1 = .ok ρ2 μ2) : sSeq (sAsg e g) b ρ μ = b ρ2 μ2 := by simp [h, h2]
theorem seq_expr (h : e ρ μ = .ok d μ1) : sSeq (sExpr e) b ρ μ = b ρ μ1 := by simp [h]
theorem seq_skip {a' : MS} (h : c ρ μ = .ok false μ1) : sSeq (sIf c a' sNil) b ρ μ = b ρ μ1 := by simp [h]
theorem if_t (h : c ρ μ = .ok true μ1) : sIf c a b ρ μ = a ρ μ1 := by simp [h]
theorem if_f (h : c ρ μ = .ok false μ1) : sIf c a b ρ μ = b ρ μ1 := by simp [h]
theorem ret_is (h : e ρ μ = .ok d μ1) : sRet e ρ μ = .ok (.ret d) μ1 := by simp [h]
theorem seq_ret {m : MS} {d : D} (h : m ρ μ = .ok (.ret d) μ1) : sSeq m b ρ μ = .ok (.ret d) μ1 := by simp [h]
theorem Ok.seq {P : Fl → Mem → Prop} (h : Ok (a ρ μ) fun f μ1 => ∃ ρ1, f = .nx ρ1 ∧ Ok (b ρ1 μ1) P) : Ok (sSeq a b ρ μ) P := by
  obtain ⟨f, μ1, e, ρ1, rfl, h2⟩ := h
  simp only [sSeq, e, Res.bind, thenS]
  exact h2
end
theorem run_is {n : Nat} {m : MS} {ds : List D} {μ μ1 : Mem} {d : D} (h : m (startR n ds) μ = .ok (.ret d) μ1) : runB n m ds μ = .ok d μ1 := by
  simp [runB, h]
theorem mul_ok {i j : Int} {μ : Mem} (h : i.natAbs < 18446744073709551616 ∨ j.natAbs < 18446744073709551616) : mulD (.int i) (.int j) μ = .ok (.int (i * j)) μ := by simp only [mulD, if_pos h]
theorem mod_ok {i j : Int} {μ : Mem} (h : 0 < j) : modD (.int i) (.int j) μ = .ok (.int (i % j)) μ := by simp only [modD, if_pos h]
theorem fdiv_ok {i j : Int} {μ : Mem} (h : 0 < j) (h2 : j < 18446744073709551616) : fdivD (.int i) (.int j) μ = .ok (.int (i / j)) μ := by simp only [fdivD, if_pos (And.intro h h2)]
theorem add_ok {i j : Int} {μ : Mem} : addD (.int i) (.int j) μ = .ok (.int (i + j)) μ := rfl
theorem mod_rng {i j : Int} (h : 0 < j) : 0 ≤ i % j ∧ i % j < j := ⟨Int.emod_nonneg _ (by omega), Int.emod_lt_of_pos _ h⟩
end RW
namespace RW
open PySem L2
theorem seq_run {ρ ρ' : Rho} {μ μ' : Mem} {m b : MS} (h : m ρ μ = .ok (.nx ρ') μ') : sSeq m b ρ μ = b ρ' μ' := by simp [h]
theorem set_is {ρ : Rho} {μ μ' : Mem} {i : Nat} {e : MD} {d : D} (h : e ρ μ = .ok d μ') : sSet i e ρ μ = .ok (.nx (ρ.set i (some d))) μ' := by simp [h]
theorem catL_ok {μ : Mem} {n m : Nat} {a b : List D} (h1 : μ[n]? = some (.lst a)) (h2 : μ[m]? = some (.lst b)) (hl : a.length + b.length ≤ 100000) : addD (.ref n) (.ref m) μ = .ok (.ref μ.length) (μ ++ [.lst (a ++ b)]) := by
  have : a.length + b.length ≤ sizeLine := by rw [sizeLine_eq]; omega
  simp [addD, h1, h2, this]
theorem ins_ok {μ : Mem} {n : Nat} {l : List D} {i : Int} {y : D} (h : μ[n]? = some (.lst l)) (h0 : 0 ≤ i) (h1 : i < 1000000) (hl : l.length < 100000) : insertM (.ref n) [.int i, y] μ = .ok .non (μ.set n (.lst (l.take i.toNat ++ [y] ++ l.drop i.toNat))) := by
  have : l.length < sizeLine ∧ 0 ≤ i ∧ i < 2 ^ 63 := by rw [sizeLine_eq]; omega
  simp only [insertM, h, if_pos this]
end RW
namespace RW
open PySem L2
theorem range1_ok {n : Nat} {μ : Mem} (h : n ≤ 1000000) : range1 [.int (n : Int)] μ = .ok (rangeItems 0 n, fun _ => True) μ := by
  have : -4611686018427387904 ≤ (n : Int) ∧ (n : Int) < 4611686018427387904 := by omega
  simp only [range1, if_pos this, Int.toNat_natCast]
theorem range2_ok {m n : Nat} {μ : Mem} (h : n ≤ 1000000) (h2 : m ≤ 1000000) : range2 [.int (m : Int), .int (n : Int)] μ = .ok (rangeItems m (n - m), fun _ => True) μ := by
  have : -4611686018427387904 ≤ (m : Int) ∧ (m : Int) < 4611686018427387904 ∧ -4611686018427387904 ≤ (n : Int) ∧ (n : Int) < 4611686018427387904 := by omega
  have e : ((n : Int) - (m : Int)).toNat = n - m := by omega
  simp only [range2, if_pos this, e]
end RW
namespace RW
open PySem L2
theorem for_run {it : MIt} {g : MG} {body : MS} {ρ ρ' : Rho} {μ μ1 μ' : Mem} {items : List D} {chk : Mem → Prop} (h1 : it ρ μ = .ok (items, chk) μ1) (h2 : forL chk g body items ρ μ1 = .ok (.nx ρ') μ') : sFor it g body ρ μ = .ok (.nx ρ') μ' := by
  simp only [sFor, h1, onE]; exact h2
theorem ir1 {ρ : Rho} {μ : Mem} {e : MD} {n : Nat} (h : e ρ μ = .ok (.int (n : Int)) μ) (hn : n ≤ 1000000) : iRange1 (mCons e mNil) ρ μ = .ok (rangeItems 0 n, fun _ => True) μ := by
  simp only [iRange1, mCons, mNil, h, Res.bind, range1_ok hn]
theorem ir2 {ρ : Rho} {μ : Mem} {e f : MD} {m n : Nat} (h : e ρ μ = .ok (.int (m : Int)) μ) (h' : f ρ μ = .ok (.int (n : Int)) μ) (hn : n ≤ 1000000) (hm : m ≤ 1000000) : iRange2 (mCons e (mCons f mNil)) ρ μ = .ok (rangeItems m (n - m), fun _ => True) μ := by
  simp only [iRange2, mCons, mNil, h, h', Res.bind, range2_ok hn hm]
end RW

/-! SEq: more plain laws of mirrors. -/
namespace RW
open PySem L2
theorem eqI {a b : Int} {μ : Mem} : eqD (.int a) (.int b) μ = .ok (.bl (decide (a = b))) μ := by
  have h1 : SeqAt.shaped (PyData.int a) = true := by rfl
  have h2 : SeqAt.shaped (PyData.int b) = true := by rfl
  simp only [eqD, D.py?, h1, h2, Bool.and_self, if_true, PyData.eqv]
  congr 2
theorem neI {a b : Int} {μ : Mem} : neD (.int a) (.int b) μ = .ok (.bl (!decide (a = b))) μ := by
  have h1 : SeqAt.shaped (PyData.int a) = true := by rfl
  have h2 : SeqAt.shaped (PyData.int b) = true := by rfl
  simp only [neD, D.py?, h1, h2, Bool.and_self, if_true, PyData.eqv]
  congr 2
theorem comp_map {chk : Mem → Prop} {te : MD} {ρ0 : Rho} {i : Nat} (xs : List Int) (f : Int → Int) (μ : Mem) (hc : chk μ) (ht : ∀ x ∈ xs, te (ρ0.set i (some (.int x))) μ = .ok (.int (f x)) μ) (hl : xs.length < 100000) :
    compL chk (gN i) mYes te ρ0 (xs.map D.int) [] μ = .ok ((xs.map f).map D.int) μ := by
  have key := compL_ok (chk := chk) (g := gN i) (tt := mYes) (te := te) (ρ0 := ρ0) (xs.map D.int) (fun j acc μ' => j ≤ xs.length ∧ acc = ((xs.take j).map f).map D.int ∧ μ' = μ) 0 (acc := []) (μ := μ) ⟨Nat.zero_le _, by simp, rfl⟩
    (fun _ _ _ ⟨_, _, e⟩ => e ▸ hc) (fun j d acc μ' e ⟨hj, ea, em⟩ => by
      simp only [Nat.zero_add] at hj ea em ⊢
      subst em
      rw [List.getElem?_map] at e
      obtain ⟨x, ex, rfl⟩ := Option.map_eq_some_iff.mp e
      have hj2 := (List.getElem?_eq_some_iff.mp ex).1
      refine .mk (μ := μ') rfl (.mk (μ := μ') rfl ?_)
      rw [if_pos rfl]
      refine ⟨by rw [ea, List.length_map, List.length_map, List.length_take, sizeLine_eq]; omega, .mk (ht x (List.mem_of_getElem? ex)) ⟨by omega, ?_, rfl⟩⟩
      rw [ea, List.take_add_one, ex]; simp)
  rw [List.length_map, Nat.zero_add] at key
  obtain ⟨l, μ', e, _, rfl, rfl⟩ := key
  rw [e, List.take_length]
theorem comp_is {it : MIt} {g : MG} {tt : MB} {te : MD} {own : List Nat} {ρ : Rho} {μ μ1 μ2 : Mem} {items l : List D} {chk : Mem → Prop} (h1 : it ρ μ = .ok (items, chk) μ1) (h2 : compL chk g tt te (wipeR ρ own) items [] μ1 = .ok l μ2) :
    mComp it g tt te own ρ μ = .ok (.ref μ2.length) (μ2 ++ [.lst l]) := by simp only [mComp, h1, h2, Res.bind]
theorem seq_lst {a : MD} {ρ : Rho} {μ μ1 : Mem} {n : Nat} {l : List D} (h : a ρ μ = .ok (.ref n) μ1) (e : μ1[n]? = some (.lst l)) : iSeq a ρ μ = .ok (l, fun μ' => μ'[n]? = some (.lst l)) μ1 := by simp only [iSeq, h, Res.bind, itSeq, e]
end RW

/-! SEr: pairs stored at once, chains, lists turned about, keys as a list, sorting of data. -/
namespace RW
open PySem L2
section
variable {X : Cx} {W : WX} {a b c e : Expr} {ma mb mc me : MD} {pos : Pos}
/-! a, b = .., .. -/
@[simp] def sPar (i j : Nat) (a : ML) : MS := fun ρ μ => onE (a ρ μ) ρ fun ds μ1 => match ds with
  | [x, y] => .ok (.nx ((ρ.set i (some x)).set j (some y))) μ1
  | _ => .stuck
theorem ss_par {i j : Nat} {x y : Str} {ms : ML} {px py pt pt2 : Pos} {kt k2} (hc : X.calm = true) (hN : X.N.Nodup) (hi : X.N[i]? = some x) (hj : X.N[j]? = some y) (hij : i ≠ j)
    (hx : X.env.scope.names.lookup x = some .local) (hy : X.env.scope.names.lookup y = some .local) (ha : SA X W [a, b] ms)
    (hw : swappedStores [.Tuple [.Name x px, .Name y py] kt pt] (.Tuple [a, b] k2 pt2) X.env = pure (some [x, y]))
    (hs : swapsWithSole [.Tuple [.Name x px, .Name y py] kt pt] (.Tuple [a, b] k2 pt2) pos.line X.env = pure false := by rfl) :
    SS X W (.Assign [.Tuple [.Name x px, .Name y py] kt pt] (.Tuple [a, b] k2 pt2) pos) (sPar i j ms) :=
  PS.mono (ps_par hc hN hi hj hij hx hy ha hw hs) fun D σ H ⟨ρ, μ, ι, env, rel, h⟩ =>
    ⟨ρ, μ, ι, env, rel, (PostS.onE h env ⟨μ, rel⟩).imp fun ι1 H1 μ1 ds _ _ ⟨g1, r1, env1, h1⟩ vs rvs => by
      match ds, rvs, h1 with
      | [x, y], rvs, h1 =>
        obtain ⟨v, w, rfl, rv, rw'⟩ := rvs.two
        exact ⟨v, w, rfl, h1 ι1 H1 .refl r1 _ ((env1.set i rv).set j rw')⟩
      | [], _, h1 => exact h1.elim
      | [_], _, h1 => exact h1.elim
      | _ :: _ :: _ :: _, _, h1 => exact h1.elim⟩
@[simp] def sPar3 (i j l : Nat) (a : ML) : MS := fun ρ μ => onE (a ρ μ) ρ fun ds μ1 => match ds with
  | [x, y, z] => .ok (.nx (((ρ.set i (some x)).set j (some y)).set l (some z))) μ1
  | _ => .stuck
theorem ss_par3 {i j l : Nat} {x y z : Str} {ms : ML} {px py pz pt pt2 : Pos} {kt k2} (hc : X.calm = true) (hN : X.N.Nodup) (hi : X.N[i]? = some x) (hj : X.N[j]? = some y) (hl : X.N[l]? = some z) (hij : i ≠ j) (hil : i ≠ l) (hjl : j ≠ l)
    (hx : X.env.scope.names.lookup x = some .local) (hy : X.env.scope.names.lookup y = some .local) (hz : X.env.scope.names.lookup z = some .local) (ha : SA X W [a, b, c] ms)
    (hw : swappedStores [.Tuple [.Name x px, .Name y py, .Name z pz] kt pt] (.Tuple [a, b, c] k2 pt2) X.env = pure (some [x, y, z]))
    (hs : swapsWithSole [.Tuple [.Name x px, .Name y py, .Name z pz] kt pt] (.Tuple [a, b, c] k2 pt2) pos.line X.env = pure false := by rfl) :
    SS X W (.Assign [.Tuple [.Name x px, .Name y py, .Name z pz] kt pt] (.Tuple [a, b, c] k2 pt2) pos) (sPar3 i j l ms) :=
  PS.mono (ps_par3 hc hN hi hj hl hij hil hjl hx hy hz ha hw hs) fun D σ H ⟨ρ, μ, ι, env, rel, h⟩ =>
    ⟨ρ, μ, ι, env, rel, (PostS.onE h env ⟨μ, rel⟩).imp fun ι1 H1 μ1 ds _ _ ⟨g1, r1, env1, h1⟩ vs rvs => by
      match ds, rvs, h1 with
      | [x, y, z], rvs, h1 =>
        obtain ⟨u, t, rfl, ru, rt⟩ := rvs.cons_inv
        obtain ⟨v, w, rfl, rv, rw'⟩ := rt.two
        exact ⟨u, v, w, rfl, h1 ι1 H1 .refl r1 _ (((env1.set i ru).set j rv).set l rw')⟩
      | [], _, h1 => exact h1.elim
      | [_], _, h1 => exact h1.elim
      | [_, _], _, h1 => exact h1.elim
      | _ :: _ :: _ :: _ :: _, _, h1 => exact h1.elim⟩
/-! a < b < c -/
@[simp] def mChain (f f' : D → D → Mem → Res D) (a b c : MD) : MD := fun ρ μ => (a ρ μ).bind fun x μ1 => (b ρ μ1).bind fun y μ2 => (f x y μ2).bind fun z μ3 => match z with
  | .bl k => if k = true then (c ρ μ3).bind fun w μ4 => f' y w μ4 else .ok (.bl false) μ3
  | _ => .stuck
theorem chain_red {r r' : R2} {f f' : D → D → Mem → Res D} (hf : Snd2 (gOf X) r f) (hf' : Snd2 (gOf X) r' f') {σ : St} {H : Hp} {Q : VK} (h : tE (gOf X) W (mChain f f' ma mb mc) σ H Q) :
    tChain r r' (tE (gOf X) W ma) (tE (gOf X) W mb) (tE (gOf X) W mc) σ H Q := by
  obtain ⟨ρ, μ, ι, env, rel, h⟩ := h
  refine ⟨ρ, μ, ι, env, rel, (Post.bind h).imp fun ι1 H1 μ1 x _ _ ⟨g1, r1, h1⟩ v rv => ?_⟩
  refine ⟨ρ, μ1, ι1, env.ext (g1.ext rel), r1, (Post.bind h1).imp fun ι2 H2 μ2 y _ _ ⟨g2, r2, h2⟩ u ru => ?_⟩
  have env2 := (env.ext (g1.ext rel)).ext (g2.ext r1)
  refine hf ι2 H2 μ2 x y v u W σ _ r2 (rv.ext (g2.ext r1)) ru ((Post.bind h2).imp fun ι3 H3 μ3 z _ _ ⟨g3, r3, h3⟩ w rw' => ?_)
  cases z with
  | bl k =>
    refine ⟨k, rw'.bl, ?_⟩
    cases k with
    | true =>
      refine iteT ⟨ρ, μ3, ι3, env2.ext (g3.ext r2), r3, (Post.bind h3).imp fun ι4 H4 μ4 t _ _ ⟨g4, r4, h4⟩ q rq => ?_⟩
      exact hf' ι4 H4 μ4 y t u q W σ Q r4 ((ru.ext (g3.ext r2)).ext (g4.ext r3)) rq h4
    | false => exact iteF (h3 ι3 H3 .refl r3 _ (rep_bl _))
  | _ => exact h3.elim
theorem se_chain {op op' : CmpOp} {r r' : R2} {f f' : D → D → Mem → Res D} (ho : OpR X (compareOp op) r) (ho' : OpR X (compareOp op') r') (hf : Snd2 (gOf X) r f) (hf' : Snd2 (gOf X) r' f') (ha : SE X W a ma) (hb : SE X W b mb) (hc : SE X W c mc)
    (hm : lastMarks [op, op'] [b, c] = false := by rfl) : SE X W (.Compare a [op, op'] [b, c] pos) (mChain f f' ma mb mc) :=
  PE.mono (pe_chain ho ho' ha hb hc hm) fun σ H Q h => chain_red hf hf' h
theorem st_chain {op op' : CmpOp} {r r' : R2} {f f' : D → D → Mem → Res D} (ho : OpR X (compareOp op) r) (ho' : OpR X (compareOp op') r') (hf : Snd2 (gOf X) r f) (hf' : Snd2 (gOf X) r' f') (ha : SE X W a ma) (hb : SE X W b mb) (hc : SE X W c mc)
    (hm : lastMarks [op, op'] [b, c] = false := by rfl) : ST X W (.Compare a [op, op'] [b, c] pos) (mTest (mChain f f' ma mb mc)) :=
  PT.mono (pt_chain ho ho' ha hb hc hm) fun σ H Q h => test_red (mChain f f' ma mb mc) (fun σ H Q h => chain_red hf hf' h) h
/-! l[::-1], reversed(l) -/
/-- a list's items -/
def lstAt : D → Mem → Option (List D)
  | .frl l, _ => some l
  | .ref n, μ => (match μ[n]? with
    | some (.lst l) => some l
    | _ => none)
  | _, _ => none
theorem lstAt_is {G : Gd} {ι : List Addr} {H : Hp} {μ : Mem} {d : D} {v : V} {l : List D} (r : Rel G ι H μ) (rv : Rep G ι H d v) (e : lstAt d μ = some l) : ∃ p vs, v = .ref p ∧ SqL G.K H p vs ∧ Reps G ι H l vs := by
  cases d with
  | frl l' => cases e; obtain ⟨p, vs, rfl, h1, h2⟩ := rv.frl; exact ⟨p, vs, rfl, FrL.sq _ _ h1, h2⟩
  | ref n =>
    simp only [lstAt] at e
    split at e
    · rename_i l' em
      cases e
      obtain ⟨p, vs, rfl, h0, h1, h2⟩ := r.lst em rv
      exact ⟨p, vs, rfl, .of h1, h2⟩
    · cases e
  | _ => cases e
def revD (x : D) (μ : Mem) : Res D := match lstAt x μ with
  | some l => .ok (.ref μ.length) (μ ++ [.lst l.reverse])
  | none => .stuck
theorem se_rev {k : Nat} {p1 p2 p3 : Pos} (he : SE X W e me) : SE X W (.Subscript e (.Slice none none (some (.UnaryOp .USub (.Constant (.int 1) k p1) p2)) p3) pos) (mUn revD me) :=
  PE.mono (pe_revL he) fun σ H Q ⟨ρ, μ, ι, env, rel, h⟩ =>
    ⟨ρ, μ, ι, env, rel, (Post.bind h).imp fun ι1 H1 μ1 x _ _ ⟨g1, r1, h1⟩ v rv => by
      simp only [revD] at h1
      split at h1
      · rename_i l el
        obtain ⟨p, vs, rfl, h2, h3⟩ := lstAt_is r1 rv el
        exact ⟨p, vs, rfl, h2, new_lst r1 h3.reverse h1⟩
      · exact h1.elim⟩
@[simp] def iRevD (a : ML) : MIt := fun ρ μ => (a ρ μ).bind fun xs μ1 => match xs with
  | [x] => (itSeq x μ1).bind fun p μ2 => .ok (p.1.reverse, p.2) μ2
  | _ => .stuck
theorem it_revL {G : Gd} {ι : List Addr} {H : Hp} {a : Addr} {l : List D} {chk : Mem → Prop} (base : ItOk G ι H (Itl G.K a) l chk) : ItOk G ι H (Itv G.K a l.length) l.reverse chk := by
  have ix : ∀ {i : Nat} {d : D}, l.reverse[i]? = some d → i < l.length ∧ l[l.length - 1 - i]? = some d := fun {i d} e => by
    have hi := (List.getElem?_eq_some_iff.mp e).1
    rw [List.length_reverse] at hi
    rw [List.getElem?_reverse hi] at e
    exact ⟨hi, e⟩
  refine ⟨fun i d ι' H' μ' e g r c => ?_, fun i d ι' H' μ' v H2 e g r c ⟨e1, e2⟩ => ?_, fun ι' H' μ' g r c => by show l.length ≤ l.reverse.length; rw [List.length_reverse]; exact Nat.le_refl _⟩
  · obtain ⟨hi, e⟩ := ix e
    obtain ⟨xs, x, h1, h2⟩ := base.go _ d ι' H' μ' e g r c
    exact ⟨hi, xs, x, h1, h2⟩
  · subst e1
    obtain ⟨hi, e⟩ := ix e
    exact base.yld _ d ι' H2 μ' v H2 e g r c ⟨rfl, e2⟩
theorem it_revT {G : Gd} {ι : List Addr} {H : Hp} {a : Addr} {l : List D} {chk : Mem → Prop} (base : ItOk G ι H (Itt G.K a) l chk) : ItOk G ι H (RT.ItvT G.K a l.length) l.reverse chk := by
  have ix : ∀ {i : Nat} {d : D}, l.reverse[i]? = some d → i < l.length ∧ l[l.length - 1 - i]? = some d := fun {i d} e => by
    have hi := (List.getElem?_eq_some_iff.mp e).1
    rw [List.length_reverse] at hi
    rw [List.getElem?_reverse hi] at e
    exact ⟨hi, e⟩
  refine ⟨fun i d ι' H' μ' e g r c => ?_, fun i d ι' H' μ' v H2 e g r c ⟨e1, e2⟩ => ?_, fun ι' H' μ' g r c => by show l.length ≤ l.reverse.length; rw [List.length_reverse]; exact Nat.le_refl _⟩
  · obtain ⟨hi, e⟩ := ix e
    obtain ⟨xs, x, h1, h2⟩ := base.go _ d ι' H' μ' e g r c
    exact ⟨hi, xs, x, h1, h2⟩
  · subst e1
    obtain ⟨hi, e⟩ := ix e
    exact base.yld _ d ι' H2 μ' v H2 e g r c ⟨rfl, e2⟩
theorem si_rev {tg : Expr} {p : Pos} (hg : Gl X "reversed") (hm : X.mg "reversed" = none) (ha : SE X W a ma) (hs : starEach [a] X.env = (false, eval a X.env) :: starEach [] X.env := by rfl) : SI X W tg (.Call (.Name "reversed" p) [a] [] pos) (iRevD (mCons ma mNil)) :=
  PI.mono (RT.pi_revA hg hm ha hs) fun σ H R ⟨ρ, μ, ι, env, rel, h⟩ => by
    refine ⟨ρ, μ, ι, env, rel, ?_⟩
    simp only [iRevD, mCons, mNil] at h
    cases hm : ma ρ μ with
    | stuck => rw [hm] at h; exact h.elim
    | exc c fs m => rw [hm] at h; exact h
    | ok d μ1 =>
      rw [hm] at h
      intro ι1 H1 g1 r1 v rv
      simp only [Res.bind] at h
      cases d with
      | tup l =>
        obtain ⟨p, vs, rfl, h1, h2⟩ := rv.tup
        have q := h ι1 H1 g1 r1 (RT.ItvT X.K p l.length) (it_revT (it_tup r1 h1 h2))
        rw [← h2.length] at q
        exact ⟨p, vs, rfl, .inr ⟨h1, q⟩⟩
      | frl l =>
        obtain ⟨p, vs, rfl, h1, h2⟩ := rv.frl
        have q := h ι1 H1 g1 r1 (Itv X.K p l.length) (it_revL (it_frl r1 h1 h2))
        rw [← h2.length] at q
        exact ⟨p, vs, rfl, .inl ⟨FrL.sq _ _ h1, q⟩⟩
      | ref n =>
        cases em : μ1[n]? with
        | none => simp only [itSeq, em] at h; exact h.elim
        | some cc =>
          simp only [itSeq, em] at h
          cases cc with
          | lst l =>
            obtain ⟨p, vs, rfl, h0, h1, h2⟩ := r1.lst em rv
            have q := h ι1 H1 g1 r1 (Itv X.K p l.length) (it_revL (it_lst h0))
            rw [← h2.length] at q
            exact ⟨p, vs, rfl, .inl ⟨.of h1, q⟩⟩
          | _ => exact h.elim
      | _ => exact h.elim
end
/-! ### list(d) of a dict -/
def rListX (G : Gd) : List V → Hp → VK → Prop := fun xs H Q => ∃ d ι l ks, xs = [V.ref d] ∧ TdIs G ι H d l ks ∧ ∀ p, H p = none → Q (.ref p) (upd H p (.lst (ks.map fun x => V.ref x.2.1)))
section
variable {X : Cx}
theorem call_listX (hc : X.calm = true) : CallR X (.type "list") (rListX (gOf X)) := by
  intro pins s σ H xs us Q I r h
  obtain ⟨d, ι, l, ks, rfl, td, q⟩ := h
  obtain ⟨u, rfl, rx⟩ := r.one
  cases rx
  obtain ⟨o, es, ep, ho, hx, hdt, he, _, hn⟩ := td.dictOf I
  obtain ⟨_, _, _, z, hs⟩ := td
  have l1 : es.size = ks.length := by
    have := congrArg List.length he
    simpa using this
  refine PySem.W.kdl_call (kdl_raw hs hx hdt) (I.ok.hd hc) ho (by omega) fun h' tk acc' c' kp e it => ?_
  have eb : acc'.toList = (ks.map fun x => x.2.1).map Value.ref := by
    have hl : acc'.toList.length = ks.length := by rw [Array.length_toList, it.1]; exact l1
    apply List.ext_getElem?
    intro j
    rw [List.map_map, List.getElem?_map]
    cases hj : acc'.toList[j]? with
    | none =>
      have h1 := List.getElem?_eq_none_iff.mp hj
      rw [List.getElem?_eq_none (by omega)]
      all_goals rfl
    | some v =>
      obtain ⟨en, hen, hv⟩ := it.2 j v (by rw [← Array.getElem?_toList]; exact hj)
      have qe := congrArg (fun l => l[j]?) he
      simp only [List.getElem?_map, Array.getElem?_toList] at qe
      rw [hen] at qe
      cases hb : ks[j]? with
      | none => rw [hb] at qe; cases qe
      | some b =>
        rw [hb] at qe
        have e2 : en = entryOfKey (nestedKind X.prog X.w) b := Option.some.inj qe
        rw [hv, e2]
        all_goals rfl
  have rv : Vals ((ks.map fun x => x.2.1).map V.ref) acc'.toList := by rw [eb]; exact vals_refs _
  have em : (ks.map fun x => V.ref x.2.1) = (ks.map fun x => x.2.1).map V.ref := by rw [List.map_map]; rfl
  have hz : (ks.map fun x => V.ref x.2.1).length ≤ sizeLine := by rw [List.length_map]; omega
  refine ⟨.ref s.heap.objs.size, _, I.laid (t' := tk) (o := .lst (ks.map fun x => V.ref x.2.1)) kp (Nat.le_refl _) ?_, rfl, q _ (I.hok.fresh (Nat.le_refl _))⟩
  exact ⟨hz, acc'.toList, c', em ▸ rv, by rw [Array.toArray_toList]; exact e⟩
end
/-- a dict's keys -/
def keysAt : D → Mem → Option (List D)
  | .ref n, μ => (match μ[n]? with
    | some (.tdic l) => some (l.map (·.1))
    | some (.lck true l) => some (l.map (·.1))
    | some (.dic l) => some (l.map (·.1))
    | _ => none)
  | _, _ => none
def listA : List D → Mem → Res D := fun xs μ => match listL xs μ with
  | .stuck => (match xs with
    | [x] => (match keysAt x μ with
      | some l => .ok (.ref μ.length) (μ ++ [.lst l])
      | none => .stuck)
    | _ => .stuck)
  | r => r
def rListA (G : Gd) : List V → Hp → VK → Prop := fun xs H Q => (∃ p ys, xs = [.ref p] ∧ (SqL G.K H p ys ∨ SqT G.K H p ys) ∧ ∀ l, H l = none → Q (.ref l) (upd H l (.lst ys))) ∨ rListX G xs H Q ∨ rListD xs H Q
theorem call_listA {X : Cx} (hc : X.calm = true) : CallR X (.type "list") (rListA (gOf X)) := CallR.or call_list_of (CallR.or (call_listX hc) (call_list_dK hc))
theorem reps_refs {G : Gd} {ι : List Addr} {H : Hp} : ∀ {l : List (D × D)} {ks : List (NestedKey × Addr × Value)}, Paired (RepT G ι H) l ks → Reps G ι H (l.map (·.1)) (ks.map fun x => V.ref x.2.1)
  | _, _, .nil => .nil
  | _, _, .cons h t => .cons h.2.2.1 (reps_refs t)
theorem reps_keysK {G : Gd} {ι : List Addr} {H : Hp} : ∀ {l : List (D × D)} {ks : List (Key × V)}, Paired (RepP G ι H) l ks → Reps G ι H (l.map (·.1)) (ks.map fun x => kV x.1)
  | _, _, .nil => .nil
  | (d, _) :: _, (k, _) :: _, .cons h t => by
    refine .cons ?_ (reps_keysK t)
    have h1 : d.key? = some k := h.1
    cases d with
    | int i => cases h1; exact rep_int _
    | str i => cases h1; exact rep_str _
    | _ => cases h1
theorem snd_listA {G : Gd} : SndL G (rListA G) listA := fun ι H μ xs vs W σ Q r rxs h => by
  unfold listA at h
  cases hq : listL xs μ with
  | ok d m => rw [hq] at h; exact .inl (snd_listL ι H μ xs vs W σ Q r rxs (by rw [hq]; exact h))
  | exc c fs m => rw [hq] at h; exact .inl (snd_listL ι H μ xs vs W σ Q r rxs (by rw [hq]; exact h))
  | stuck =>
    rw [hq] at h
    match xs, rxs, h with
    | [x], rxs, h =>
      cases el : keysAt x μ with
      | none => simp only [el] at h; exact h.elim
      | some l =>
        simp only [el] at h
        obtain ⟨v, rfl, rv⟩ := rxs.one
        cases x with
        | ref n =>
          obtain ⟨a, h0, rfl⟩ := rv.ref
          simp only [keysAt] at el
          split at el
          · rename_i l' em
            cases el
            obtain ⟨ks, h1, h2, h3, h4, h5⟩ := r.cell n _ a em h0
            exact .inr (.inl ⟨a, ι, l', ks, rfl, ⟨.inl h1, h2, h3, h4, h5⟩, new_lst r (reps_refs h2) h⟩)
          · rename_i l' em
            cases el
            obtain ⟨od, ks, h1, h2, h3, h4, h5⟩ := r.cell n _ a em h0
            exact .inr (.inl ⟨a, ι, l', ks, rfl, ⟨.inr ⟨od, h1⟩, h2, h3, h4, h5⟩, new_lst r (reps_refs h2) h⟩)
          · rename_i l' em
            cases el
            obtain ⟨ks, h1, h2⟩ := r.cell n _ a em h0
            exact .inr (.inr ⟨a, ks, rfl, h1, new_lst r (reps_keysK h2) h⟩)
          · cases el
        | _ => cases el
    | [], _, h => exact h.elim
    | _ :: _ :: _, _, h => exact h.elim
/-! ### sorted(l) of data -/
def encD (μ : Mem) (d : D) : PyData := (D.py? 8 μ d).getD .none
def isTupD : PyData → Bool
  | .tuple (_ :: _) => true
  | _ => false
def isPlD : PyData → Bool
  | .none => false
  | .tuple _ => false
  | _ => true
def sortOk (μ : Mem) (l : List D) : Bool := l.all (fun d => (D.py? 8 μ d).isSome && decide ((encD μ d).depth ≤ 32)) && (l.all fun d => l.all fun e => PySem.W.alike (encD μ d) (encD μ e)) && (l.all (fun d => isTupD (encD μ d)) || l.all fun d => isPlD (encD μ d)) && decide (l.length ≤ 1000000)
def sortD (μ : Mem) (l : List D) : List D := l.mergeSort (PySem.W.dataLe false (encD μ))
def sortedD : List D → Mem → Res D
  | [x], μ => (match lstAt x μ with
    | some l => if sortOk μ l = true then .ok (.ref μ.length) (μ ++ [.lst (sortD μ l)]) else .stuck
    | none => .stuck)
  | _, _ => .stuck
def sortedA : List D → Mem → Res D := fun xs μ => match sortedL xs μ with
  | .stuck => sortedD xs μ
  | r => r
def rSortedD (G : Gd) : List V → Hp → VK → Prop := fun xs H Q => ∃ (a : Addr) (vs : List V) (l : List D) (ι : List Addr) (μ : Mem), xs = [.ref a] ∧ SqL G.K H a vs ∧ Rel G ι H μ ∧ Reps G ι H l vs ∧ sortOk μ l = true ∧
  ∀ vs' p, Reps G ι H (sortD μ l) vs' → H p = none → Q (.ref p) (upd H p (.lst vs'))
theorem each_of_reps {G : Gd} {ι : List Addr} {H : Hp} : ∀ {l : List D} {vs : List V} {us : List Value}, Reps G ι H l vs → Vals vs us → PySem.W.EachIs (fun u d => ∃ v, Rep G ι H d v ∧ RelV v u) us l
  | [], _, _, h, r => by rw [h.nil_inv] at r; cases r; exact .nil
  | d :: l, _, _, h, r => by
    obtain ⟨v, w, rfl, h1, h2⟩ := h.cons_inv
    cases r with
    | cons r1 r2 => exact .cons ⟨v, h1, r1⟩ (each_of_reps h2 r2)
theorem reps_of_each {G : Gd} {ι : List Addr} {H : Hp} : ∀ {l : List D} {us : List Value}, PySem.W.EachIs (fun u d => ∃ v, Rep G ι H d v ∧ RelV v u) us l → ∃ vs, Reps G ι H l vs ∧ Vals vs us
  | _, _, .nil => ⟨[], .nil, .nil⟩
  | _, _, .cons ⟨v, h1, r1⟩ t => by
    obtain ⟨vs, h2, r2⟩ := reps_of_each t
    exact ⟨v :: vs, .cons h1 h2, .cons r1 r2⟩
theorem cr_sortedD {X : Cx} (hu : X.A.units + 64 < cLine) : CallR X (.builtin "sorted") (rSortedD (gOf X)) := by
  intro pins s σ H xs us Q I r h
  obtain ⟨a, vs, l, ι, μ, rfl, hs, rel, reps, ok, q⟩ := h
  obtain ⟨its, rv, hl, hz⟩ := I.list hs
  rw [Vals.ref1 r]
  simp only [sortOk, Bool.and_eq_true, List.all_eq_true, decide_eq_true_eq, Bool.or_eq_true] at ok
  obtain ⟨⟨⟨o1, o2⟩, o3⟩, o4⟩ := ok
  have hll : l.length = its.length := by rw [← reps.length, rv.length]
  have er : PySem.W.EachIs (fun u d => ∃ as, Reads s.heap u (encD μ d) as) its l := by
    have key : ∀ {l : List D} {us : List Value}, (∀ d ∈ l, (D.py? 8 μ d).isSome = true) → PySem.W.EachIs (fun u d => ∃ v, Rep (gOf X) ι H d v ∧ RelV v u) us l → PySem.W.EachIs (fun u d => ∃ as, Reads s.heap u (encD μ d) as) us l := by
      intro l us hh e
      induction e with
      | nil => exact .nil
      | cons h1 t ih =>
        obtain ⟨v, h1, r1⟩ := h1
        refine .cons ?_ (ih fun d hd => hh d (List.mem_cons_of_mem _ hd))
        obtain ⟨p, hp⟩ := Option.isSome_iff_exists.mp (hh _ List.mem_cons_self)
        unfold encD
        rw [hp]
        exact Dp.reads I p v _ (dp_of rel 8 _ v p h1 hp) r1
    exact key (fun d hd => (o1 d hd).1) (each_of_reps reps rv)
  refine PySem.W.sorted_data (enc := encD μ) hl.isList (each_of_reps reps rv) er ?_ ?_ (by rw [sizeLine_eq]; omega) (fun b hb => ?_) fun out h1 h2 => ?_
  · intro d hd d' hd'
    obtain ⟨b, hb, rfl⟩ := List.mem_map.mp hd
    obtain ⟨b', hb', rfl⟩ := List.mem_map.mp hd'
    exact o2 b hb b' hb'
  · rcases o3 with o3 | o3
    · refine .inl fun d hd => ?_
      obtain ⟨b, hb, rfl⟩ := List.mem_map.mp hd
      have := o3 b hb
      unfold isTupD at this
      split at this
      · rename_i x r e; exact ⟨x, r, e⟩
      · cases this
    · refine .inr fun d hd => ?_
      obtain ⟨b, hb, rfl⟩ := List.mem_map.mp hd
      have := o3 b hb
      refine ⟨fun e => ?_, fun xs e => ?_⟩ <;> (rw [e] at this; cases this)
  · have := (o1 b hb).2
    omega
  · obtain ⟨vs', h3, h4⟩ := reps_of_each h2
    obtain ⟨ep, he'⟩ := PyProof.Rows.sortedAll_at s.heap its out.toArray
    have hlen : vs'.length ≤ sizeLine := by
      rw [h4.length, h1, sizeLine_eq]; omega
    exact ⟨.ref _, upd H (s.heap.objs.size + 1) (.lst vs'), I.laid (t' := s.toks) (fun _ _ => PyProof.Rows.sortedAll_old) (Nat.le_succ _) ⟨hlen, out, ep, h4, he'⟩, rfl, q _ _ h3 (I.hok.fresh (Nat.le_succ _))⟩
def rSortedB (G : Gd) : List V → Hp → VK → Prop := fun xs H Q => rSortedA G xs H Q ∨ rSortedD G xs H Q
theorem cr_sortedB {X : Cx} (hc : X.calm = true) (hu : X.A.units + 64 < cLine) : CallR X (.builtin "sorted") (rSortedB (gOf X)) := CallR.or (cr_sortedA hc) (cr_sortedD hu)
theorem snd_sortedB {G : Gd} : SndL G (rSortedB G) sortedA := fun ι H μ xs vs W σ Q r rxs h => by
  unfold sortedA at h
  cases hq : sortedL xs μ with
  | ok d m => rw [hq] at h; exact .inl (snd_sorted ι H μ xs vs W σ Q r rxs (by rw [hq]; exact h))
  | exc c fs m => rw [hq] at h; exact .inl (snd_sorted ι H μ xs vs W σ Q r rxs (by rw [hq]; exact h))
  | stuck =>
    rw [hq] at h
    match xs, rxs, h with
    | [x], rxs, h =>
      simp only [sortedD] at h
      split at h
      · rename_i l el
        split at h
        · rename_i ok
          obtain ⟨v, rfl, rv⟩ := rxs.one
          obtain ⟨p, vs, rfl, h1, h2⟩ := lstAt_is r rv el
          exact .inr ⟨p, vs, l, ι, μ, rfl, h1, r, h2, ok, fun vs' q h3 hq => new_lst r h3 h q hq⟩
        · exact h.elim
      · exact h.elim
    | [], _, h => exact h.elim
    | _ :: _ :: _, _, h => exact h.elim
end RW

/-! SEs: plain laws of sorting and of other mirrors. -/
namespace RW
open PySem L2
/-! loops whose body may return -/
theorem forL_ret {chk : Mem → Prop} {g : MG} {body : MS} {P : D → Mem → Prop} : ∀ (items : List D) (I : Nat → Rho → Mem → Prop) (k : Nat) {ρ : Rho} {μ : Mem}, I k ρ μ →
    (∀ i ρ μ, I i ρ μ → chk μ) → (∀ i d ρ μ, items[i]? = some d → I (k + i) ρ μ → Ok (g d ρ μ) fun ρ1 μ1 => Ok (body ρ1 μ1) fun f μ2 => (∃ ρ2, (f = .nx ρ2 ∨ f = .cnt ρ2) ∧ I (k + i + 1) ρ2 μ2) ∨ ∃ d, f = .ret d ∧ P d μ2) →
    Ok (forL chk g body items ρ μ) fun f μ' => (∃ ρ', f = .nx ρ' ∧ I (k + items.length) ρ' μ') ∨ ∃ d, f = .ret d ∧ P d μ'
  | [], I, k, ρ, μ, h0, hc, hs => by
    unfold forL
    rw [if_pos (hc _ _ _ h0)]
    exact .pure (.inl ⟨ρ, rfl, h0⟩)
  | d :: ds, I, k, ρ, μ, h0, hc, hs => by
    unfold forL
    rw [if_pos (hc _ _ _ h0)]
    refine (hs 0 d ρ μ rfl h0).pureE fun ρ1 μ1 h1 => h1.bind fun f μ2 h2 => ?_
    rcases h2 with ⟨ρ2, hf, h2⟩ | ⟨d, rfl, h2⟩
    · have ih := forL_ret (P := P) ds I (k + 1) h2 hc fun i d ρ μ e h => by
        have := hs (i + 1) d ρ μ (by simpa using e) (by rw [show k + (i + 1) = k + 1 + i by omega]; exact h)
        rw [show k + (i + 1) + 1 = k + 1 + i + 1 by omega] at this
        exact this
      rw [show k + 1 + ds.length = k + (d :: ds).length by simp; omega] at ih
      rcases hf with rfl | rfl
      · exact ih
      · exact ih
    · exact .pure (.inr ⟨d, rfl, h2⟩)
theorem whileL_ret {c : MB} {body : MS} (I : Nat → Rho → Mem → Prop) : ∀ (m : Nat) {n : Nat} {ρ : Rho} {μ : Mem}, m < n → I m ρ μ → (R : Rho → Mem → Prop) → (P : D → Mem → Prop) →
    (∀ m ρ μ, I m ρ μ → Ok (c ρ μ) fun b μ1 => if b = true then Ok (body ρ μ1) fun f μ2 => (∃ ρ2 m2, (f = .nx ρ2 ∨ f = .cnt ρ2) ∧ m2 < m ∧ I m2 ρ2 μ2) ∨ ∃ d, f = .ret d ∧ P d μ2 else R ρ μ1) →
    Ok (whileL c body n ρ μ) fun f μ' => (∃ ρ', f = .nx ρ' ∧ R ρ' μ') ∨ ∃ d, f = .ret d ∧ P d μ'
  | m, 0, ρ, μ, hm, h0, R, P, hs => by omega
  | m, n + 1, ρ, μ, hm, h0, R, P, hs => by
    unfold whileL
    refine (hs m ρ μ h0).onE fun b μ1 h1 => ?_
    cases b with
    | false =>
      rw [if_neg (by simp)] at h1
      exact .pure (.inl ⟨ρ, rfl, h1⟩)
    | true =>
      rw [if_pos rfl] at h1
      simp only [if_true]
      refine h1.bind fun f μ2 h2 => ?_
      rcases h2 with ⟨ρ2, m2, hf, hlt, h2⟩ | ⟨d, rfl, h2⟩
      · have ih := whileL_ret (c := c) (body := body) I m2 (n := n) (by omega) h2 R P hs
        rcases hf with rfl | rfl
        · exact ih
        · exact ih
      · exact .pure (.inr ⟨d, rfl, h2⟩)
  termination_by _ n => n
section
variable {α : Type} {enc : α → PyData} {l l' : List α}
def sortE (enc : α → PyData) (l : List α) : List α := l.mergeSort (PySem.W.dataLe false enc)
theorem sortE_perm : (sortE enc l).Perm l := List.mergeSort_perm _ _
theorem sortE_eq (hp : l.Perm l') (inj : ∀ a ∈ l, ∀ b ∈ l, PySem.W.keyToks (enc a) = PySem.W.keyToks (enc b) → a = b) : sortE enc l = sortE enc l' := by
  have T := PySem.W.sortLe_total (PyProof.Rows.listOrd PyProof.Rows.itemOrd) false fun b => PySem.W.keyToks (enc b)
  have s1 : (sortE enc l).Pairwise fun a b => PySem.W.dataLe false enc a b = true := PySem.W.sort_pairwise T l
  have s2 : (sortE enc l').Pairwise fun a b => PySem.W.dataLe false enc a b = true := PySem.W.sort_pairwise T l'
  refine List.Perm.eq_of_pairwise (le := fun a b => PySem.W.dataLe false enc a b = true) (fun a b ha hb h1 h2 => ?_) s1 s2 (sortE_perm.trans (hp.trans sortE_perm.symm))
  have ma : a ∈ l := sortE_perm.mem_iff.mp ha
  have mb : b ∈ l := hp.mem_iff.mpr (sortE_perm.mem_iff.mp hb)
  refine inj a ma b mb ((PyProof.Rows.listOrd PyProof.Rows.itemOrd).total _ _ ?_ ?_)
  · have : (!(PyProof.Rows.listOrd PyProof.Rows.itemOrd).blt (PySem.W.keyToks (enc a)) (PySem.W.keyToks (enc b))) = true := h2
    simpa using this
  · have : (!(PyProof.Rows.listOrd PyProof.Rows.itemOrd).blt (PySem.W.keyToks (enc b)) (PySem.W.keyToks (enc a))) = true := h1
    simpa using this
theorem sortD_map {μ : Mem} {f : α → D} (h : ∀ x ∈ l, encD μ (f x) = enc x) : sortD μ (l.map f) = (sortE enc l).map f := by
  unfold sortD sortE
  refine (PySem.W.sort_maps f fun a ha b hb => ?_).symm
  have e : ∀ x y : PyData, encD μ (f a) = x → encD μ (f b) = y → PySem.W.dataLe false (encD μ) (f a) (f b) = PySem.W.dataLe false id x y := fun x y h1 h2 => by subst h1 h2; rfl
  exact (e _ _ (h a ha) (h b hb)).symm
theorem sortOk_tup {μ : Mem} {f : α → D} (hl : l.length ≤ 1000000) (h : ∀ x ∈ l, D.py? 8 μ (f x) = some (enc x) ∧ (enc x).depth ≤ 32 ∧ isTupD (enc x) = true) (ha : ∀ x ∈ l, ∀ y ∈ l, PySem.W.alike (enc x) (enc y) = true) : sortOk μ (l.map f) = true := by
  have he : ∀ x ∈ l, encD μ (f x) = enc x := fun x hx => by unfold encD; rw [(h x hx).1]; rfl
  simp only [sortOk, Bool.and_eq_true, List.all_eq_true, decide_eq_true_eq, Bool.or_eq_true, List.mem_map, List.length_map]
  refine ⟨⟨⟨?_, ?_⟩, .inl ?_⟩, hl⟩
  · rintro _ ⟨x, hx, rfl⟩
    rw [he x hx, (h x hx).1]
    exact ⟨rfl, (h x hx).2.1⟩
  · rintro _ ⟨x, hx, rfl⟩ _ ⟨y, hy, rfl⟩
    rw [he x hx, he y hy]
    exact ha x hx y hy
  · rintro _ ⟨x, hx, rfl⟩
    rw [he x hx]
    exact (h x hx).2.2
theorem sorted_tup {μ : Mem} {n : Nat} {f : α → D} (e : μ[n]? = some (.lst (l.map f))) (hl : l.length ≤ 1000000) (h : ∀ x ∈ l, D.py? 8 μ (f x) = some (enc x) ∧ (enc x).depth ≤ 32 ∧ isTupD (enc x) = true) (ha : ∀ x ∈ l, ∀ y ∈ l, PySem.W.alike (enc x) (enc y) = true) :
    sortedA [.ref n] μ = .ok (.ref μ.length) (μ ++ [.lst ((sortE enc l).map f)]) := by
  have he : ∀ x ∈ l, encD μ (f x) = enc x := fun x hx => by unfold encD; rw [(h x hx).1]; rfl
  cases l with
  | nil => simp [sortedA, sortedL, e, intsAt, toInts, isort, sortE]
  | cons x l =>
  have hi : intsAt (.ref n) μ = none := by
    obtain ⟨h1, _, h3⟩ := h x (by simp)
    simp only [intsAt, e, List.map_cons]
    cases q : f x with
    | int i =>
      rw [q] at h1
      simp only [D.py?, Option.some.injEq] at h1
      rw [← h1] at h3; cases h3
    | _ => simp [toInts]
  have s : sortedL [.ref n] μ = .stuck := by simp only [sortedL, e, hi]
  simp only [sortedA, s, sortedD, lstAt, e, sortOk_tup hl h ha, if_true, sortD_map he]
end
end RW

/-! SEu: repr of data, comparison of texts. -/
namespace RW
open PySem PySem.Spec L2
/-! ### data, empty dicts among them -/
mutual
def D.sh? : Nat → Mem → D → Option PyData
  | _, _, .non => some .none
  | _, _, .bl b => some (.bool b)
  | _, _, .int i => some (.int i)
  | _, _, .str s => some (.str s)
  | n + 1, μ, .tup l => (D.shs? n μ l).map PyData.tuple
  | n + 1, μ, .ref m => match μ[m]? with
    | some (.lst l) => (D.shs? n μ l).map PyData.list
    | some (.dic []) => some (.dict [])
    | _ => none
  | _, _, _ => none
def D.shs? : Nat → Mem → List D → Option (List PyData)
  | _, _, [] => some []
  | n, μ, d :: l => match D.sh? n μ d, D.shs? n μ l with
    | some k, some r => some (k :: r)
    | _, _ => none
end
def showOk (p : PyData) : Bool := p.showable && decide (p.shown.length ≤ sizeLine) && decide (p.depth ≤ 16)
def reprL : List D → Mem → Res D
  | [x], μ => match D.sh? 8 μ x with
    | some p => if showOk p = true then .ok (.str p.shown) μ else .stuck
    | none => .stuck
  | _, _ => .stuck
/-- what is known of a value that shows p -/
structure Shw (P : Program) (w : World) (h : Heap) (u : Value) (p : PyData) : Prop where
  rd : ∃ as, Reads h u p as
  sh : ∃ bs, ReadAtMost h p.depth bs ∧ ReprK P w bs h p.depth u p.shown
  top : ∀ (A : Around) (E : Value → Shared → Prop) (c : Shared) (Q : Value → Shared → Prop), A.guards = some [] → A.units + (p.depth + 1) < cLine → (∀ b o, h.get? b = some o → c.heap.get? b = some o) →
    (∀ k t n, (∀ b o, c.heap.get? b = some o → k.get? b = some o) → Q (.str p.shown t) { c with heap := k, toks := n }) → wpAny (model P w) A (call (.builtin "repr") [u]) Q E c
structure ShwAll (P : Program) (w : World) (h : Heap) (us : List Value) (ps : List PyData) : Prop where
  rd : ∃ as, ReadsAll h us ps as
  sh : ∃ bs, ReadAtMost h (PyData.depthAll ps) bs ∧ ReprAllK P w bs h (PyData.depthAll ps) us (PyData.shownAll ps)
section
variable {P : Program} {w : World} {h : Heap}
theorem shw_none : Shw P w h .none .none := ⟨⟨_, .none⟩, ReprK.of_reads .none rfl (fun z => by cases z) (by decide), fun A E c Q _ _ _ q => PySem.P.repr_of_none (by
  have z := q c.heap c.toks (c.toks + 1) fun _ _ e => e
  simpa only [PyData.shown] using z)⟩
theorem shw_bool (b : Bool) : Shw P w h (.bool b) (.bool b) := ⟨⟨_, .bool b⟩, ReprK.of_reads (.bool b) rfl (fun z => by cases z) (by cases b <;> decide), fun A E c Q _ _ _ q => PySem.P.repr_of_bool (by
  have z := q c.heap c.toks (c.toks + 1) fun _ _ e => e
  simpa only [PyData.shown] using z)⟩
theorem shw_int {i : Int} {t : Tok} (hs : (PyData.int i).showable = true) (hz : (PyData.int i).shown.length ≤ sizeLine) : Shw P w h (.int i t) (.int i) := ⟨⟨_, .int i t⟩, ReprK.of_reads (.int i t) hs (fun z => by cases z) hz, fun A E c Q _ _ _ q => PySem.P.repr_of_int (by simpa [PyData.showable] using hs) (by
  have z := q c.heap c.toks (c.toks + 1) fun _ _ e => e
  simpa only [PyData.shown] using z)⟩
theorem shw_str {x : Str} {t : Tok} (hz : (PyData.str x).shown.length ≤ sizeLine) : Shw P w h (.str x t) (.str x) := ⟨⟨_, .str x t⟩, ReprK.of_reads (.str x t) rfl (fun z => by cases z) hz, fun A E c Q _ _ _ q => PySem.P.repr_of_str (by
  have z := q c.heap c.toks (c.toks + 1) fun _ _ e => e
  simpa only [PyData.shown] using z) (by simpa only [PyData.shown] using hz)⟩
theorem shw_nil : ShwAll P w h [] [] := ⟨⟨_, .nil⟩, [], (fun _ z => nomatch z), by simp only [PyData.shownAll]; exact .nil⟩
theorem shw_cons {u : Value} {us : List Value} {p : PyData} {ps : List PyData} (a : Shw P w h u p) (b : ShwAll P w h us ps) : ShwAll P w h (u :: us) (p :: ps) := by
  obtain ⟨⟨as, r⟩, ⟨bs, b1, k1⟩, -⟩ := a
  obtain ⟨⟨as', r'⟩, ⟨bs', b2, k2⟩⟩ := b
  refine ⟨⟨_, .cons r r'⟩, bs ++ bs', ?_, ?_⟩
  · simp only [PyData.depthAll]
    exact (b1.mono (Nat.le_max_left _ _)).append (b2.mono (Nat.le_max_right _ _))
  · simp only [PyData.depthAll, PyData.shownAll]
    exact .cons ((k1.more fun _ z => List.mem_append_left _ z).level_le (Nat.le_max_left _ _)) (k2.more_le (fun _ z => List.mem_append_right _ z) (Nat.le_max_right _ _))
theorem shw_tuple {a : Addr} {o : Obj} {its : Array Value} {n : Nat} {ps : List PyData} (h1 : h.get? a = some o) (h2 : o.cls = .type "tuple") (h3 : o.data = .seq its n) (b : ShwAll P w h its.toList ps)
    (hz : (PyData.tuple ps).shown.length ≤ sizeLine) : Shw P w h (.ref a) (.tuple ps) := by
  obtain ⟨⟨as, r⟩, ⟨bs, b1, k1⟩⟩ := b
  have rt : Reads h (.ref a) (.tuple ps) _ := .tuple h1 h2 h3 r
  have far : a ∉ bs := not_mem_of_deeper rt (by simp only [PyData.depth]; omega) b1
  simp only [PyData.shown] at hz
  refine ⟨⟨_, rt⟩, ⟨a :: bs, ReadAtMost.cons rt (by simp only [PyData.depth]; omega) b1, ?_⟩, fun A E c Q hg hu hk q => ?_⟩
  · simp only [PyData.depth, PyData.shown]
    exact ReprK.tuple h1 h2 h3 far k1
  · simp only [PyData.depth] at hu
    simp only [PyData.shown] at q
    refine call_repr_slot (by omega) ⟨o, hk _ _ h1, h2⟩ F.slot_tuple_repr ?_
    exact call_tuple_reprK h1 h2 h3 far k1 (A := A.in1) hg (fun b _ => Clear.nil b) (by show A.units + 1 + _ < _; omega) hk (fun k t n z => ⟨_, _, rfl, q k t n z⟩) hz
theorem shw_list {a : Addr} {o : Obj} {its : Array Value} {n : Nat} {ps : List PyData} (h1 : h.get? a = some o) (h2 : o.cls = .type "list") (h3 : o.data = .seq its n) (b : ShwAll P w h its.toList ps)
    (hz : (PyData.list ps).shown.length ≤ sizeLine) : Shw P w h (.ref a) (.list ps) := by
  obtain ⟨⟨as, r⟩, ⟨bs, b1, k1⟩⟩ := b
  have rt : Reads h (.ref a) (.list ps) _ := .list h1 h2 h3 r
  have far : a ∉ bs := not_mem_of_deeper rt (by simp only [PyData.depth]; omega) b1
  simp only [PyData.shown] at hz
  obtain ⟨l⟩ := its
  cases l with
  | nil =>
    cases (show ReadsAll h [] ps _ from r)
    refine ⟨⟨_, rt⟩, ⟨a :: bs, ReadAtMost.cons rt (by simp only [PyData.depth]; omega) b1, ?_⟩, fun A E c Q hg hu hk q => ?_⟩
    · simp only [PyData.shown, PyData.shownAll, listText_nil]
      exact ReprK.listEmpty h1 h2 h3
    · simp only [PyData.shown, PyData.shownAll, listText_nil] at q
      refine call_repr_slot (by omega) ⟨o, hk _ _ h1, h2⟩ F.slot_list_repr.toG ?_
      exact call_list_repr_empty ⟨o, hk _ _ h1, h2⟩ (hk _ _ h1) h3 ⟨_, _, rfl, q c.heap _ _ fun _ _ z => z⟩
  | cons x l =>
    have each : ∀ (i : Nat) (y : Value), (x :: l).toArray[i]? = some y → ∃ t, (PyData.shownAll ps)[i]? = some t ∧ ReprK P w bs h (PyData.depthAll ps) y t := fun i y e => k1.item i y (by simpa using e)
    have long : (PyData.shownAll ps).length = (x :: l).toArray.size := by simpa using k1.length_eq
    refine ⟨⟨_, rt⟩, ⟨a :: bs, ReadAtMost.cons rt (by simp only [PyData.depth]; omega) b1, ?_⟩, fun A E c Q hg hu hk q => ?_⟩
    · simp only [PyData.depth, PyData.shown]
      exact ReprK.list h1 h2 h3 far long each
    · simp only [PyData.depth] at hu
      simp only [PyData.shown] at q
      refine call_repr_slot (by omega) ⟨o, hk _ _ h1, h2⟩ F.slot_list_repr.toG ?_
      exact call_list_reprK h1 h2 h3 far long each (A := A.in1) hg (fun b _ => Clear.nil b) (by show A.units + 1 + _ < _; omega) hk (fun k t n z => ⟨_, _, rfl, q k t n z⟩) hz
theorem shw_dict0 {a : Addr} {o : Obj} {es : Array DictEntry} {n : Nat} (h1 : h.get? a = some o) (h2 : o.cls = .type "dict") (h3 : o.data = .dict es n) (he : es.toList = []) (hs : (a == sysModules) = false) : Shw P w h (.ref a) (.dict []) := by
  have rt : Reads h (.ref a) (.dict []) _ := .dict h1 h2 h3 (by rw [he]; exact .nil) (by rw [he]; exact .nil)
  have k0 : ReprEntriesK P w [] h 0 es.toList [] := by rw [he]; exact .nil
  have nothing : a ∉ ([] : List Addr) := List.not_mem_nil
  refine ⟨⟨_, rt⟩, ⟨[a], ReadAtMost.cons rt (Nat.zero_le _) (fun _ z => nomatch z), ?_⟩, fun A E c Q hg hu hk q => ?_⟩
  · simp only [PyData.depth, PyData.shown, PyData.shownKv, PyData.depthKv]
    exact ReprK.dict h1 h2 h3 hs nothing k0
  · simp only [PyData.depth, PyData.depthKv] at hu
    simp only [PyData.shown, PyData.shownKv] at q
    refine call_repr_slot (by omega) ⟨o, hk _ _ h1, h2⟩ F.slot_dict_repr ?_
    exact call_dict_reprK h1 h2 h3 hs nothing k0 (A := A.in1) hg (fun b _ => Clear.nil b) (by show A.units + 1 + _ < _; omega) hk (fun k t n z => ⟨_, _, rfl, q k t n z⟩) (by decide)
end
/-! ### sizes of the parts -/
theorem shownAll_mem : ∀ {ps : List PyData} {p : PyData}, p ∈ ps → p.shown ∈ PyData.shownAll ps
  | q :: ps, p, hm => by
    simp only [PyData.shownAll]
    rcases List.mem_cons.mp hm with rfl | hm
    · exact List.mem_cons_self
    · exact List.mem_cons_of_mem _ (shownAll_mem hm)
theorem showableAll_mem : ∀ {ps : List PyData}, PyData.showableAll ps = true → ∀ p ∈ ps, p.showable = true
  | q :: ps, e, p, hm => by
    simp only [PyData.showableAll, Bool.and_eq_true] at e
    rcases List.mem_cons.mp hm with rfl | hm
    · exact e.1
    · exact showableAll_mem e.2 p hm
def okP (p : PyData) : Prop := p.showable = true ∧ p.shown.length ≤ sizeLine
theorem okP_tuple {ps : List PyData} (h : okP (.tuple ps)) : ∀ p ∈ ps, okP p := fun p hm => ⟨showableAll_mem (by simpa only [PyData.showable] using h.1) p hm, by
  have z := h.2
  simp only [PyData.shown] at z
  exact Nat.le_trans (tupleText_mem_le (shownAll_mem hm)) z⟩
theorem okP_list {ps : List PyData} (h : okP (.list ps)) : ∀ p ∈ ps, okP p := fun p hm => ⟨showableAll_mem (by simpa only [PyData.showable] using h.1) p hm, by
  have z := h.2
  simp only [PyData.shown] at z
  exact Nat.le_trans (listText_mem_le (shownAll_mem hm)) z⟩
/-! ### what data show -/
section
variable {X : Cx} {pins : List (Addr × Obj)} {σ : St} {H : Hp} {s : Shared} {ι : List Addr} {μ : Mem}
mutual
theorem shw_of (I : Inv X pins σ H s) (r : Rel (gOf X) ι H μ) : ∀ (n : Nat) (d : D) (v : V) (u : Value) (p : PyData), Rep (gOf X) ι H d v → RelV v u → D.sh? n μ d = some p → okP p → Shw X.prog X.w s.heap u p
  | n, .non, v, u, p, h, e, q, k => by
    unfold D.sh? at q
    cases q
    rw [h.non] at e
    cases e
    exact shw_none
  | n, .bl b, v, u, p, h, e, q, k => by
    unfold D.sh? at q
    cases q
    rw [h.bl] at e
    cases e
    exact shw_bool b
  | n, .int i, v, u, p, h, e, q, k => by
    unfold D.sh? at q
    cases q
    rw [h.int] at e
    obtain ⟨t, rfl⟩ := e
    exact shw_int k.1 k.2
  | n, .str x, v, u, p, h, e, q, k => by
    unfold D.sh? at q
    cases q
    rw [h.str] at e
    obtain ⟨t, rfl⟩ := e
    exact shw_str k.2
  | n + 1, .tup l, v, u, p, h, e, q, k => by
    unfold D.sh? at q
    obtain ⟨ps, e1, rfl⟩ := Option.map_eq_some_iff.mp q
    obtain ⟨a, vs, rfl, h1, h2⟩ := h.tup
    cases e
    obtain ⟨its, rv, ⟨o, g1, g2, m, g3⟩, _⟩ := I.tuple h1
    exact shw_tuple g1 g2 g3 (by simpa using shws_of I r n l vs its ps h2 rv e1 (okP_tuple k)) k.2
  | n + 1, .ref m, v, u, p, h, e, q, k => by
    unfold D.sh? at q
    split at q
    · rename_i l em
      obtain ⟨ps, e1, rfl⟩ := Option.map_eq_some_iff.mp q
      obtain ⟨a, vs, rfl, h1, h2, h3⟩ := r.lst em h
      cases e
      obtain ⟨its, rv, ⟨o, m, g1, g2, _, g3⟩, _⟩ := I.list (.of h2)
      exact shw_list g1 g2 g3 (by simpa using shws_of I r n l vs its ps h3 rv e1 (okP_list k)) k.2
    · rename_i em
      cases q
      obtain ⟨a, h0, rfl⟩ := h.ref
      cases e
      obtain ⟨kvs, h1, h2⟩ := r.cell m _ a em h0
      cases h2
      obtain ⟨_, h3, vs, h4, o, es, ep, g1, g2, g3, g4, g5, _⟩ := dk_of I.hok h1
      cases h4
      exact shw_dict0 g1 g2.1 g3 (by revert g5; generalize es.toList = l; intro g5; cases g5; rfl) h3
    · cases q
  | _, .fn _, _, _, _, _, _, q, _ => by unfold D.sh? at q; cases q
  | _, .frl _, _, _, _, _, _, q, _ => by unfold D.sh? at q; cases q
  | 0, .tup _, _, _, _, _, _, q, _ => by unfold D.sh? at q; cases q
  | 0, .ref _, _, _, _, _, _, q, _ => by unfold D.sh? at q; cases q
theorem shws_of (I : Inv X pins σ H s) (r : Rel (gOf X) ι H μ) : ∀ (n : Nat) (l : List D) (vs : List V) (us : List Value) (ps : List PyData), Reps (gOf X) ι H l vs → Vals vs us → D.shs? n μ l = some ps → (∀ p ∈ ps, okP p) → ShwAll X.prog X.w s.heap us ps
  | n, [], vs, us, ps, h, e, q, k => by
    unfold D.shs? at q
    cases q
    rw [h.nil_inv] at e
    cases e
    exact shw_nil
  | n, d :: l, vs, us, ps, h, e, q, k => by
    unfold D.shs? at q
    obtain ⟨v, x, rfl, h1, h2⟩ := h.cons_inv
    cases e with
    | cons r1 r2 =>
      split at q
      · rename_i p q' e1 e2
        cases q
        exact shw_cons (shw_of I r n d v _ p h1 r1 e1 (k _ List.mem_cons_self)) (shws_of I r n l x _ q' h2 r2 e2 fun z hz => k z (List.mem_cons_of_mem _ hz))
      · cases q
end
end
def rRepr (G : Gd) : List V → Hp → VK → Prop := fun xs H Q => ∃ (v : V) (d : D) (ι : List Addr) (μ : Mem) (p : PyData), xs = [v] ∧ Rel G ι H μ ∧ Rep G ι H d v ∧ D.sh? 8 μ d = some p ∧ showOk p = true ∧ Q (.str p.shown) H
theorem cr_repr {X : Cx} (hg : X.A.guards = some []) (hu : X.A.units + 64 < cLine) : CallR X (.builtin "repr") (rRepr (gOf X)) := by
  intro pins s σ H xs us Q I r h
  obtain ⟨v, d, ι, μ, p, rfl, rel, rep, hp, ok, q⟩ := h
  obtain ⟨u, rfl, ru⟩ := vals1 r
  simp only [showOk, Bool.and_eq_true, decide_eq_true_eq] at ok
  have S := shw_of I rel 8 d v u p rep ru hp ⟨ok.1.1, ok.1.2⟩
  exact S.top X.A X.xe s _ hg (by omega) (fun _ _ z => z) fun k t n z => ⟨.str p.shown, H, I.kept z, ⟨t, rfl⟩, q⟩
theorem snd_repr {G : Gd} : SndL G (rRepr G) reprL := fun ι H μ xs vs W σ Q r rxs h => by
  unfold reprL at h
  split at h
  · rename_i x
    obtain ⟨v, w, rfl, h1, h2⟩ := rxs.cons_inv
    rw [h2.nil_inv]
    split at h
    · rename_i p hp
      split at h
      · rename_i hs
        exact ⟨v, x, ι, μ, p, rfl, r, h1, hp, hs, h ι H .refl r _ (rep_str _)⟩
      · exact h.elim
    · exact h.elim
  · exact h.elim
end RW

/-! SEv: t[::-1], t[i::-1] of tuples and lists. -/
namespace RW
open PySem PySem.Spec L2
open PyProof.Rows hiding St
/-- how many items stand up to where the slice begins -/
def upTo (lo : Option Int) (n : Nat) : Nat := ((Builtin.Slice.sliceAdjust lo none (-1) (n : Int)).1 + 1).toNat
theorem adjust_back (lo : Option Int) (n : Nat) : Builtin.Slice.sliceAdjust lo none (-1) (n : Int) = ((upTo lo n : Int) - 1, -1) ∧ upTo lo n ≤ n := by
  have s1 : ((-1 : Int) < 0) := by decide
  unfold upTo Builtin.Slice.sliceAdjust
  simp only [s1, if_true]
  cases lo with
  | none => refine ⟨Prod.ext ?_ rfl, ?_⟩ <;> dsimp only <;> omega
  | some v =>
    by_cases hv : v < 0
    · simp only [if_pos hv]
      refine ⟨Prod.ext ?_ rfl, ?_⟩ <;> (try dsimp only) <;> omega
    · simp only [if_neg hv]
      refine ⟨Prod.ext ?_ rfl, ?_⟩ <;> (try dsimp only) <;> omega
theorem places_back (m : Nat) : Builtin.Slice.slicePlaces ((m : Int) - 1) (-1) (-1) = m := by
  unfold Builtin.Slice.slicePlaces
  have s1 : ¬ ((-1 : Int) > 0) := by decide
  simp only [s1, if_false]
  split
  · rw [show (-(-1 : Int)) = 1 by decide, Int.ediv_one]; omega
  · omega
theorem take_back {α : Type} (xs : List α) : ∀ m, m ≤ xs.length → (List.range m).filterMap (fun (k : Nat) => xs[((m : Int) - 1 + (k : Int) * (-1)).toNat]?) = (xs.take m).reverse
  | 0, _ => rfl
  | m + 1, h => by
    have e : xs.take (m + 1) = xs.take m ++ [xs[m]] := by rw [List.take_succ, List.getElem?_eq_getElem (by omega)]; rfl
    rw [e, List.reverse_append, List.reverse_singleton, List.singleton_append, List.range_succ_eq_map, List.filterMap_cons]
    have h0 : (((m + 1 : Nat) : Int) - 1 + ((0 : Nat) : Int) * (-1)).toNat = m := by omega
    rw [h0, List.getElem?_eq_getElem (by omega)]
    simp only
    rw [List.filterMap_map, ← take_back xs m (by omega)]
    have same : ((fun (k : Nat) => xs[(((m + 1 : Nat) : Int) - 1 + (k : Int) * (-1)).toNat]?) ∘ Nat.succ) = fun (k : Nat) => xs[((m : Int) - 1 + (k : Int) * (-1)).toNat]? := by
      funext k
      have : (((m + 1 : Nat) : Int) - 1 + ((Nat.succ k : Nat) : Int) * (-1)).toNat = ((m : Int) - 1 + (k : Int) * (-1)).toNat := by omega
      simp only [Function.comp_def, this]
    rw [same]
section
variable {prog : Program} {w : World} {A : Around} {E : Value → Shared → Prop} {s : Shared}
theorem item_back {t sl : Addr} {items : List Value} {vl vu vs : Value} {lo : Option Int} {Q : Value → Shared → Prop} (ht : IsTup s.heap t items.toArray) (hs : s.heap.IsSliceOf sl vl vu vs) (pl : IsPart vl lo) (pu : IsPart vu none) (ps : IsPart vs (some (-1)))
    (hz : items.length ≤ sizeLine) (q : Q (.ref s.heap.objs.size) { s with heap := s.heap.push { cls := .type "tuple", data := .seq ((items.take (upTo lo items.length)).reverse).toArray } }) :
    wpAny (model prog w) A (getItem (.ref t) (.ref sl)) Q E s := by
  have room : sizeOk (.seq ((items.take (upTo lo items.length)).reverse).toArray) := by
    show ((items.take (upTo lo items.length)).reverse).toArray.size ≤ sizeLine
    rw [List.size_toArray, List.length_reverse, List.length_take]
    omega
  obtain ⟨os, s1, s2, s3⟩ := id hs
  have ty : s.TypeIs (.ref sl) "slice" := ⟨os, s1, s2⟩
  obtain ⟨ad, le⟩ := adjust_back lo items.length
  unfold getItem
  try with_reducible apply wpAny_holding
  first | refine wpAny_bind (wpAny_pure ?_) | skip
  apply wpAny_bind
  apply wpAny_sequenceKey ht.typeIs (by decide)
  apply wpAny_bind
  apply wpAny_callSpecial?_slot (name := Str.ofString "__getitem__") ht.typeIs PyProof.Rows.slot_tuple_getitem
  refine wpAny_call_entry PyProof.Rows.slot_tuple_getitem ht.typeIs PyProof.Rows.entry_tuple_getitem ?_ (PyProof.Rows.args_tuple_getitem _ _)
  show wpAny _ _ (Builtin.Tuple.tupleItemsOf (.ref t) >>= _) _ _ s
  apply wpAny_bind
  apply PyProof.Rows.tupleItemsOf_ ht
  apply wpAny_bind
  apply wpAny_typeOf ty
  rw [if_pos (by decide)]
  apply wpAny_bind
  show wpAny _ _ (Builtin.Slice.sliceApplied (.ref sl) (pure (items.toArray.size : Int))) _ _ s
  unfold Builtin.Slice.sliceApplied Builtin.Slice.sliceFields
  refine wpAny_bind (wpAny_bind (wpAny_field s1 s3 (x := vl) rfl (wpAny_bind (wpAny_field s1 s3 (x := vu) rfl (wpAny_bind (wpAny_field s1 s3 (x := vs) rfl (wpAny_pure ?_)))))))
  apply wpAny_bind
  apply HT.slicePart_ ps
  show wpAny _ _ (if ((-1 : Int) == 0) = true then _ else _) _ _ s
  rw [if_neg (by decide)]
  apply wpAny_bind
  apply HT.slicePart_ pl
  apply wpAny_bind
  apply HT.slicePart_ pu
  apply wpAny_bind
  apply wpAny_pure
  show wpAny _ _ (match Builtin.Slice.sliceAdjust lo none (-1) (items.toArray.size : Int) with | (lo, hi) => pure (lo, (-1 : Int), Builtin.Slice.slicePlaces lo hi (-1))) _ _ s
  rw [List.size_toArray, ad]
  show wpAny _ _ (pure ((upTo lo items.length : Int) - 1, (-1 : Int), Builtin.Slice.slicePlaces ((upTo lo items.length : Int) - 1) (-1) (-1))) _ _ s
  rw [places_back]
  apply wpAny_pure
  show wpAny _ _ (if ((upTo lo items.length : Int) - 1 == 0 && (-1 : Int) == 1 && upTo lo items.length == items.toArray.size) = true then _ else _) _ _ s
  rw [if_neg (by simp)]
  have pick : ((List.range (upTo lo items.length)).filterMap fun (k : Nat) => items.toArray[((upTo lo items.length : Int) - 1 + (k : Int) * (-1)).toNat]?).toArray = ((items.take (upTo lo items.length)).reverse).toArray := by
    rw [← take_back items _ le]
    simp only [List.getElem?_toArray]
  rw [pick]
  first
    | exact wpAny_bind (m := Builtin.Tuple.tupleExact _) (wpAny_newObj_type (wpAny_pure ⟨_, rfl, wpAny_pure q⟩) room)
    | exact wpAny_bind (wpAny_bind (m := Builtin.Tuple.tupleExact _) (wpAny_newObj_type (wpAny_pure (wpAny_pure ⟨_, rfl, wpAny_pure q⟩)) room))
    | exact wpAny_bind (wpAny_bind (m := Builtin.Tuple.tupleExact _) (wpAny_newObj_type (wpAny_pure ⟨_, rfl, wpAny_pure q⟩) room))
end
def tBack (K : PySem.W.Frag) (te : TE) (tl : TO) : TE := fun σ H Q => te σ H fun x H1 => tl σ H1 fun lo H2 => ∃ a xs, x = .ref a ∧
  ((SqT K H2 a xs ∧ ∀ p, H2 p = none → Q (.ref p) (upd H2 p (.tup (xs.take (upTo lo xs.length)).reverse))) ∨ (SqL K H2 a xs ∧ lo = none ∧ ∀ p, H2 p = none → Q (.ref p) (upd H2 p (.lst xs.reverse))))
section
variable {X : Cx} {W : WX} {e i : Expr} {te : TE} {lo : Option Expr} {tl : TO} {k : Nat} {p1 p2 p3 pos : Pos} {me mi : MD}
theorem pe_back (he : PE X e te) (hl : PO X lo tl) : PE X (.Subscript e (.Slice lo none (some (.UnaryOp .USub (.Constant (.int 1) k p1) p2)) p3) pos) (tBack X.K te tl) := by
  have step : PO X (some (.UnaryOp .USub (.Constant (.int 1) k p1) p2)) (tPart (tUn (rU fun i => .int (-i)) (tC (.int 1)))) := po_some (pe_un un_neg pe_int)
  constructor
  intro pins c τ M R I h
  apply Subscript_
  apply thn (he.run pins c τ M _ I h)
  rintro v c1 ⟨x, M1, I1, rx, q⟩
  apply wpAny_Slice
  apply thn (hl.run pins c1 τ M1 _ I1 q)
  rintro vl c2 ⟨l, M2, I2, pl, q2⟩
  apply thn (po_none.run pins c2 τ M2 (fun o N => o = none ∧ N = M2) I2 ⟨rfl, rfl⟩)
  rintro vu c3 ⟨o3, M3, I3, pu, e1, e2⟩
  rw [e1] at pu
  rw [e2] at I3
  apply thn (step.run pins c3 τ M2 (fun o N => o = some (-1) ∧ N = M2) I3 ⟨1, rfl, -1, rfl, rfl, rfl⟩)
  rintro vs c4 ⟨o4, M4, I4, ps, e3, e4⟩
  rw [e3] at ps
  rw [e4] at I4
  have I5 := I4.kept (h' := c4.heap.push { cls := .type "slice", data := .fields #[vl, vu, vs] }) (t' := c4.toks) fun b o z => Heap.get?_push_of_some _ z
  obtain ⟨a, xs, rfl, q2⟩ := q2
  cases rx
  show wpAny (model X.prog X.w) X.A (subscriptTail e (.Slice lo none (some (.UnaryOp .USub (.Constant (.int 1) k p1) p2)) p3) (.ref a) (.ref c4.heap.objs.size)) _ X.xe { c4 with heap := c4.heap.push { cls := .type "slice", data := .fields #[vl, vu, vs] } }
  rcases q2 with ⟨ht, q2⟩ | ⟨ht, rfl, q2⟩
  · obtain ⟨its, r, tt, hz⟩ := I5.tuple ht
    refine tail_any (ops := [.ref a, .ref c4.heap.objs.size]) tt.typeIs PyProof.Rows.slot_tuple_getitem.lookup ?_ (by with_unfolding_all rfl)
    apply item_back tt (Heap.IsSliceOf.new _ vl vu vs) pl pu ps (by rw [← r.length]; exact hz)
    have e : its.length = xs.length := r.length.symm
    have r2 : Vals (xs.take (upTo l xs.length)).reverse (its.take (upTo l its.length)).reverse := by
      rw [e]
      exact (r.take _).reverse
    have le : (xs.take (upTo l xs.length)).reverse.length ≤ sizeLine := by
      rw [List.length_reverse, List.length_take]
      omega
    exact ⟨.ref _, _, I5.laid (t' := c4.toks) (o := .tup (xs.take (upTo l xs.length)).reverse) (fun b o z => Heap.get?_push_of_some _ z) (Nat.le_refl _) ⟨le, _, r2, IsTup.new _ _⟩, rfl, q2 _ (I5.hok.fresh (Nat.le_refl _))⟩
  · obtain ⟨its, r, tt, hz⟩ := I5.list ht
    refine tail_any (ops := [.ref a, .ref c4.heap.objs.size]) tt.isList.typeIs PySem.slot_list_getitem.lookup ?_ (by with_unfolding_all rfl)
    refine wpAny_getItem_list_slice tt.isList (Heap.IsSliceOf.new _ vl vu vs) pl pu ps (by decide) ?_ (by rw [List.size_toArray, ← r.length]; exact hz)
    rw [PySem.W.krv_pick]
    exact ⟨.ref _, _, I5.laid (t' := c4.toks) (o := .lst xs.reverse) (fun b o z => Heap.get?_push_of_some _ z) (Nat.le_refl _) ⟨by rw [List.length_reverse]; exact hz, _, 0, r.reverse, Heap.get?_push_size _ rfl⟩, rfl, q2 _ (I5.hok.fresh (Nat.le_refl _))⟩
/-- x[::-1] of a list or a tuple -/
def backD (x : D) (μ : Mem) : Res D := match x with
  | .tup l => .ok (.tup l.reverse) μ
  | _ => revD x μ
theorem upTo_none (n : Nat) : upTo none n = n := by
  have := adjust_back none n
  unfold upTo Builtin.Slice.sliceAdjust
  simp
theorem se_back (he : SE X W e me) : SE X W (.Subscript e (.Slice none none (some (.UnaryOp .USub (.Constant (.int 1) k p1) p2)) p3) pos) (mUn backD me) :=
  PE.mono (pe_back he po_none) fun σ H Q ⟨ρ, μ, ι, env, rel, h⟩ =>
    ⟨ρ, μ, ι, env, rel, (Post.bind h).imp fun ι1 H1 μ1 x _ _ ⟨g1, r1, h1⟩ v rv => by
      unfold backD at h1
      split at h1
      · rename_i l
        obtain ⟨a, vs, rfl, h2, h3⟩ := rv.tup
        refine ⟨a, vs, rfl, .inl ⟨h2, ?_⟩⟩
        rw [upTo_none, List.take_length]
        exact new_tup r1 h3.reverse h1
      · simp only [revD] at h1
        split at h1
        · rename_i l el
          obtain ⟨p, vs, rfl, h2, h3⟩ := lstAt_is r1 rv el
          exact ⟨p, vs, rfl, .inr ⟨h2, rfl, new_lst r1 h3.reverse h1⟩⟩
        · exact h1.elim⟩
/-- x[i::-1] of a tuple -/
def backAtD (i : Int) (x : D) (μ : Mem) : Res D := match x with
  | .tup l => .ok (.tup (l.take (upTo (some i) l.length)).reverse) μ
  | _ => .stuck
theorem se_backAt {j : Nat} {i : Int} {p4 : Pos} (he : SE X W e me) : SE X W (.Subscript e (.Slice (some (.Constant (.int i) j p4)) none (some (.UnaryOp .USub (.Constant (.int 1) k p1) p2)) p3) pos) (mUn (backAtD i) me) :=
  PE.mono (pe_back he (po_some pe_int)) fun σ H Q ⟨ρ, μ, ι, env, rel, h⟩ =>
    ⟨ρ, μ, ι, env, rel, (Post.bind h).imp fun ι1 H1 μ1 x _ _ ⟨g1, r1, h1⟩ v rv => by
      unfold backAtD at h1
      split at h1
      · rename_i l
        obtain ⟨a, vs, rfl, h2, h3⟩ := rv.tup
        refine ⟨i, rfl, a, vs, rfl, .inl ⟨h2, ?_⟩⟩
        rw [h3.length]
        exact new_tup r1 (h3.take _).reverse h1
      · exact h1.elim⟩
end
/-! ### texts -/
def eqT (x y : D) (μ : Mem) : Res D := match x, y with
  | .str a, .str b => .ok (.bl (decide (a = b))) μ
  | _, _ => .stuck
def neT (x y : D) (μ : Mem) : Res D := match x, y with
  | .str a, .str b => .ok (.bl (!decide (a = b))) μ
  | _, _ => .stuck
theorem snd_eqT {G : Gd} : Snd2 G rEq eqT := fun ι H μ x y v u W σ Q r rx ry h => by
  unfold eqT at h
  split at h
  · rename_i a b
    rw [rx.str, ry.str]
    refine ⟨rfl, ?_⟩
    have e : decide (V.str a = V.str b) = decide (a = b) := by simp
    rw [e]
    exact h ι H .refl r _ (rep_bl _)
  · exact h.elim
theorem snd_neT {G : Gd} : Snd2 G rNe neT := fun ι H μ x y v u W σ Q r rx ry h => by
  unfold neT at h
  split at h
  · rename_i a b
    rw [rx.str, ry.str]
    refine ⟨rfl, ?_⟩
    have e : decide (V.str a = V.str b) = decide (a = b) := by simp
    rw [e]
    exact h ι H .refl r _ (rep_bl _)
  · exact h.elim
def strL : List D → Mem → Res D
  | [.int i], μ => if i.natAbs.log2 < 1920 then .ok (.str (toString i)) μ else .stuck
  | [.str s], μ => .ok (.str s) μ
  | _, _ => .stuck
theorem call_strA {X : Cx} : CallR X (.type "str") (fun xs H Q => (∃ i, xs = [.int i] ∧ i.natAbs.log2 < 1920 ∧ Q (.str (toString i)) H) ∨ ∃ a, xs = [.str a] ∧ Q (.str a) H) := CallR.or call_str_int SkE.call_str_str
theorem snd_strL {G : Gd} : SndL G (fun xs H Q => (∃ i, xs = [.int i] ∧ i.natAbs.log2 < 1920 ∧ Q (.str (toString i)) H) ∨ ∃ a, xs = [.str a] ∧ Q (.str a) H) strL := fun ι H μ xs vs W σ Q r rxs h => by
  unfold strL at h
  split at h
  · obtain ⟨v, rfl, rv⟩ := rxs.one
    split at h
    · rename_i hi
      exact .inl ⟨_, by rw [rv.int], hi, h ι H .refl r _ (rep_str _)⟩
    · exact h.elim
  · obtain ⟨v, rfl, rv⟩ := rxs.one
    exact .inr ⟨_, by rw [rv.str], h ι H .refl r _ (rep_str _)⟩
  · exact h.elim
end RW

/-! SEw: zip of two lists; dict(list of pairs) with keys that are tuples. -/
namespace RW
open PySem L2 PySem.Spec
open PyProof.Rows hiding St
/-! ### zip -/
def zipItems : List D → List D → List D
  | a :: l, b :: r => .tup [a, b] :: zipItems l r
  | _, _ => []
theorem zipItems_get : ∀ {l r : List D} {i : Nat} {d : D}, (zipItems l r)[i]? = some d → ∃ x y, l[i]? = some x ∧ r[i]? = some y ∧ d = .tup [x, y]
  | [], _, i, d, e => by simp [zipItems] at e
  | a :: l, [], i, d, e => by simp [zipItems] at e
  | a :: l, b :: r, 0, d, e => ⟨a, b, rfl, rfl, by simpa [zipItems] using e.symm⟩
  | a :: l, b :: r, i + 1, d, e => by
    obtain ⟨x, y, h1, h2, h3⟩ := zipItems_get (l := l) (r := r) (i := i) (by simpa [zipItems] using e)
    exact ⟨x, y, by simpa using h1, by simpa using h2, h3⟩
theorem zipItems_len : ∀ {l r : List D}, l.length ≤ (zipItems l r).length ∨ r.length ≤ (zipItems l r).length
  | [], r => .inl (Nat.zero_le _)
  | a :: l, [] => .inr (Nat.zero_le _)
  | a :: l, b :: r => by
    rcases zipItems_len (l := l) (r := r) with h | h
    · exact .inl (by simp [zipItems]; exact h)
    · exact .inr (by simp [zipItems]; exact h)
def zipD : List D → Mem → Res (List D × (Mem → Prop))
  | [.ref n, .ref m], μ => (match μ[n]?, μ[m]? with
    | some (.lst l), some (.lst r) => .ok (zipItems l r, fun μ' => μ'[n]? = some (.lst l) ∧ μ'[m]? = some (.lst r)) μ
    | _, _ => .stuck)
  | _, _ => .stuck
@[simp] def iZipD (a : ML) : MIt := fun ρ μ => (a ρ μ).bind fun xs μ1 => zipD xs μ1
section
variable {G : Gd} {ι : List Addr} {H : Hp} {μ : Mem}
theorem it_zip {a b : Addr} {n m : Nat} {l r : List D} (hn : ι[n]? = some a) (hm : ι[m]? = some b) : ItOk G ι H (Itz G.K a b) (zipItems l r) (fun μ' => μ'[n]? = some (.lst l) ∧ μ'[m]? = some (.lst r)) := by
  have key : ∀ {n : Nat} {a : Addr} {l : List D} {ι' : List Addr} {H' : Hp} {μ' : Mem}, ι[n]? = some a → Grow ι H ι' H' → Rel G ι' H' μ' → μ'[n]? = some (.lst l) → ∃ vs, SqL G.K H' a vs ∧ Reps G ι' H' l vs := fun {n a l ι' H' μ'} hn g r e => by
    obtain ⟨vs, h1, h2⟩ := r.cell n _ a e (prefix_get g.pre hn)
    exact ⟨vs, .of h1, h2⟩
  refine ⟨fun i d ι' H' μ' e g rl c => ?_, fun i d ι' H' μ' v H2 e g rl c hy => ?_, fun ι' H' μ' g rl c => ?_⟩
  · obtain ⟨x, y, ex, ey, rfl⟩ := zipItems_get e
    obtain ⟨vs, h1, h2⟩ := key hn g rl c.1
    obtain ⟨ws, k1, k2⟩ := key hm g rl c.2
    obtain ⟨v, e1, _⟩ := h2.get ex
    obtain ⟨w, e2, _⟩ := k2.get ey
    exact ⟨vs, ws, v, w, h1, k1, e1, e2⟩
  · obtain ⟨T, v1, v2, rfl, hT, rfl, q1, q2⟩ := hy
    obtain ⟨x, y, ex, ey, rfl⟩ := zipItems_get e
    obtain ⟨vs, h1, h2⟩ := key hn g rl c.1
    obtain ⟨ws, k1, k2⟩ := key hm g rl c.2
    obtain ⟨v, e1, r1⟩ := h2.get ex
    obtain ⟨w, e2, r2⟩ := k2.get ey
    rw [q1 vs h1] at e1; cases e1
    rw [q2 ws k1] at e2; cases e2
    obtain ⟨g2, rl2⟩ := grow_laid (o := .tup [v1, v2]) rl hT
    exact ⟨g2, rl2, rep_tup (.of upd_same) (.cons (r1.ext (g2.ext rl)) (.cons (r2.ext (g2.ext rl)) .nil))⟩
  · obtain ⟨vs, h1, h2⟩ := key hn g rl c.1
    obtain ⟨ws, k1, k2⟩ := key hm g rl c.2
    refine ⟨vs, ws, h1, k1, ?_⟩
    rw [h2.length, k2.length]
    exact zipItems_len
end
section
variable {X : Cx} {W : WX} {e e2 : Expr} {ms : ML} {p pos tpos : Pos} {elts : List Expr} {kk : Nat}
theorem si_zip (hg : Gl X "zip") (hm : X.mg "zip" = none) (ha : SA X W [e, e2] ms)
    (hs : starEach [e, e2] X.env = (false, eval e X.env) :: starEach [e2] X.env := by rfl) (hpl : (backTo pos (starEach [e2] X.env)).any (·.1) = false := by rfl) :
    SI X W (.Tuple elts kk tpos) (.Call (.Name "zip" p) [e, e2] [] pos) (iZipD ms) :=
  PI.mono (pi_zip hg hm ha hs hpl) fun σ H R ⟨ρ, μ, ι, env, rel, h⟩ => by
    have h := Post.bind h
    refine ⟨ρ, μ, ι, env, rel, ?_⟩
    cases hm : ms ρ μ with
    | stuck => rw [hm] at h; exact h.elim
    | exc c fs m => rw [hm] at h; exact h
    | ok ds μ1 =>
      rw [hm] at h
      intro ι1 H1 g1 r1 vs rvs
      obtain ⟨_, _, h3⟩ := h ι1 H1 g1 r1
      unfold zipD at h3
      split at h3
      · rename_i n m
        obtain ⟨v, vs', rfl, rv, rvs'⟩ := rvs.cons_inv
        obtain ⟨w, vs'', rfl, rw', rvs''⟩ := rvs'.cons_inv
        obtain rfl := rvs''.nil_inv
        split at h3
        · rename_i l r em em2
          obtain ⟨a, vs, rfl, h0, h1, h2⟩ := r1.lst em rv
          obtain ⟨b, ws, rfl, k0, k1, k2⟩ := r1.lst em2 rw'
          exact ⟨a, b, vs, ws, rfl, .of h1, .of k1, h3 ι1 H1 .refl r1 _ (it_zip h0 k0)⟩
        · exact h3.elim
      · exact h3.elim
end
/-! ### dict(list of pairs) -/
def pairsT : List D → Option (List (D × D))
  | [] => some []
  | d :: l => match d with
    | .tup [k, v] => if isT k = true then (pairsT l).map fun r => (k, v) :: r else none
    | _ => none
def dictL : List D → Mem → Res D
  | [.ref n], μ => (match μ[n]? with
    | some (.lst l) => (match pairsT l with
      | some ps => if ps.length ≤ 100000 then .ok (.ref μ.length) (μ ++ [.tdic (dicOf ps)]) else .stuck
      | none => .stuck)
    | _ => .stuck)
  | _, _ => .stuck
/-- the pairs' keys and values as they lie -/
def KeysAre (G : Gd) (ι : List Addr) (H : Hp) (ps : List (D × D)) (ks : List (NestedKey × Addr × Value)) : Prop := Paired (RepT G ι H) ps ks
def rDictT (G : Gd) : List V → Hp → VK → Prop := fun xs H Q => ∃ (a : Addr) (vs : List V) (ι : List Addr) (μ : Mem) (l : List D) (ps : List (D × D)), xs = [.ref a] ∧ SqL G.K H a vs ∧ Rel G ι H μ ∧ Reps G ι H l vs ∧ pairsT l = some ps ∧ ps.length ≤ 100000 ∧
  ∀ (p : Addr) (ks : List (NestedKey × Addr × Value)), H p = none → (p == sysModules) = false → Paired (RepT G ι H) ps ks → Q (.ref p) (upd H p (.ext (tdPhi G p (storedAllH [] ks))))
theorem pairsT_at {X : Cx} {pins : List (Addr × Obj)} {σ : St} {s : Shared} {ι : List Addr} {H : Hp} (I : Inv X pins σ H s) : ∀ {l : List D} {ps : List (D × D)} {vs : List V} {us : List Value}, pairsT l = some ps → Reps (gOf X) ι H l vs → Vals vs us →
    ∃ (ks : List (NestedKey × Addr × Value)) (ts : List Addr), Paired (RepT (gOf X) ι H) ps ks ∧ us = ts.map Value.ref ∧ ts.length = ks.length ∧ (∀ x ∈ ks, (nestedKind X.prog X.w).is s.heap x.1 x.2.1) ∧ ∀ (j : Nat) (k : NestedKey × Addr × Value), ks[j]? = some k → ∃ t, ts[j]? = some t ∧ PairAt s.heap t (.ref k.2.1) k.2.2
  | [], ps, vs, us, e, r, ru => by
    cases e
    rw [r.nil_inv] at ru; cases ru
    exact ⟨[], [], .nil, rfl, rfl, (fun _ h => nomatch h), fun j k h => by rw [List.getElem?_nil] at h; cases h⟩
  | d :: l, ps, vs, us, e, r, ru => by
    unfold pairsT at e
    obtain ⟨v, w, rfl, h1, h2⟩ := r.cons_inv
    split at e
    · rename_i k x
      split at e
      · rename_i hk
        obtain ⟨ps', e1, rfl⟩ := Option.map_eq_some_iff.mp e
        cases ru with
        | cons ra rb =>
          obtain ⟨ks, ts, p1, rfl, p3, p4, p5⟩ := pairsT_at I e1 h2 rb
          obtain ⟨t, vs2, rfl, s1, s2⟩ := h1.tup
          obtain ⟨kv, w2, rfl, rk, s3⟩ := s2.cons_inv
          obtain ⟨xv, w3, rfl, rx, s4⟩ := s3.cons_inv
          obtain rfl := s4.nil_inv
          obtain ⟨kl, kk, rfl, ek, ek8⟩ := isT_key hk
          obtain ⟨b, bs, rfl, _, _⟩ := id rk.tup
          cases ra
          obtain ⟨its, rv, ⟨o, ho, hc, n, hd⟩, _⟩ := I.tuple s1
          cases rv with
          | cons rv1 rv2 =>
            cases rv2 with
            | cons rv2 rv3 =>
              cases rv3
              cases rv1
              rename_i uv
              refine ⟨(kk, b, uv) :: ks, t :: ts, .cons ⟨ek, ek8, rk, xv, rx, rv2⟩ p1, rfl, by simp [p3], fun y hy => ?_, fun j y hy => ?_⟩
              · rcases List.mem_cons.mp hy with rfl | hy
                · exact ⟨nest_of I _ _ _ _ ek rk rfl, ek8⟩
                · exact p4 y hy
              · cases j with
                | zero =>
                  have : (kk, b, uv) = y := Option.some.inj hy
                  subst this
                  exact ⟨t, rfl, .inl ⟨o, ho, hc, n, hd⟩⟩
                | succ j =>
                  obtain ⟨t', e1, e2⟩ := p5 j y (by simpa using hy)
                  exact ⟨t', by simpa using e1, e2⟩
      · cases e
    · cases e
theorem storedH_nodup {xs : List (NestedKey × Addr × Value)} {k : NestedKey} {a : Addr} {v : Value} (nd : (xs.map (·.1)).Nodup) : ((storedH xs k a v).map (·.1)).Nodup := by
  unfold storedH
  split
  · rw [keys_map_putAt]; exact nd
  · rename_i hf
    rw [List.map_append, List.nodup_append]
    refine ⟨nd, by simp, fun b hb c hc => ?_⟩
    simp at hc; subst hc
    rintro rfl
    apply hf
    cases e : atKey xs b with
    | some p => rfl
    | none =>
      exfalso
      obtain ⟨y, hy, rfl⟩ := List.mem_map.mp hb
      unfold atKey at e
      rw [Option.map_eq_none_iff, List.find?_eq_none] at e
      exact e y hy (by simp)
theorem dictT_paired {G : Gd} {ι : List Addr} {H : Hp} : ∀ {ps acc : List (D × D)} {ks xs : List (NestedKey × Addr × Value)}, Paired (RepT G ι H) ps ks → Paired (RepT G ι H) acc xs → Paired (RepT G ι H) (ps.foldl (fun acc p => dPut acc p.1 p.2) acc) (storedAllH xs ks)
  | _, _, _, _, .nil, q => q
  | _, _, _, _, .cons (a := p) (b := k) h t, q => by
    obtain ⟨h1, h2, h3, v, h4, h5⟩ := h
    have := dictT_paired t (dPut_T h1 h2 h3 h4 h5 q)
    exact this
section
variable {X : Cx}
theorem call_dictT (hc : X.calm = true) (hu : X.A.units + 64 < cLine) : CallR X (.type "dict") (rDictT (gOf X)) := by
  intro pins s σ H xs us Q I r h
  obtain ⟨a, vs, ι, μ, l, ps, rfl, hq, rel, rl, hp, hl, q⟩ := h
  obtain ⟨u, rfl, rx⟩ := r.one
  cases rx
  obtain ⟨its, rv, ⟨o, n, ho, hcl, hd, hdat⟩, hz⟩ := I.list hq
  obtain ⟨ks, ts, p1, p2, p3, p4, p5⟩ := pairsT_at I hp rl rv
  subst p2
  have hkl : ps.length = ks.length := Paired.length p1
  let prs : List (Value × Value) := ks.map fun k => (Value.ref k.2.1, k.2.2)
  have P := PairArg.list (prog := X.prog) (w := X.w) a (ts.map Value.ref).toArray (fun j => ts.getD j 0) prs
  refine call_dict_pairsH (knd := nestedKind X.prog X.w) (ps := ks) P (I.ok.hd hc) (by show X.A.units + 1 + 1 + 8 < cLine; omega) ⟨⟨o, n, ho, hcl, hd, hdat⟩, ?_, fun j k v e => ?_⟩ ⟨by simp [prs], fun i key v hr => ?_⟩ (fun h' hk x hx => ?_) (by simp only [prs, List.length_map]; rw [sizeLine_eq]; omega) fun h' tk hd' hk => ?_
  · simp [prs, p3]
  · obtain ⟨x, ex, e2⟩ := Option.map_eq_some_iff.mp ((List.getElem?_map ..).symm.trans e)
    cases e2
    obtain ⟨t, e1, e3⟩ := p5 j x ex
    have : ts.getD j 0 = t := by simp [List.getD, e1]
    show _ = some (Value.ref (ts.getD j 0)) ∧ PairAt s.heap (ts.getD j 0) _ _
    rw [this]
    exact ⟨by simp [e1], e3⟩
  · obtain ⟨x, ex, e2⟩ := Option.map_eq_some_iff.mp ((List.getElem?_map ..).symm.trans hr)
    cases e2
    exact ⟨x.1, x.2.1, ex, rfl⟩
  · exact nestedKind_stays.stays (fun b o vs m e _ => hk b o (fun z => by subst z; exact absurd (Heap.lt_size e) (Nat.lt_irrefl _)) (fun z => nomatch z) e) (p4 x hx)
  · have hm : (s.heap.objs.size == sysModules) = false := beq_eq_false_iff_ne.mpr (Nat.ne_of_gt I.big)
    exact ⟨.ref s.heap.objs.size, _, I.laid (t' := tk) (fun b o e => hk b o (fun z => nomatch z) e) (Nat.le_refl _) (td_obj (G := gOf X) hd'), rfl, q _ ks (I.hok.fresh (Nat.le_refl _)) hm p1⟩
theorem snd_dictT {G : Gd} : SndL G (rDictT G) dictL := fun ι H μ xs vs W σ Q r rxs h => by
  unfold dictL at h
  split at h
  · rename_i n
    obtain ⟨v, rfl, rv⟩ := rxs.one
    split at h
    · rename_i l em
      obtain ⟨a, vs, rfl, h0, h1, h2⟩ := r.lst em rv
      split at h
      · rename_i ps ep
        split at h
        · rename_i hl
          refine ⟨a, vs, ι, μ, l, ps, rfl, .of h1, r, h2, ep, hl, fun p ks hp hs pk => ?_⟩
          have pp := dictT_paired pk (.nil (F := RepT G ι H))
          have hn : ∀ {ks xs : List (NestedKey × Addr × Value)}, (xs.map (·.1)).Nodup → ((storedAllH xs ks).map (·.1)).Nodup := fun {ks} => by
            induction ks with
            | nil => exact fun h => h
            | cons k ks ih => exact fun {xs} h => ih (xs := storedH xs k.1 k.2.1 k.2.2) (storedH_nodup h)
          have hlen := storedAllH_length ks []
          have hkl : ps.length = ks.length := Paired.length pk
          obtain ⟨g2, r2⟩ := grow_cell (o := .ext (tdPhi G p (storedAllH [] ks))) (c := .tdic (dicOf ps)) r hp fun x => ⟨_, upd_same, Paired.imp' pp fun _ _ z => ⟨z.1, z.2.1, z.2.2.1.ext x, let ⟨v, z1, z2⟩ := z.2.2.2; ⟨v, z1.ext x, z2⟩⟩, hn (by simp), by rw [sizeLine_eq]; simp at hlen; omega, hs⟩
          exact h _ _ g2 r2 _ (rep_new (r := r))
        · exact h.elim
      · exact h.elim
    · exact h.elim
  · exact h.elim
end
end RW

/-! SEx: sorted and len of a dict with keys that are tuples; x in a row of flat things. -/
namespace RW
open PySem L2 PySem.Spec
open PyProof.Rows hiding St
/-! ### a dict of any keys, collected -/
section
variable {prog : Program} {w : World} {A : Around}
theorem walks_raw (hh : A.handled = none) (I d : Addr) (hne : d ≠ I) (es : Array DictEntry) (ep : Nat) :
    Walks prog w A I [I, d] [I] es.size (fun i v => ∃ hi : i < es.size, v = es[i].key) (fun i h => h.IsKeyIter I d i es.size ep ∧ h.DictRaw d es ep) where
  sub := fun b hb => by simp at hb; simp [hb]
  frame := fun _ _ _ st hk => ⟨st.1.at fun o e => hk I (by simp) o e, let ⟨o, h1, h2, h3⟩ := st.2; ⟨o, hk d (by simp) o h1, h2, h3⟩⟩
  item := fun i s Q E hi st hQ => wpAny_pyNext_keys_item_raw st.1 st.2 hi fun h' st' sb => by
    obtain ⟨o, h1, h2, h3⟩ := st.2
    exact hQ _ h' s.toks ⟨hi, rfl⟩ ⟨st', o, (sb.2 d hne).trans h1, h2, h3⟩ fun b o hb e => (sb.2 b (fun h => hb (by simp [h]))).trans e
  done := fun s Q E st hQ => wpAny_pyNext_keys_end_raw hh st.1 st.2 (Nat.le_refl _) fun h' eb => hQ h' s.toks fun b o hb e => eb b o (fun h => hb (by simp [h])) e
  self := fun _ _ _ _ st hQ => wpAny_pyIter_keyiter st.1 hQ
theorem raw_lt {h : Heap} {d : Addr} {es : Array DictEntry} {ep : Nat} (m : h.DictRaw d es ep) : d < h.objs.size := let ⟨_, h1, _⟩ := m; Heap.lt_size h1
theorem kdl_raw {d : Addr} {es : Array DictEntry} {ep : Nat} (lo : (d == sysModules) = false) : PySem.W.KdlSrc prog w "dict" d d es.size (fun i v => ∃ hi : i < es.size, v = es[i].key) (fun h => h.DictRaw d es ep) where
  type := fun _ hm => hm.typeIs
  there := fun _ hm => ⟨raw_lt hm, raw_lt hm⟩
  keep := fun _ _ hm hk => let ⟨o, h1, h2, h3⟩ := hm; ⟨o, hk d (.inl rfl) o h1, h2, h3⟩
  notList := by decide
  notTuple := by decide
  hint := fun _ _ _ _ hm hq => PySem.W.kdl_hint_dict hm.typeIs hq
  iter := fun A s hh hm => ⟨_, _, fun _ _ hq => wpAny_pyIter_dict_raw lo hm hq, walks_raw hh _ d (Nat.ne_of_lt (raw_lt hm)) es ep, ⟨⟨_, Heap.get?_push_size _ rfl, rfl, rfl⟩, let ⟨o, h1, h2, h3⟩ := hm; ⟨o, Heap.get?_push_of_some _ h1, h2, h3⟩⟩⟩
end
/-! ### sorted of a dict of tuples -/
def rSortedT (G : Gd) : List V → Hp → VK → Prop := fun xs H Q => ∃ (a : Addr) (ι : List Addr) (μ : Mem) (l : List (D × D)) (ks : List (NestedKey × Addr × Value)), xs = [.ref a] ∧ TdIs G ι H a l ks ∧ Rel G ι H μ ∧ sortOk μ (l.map (·.1)) = true ∧
  ∀ vs' p, Reps G ι H (sortD μ (l.map (·.1))) vs' → H p = none → Q (.ref p) (upd H p (.lst vs'))
theorem cr_sortedT {X : Cx} (hc : X.calm = true) (hu : X.A.units + 64 < cLine) : CallR X (.builtin "sorted") (rSortedT (gOf X)) := by
  intro pins s σ H xs us Q I r h
  obtain ⟨a, ι, μ, l, ks, rfl, T, rel, ok, q⟩ := h
  rw [Vals.ref1 r]
  simp only [sortOk, Bool.and_eq_true, List.all_eq_true, decide_eq_true_eq, Bool.or_eq_true] at ok
  obtain ⟨⟨⟨o1, o2⟩, o3⟩, o4⟩ := ok
  obtain ⟨h1, h2, h3, h4, h5⟩ := T
  obtain ⟨⟨o, es, ep, e1, e2, e3, e4⟩, _⟩ := h1.ok I.hok
  have hz : es.size = ks.length := by
    have q := congrArg List.length e4
    simpa using q
  have hll : l.length = ks.length := Paired.length h2
  have raw : s.heap.DictRaw a es ep := ⟨o, e1, e2, e3⟩
  refine Calls.call_function_entry PyProof.Rows.kind_sorted PyProof.Rows.plain_sorted PyProof.Rows.entry_sorted (PyProof.Rows.args_sorted1 _) ?_
  unfold Builtin.«sorted»
  refine wpAny_bind (m := checkCount "sorted" 1 1 _) (wpAny_pure ?_)
  refine wpAny_bind (PySem.W.kdu_collect (A := X.A.in1) (kdl_raw h5) (I.ok.hd hc) raw (by rw [hz]; exact h4) fun h' tk acc hk hacc => ?_)
  have hal : acc.toList.length = l.length := by rw [Array.length_toList, hacc.1, hz, hll]
  have ech : PySem.W.EachIs (fun u d => ∃ v, Rep (gOf X) ι H d v ∧ RelV v u) acc.toList (l.map (·.1)) := by
    have key : ∀ {l : List (D × D)} {ks : List (NestedKey × Addr × Value)} {us : List Value}, Paired (RepT (gOf X) ι H) l ks → us.length = l.length → (∀ (j : Nat) (u : Value), us[j]? = some u → ∃ x, ks[j]? = some x ∧ u = .ref x.2.1) → PySem.W.EachIs (fun u d => ∃ v, Rep (gOf X) ι H d v ∧ RelV v u) us (l.map (·.1)) := by
      intro l ks us P
      induction P generalizing us with
      | nil => intro hl _; cases us with
        | nil => exact .nil
        | cons _ _ => simp at hl
      | cons hr t ih =>
        intro hl hj
        cases us with
        | nil => simp at hl
        | cons u us =>
          obtain ⟨x, ex, eu⟩ := hj 0 u rfl
          simp at ex; subst ex
          refine .cons ⟨.ref _, hr.2.2.1, eu⟩ (ih (by simpa using hl) fun j u e => ?_)
          obtain ⟨x, ex, eu⟩ := hj (j + 1) u (by simpa using e)
          exact ⟨x, by simpa using ex, eu⟩
    refine key h2 hal fun j u e => ?_
    obtain ⟨hi, ev⟩ := hacc.2 j u (by rw [← Array.getElem?_toList]; exact e)
    have q := congrArg (fun l => l[j]?) e4
    simp only [List.getElem?_map] at q
    rw [show es.toList[j]? = some es[j] by simp [hi], List.getElem?_eq_getElem (by omega : j < ks.length)] at q
    refine ⟨ks[j], List.getElem?_eq_getElem (by omega), ?_⟩
    simp only [Option.map_some, Option.some.injEq] at q
    rw [ev, q]; rfl
  have er : PySem.W.EachIs (fun u d => ∃ as, Reads s.heap u (encD μ d) as) acc.toList (l.map (·.1)) := by
    have key : ∀ {l : List D} {us : List Value}, (∀ d ∈ l, (D.py? 8 μ d).isSome = true) → PySem.W.EachIs (fun u d => ∃ v, Rep (gOf X) ι H d v ∧ RelV v u) us l → PySem.W.EachIs (fun u d => ∃ as, Reads s.heap u (encD μ d) as) us l := by
      intro l us hh e
      induction e with
      | nil => exact .nil
      | cons h1 t ih =>
        obtain ⟨v, h1, r1⟩ := h1
        refine .cons ?_ (ih fun d hd => hh d (List.mem_cons_of_mem _ hd))
        obtain ⟨p, hp⟩ := Option.isSome_iff_exists.mp (hh _ List.mem_cons_self)
        unfold encD
        rw [hp]
        exact Dp.reads I p v _ (dp_of rel 8 _ v p h1 hp) r1
    exact key (fun d hd => (o1 d hd).1) ech
  have I1 : Inv X pins σ H { s with heap := h', toks := tk } := I.kept hk
  have hsz : acc.toList.length ≤ sizeLine := by rw [hal, hll]; exact h4
  refine wpAny_bind (wpAny_newList ?_ hsz)
  have hoL : (h'.push (seqObj "list" acc.toList.toArray 0)).get? h'.objs.size = some (seqObj "list" acc.toList.toArray 0) := Heap.get?_push_size _ rfl
  show wpAny _ _ _ _ _ { s with heap := h'.push (seqObj "list" acc.toList.toArray 0), toks := tk }
  have er' : PySem.W.EachIs (fun u d => ∃ as, Reads (PySem.W.sortingHeap (h'.push (seqObj "list" acc.toList.toArray 0)) h'.objs.size acc.toList) u (encD μ d) as) acc.toList (l.map (·.1)) := er.mono fun _ _ ⟨as, r⟩ => ⟨as, PyProof.Rows.Reads.keeps (fun b o e => by
    have := hk b o e
    exact PySem.W.sortingHeap_old (Nat.ne_of_lt (Heap.lt_size this)) (Heap.get?_push_of_some _ this)) r⟩
  have hal2 : PySem.W.AllAlike ((l.map (·.1)).map (encD μ)) := by
    intro d hd d' hd'
    obtain ⟨b, hb, rfl⟩ := List.mem_map.mp hd
    obtain ⟨b', hb', rfl⟩ := List.mem_map.mp hd'
    exact o2 b hb b' hb'
  have hsr : PySem.W.Sortable ((l.map (·.1)).map (encD μ)) := by
    rcases o3 with o3 | o3
    · refine .inl fun d hd => ?_
      obtain ⟨b, hb, rfl⟩ := List.mem_map.mp hd
      have := o3 b hb
      unfold isTupD at this
      split at this
      · rename_i x r e; exact ⟨x, r, e⟩
      · cases this
    · refine .inr fun d hd => ?_
      obtain ⟨b, hb, rfl⟩ := List.mem_map.mp hd
      have := o3 b hb
      refine ⟨fun e => ?_, fun xs e => ?_⟩ <;> (rw [e] at this; cases this)
  let sL : Shared := { s with heap := PySem.W.sortingHeap (h'.push (seqObj "list" acc.toList.toArray 0)) h'.objs.size acc.toList, toks := tk }
  refine wpAny_bind (wpAny_holding (wpAny_call_entry PyProof.Rows.slot_list_sort ⟨_, hoL, rfl⟩ PyProof.Rows.entry_list_sort
    (PySem.W.list_sort_vals (κ := PySem.W.dataKind sL.heap ((l.map (·.1)).map (encD μ))) (s := { s with heap := h'.push (seqObj "list" acc.toList.toArray 0), toks := tk }) hoL
      (PySem.W.SortsAt.data (s := sL) (PySem.W.each_map (R := fun v d => ∃ as, Reads sL.heap v d as) (encD μ) er') hal2 hsr (PySem.W.bound_map fun b hb => ?_)) hsz ⟨_, rfl, ?_⟩)
    (PyProof.Rows.args_list_sort _)))
  · have := (o1 b hb).2
    show X.A.units + 1 + 1 + _ < cLine
    omega
  have eo := PySem.W.sortVals_data (R := fun u d => ∃ v, Rep (gOf X) ι H d v ∧ RelV v u) (h' := sL.heap) (enc := encD μ) false ech er' hal2
  obtain ⟨vs', g3, g4⟩ := reps_of_each eo
  obtain ⟨e', he'⟩ := PyProof.Rows.sortedHeap_at (vs := acc.toList) (out := (PySem.W.sortVals (PySem.W.dataKind sL.heap ((l.map (·.1)).map (encD μ))) false acc.toList acc.toList).toArray) hoL
  have hlen : vs'.length ≤ sizeLine := by
    rw [g4.length, PySem.W.sortVals_length false rfl]; exact hsz
  refine wpAny_pure ⟨_, rfl, .ref h'.objs.size, upd H h'.objs.size (.lst vs'), I1.laid (t' := tk) (fun b u e => ?_) (Nat.le_refl _)
    (show ObjOk X.prog X.w _ _ _ (.lst vs') from ⟨hlen, _, e', g4, he'⟩), rfl, q _ _ g3 (I1.hok.fresh (Nat.le_refl _))⟩
  have hb : b < h'.objs.size := Heap.lt_size e
  rw [PyProof.Rows.sortedHeap_old (Nat.ne_of_lt hb) (by rw [size_push']; exact Nat.lt_succ_of_lt hb)]
  exact Heap.get?_push_of_some _ e
def sortedX : List D → Mem → Res D := fun xs μ => match xs with
  | [.ref n] => (match μ[n]? with
    | some (.tdic l) => if sortOk μ (l.map (·.1)) = true then .ok (.ref μ.length) (μ ++ [.lst (sortD μ (l.map (·.1)))]) else .stuck
    | _ => sortedA xs μ)
  | _ => sortedA xs μ
def rSortedX (G : Gd) : List V → Hp → VK → Prop := fun xs H Q => rSortedB G xs H Q ∨ rSortedT G xs H Q
theorem cr_sortedX {X : Cx} (hc : X.calm = true) (hu : X.A.units + 64 < cLine) : CallR X (.builtin "sorted") (rSortedX (gOf X)) := CallR.or (cr_sortedB hc hu) (cr_sortedT hc hu)
/-- what is known of a dict of tuples -/
theorem td_is {G : Gd} {ι : List Addr} {H : Hp} {μ : Mem} {n : Nat} {l : List (D × D)} {v : V} (r : Rel G ι H μ) (rv : Rep G ι H (.ref n) v) (e : μ[n]? = some (.tdic l)) : ∃ a ks, v = .ref a ∧ TdIs G ι H a l ks := by
  obtain ⟨a, h0, rfl⟩ := rv.ref
  obtain ⟨xs, q1, q2, q3, q4, q5⟩ := r.cell n _ a e h0
  exact ⟨a, xs, rfl, .inl q1, q2, q3, q4, q5⟩
theorem snd_sortedX {G : Gd} : SndL G (rSortedX G) sortedX := fun ι H μ xs vs W σ Q r rxs h => by
  unfold sortedX at h
  split at h
  · rename_i n
    split at h
    · rename_i l e
      split at h
      · rename_i ok
        obtain ⟨v, rfl, rv⟩ := rxs.one
        obtain ⟨a, ks, rfl, T⟩ := td_is r rv e
        exact .inr ⟨a, ι, μ, l, ks, rfl, T, r, ok, fun vs' q h3 hq => new_lst r h3 h q hq⟩
      · exact h.elim
    · exact .inl (snd_sortedB ι H μ _ vs W σ Q r rxs h)
  · exact .inl (snd_sortedB ι H μ _ vs W σ Q r rxs h)
/-! ### len of a dict of tuples -/
def rLenT (G : Gd) : List V → Hp → VK → Prop := fun xs H Q => ∃ (a : Addr) (ι : List Addr) (l : List (D × D)) (ks : List (NestedKey × Addr × Value)), xs = [.ref a] ∧ TdIs G ι H a l ks ∧ Q (.int l.length) H
theorem cr_lenT {X : Cx} : CallR X (.builtin "len") (rLenT (gOf X)) := by
  intro pins s σ H xs us Q I r h
  obtain ⟨a, ι, l, ks, rfl, T, q⟩ := h
  rw [Vals.ref1 r]
  obtain ⟨h1, h2, h3, h4, h5⟩ := T
  obtain ⟨⟨o, es, ep, e1, e2, e3, e4⟩, _⟩ := h1.ok I.hok
  have hz : es.size = ks.length := by
    have q := congrArg List.length e4
    simpa using q
  have hll : l.length = ks.length := Paired.length h2
  have raw : s.heap.DictRaw a es ep := ⟨o, e1, e2, e3⟩
  have hn := line63
  refine Calls.call_function_entry kind_len plain_len entry_len (args_len1 _) ?_
  unfold Builtin.«len»
  refine wpAny_bind (m := oneArg "len" _) (wpAny_pure ?_)
  refine wpAny_bind (m := callSpecial? (.ref a) (Str.ofString "__len__")) (wpAny_callSpecial?_slot (name := Str.ofString "__len__") raw.typeIs F.slot_dict_len (call_len_raw h5 raw ?_))
  show wpAny _ _ _ _ _ { s with toks := s.toks + 1 }
  refine wpAny_bind (wpAny_holding (wpAny_pure ?_))
  refine wpAny_bind (wpAny_letGo ?_)
  show wpAny _ _ (if ((es.size : Nat) : Int) < 0 then _ else _) _ _ _
  rw [if_neg (by omega)]
  show wpAny _ _ (if ((es.size : Nat) : Int) ≥ 2 ^ 63 then _ else _) _ _ _
  rw [if_neg (by omega)]
  exact wpAny_bind (wpAny_mkInt (wpAny_pure ⟨_, rfl, .int l.length, H, I.tok _, ⟨s.toks + 1, by rw [hz, ← hll]⟩, q⟩))
def lenX : List D → Mem → Res D := fun xs μ => match xs with
  | [.ref n] => (match μ[n]? with
    | some (.tdic l) => .ok (.int l.length) μ
    | _ => lenL xs μ)
  | _ => lenL xs μ
def rLenX (G : Gd) : List V → Hp → VK → Prop := fun xs H Q => rLenA G.K xs H Q ∨ rLenT G xs H Q
theorem cr_lenX {X : Cx} : CallR X (.builtin "len") (rLenX (gOf X)) := CallR.or call_lenA cr_lenT
theorem snd_lenX {G : Gd} : SndL G (rLenX G) lenX := fun ι H μ xs vs W σ Q r rxs h => by
  unfold lenX at h
  split at h
  · rename_i n
    split at h
    · rename_i l e
      obtain ⟨v, rfl, rv⟩ := rxs.one
      obtain ⟨a, ks, rfl, T⟩ := td_is r rv e
      exact .inr ⟨a, ι, l, ks, rfl, T, h ι H .refl r _ (rep_int _)⟩
    · exact .inl (snd_len ι H μ _ vs W σ Q r rxs h)
  · exact .inl (snd_len ι H μ _ vs W σ Q r rxs h)
/-! ### x in a row of flat things -/
def flatI : D → Option V
  | .non => some .non
  | .bl b => some (.bl b)
  | .int i => some (.int i)
  | .str z => some (.str z)
  | _ => none
def flatsI : List D → Option (List V)
  | [] => some []
  | d :: l => (flatI d).bind fun v => (flatsI l).map fun vs => v :: vs
def rowI (x : D) (μ : Mem) : Option (List D) := match x with
  | .tup l => some l
  | .ref n => (match μ[n]? with
    | some (.lst l) => some l
    | _ => none)
  | _ => none
def inX (x y : D) (μ : Mem) : Res D := match rowI y μ with
  | some l => (match flatI x, flatsI l with
    | some v, some vs => .ok (.bl (inV v vs)) μ
    | _, _ => .stuck)
  | none => inDD x y μ
def notInX (x y : D) (μ : Mem) : Res D := match rowI y μ with
  | some l => (match flatI x, flatsI l with
    | some v, some vs => .ok (.bl (!inV v vs)) μ
    | _, _ => .stuck)
  | none => notInDD x y μ
section
variable {G : Gd} {ι : List Addr} {H : Hp} {μ : Mem}
theorem flatI_is {d : D} {v w : V} (r : Rep G ι H d v) (e : flatI d = some w) : v = w ∧ flatV w = true := by
  cases d <;> simp [flatI] at e <;> subst e
  · exact ⟨r.non, rfl⟩
  · exact ⟨r.bl, rfl⟩
  · exact ⟨r.int, rfl⟩
  · exact ⟨r.str, rfl⟩
theorem flatsI_is : ∀ {l : List D} {vs ws : List V}, Reps G ι H l vs → flatsI l = some ws → vs = ws ∧ ws.all flatV = true
  | [], vs, ws, r, e => by
    simp [flatsI] at e; subst e
    rw [r.nil_inv]; exact ⟨rfl, rfl⟩
  | d :: l, vs, ws, r, e => by
    obtain ⟨v, w, rfl, h1, h2⟩ := r.cons_inv
    simp only [flatsI] at e
    obtain ⟨v', e1, e2⟩ := Option.bind_eq_some_iff.mp e
    obtain ⟨vs', e3, rfl⟩ := Option.map_eq_some_iff.mp e2
    obtain ⟨rfl, f1⟩ := flatI_is h1 e1
    obtain ⟨rfl, f2⟩ := flatsI_is h2 e3
    exact ⟨rfl, by rw [List.all_cons, f1, f2]; rfl⟩
theorem rowI_is {y : D} {u : V} {l : List D} (r : Rel G ι H μ) (ry : Rep G ι H y u) (e : rowI y μ = some l) : ∃ p vs, u = .ref p ∧ (SqL G.K H p vs ∨ SqT G.K H p vs) ∧ Reps G ι H l vs := by
  unfold rowI at e
  split at e
  · cases e
    obtain ⟨a, vs, rfl, h1, h2⟩ := ry.tup
    exact ⟨a, vs, rfl, .inr h1, h2⟩
  · split at e
    · rename_i n l' em
      cases e
      obtain ⟨a, vs, rfl, h0, h1, h2⟩ := r.lst em ry
      exact ⟨a, vs, rfl, .inl (.of h1), h2⟩
    · cases e
  · cases e
end
def rInX (G : Gd) : R2 := fun x y H Q => rIn G.K false x y H Q ∨ rInD G x y H Q
def rNotInX (G : Gd) : R2 := fun x y H Q => rIn G.K true x y H Q ∨ rNotInD G x y H Q
theorem op_inX {X : Cx} (hu : X.A.units + 64 < cLine) : OpR X (compareOp .In) (rInX (gOf X)) := OpR.or op_in_seq (op_inD hu)
theorem op_notInX {X : Cx} (hu : X.A.units + 64 < cLine) : OpR X (compareOp .NotIn) (rNotInX (gOf X)) := OpR.or op_notIn_seq (op_notInD hu)
theorem snd_inX {G : Gd} : Snd2 G (rInX G) inX := fun ι H μ x y v u W σ Q r rx ry h => by
  unfold inX at h
  split at h
  · rename_i l el
    split at h
    · rename_i w ws e1 e2
      obtain ⟨p, vs, rfl, h1, h2⟩ := rowI_is r ry el
      obtain ⟨rfl, f1⟩ := flatI_is rx e1
      obtain ⟨rfl, f2⟩ := flatsI_is h2 e2
      exact .inl ⟨p, vs, rfl, h1, f1, f2, h ι H .refl r _ (rep_bl _)⟩
    · exact h.elim
  · exact .inr (snd_inD ι H μ x y v u W σ Q r rx ry h)
theorem snd_notInX {G : Gd} : Snd2 G (rNotInX G) notInX := fun ι H μ x y v u W σ Q r rx ry h => by
  unfold notInX at h
  split at h
  · rename_i l el
    split at h
    · rename_i w ws e1 e2
      obtain ⟨p, vs, rfl, h1, h2⟩ := rowI_is r ry el
      obtain ⟨rfl, f1⟩ := flatI_is rx e1
      obtain ⟨rfl, f2⟩ := flatsI_is h2 e2
      exact .inl ⟨p, vs, rfl, h1, f1, f2, h ι H .refl r _ (rep_bl _)⟩
    · exact h.elim
  · exact .inr (snd_notInD ι H μ x y v u W σ Q r rx ry h)
end RW

/-! SEy: own exceptions with fields that nobody reads: raise, try .. except. -/
namespace RW
open PySem L2 PySem.Spec
open PyProof.Rows hiding St
/-! ### __init__ of one or two fields -/
/-- what __init__ of an exception does: n fields are kept -/
def spExc (C : Addr) (n : Nat) : Sp := fun vs H Q _ => ∃ (a : Addr) (ws : List V) (H1 : Hp), vs = .ref a :: ws ∧ ws.length = n ∧ H = upd H1 a (exo a C none) ∧ H1 a = none ∧
  ∀ d fs, H1 d = none → d ≠ a → Q .non (upd (upd H1 d (exd d fs)) a (exo a C (some d)))
theorem upd_upd {H : Hp} {a : Addr} {o u : HO} : upd (upd H a o) a u = upd H a u := by
  funext b
  by_cases h : b = a
  · subst h; rw [upd_same, upd_same]
  · rw [upd_ne h, upd_ne h, upd_ne h]
theorem upd_swap {H : Hp} {a b : Addr} {o u : HO} (h : a ≠ b) : upd (upd H a o) b u = upd (upd H b u) a o := by
  funext c
  by_cases ha : c = a
  · subst ha; rw [upd_ne h, upd_same, upd_same]
  · rw [upd_ne ha]
    by_cases hb : c = b
    · subst hb; rw [upd_same, upd_same]
    · rw [upd_ne hb, upd_ne ha, upd_ne hb]
section
variable {P : Program} {w : World} {K : PySem.W.Frag} {mg : Str → Option Value} {base : Heap} {x qual f1 f2 : Str} {st : Stmt} {f C : Addr} {fd : FuncData} {p p1 p2 p3 p4 p5 p6 p7 : Pos} {k : Nat}
theorem exc_init1 (F : L2.Fun K x qual st f fd) (S : FnScope ["self", f1] ["self", f1] (defScope st)) (hb : defBody st = [.Assign [.Attribute (.Name "self" p) f1 p1] (.Name f1 p2) p3])
    (T : OexC K C) (hn : PySem.W.findIn K (.ref C) f1 = some none) (v0 : Vis (defScope st) "self") (v1 : Vis (defScope st) f1) (d1 : (f1 == ("__debug__" : Str)) = false) (d2 : (f1 == ("__classdict__" : Str)) = false) :
    FnOk P w K mg base (L2.CX P w) (k + 1) f fd ["self", f1] (spExc C 1) := by
  obtain ⟨oc, od, kV, doc, pm, an, cdv, ct, osl, rfl, lk, hcd⟩ := F.ex
  refine fn_of lk hcd S (fun vs H Q E ⟨a, ws, H1, e1, e2, _⟩ => by rw [e1, List.length_cons, e2]; rfl) fun A outer s H vs Q E hr ⟨a, ws, H1, e1, e2, e3, e4, q⟩ => ?_
  obtain ⟨y, rfl⟩ : ∃ y, ws = [y] := by
    cases ws with
    | nil => cases e2
    | cons y ws => cases ws with
      | nil => exact ⟨y, rfl⟩
      | cons _ _ => cases e2
  subst e1 e3
  rw [hb]
  refine ⟨_, pss_one (ps_ost (f := f1) (pe_var (i := 0) rfl v0) (pe_var (i := 1) rfl v1 d1 d2) rfl), ?_⟩
  refine ⟨y, rfl, .ref a, rfl, a, C, rfl, T, hn, .inl ⟨upd_same, fun dx hd hne => ?_⟩⟩
  rw [upd_ne hne] at hd
  have := q dx [(f1, y)] hd hne
  show Q .non _
  rw [upd_swap (fun e => hne e.symm), upd_upd]
  exact this
theorem exc_init2 (F : L2.Fun K x qual st f fd) (S : FnScope ["self", f1, f2] ["self", f1, f2] (defScope st)) (hb : defBody st = [.Assign [.Attribute (.Name "self" p) f1 p1] (.Name f1 p2) p3, .Assign [.Attribute (.Name "self" p4) f2 p5] (.Name f2 p6) p7])
    (T : OexC K C) (hn : PySem.W.findIn K (.ref C) f1 = some none) (hn2 : PySem.W.findIn K (.ref C) f2 = some none) (v0 : Vis (defScope st) "self") (v1 : Vis (defScope st) f1) (v2 : Vis (defScope st) f2) (d1 : (f1 == ("__debug__" : Str)) = false) (d2 : (f1 == ("__classdict__" : Str)) = false) (d3 : (f2 == ("__debug__" : Str)) = false) (d4 : (f2 == ("__classdict__" : Str)) = false) :
    FnOk P w K mg base (L2.CX P w) (k + 1) f fd ["self", f1, f2] (spExc C 2) := by
  obtain ⟨oc, od, kV, doc, pm, an, cdv, ct, osl, rfl, lk, hcd⟩ := F.ex
  refine fn_of lk hcd S (fun vs H Q E ⟨a, ws, H1, e1, e2, _⟩ => by rw [e1, List.length_cons, e2]; rfl) fun A outer s H vs Q E hr ⟨a, ws, H1, e1, e2, e3, e4, q⟩ => ?_
  obtain ⟨y, z, rfl⟩ : ∃ y z, ws = [y, z] := by
    match ws, e2 with
    | [y, z], _ => exact ⟨y, z, rfl⟩
  subst e1 e3
  rw [hb]
  refine ⟨_, pss_cons (ps_ost (f := f1) (pe_var (i := 0) rfl v0) (pe_var (i := 1) rfl v1 d1 d2) rfl) (pss_one (ps_ost (f := f2) (pe_var (i := 0) rfl v0) (pe_var (i := 2) rfl v2 d3 d4) rfl)), ?_⟩
  refine ⟨y, rfl, .ref a, rfl, a, C, rfl, T, hn, .inl ⟨upd_same, fun dx hd hne => ?_⟩⟩
  rw [upd_ne hne] at hd
  rw [upd_swap (fun e => hne e.symm), upd_upd]
  refine ⟨z, rfl, .ref a, rfl, a, C, rfl, T, hn2, .inr ⟨dx, [(f1, y)], upd_same, by rw [upd_ne hne, upd_same], by simp, ?_⟩⟩
  have := q dx [(f2, z), (f1, y)] hd hne
  show Q .non _
  rw [upd_swap (fun e => hne e.symm), upd_upd]
  exact this
end
/-! ### raise -/
def ExnOk (G : Gd) (base : Heap) (c : Str) (k n : Nat) : Prop := ∃ (C fI : Addr) (fd : FuncData) (ps : List Str), G.mg c = some (.ref C) ∧ OexC G.K C ∧ PySem.W.findIn G.K (.ref C) "__init__" = some (some (.ref fI)) ∧
  PySem.W.typeIn G.K (.ref fI) = some (.type "function") ∧ Binds G.K fd ps [] ∧ FnOk G.P G.w G.K G.mg base (L2.CX G.P G.w) k fI fd ps (spExc C n)
@[simp] def sRaise (c : Str) (a : ML) : MS := fun ρ μ => onE (a ρ μ) ρ fun _ μ1 => .ok (.exc c [] ρ) μ1
theorem ss_raise {X : Cx} {W : WX} {c : Str} {j k n : Nat} {p pos pos2 : Pos} {e : Expr} {es : List Expr} {ms : ML} (F : ExnOk (gOf X) X.base c j n) (hr : RoomG k X.A) (hj : j + 1 ≤ k) (hc : X.calm = true) (hg : Gl X c) (tk : Takes X W) (ha : SA X W (e :: es) ms)
    (hn : ∀ ρ μ ds μ', ms ρ μ = .ok ds μ' → ds.length = n) (hz : n ≤ 1000 := by decide) (hdb : (c == ("__debug__" : Str)) = false := by decide) (he : starEach (e :: es) X.env = (false, eval e X.env) :: starEach es X.env := by rfl) (hpl : (backTo pos (starEach es X.env)).any (·.1) = false := by rfl) :
    SS X W (.Raise (some (.Call (.Name c p) (e :: es) [] pos)) none pos2) (sRaise c ms) := by
  obtain ⟨C, fI, fd, ps, hm, T, iC, tI, hb, F1⟩ := F
  refine PS.mono (ps_raise hc tk (pmk_oex T iC tI F1 (hr.toRoom.mono hj) hb (dvs := []) .nil passL hg hm ha hdb he hpl)) fun D σ H ⟨ρ, μ, ι, env, rel, h⟩ => ?_
  refine ⟨ρ, μ, ι, env, rel, ?_⟩
  cases hms : ms ρ μ with
  | stuck => 
    simp only [sRaise, hms, onE] at h
    exact h.elim
  | exc c' fs m =>
    have h := PostS.onE h env ⟨μ, rel⟩
    rw [hms] at h
    exact h
  | ok ds μ1 =>
    have h := PostS.onE h env ⟨μ, rel⟩
    rw [hms] at h
    intro ι1 H1 g1 r1 vs rvs
    obtain ⟨_, _, env1, h1⟩ := h ι1 H1 g1 r1
    have hl : vs.length = n := by rw [rvs.length]; exact hn ρ μ ds μ1 hms
    refine ⟨by omega, fun a hna => ⟨a, vs ++ [], H1, rfl, by rw [List.append_nil]; exact hl, rfl, hna, fun d fs hd hne => ⟨rfl, d, fs, upd_same, (upd_ne hne).trans upd_same, hd, ?_⟩⟩⟩
    have eH : upd (L2.del (upd (upd H1 d (exd d fs)) a (exo a C (some d))) a) d (.xd fs) = upd H1 d (.xd fs) := by
      funext b
      by_cases hbd : b = d
      · subst hbd; rw [upd_same, upd_same]
      · rw [upd_ne hbd, upd_ne hbd]
        by_cases hba : b = a
        · subst hba; rw [del_same, hna]
        · rw [del_ne hba, upd_ne hba, upd_ne hbd]
    rw [eH]
    obtain ⟨g2, r2⟩ := grow_laid (o := .xd fs) r1 hd
    exact h1 ι1 _ g2 r2 σ _ _ (env1.ext (g2.ext r1)) ⟨C, hm, rfl, rfl⟩
/-! ### try .. except X: -/
open Classical in
noncomputable def sTry (cs : List Str) (b s : MS) : MS := fun ρ μ => (b ρ μ).bind fun f μ1 => match f with
  | .exc c _ ρ1 => if c ∈ cs then s ρ1 μ1 else .stuck
  | f => .ok f μ1
theorem ss_try_only {X : Cx} {W : WX} {x : Str} {Cx' : Addr} {cs : List Str} {body suite : List Stmt} {b₀ : Stmt} {np pos pos' : Pos} {mb ms : MS} (hs : X.stack = X.env :: X.outer) (hf : X.env.frame = some X.env.locals) (hc : Names X x (.ref Cx')) (tk : Takes X W)
    (hx : ∀ c ∈ cs, ∀ C, X.mg c = some (.ref C) → PySem.W.exmOne X.K (.ref C) (.ref Cx') = some true)
    (hb : ∀ (W' : WX) (pn : List (Addr × Obj)) (xe : Value → Shared → Prop), Takes (X.tr pn xe) W' → PassesOwn (model X.prog X.w) X.A X.env xe → SSs (X.tr pn xe) W' body mb)
    (hsu : ∀ (a : Addr) (oe : Obj) (cls : Value) (d : Option Addr) (pn : List (Addr × Obj)), Zc cls d oe → (∃ vs, oe.data = .fields vs) → SSs (X.suite a ((a, oe) :: pn)) W (b₀ :: suite) ms) :
    SS X W (.Try body [.ExceptHandler (some (.Name x np)) none (b₀ :: suite) pos'] [] [] pos) (sTry cs mb ms) := by
  refine PS.mono (ps_try_only hs hf hc tk (tb := fun W' => tS (gOf X) W' mb) (ts := fun _ _ _ => tS (gOf X) W ms) hb hsu) fun D σ H ⟨ρ, μ, ι, env, rel, h⟩ => ?_
  refine ⟨ρ, μ, ι, env, rel, ?_⟩
  unfold sTry at h
  cases hm : mb ρ μ with
  | stuck => rw [hm] at h; exact h.elim
  | exc c fs m => rw [hm] at h; exact h.elim
  | ok f μ1 =>
    rw [hm] at h
    intro ι1 H1 g1 r1
    cases f with
    | nx ρ1 => exact h ι1 H1 g1 r1
    | brk ρ1 => exact h ι1 H1 g1 r1
    | cnt ρ1 => exact h ι1 H1 g1 r1
    | ret d => exact h ι1 H1 g1 r1
    | exc c fs ρ1 =>
      intro σ' cls dx env' ⟨C, e1, e2, e3⟩
      subst e2
      simp only [Res.bind] at h
      split at h
      · rename_i hcc
        refine ⟨true, hx c hcc C e1, fun _ a hna => ⟨ρ1, μ1, ι1, env', r1, PostS.grow h g1⟩, fun z => by cases z⟩
      · exact h.elim
/-! ### two tests of a comprehension -/
theorem sts_two {X : Cx} {W : WX} {c d : Expr} {m n : MB} (h1 : ST X W c m) (h2v : ST X W d n) : PTs X [c, d] (tB (gOf X) W (mAnd m n)) := ⟨fun pins s σ H Q I ⟨ρ, μ, ι, env, rel, h⟩ => by
  simp only [List.forIn_cons, List.forIn_nil, if_true]
  have h := Post.bind h
  have q1 := h1.run pins s σ H (fun b H1 => ∃ μ1 ι1, Rel (gOf X) ι1 H1 μ1 ∧ Grow ι H ι1 H1 ∧ Post (gOf X) ι1 H1 W σ (if b = true then n ρ μ1 else .ok false μ1) fun ι' H' _ b => Q b H') I
    ⟨ρ, μ, ι, env, rel, h.imp fun ι1 H1 μ1 b _ _ ⟨g1, r1, h1⟩ => ⟨μ1, ι1, r1, g1, h1⟩⟩
  refine wpAny_bind (wpAny_bind (wpAny_mono q1 (fun b s' ⟨H1, I1, μ1, ι1, r1, g1, h2⟩ => wpAny_pure ?_) fun _ _ x => x))
  cases b with
  | true =>
    simp only [if_true] at h2 ⊢
    have q2 := h2v.run pins s' σ H1 Q I1 ⟨ρ, μ1, ι1, env.ext (g1.ext rel), r1, h2⟩
    exact wpAny_bind (wpAny_bind (wpAny_mono q2 (fun b s'' hb => wpAny_pure (wpAny_pure hb)) fun _ _ x => x))
  | false =>
    simp only [Bool.false_eq_true, if_false] at h2 ⊢
    exact wpAny_bind (wpAny_pure (wpAny_pure ⟨H1, I1, h2 ι1 H1 .refl r1⟩))⟩
/-! ### what the written part says of such a class -/
def oexO (C : Addr) (o : Obj) : Bool := match o with
  | ⟨.type "type", _, .cls cd, sl⟩ => (match cd.mro, sl.toList with
    | .ref C' :: bm, [_, _, _, _, some (.builtin n), _] => C' == C && n == "ValueError.__new__" && !cd.hasDel && cd.hasDict && PySem.HandSPX.refsVE bm
    | _, _ => false)
  | _ => false
theorem oex_of {K : PySem.W.Frag} {C : Addr} {o : Obj} (ho : K.lookup C = some o) (q : oexO C o = true) (sa : PySem.W.findIn K (.ref C) "__setattr__" = some (some (.builtin "object.__setattr__"))) (xb : PySem.W.subIn K (.ref C) (.type "BaseException") = some true)
    (ty : PySem.W.typeIn K (.ref C) = some (.type "type")) (kc : PySem.W.keepIn K (.ref C) = true) : OexC K C := by
  refine ⟨?_, sa, xb, ty, kc⟩
  unfold oexO at q
  split at q
  · rename_i dd cd sl
    split at q
    · rename_i C' bm k0 k1 k2 k3 n k5 hm hs
      simp only [Bool.and_eq_true, beq_iff_eq, Bool.not_eq_true'] at q
      obtain ⟨⟨⟨⟨rfl, rfl⟩, hdel⟩, hd⟩, ht⟩ := q
      obtain ⟨nm, bs, mro, ns, qn, hdd, sn, sub, ab, col, del⟩ := cd
      dsimp only at hm hdel hd
      subst hm hdel hd
      have hsl : sl = #[k0, k1, k2, k3, some (.builtin "ValueError.__new__"), k5] := by
        obtain ⟨l⟩ := sl
        simp only at hs
        rw [hs]
      subst hsl
      exact ⟨nm, qn, ns, bs, bm, sn, sub, ab, col, dd, k0, k1, k2, k3, k5, ho, ht⟩
    · cases q
  · cases q
theorem exm_of {K : PySem.W.Frag} {C W : Addr} (h1 : PySem.W.subIn K (.ref W) (.type "BaseException") = some true) (h2 : PySem.W.isClsIn K W = true) (h3 : PySem.W.typeIn K (.ref W) = some (.type "type")) (h4 : PySem.W.subIn K (.ref C) (.ref W) = some true) : PySem.W.exmOne K (.ref C) (.ref W) = some true := by
  unfold PySem.W.exmOne PySem.W.kitCls
  unfold PySem.W.isClsIn at h2
  simp [h1, h2, h3, h4]
/-! ### min of a list of alike data -/
def minIx (μ : Mem) (l : List D) : Nat := argBest (fun i j => PySem.W.dataLt ((l.map (encD μ)).getD i .none) ((l.map (encD μ)).getD j .none)) (l.length - 1)
def minOk (μ : Mem) (l : List D) : Bool := l.all (fun d => (D.py? 8 μ d).isSome && decide ((encD μ d).depth ≤ 32)) && (l.all fun d => l.all fun e => PySem.W.alike (encD μ d) (encD μ e)) && l.all fun d => isTupD (encD μ d)
def rMinT (G : Gd) : List V → Hp → VK → Prop := fun xs H Q => ∃ (a : Addr) (vs : List V) (l : List D) (ι : List Addr) (μ : Mem) (v : V), xs = [.ref a] ∧ SqL G.K H a vs ∧ Rel G ι H μ ∧ Reps G ι H l vs ∧ minOk μ l = true ∧ vs[minIx μ l]? = some v ∧ Q v H
theorem reads_all {X : Cx} {pins : List (Addr × Obj)} {σ : St} {H : Hp} {s : Shared} {ι : List Addr} {μ : Mem} (I : Inv X pins σ H s) (rel : Rel (gOf X) ι H μ) : ∀ {l : List D} {us : List Value}, (∀ d ∈ l, (D.py? 8 μ d).isSome = true) → PySem.W.EachIs (fun u d => ∃ v, Rep (gOf X) ι H d v ∧ RelV v u) us l → ∃ as, ReadsAll s.heap us (l.map (encD μ)) as
  | _, _, _, .nil => ⟨[], .nil⟩
  | _, _, hh, .cons ⟨v, h1, r1⟩ t => by
    obtain ⟨as, ih⟩ := reads_all I rel (fun d hd => hh d (List.mem_cons_of_mem _ hd)) t
    obtain ⟨p, hp⟩ := Option.isSome_iff_exists.mp (hh _ List.mem_cons_self)
    obtain ⟨bs, rb⟩ := Dp.reads I p v _ (dp_of rel 8 _ v p h1 hp) r1
    refine ⟨bs ++ as, ?_⟩
    rw [List.map_cons]
    refine .cons ?_ ih
    unfold encD
    rw [hp]
    exact rb
theorem depth_all {μ : Mem} : ∀ {l : List D}, (∀ d ∈ l, (encD μ d).depth ≤ 32) → PyData.depthAll (l.map (encD μ)) ≤ 32
  | [], _ => by simp [PyData.depthAll]
  | d :: l, h => by
    have h1 := h d (by simp)
    have h2 := depth_all (l := l) fun e he => h e (List.mem_cons_of_mem _ he)
    simp only [List.map_cons, PyData.depthAll]; omega
theorem cr_minT {X : Cx} (hc : X.calm = true) (hu : X.A.units + 64 < cLine) : CallR X (.builtin "min") (rMinT (gOf X)) := by
  intro pins s σ H xs us Q I r h
  obtain ⟨a, vs, l, ι, μ, v, rfl, hs, rel, reps, ok, hv, q⟩ := h
  obtain ⟨its, rv, hl, hz⟩ := I.list hs
  rw [Vals.ref1 r]
  simp only [minOk, Bool.and_eq_true, List.all_eq_true, decide_eq_true_eq] at ok
  obtain ⟨⟨o1, o2⟩, o3⟩ := ok
  have hll : l.length = its.length := by rw [← reps.length, rv.length]
  obtain ⟨as, hr⟩ := reads_all I rel (fun d hd => (o1 d hd).1) (each_of_reps reps rv)
  have hne : l ≠ [] := fun e => by
    subst e
    have := (List.getElem?_eq_some_iff.mp hv).1
    rw [reps.nil_inv] at this
    simp at this
  obtain ⟨d0, l0, rfl⟩ := List.exists_cons_of_ne_nil hne
  have hal : PySem.W.AlikeAll ((d0 :: l0).map (encD μ)) := by
    refine ⟨fun d hd d' hd' => ?_, fun d hd => ?_⟩
    · obtain ⟨b, hb, rfl⟩ := List.mem_map.mp hd
      obtain ⟨b', hb', rfl⟩ := List.mem_map.mp hd'
      exact o2 b hb b' hb'
    · obtain ⟨b, hb, rfl⟩ := List.mem_map.mp hd
      have := o3 b hb
      intro e
      rw [e] at this
      cases this
  have hdep := depth_all (μ := μ) (l := d0 :: l0) fun d hd => (o1 d hd).2
  have hhd := I.ok.hd hc
  refine call_min_walkH (PySem.W.iter_listW (A := X.A.in1) hhd hl.isList fun s₂ e W st hfp hw hk => ?_)
  have hn : its.toArray.size = l0.length + 1 := by rw [List.size_toArray, ← hll]; rfl
  refine ⟨_, _, _, _, _, _, _, s.heap, _, rfl, W, st, hfp, by omega, hw, hk, PySem.W.cmpIn_lt (A := X.A.in1) (xs := (d0 :: l0).map (encD μ)) (by simpa using hr) hal (by show X.A.units + 1 + _ < _; omega), fun u s' hP m => ?_⟩
  obtain ⟨h', tk, rfl, hk'⟩ := PySem.W.moved_old e rfl m
  have I1 : Inv X pins σ H { s with heap := h', toks := tk } := I.kept hk'
  refine ⟨v, H, I1, ?_, q⟩
  have e1 : its.toArray.size - 1 = (d0 :: l0).length - 1 := by rw [hn]; rfl
  rw [e1] at hP
  have hP : its[minIx μ (d0 :: l0)]? = some u := by
    rw [← List.getElem?_toArray]
    exact hP
  have key : ∀ {vs : List V} {us : List Value} {i : Nat} {v : V} {u : Value}, Vals vs us → vs[i]? = some v → us[i]? = some u → RelV v u := fun {vs us i v u} h => by
    induction h generalizing i with
    | nil => intro e; simp at e
    | cons h1 t ih =>
      intro e1 e2
      cases i with
      | zero => simp at e1 e2; subst e1 e2; exact h1
      | succ i => exact ih (by simpa using e1) (by simpa using e2)
  exact key rv hv hP
def minX : List D → Mem → Res D := fun xs μ => match minLL xs μ with
  | .stuck => (match xs with
    | [x] => (match lstAt x μ with
      | some l => if minOk μ l = true then (match l[minIx μ l]? with
        | some d => .ok d μ
        | none => .stuck) else .stuck
      | none => .stuck)
    | _ => .stuck)
  | r => r
def rMinX (G : Gd) : List V → Hp → VK → Prop := fun xs H Q => rMin G.K xs H Q ∨ rMinT G xs H Q
theorem cr_minX {X : Cx} (hc : X.calm = true) (hu : X.A.units + 64 < cLine) : CallR X (.builtin "min") (rMinX (gOf X)) := CallR.or (cr_min hc) (cr_minT hc hu)
theorem snd_minX {G : Gd} : SndL G (rMinX G) minX := fun ι H μ xs vs W σ Q r rxs h => by
  unfold minX at h
  cases hq : minLL xs μ with
  | ok d m => rw [hq] at h; exact .inl (snd_minLL ι H μ xs vs W σ Q r rxs (by rw [hq]; exact h))
  | exc c fs m => rw [hq] at h; exact .inl (snd_minLL ι H μ xs vs W σ Q r rxs (by rw [hq]; exact h))
  | stuck =>
    rw [hq] at h
    match xs, rxs, h with
    | [x], rxs, h =>
      simp only at h
      split at h
      · rename_i l el
        split at h
        · rename_i ok
          split at h
          · rename_i d ed
            obtain ⟨v, rfl, rv⟩ := rxs.one
            obtain ⟨p, vs, rfl, h1, h2⟩ := lstAt_is r rv el
            obtain ⟨w, e1, rw1⟩ := h2.get ed
            exact .inr ⟨p, vs, l, ι, μ, w, rfl, h1, r, h2, ok, e1, h ι H .refl r _ rw1⟩
          · exact h.elim
        · exact h.elim
      · exact h.elim
    | [], _, h => exact h.elim
    | _ :: _ :: _, _, h => exact h.elim
end RW

/-! SEz: texts: join, split, strip, endswith, f-strings, int(text), slices; all, any of a list of truths. -/
namespace RW
open PySem PySem.Spec L2
open PyProof.Rows hiding St
/-! ### methods of texts, of one thing -/
@[simp] def mTx (f : D → D → Mem → Res D) (o e : MD) : MD := fun ρ μ => (o ρ μ).bind fun x μ1 => match x with
  | .str a => (e ρ μ1).bind fun y μ2 => f (.str a) y μ2
  | _ => .stuck
def SndX (G : Gd) (r : V → List V → Hp → VK → Prop) (f : D → D → Mem → Res D) : Prop := ∀ (ι : List Addr) (H : Hp) (μ : Mem) (a : Str) (y : D) (u : V) (W : WX) (σ : St) (Q : VK), Rel G ι H μ → Rep G ι H y u →
  Post G ι H W σ (f (.str a) y μ) (fun ι' H' _ d => ∀ v, Rep G ι' H' d v → Q v H') → r (.str a) [u] H Q
section
variable {X : Cx} {W : WX} {o e : Expr} {mo me : MD} {name : Str} {apos pos : Pos} {id : String} {r : V → List V → Hp → VK → Prop} {f : D → D → Mem → Res D}
theorem se_tx (slot : Slot "str" name id) (ty : typeOf (.builtin id) = pure (.type "method_descriptor")) (rule : MtR X id r) (hf : SndX (gOf X) r f) (ho : SE X W o mo) (he : SE X W e me)
    (hs : starEach [e] X.env = [(false, eval e X.env)] := by rfl) (hbase : attributeBase o name X.env (eval o X.env) = eval o X.env := by rfl) (hline : (apos.endLine == pos.line) = true := by rfl) :
    SE X W (.Call (.Attribute o name apos) [e] [] pos) (mTx f mo me) :=
  PE.mono (pe_m1 slot ty rule ho he hs hbase hline) fun σ H Q ⟨ρ, μ, ι, env, rel, h⟩ =>
    ⟨ρ, μ, ι, env, rel, (Post.bind h).imp fun ι1 H1 μ1 x _ _ ⟨g1, r1, h1⟩ v rv => by
      cases x with
      | str a =>
        cases rv.str
        exact ⟨⟨a, rfl⟩, ρ, μ1, ι1, env.ext (g1.ext rel), r1, (Post.bind h1).imp fun ι2 H2 μ2 y _ _ ⟨g2, r2, h2⟩ u ru => hf ι2 H2 μ2 a y u W σ Q r2 ru h2⟩
      | _ => exact h1.elim⟩
end
def splitX (x y : D) (μ : Mem) : Res D := match x, y with
  | .str a, .str b => if (b.length == 0) = false ∧ a.length + 2 ≤ sizeLine then .ok (.ref μ.length) (μ ++ [.lst ((Txt.split a b).map D.str)]) else .stuck
  | _, _ => .stuck
theorem snd_splitX {G : Gd} : SndX G (fun x xs H Q => ∃ a b, x = .str a ∧ xs = [.str b] ∧ (b.length == 0) = false ∧ a.length + 2 ≤ sizeLine ∧ rNewStrs (Txt.split a b) H Q) splitX := fun ι H μ a y u W σ Q r ru h => by
  cases y with
  | str b =>
    simp only [splitX] at h
    split at h
    · rename_i c
      cases ru.str
      exact ⟨a, b, rfl, rfl, c.1, c.2, new_lst r (Reps.of_strs _) h⟩
    · exact h.elim
  | _ => exact h.elim
def strsD : List D → Option (List Str)
  | [] => some []
  | .str a :: r => (strsD r).map (a :: ·)
  | _ :: _ => none
theorem strsD_is {G : Gd} {ι : List Addr} {H : Hp} : ∀ {l : List D} {vs : List V} {ys : List Str}, Reps G ι H l vs → strsD l = some ys → vs = ys.map V.str
  | [], vs, ys, r, e => by cases e; exact r.nil_inv
  | d :: l, vs, ys, r, e => by
    cases d with
    | str a =>
      simp only [strsD, Option.map_eq_some_iff] at e
      obtain ⟨zs, e1, rfl⟩ := e
      obtain ⟨v, t, rfl, rv, rt⟩ := r.cons_inv
      rw [rv.str, strsD_is rt e1]; rfl
    | _ => cases e
theorem strsD_map (l : List Str) : strsD (l.map D.str) = some l := by
  induction l with
  | nil => rfl
  | cons a l ih => rw [List.map_cons, strsD, ih]; rfl
def joinX (x y : D) (μ : Mem) : Res D := match x with
  | .str a => (match rowI y μ with
    | some l => (match strsD l with
      | some ys => if (ys.map (·.length)).sum + ys.length * a.length ≤ 16777216 then .ok (.str (Txt.join a ys)) μ else .stuck
      | none => .stuck)
    | none => .stuck)
  | _ => .stuck
theorem snd_joinX {G : Gd} : SndX G (fun x xs H Q => ∃ a p, ∃ ys : List Str, x = .str a ∧ xs = [.ref p] ∧ (SqL G.K H p (ys.map V.str) ∨ SqT G.K H p (ys.map V.str)) ∧ (ys.map (·.length)).sum + ys.length * a.length ≤ 16777216 ∧ Q (.str (Txt.join a ys)) H) joinX := fun ι H μ a y u W σ Q r ru h => by
  simp only [joinX] at h
  split at h
  · rename_i l el
    split at h
    · rename_i ys ey
      split at h
      · rename_i c
        obtain ⟨p, vs, rfl, h1, h2⟩ := rowI_is r ru el
        cases strsD_is h2 ey
        exact ⟨a, p, ys, rfl, rfl, h1, c, h ι H .refl r _ (rep_str _)⟩
      · exact h.elim
    · exact h.elim
  · exact h.elim
def stripX (x y : D) (μ : Mem) : Res D := match x, y with
  | .str a, .str b => if a.length ≤ sizeLine then .ok (.str (Txt.stripChars a b)) μ else .stuck
  | _, _ => .stuck
theorem snd_stripX {G : Gd} : SndX G (fun x xs H Q => ∃ a b, x = .str a ∧ xs = [.str b] ∧ a.length ≤ sizeLine ∧ Q (.str (Txt.stripChars a b)) H) stripX := fun ι H μ a y u W σ Q r ru h => by
  cases y with
  | str b =>
    simp only [stripX] at h
    split at h
    · rename_i c
      cases ru.str
      exact ⟨a, b, rfl, rfl, c, h ι H .refl r _ (rep_str _)⟩
    · exact h.elim
  | _ => exact h.elim
def endsX (x y : D) (μ : Mem) : Res D := match x, y with
  | .str a, .str b => .ok (.bl (Txt.endswith a b)) μ
  | _, _ => .stuck
theorem snd_endsX {G : Gd} : SndX G (fun x xs H Q => ∃ a b, x = .str a ∧ xs = [.str b] ∧ Q (.bl (Txt.endswith a b)) H) endsX := fun ι H μ a y u W σ Q r ru h => by
  cases y with
  | str b =>
    cases ru.str
    exact ⟨a, b, rfl, rfl, h ι H .refl r _ (rep_bl _)⟩
  | _ => exact h.elim
/-! ### f-strings -/
def fmtD (x : D) (μ : Mem) : Res D := match x with
  | .str y => if y.length ≤ sizeLine then .ok (.str y) μ else .stuck
  | .int i => if i.natAbs.log2 < 1920 then .ok (.str (toString i)) μ else .stuck
  | _ => .stuck
def mJs : List MD → Str → MD
  | [], acc => fun _ μ => .ok (.str acc) μ
  | m :: ms, acc => fun ρ μ => (m ρ μ).bind fun x μ1 => match x with
    | .str y => if (acc ++ y).length ≤ sizeLine then mJs ms (acc ++ y) ρ μ1 else .stuck
    | _ => .stuck
section
variable {X : Cx} {W : WX} {e v1 v2 : Expr} {rest : List Expr} {me : MD} {pos : Pos}
theorem se_fmt (he : SE X W e me) : SE X W (.FormattedValue e (-1) none pos) (mUn fmtD me) :=
  PE.mono (pe_fmt he) fun σ H Q ⟨ρ, μ, ι, env, rel, h⟩ =>
    ⟨ρ, μ, ι, env, rel, (Post.bind h).imp fun ι1 H1 μ1 x _ _ ⟨g1, r1, h1⟩ v rv => by
      cases x with
      | str y =>
        simp only [fmtD] at h1
        split at h1
        · rename_i c
          cases rv.str
          exact .inl ⟨y, rfl, c, h1 ι1 H1 .refl r1 _ (rep_str _)⟩
        · exact h1.elim
      | int i =>
        simp only [fmtD] at h1
        split at h1
        · rename_i c
          cases rv.int
          exact .inr ⟨i, rfl, c, h1 ι1 H1 .refl r1 _ (rep_str _)⟩
        · exact h1.elim
      | _ => exact h1.elim⟩
theorem js_run {σ : St} {Q : VK} : ∀ (ms : List MD) (acc : Str) (ρ : Rho) (μ : Mem) (ι : List Addr) (H : Hp), EnvOk (gOf X) ι H ρ σ → Rel (gOf X) ι H μ →
    Post (gOf X) ι H W σ (mJs ms acc ρ μ) (fun ι' H' _ d => ∀ v, Rep (gOf X) ι' H' d v → Q v H') → tJs (ms.map (tE (gOf X) W)) acc σ H (fun out H1 => Q (.str out) H1)
  | [], acc, ρ, μ, ι, H, env, rel, h => h ι H .refl rel _ (rep_str _)
  | m :: ms, acc, ρ, μ, ι, H, env, rel, h => ⟨ρ, μ, ι, env, rel, (Post.bind h).imp fun ι1 H1 μ1 x _ _ ⟨g1, r1, h1⟩ v rv => by
      cases x with
      | str y =>
        simp only at h1
        split at h1
        · rename_i c
          cases rv.str
          exact ⟨y, rfl, c, js_run ms _ ρ μ1 ι1 H1 (env.ext (g1.ext rel)) r1 h1⟩
        · exact h1.elim
      | _ => exact h1.elim⟩
theorem se_joined {ms : List MD} (h : PJ X (v1 :: v2 :: rest) (ms.map (tE (gOf X) W))) : SE X W (.JoinedStr (v1 :: v2 :: rest) pos) (mJs ms Str.empty) :=
  PE.mono (pe_joined h) fun σ H Q ⟨ρ, μ, ι, env, rel, h⟩ => js_run ms _ ρ μ ι H env rel h
end
/-! ### int(text) -/
def intX : List D → Mem → Res D := fun xs μ => match xs with
  | [.str a] => (match intText? a with
    | some n => if a.length ≤ 640 then .ok (.int n) μ else .stuck
    | none => .stuck)
  | _ => intL xs μ
theorem call_intX {X : Cx} : CallR X (.type "int") (fun xs H Q => ((∃ i, xs = [.int i] ∧ Q (.int i) H) ∨ ∃ k, xs = [.bl k] ∧ Q (.int (if k then 1 else 0)) H) ∨ ∃ a n, xs = [.str a] ∧ PySem.intText? a = some n ∧ a.length ≤ 640 ∧ Q (.int n) H) := CallR.or call_int1 call_int_str
theorem snd_intX {G : Gd} : SndL G (fun xs H Q => ((∃ i, xs = [.int i] ∧ Q (.int i) H) ∨ ∃ k, xs = [.bl k] ∧ Q (.int (if k then 1 else 0)) H) ∨ ∃ a n, xs = [.str a] ∧ PySem.intText? a = some n ∧ a.length ≤ 640 ∧ Q (.int n) H) intX := fun ι H μ xs vs W σ Q r rxs h => by
  unfold intX at h
  split at h
  · rename_i a
    split at h
    · rename_i n en
      split at h
      · rename_i c
        obtain ⟨v, rfl, rv⟩ := rxs.one
        cases rv.str
        exact .inr ⟨a, n, rfl, en, c, h ι H .refl r _ (rep_int _)⟩
      · exact h.elim
    · exact h.elim
  · exact .inl (snd_intL ι H μ _ vs W σ Q r rxs h)
/-! ### all, any of a list of truths -/
def bsD : List D → Option (List Bool)
  | [] => some []
  | .bl a :: r => (bsD r).map (a :: ·)
  | _ :: _ => none
theorem bsD_is {G : Gd} {ι : List Addr} {H : Hp} : ∀ {l : List D} {vs : List V} {ys : List Bool}, Reps G ι H l vs → bsD l = some ys → vs = ys.map V.bl
  | [], vs, ys, r, e => by cases e; exact r.nil_inv
  | d :: l, vs, ys, r, e => by
    cases d with
    | bl a =>
      simp only [bsD, Option.map_eq_some_iff] at e
      obtain ⟨zs, e1, rfl⟩ := e
      obtain ⟨v, t, rfl, rv, rt⟩ := r.cons_inv
      rw [rv.bl, bsD_is rt e1]; rfl
    | _ => cases e
theorem bsD_map (l : List Bool) : bsD (l.map D.bl) = some l := by
  induction l with
  | nil => rfl
  | cons a l ih => rw [List.map_cons, bsD, ih]; rfl
def allL : List D → Mem → Res D
  | [x], μ => (match lstAt x μ with
    | some l => (match bsD l with
      | some bs => .ok (.bl (bs.all id)) μ
      | none => .stuck)
    | none => .stuck)
  | _, _ => .stuck
def anyL : List D → Mem → Res D
  | [x], μ => (match lstAt x μ with
    | some l => (match bsD l with
      | some bs => .ok (.bl (bs.any id)) μ
      | none => .stuck)
    | none => .stuck)
  | _, _ => .stuck
theorem snd_all {G : Gd} : SndL G (rAll G.K) allL := fun ι H μ xs vs W σ Q r rxs h => by
  unfold allL at h
  split at h
  · split at h
    · rename_i l el
      split at h
      · rename_i bs eb
        obtain ⟨v, rfl, rv⟩ := rxs.one
        obtain ⟨p, ws, rfl, h1, h2⟩ := lstAt_is r rv el
        cases bsD_is h2 eb
        exact ⟨p, bs, rfl, h1, h ι H .refl r _ (rep_bl _)⟩
      · exact h.elim
    · exact h.elim
  · exact h.elim
theorem snd_any {G : Gd} : SndL G (rAny G.K) anyL := fun ι H μ xs vs W σ Q r rxs h => by
  unfold anyL at h
  split at h
  · split at h
    · rename_i l el
      split at h
      · rename_i bs eb
        obtain ⟨v, rfl, rv⟩ := rxs.one
        obtain ⟨p, ws, rfl, h1, h2⟩ := lstAt_is r rv el
        cases bsD_is h2 eb
        exact ⟨p, bs, rfl, h1, h ι H .refl r _ (rep_bl _)⟩
      · exact h.elim
    · exact h.elim
  · exact h.elim
/-! ### slices of texts -/
def slcX (x : D) (lo hi : Option Int) (μ : Mem) : Res D := match x with
  | .str z => if z.length ≤ sizeLine then .ok (.str (cutS z lo hi)) μ else .stuck
  | _ => slcD x lo hi μ
@[simp] def mSlcX (a : MD) (lo hi : MO) : MD := fun ρ μ => (a ρ μ).bind fun x μ1 => (lo ρ μ1).bind fun l μ2 => (hi ρ μ2).bind fun u μ3 => slcX x l u μ3
section
variable {X : Cx} {W : WX} {a : Expr} {ma : MD} {p2 pos : Pos}
theorem se_slcX {lo hi : Option Expr} {ml mh : MO} (ha : SE X W a ma) (hl : PO X lo (tO (gOf X) W ml)) (hh : PO X hi (tO (gOf X) W mh)) : SE X W (.Subscript a (.Slice lo hi none p2) pos) (mSlcX ma ml mh) :=
  PE.mono (pe_slice (SlR.or sl_str (SlR.or sl_tupA sl_list)) ha hl hh) fun σ H Q ⟨ρ, μ, ι, env, rel, h⟩ => by
    refine ⟨ρ, μ, ι, env, rel, (Post.bind h).imp fun ι1 H1 μ1 x _ _ ⟨g1, r1, h1⟩ v rv => ?_⟩
    refine ⟨ρ, μ1, ι1, env.ext (g1.ext rel), r1, (Post.bind h1).imp fun ι2 H2 μ2 l _ _ ⟨g2, r2, h2⟩ => ?_⟩
    refine ⟨ρ, μ2, ι2, (env.ext (g1.ext rel)).ext (g2.ext r1), r2, (Post.bind h2).imp fun ι3 H3 μ3 u _ _ ⟨g3, r3, h3⟩ => ?_⟩
    have rv := (rv.ext (g2.ext r1)).ext (g3.ext r2)
    cases x with
    | str z =>
      simp only [slcX] at h3
      split at h3
      · rename_i c
        cases rv.str
        exact .inl ⟨z, rfl, c, h3 ι3 H3 .refl r3 _ (rep_str _)⟩
      · exact h3.elim
    | tup t =>
      obtain ⟨a, vs, rfl, q1, q2⟩ := rv.tup
      refine .inr (.inl ⟨a, vs, rfl, q1, fun hw => ?_, fun _ => new_tup r3 (q2.cut l u) h3⟩)
      rw [q2.length] at hw
      exact h3 ι3 H3 .refl r3 _ (by rw [cutD_whole hw]; exact rv)
    | frl t =>
      obtain ⟨a, vs, rfl, q1, q2⟩ := rv.frl
      exact .inr (.inr ⟨a, vs, rfl, FrL.sq _ _ q1, new_lst r3 (q2.cut l u) h3⟩)
    | ref n =>
      simp only [slcX, slcD] at h3
      split at h3
      · rename_i t em
        obtain ⟨a, vs, rfl, q0, q1, q2⟩ := r3.lst em rv
        exact .inr (.inr ⟨a, vs, rfl, .of q1, new_lst r3 (q2.cut l u) h3⟩)
      · exact h3.elim
    | _ => exact h3.elim
end
end RW

/-! SEzb: plain laws of mirrors of calls, comprehensions, texts of numbers. -/
namespace RW
open PySem L2
section
variable {ρ : Rho} {μ μ1 μ2 μ3 : Mem} {p q d : D}
theorem call1k {f : Sem} {x : MD} (h1 : x ρ μ = .ok p μ1) (h : f [p] μ1 = .ok d μ2) : mB f (mCons x mNil) ρ μ = .ok d μ2 := by
  simp only [mB, mCons, mNil, h1, Res.bind]; exact h
theorem call2k {f : Sem} {x y : MD} (h1 : x ρ μ = .ok p μ1) (h2 : y ρ μ1 = .ok q μ2) (h : f [p, q] μ2 = .ok d μ3) : mB f (mCons x (mCons y mNil)) ρ μ = .ok d μ3 := by
  simp only [mB, mCons, mNil, h1, h2, Res.bind]; exact h
theorem bin_k {f : D → D → Mem → Res D} {x y : MD} (h1 : x ρ μ = .ok p μ1) (h2 : y ρ μ1 = .ok q μ2) (h : f p q μ2 = .ok d μ3) : mBin f x y ρ μ = .ok d μ3 := by
  simp only [mBin, h1, h2, Res.bind]; exact h
theorem un_k {f : D → Mem → Res D} {x : MD} (h1 : x ρ μ = .ok p μ1) (h : f p μ1 = .ok d μ2) : mUn f x ρ μ = .ok d μ2 := by
  simp only [mUn, h1, Res.bind]; exact h
theorem tx_k {f : D → D → Mem → Res D} {x y : MD} {a : Str} (h1 : x ρ μ = .ok (.str a) μ1) (h2 : y ρ μ1 = .ok q μ2) (h : f (.str a) q μ2 = .ok d μ3) : mTx f x y ρ μ = .ok d μ3 := by
  simp only [mTx, h1, h2, Res.bind]; exact h
theorem test_k {x : MD} {b : Bool} (h : x ρ μ = .ok (.bl b) μ1) : mTest x ρ μ = .ok b μ1 := by simp only [mTest, h, Res.bind]
theorem not_k {x : MB} {b : Bool} (h : x ρ μ = .ok b μ1) : mNot x ρ μ = .ok (!b) μ1 := by simp only [mNot, h, Res.bind]
theorem or_f {x y : MB} {b : Bool} (h : x ρ μ = .ok false μ1) (h2 : y ρ μ1 = .ok b μ2) : mOr x y ρ μ = .ok b μ2 := by simp only [mOr, h, Res.bind, Bool.false_eq_true, if_false]; exact h2
theorem or_t {x y : MB} (h : x ρ μ = .ok true μ1) : mOr x y ρ μ = .ok true μ1 := by simp only [mOr, h, Res.bind, if_true]
theorem and_t {x y : MB} {b : Bool} (h : x ρ μ = .ok true μ1) (h2 : y ρ μ1 = .ok b μ2) : mAnd x y ρ μ = .ok b μ2 := by simp only [mAnd, h, Res.bind, if_true]; exact h2
theorem and_f {x y : MB} (h : x ρ μ = .ok false μ1) : mAnd x y ρ μ = .ok false μ1 := by simp only [mAnd, h, Res.bind, Bool.false_eq_true, if_false]
theorem andV_t {x y : MD} (h : x ρ μ = .ok (.bl true) μ1) (h2 : y ρ μ1 = .ok d μ2) : mAndV x y ρ μ = .ok d μ2 := by simp only [mAndV, h, Res.bind]; exact h2
end
/-- a comprehension without a test: of each thing what the text makes of it, cells but ex stay -/
theorem comp_keep {α : Type} {chk : Mem → Prop} {g : MG} {te : MD} {ρ0 : Rho} {ex : List Nat} (enc f : α → D) (xs : List α) (μ : Mem) (hc : ∀ μ', Keep ex μ μ' → chk μ') (hl : xs.length < 100000)
    (ht : ∀ x ∈ xs, ∀ μ', Keep ex μ μ' → ∃ ρ' μ2, g (enc x) ρ0 μ' = .ok ρ' μ' ∧ te ρ' μ' = .ok (f x) μ2 ∧ Keep ex μ' μ2) :
    ∃ μ', compL chk g mYes te ρ0 (xs.map enc) [] μ = .ok (xs.map f) μ' ∧ Keep ex μ μ' := by
  have key := compL_ok (chk := chk) (g := g) (tt := mYes) (te := te) (ρ0 := ρ0) (xs.map enc) (fun j acc μ' => j ≤ xs.length ∧ acc = (xs.take j).map f ∧ Keep ex μ μ') 0 (acc := []) (μ := μ) ⟨Nat.zero_le _, by simp, .refl⟩
    (fun _ _ _ ⟨_, _, k⟩ => hc _ k) (fun j d acc μ' e ⟨hj, ea, k⟩ => by
      simp only [Nat.zero_add] at hj ea ⊢
      rw [List.getElem?_map] at e
      obtain ⟨x, ex', rfl⟩ := Option.map_eq_some_iff.mp e
      have hj2 := (List.getElem?_eq_some_iff.mp ex').1
      obtain ⟨ρ', μ2, h1, h2, k2⟩ := ht x (List.mem_of_getElem? ex') μ' k
      refine .mk h1 (.mk (μ := μ') rfl ?_)
      rw [if_pos rfl]
      refine ⟨by rw [ea, List.length_map, List.length_take, sizeLine_eq]; omega, .mk h2 ⟨by omega, ?_, k.trans k2⟩⟩
      rw [ea, List.take_add_one, ex']; simp)
  rw [List.length_map, Nat.zero_add] at key
  obtain ⟨l, μ', e, _, rfl, k⟩ := key
  rw [List.take_length] at e
  exact ⟨μ', e, k⟩
theorem comp_k {α : Type} {it : MIt} {chk : Mem → Prop} {g : MG} {te : MD} {own : List Nat} {ρ : Rho} {ex : List Nat} {μ0 μ : Mem} (enc f : α → D) (xs : List α) (h1 : it ρ μ0 = .ok (xs.map enc, chk) μ) (hc : ∀ μ', Keep ex μ μ' → chk μ') (hl : xs.length < 100000)
    (ht : ∀ x ∈ xs, ∀ μ', Keep ex μ μ' → ∃ ρ' μ2, g (enc x) (wipeR ρ own) μ' = .ok ρ' μ' ∧ te ρ' μ' = .ok (f x) μ2 ∧ Keep ex μ' μ2) :
    ∃ μ', mComp it g mYes te own ρ μ0 = .ok (.ref μ'.length) (μ' ++ [.lst (xs.map f)]) ∧ Keep ex μ μ' := by
  obtain ⟨μ', e, k⟩ := comp_keep (chk := chk) (g := g) (te := te) (ρ0 := wipeR ρ own) enc f xs μ hc hl ht
  exact ⟨μ', comp_is h1 e, k⟩
theorem seq_tup {a : MD} {ρ : Rho} {μ μ1 : Mem} {l : List D} (h : a ρ μ = .ok (.tup l) μ1) : iSeq a ρ μ = .ok (l, fun _ => True) μ1 := by simp only [iSeq, h, Res.bind, itSeq]
/-! ### comparisons of texts -/
theorem eqS {a b : Str} {μ : Mem} (ha : PyData.strOk a = true) (hb : PyData.strOk b = true) : eqD (.str a) (.str b) μ = .ok (.bl (decide (a = b))) μ := by
  have h1 : SeqAt.shaped (PyData.str a) = true := by simp [SeqAt.shaped, PyData.canLay0, PyData.depth, ha]
  have h2 : SeqAt.shaped (PyData.str b) = true := by simp [SeqAt.shaped, PyData.canLay0, PyData.depth, hb]
  simp only [eqD, D.py?, h1, h2, Bool.and_self, if_true, PyData.eqv]
  by_cases h : a = b
  · subst h; simp
  · simp [h]
theorem neS {a b : Str} {μ : Mem} (ha : PyData.strOk a = true) (hb : PyData.strOk b = true) : neD (.str a) (.str b) μ = .ok (.bl (!decide (a = b))) μ := by
  have h1 : SeqAt.shaped (PyData.str a) = true := by simp [SeqAt.shaped, PyData.canLay0, PyData.depth, ha]
  have h2 : SeqAt.shaped (PyData.str b) = true := by simp [SeqAt.shaped, PyData.canLay0, PyData.depth, hb]
  simp only [neD, D.py?, h1, h2, Bool.and_self, if_true, PyData.eqv]
  by_cases h : a = b
  · subst h; simp
  · simp [h]
/-! ### numbers as texts -/
abbrev num (n : Int) : Str := Str.ofString (toString n)
theorem num_tl {n : Int} (h : 0 ≤ n) : TL.tl (num n) = TL.numL n.toNat := by
  have e : n = ((n.toNat : Nat) : Int) := by omega
  rw [show num n = num ((n.toNat : Nat) : Int) by rw [← e]]
  exact TL.tl_num _
theorem num_dig {n : Int} (h : 0 ≤ n) {c : Nat} (hc : c ∈ TL.tl (num n)) : 48 ≤ c ∧ c ≤ 57 := by
  rw [num_tl h] at hc
  exact TL.numL_digits _ c hc
theorem num_free {n : Int} (h : 0 ≤ n) {s : Nat} (hs : s < 48 ∨ 57 < s) : s ∉ TL.tl (num n) := fun hm => by have := num_dig h hm; omega
theorem num_len {n : Int} (h : 0 ≤ n) (h1 : n < 1000000000000000) : 1 ≤ (num n).length ∧ (num n).length ≤ 15 := by
  rw [TL.len_tl, num_tl h]
  refine ⟨?_, TL.numL_len (by decide) (by omega)⟩
  have := TL.numL_ne n.toNat
  cases hl : TL.numL n.toNat with
  | nil => exact absurd hl this
  | cons a l => simp
theorem num_int {n : Int} (h : 0 ≤ n) (h1 : n < 1000000000000000) : intText? (num n) = some n := by
  have e : n = ((n.toNat : Nat) : Int) := by omega
  rw [show num n = num ((n.toNat : Nat) : Int) by rw [← e]]
  have := TL.int_num (n := n.toNat) (by have := TL.numL_len (n := n.toNat) (k := 15) (by decide) (by omega); omega)
  rw [this, ← e]
theorem numL_head : ∀ n : Nat, 1 ≤ n → ∃ c r, TL.numL n = c :: r ∧ c ≠ 48 := by
  intro n
  induction n using Nat.strongRecOn with
  | _ n ih =>
    intro hn
    by_cases h : n < 10
    · exact ⟨48 + n, [], TL.numL_lt h, by omega⟩
    · obtain ⟨c, r, e, hc⟩ := ih (n / 10) (by omega) (by omega)
      exact ⟨c, r ++ [48 + n % 10], by rw [TL.numL_step (by omega), e]; rfl, hc⟩
theorem num_head {n : Int} (h : 0 ≤ n) (hl : 1 < (num n).length) : ∃ c r, TL.tl (num n) = c :: r ∧ c ≠ 48 := by
  rw [num_tl h]
  by_cases hn : n.toNat < 1
  · rw [TL.len_tl, num_tl h, TL.numL_lt (by omega)] at hl
    simp at hl
  · exact numL_head _ (by omega)
theorem figures {c : Nat} (h1 : 48 ≤ c) (h2 : c ≤ 57) : ("0123456789" : Str).cps.contains c = true := by
  have : c = 48 ∨ c = 49 ∨ c = 50 ∨ c = 51 ∨ c = 52 ∨ c = 53 ∨ c = 54 ∨ c = 55 ∨ c = 56 ∨ c = 57 := by omega
  rcases this with rfl | rfl | rfl | rfl | rfl | rfl | rfl | rfl | rfl | rfl <;> decide +kernel
theorem takeWhile_all' {α : Type} (p : α → Bool) : ∀ l : List α, (∀ c ∈ l, p c = true) → l.takeWhile p = l
  | [], _ => rfl
  | a :: l, h => by rw [List.takeWhile_cons, if_pos (h a (List.mem_cons_self ..)), takeWhile_all' p l fun c hc => h c (List.mem_cons_of_mem _ hc)]
theorem num_strip {n : Int} (h : 0 ≤ n) : Txt.stripChars (num n) ("0123456789" : Str) = ("" : Str) := by
  unfold Txt.stripChars
  rw [PyProof.Rows.stripBy_eq]
  refine TL.ext_tl ?_
  rw [TL.tl_strSub]
  have lo : stripLo (("0123456789" : Str).cps.contains) true (num n) = (TL.tl (num n)).length := by
    unfold stripLo
    rw [if_pos rfl]
    show ((TL.tl (num n)).takeWhile _).length = _
    rw [takeWhile_all' _ _ fun c hc => figures (num_dig h hc).1 (num_dig h hc).2]
  rw [lo, List.drop_length, List.take_nil]
  decide +kernel
end RW

/-! SEzc: the module's tuples of constants, dict(..) of them; call of a local name that holds one of two defs. -/
namespace RW
open PySem PySem.Spec L2
open PyProof.Rows hiding St
/-! ### tuples of constants -/
def vOf : D → V
  | .int i => .int i
  | .str s => .str s
  | _ => .non
def isLeafD : D → Bool
  | .int _ => true
  | .str _ => true
  | _ => false
def CKrow (K : PySem.W.Frag) (a : Addr) (r : List D) : Prop := ∃ (us : List Value) (n : Nat) (sl : Array (Option Value)), K.lookup a = some ⟨.type "tuple", none, .seq us.toArray n, sl⟩ ∧ us.length ≤ 1000 ∧ Vals (r.map vOf) us ∧ r.all isLeafD = true
def CKtab (K : PySem.W.Frag) (a : Addr) (rows : List (List D)) : Prop := ∃ (bs : List Addr) (n : Nat) (sl : Array (Option Value)), K.lookup a = some ⟨.type "tuple", none, .seq (bs.map Value.ref).toArray n, sl⟩ ∧ bs.length ≤ 1000 ∧ Paired (fun r b => CKrow K b r) rows bs
section
variable {G : Gd} {ι : List Addr} {H : Hp}
theorem reps_leaf : ∀ {r : List D}, r.all isLeafD = true → Reps G ι H r (r.map vOf)
  | [], _ => .nil
  | d :: r, h => by
    rw [List.all_cons, Bool.and_eq_true] at h
    refine .cons ?_ (reps_leaf h.2)
    cases d with
    | int i => exact rep_int _
    | str s => exact rep_str _
    | _ => exact absurd h.1 (by simp [isLeafD])
theorem CKrow.sq {K : PySem.W.Frag} {a : Addr} {r : List D} (h : CKrow K a r) : SqT K H a (r.map vOf) := by
  obtain ⟨us, n, sl, h1, h2, h3, h4⟩ := h
  exact .inr ⟨_, us.toArray, n, h1, rfl, rfl, by rw [List.size_toArray, sizeLine_eq]; omega, by rw [List.toList_toArray]; exact h3⟩
theorem CKrow.rep {a : Addr} {r : List D} (h : CKrow G.K a r) : Rep G ι H (.tup r) (.ref a) := rep_tup (h.sq (H := H)) (reps_leaf (let ⟨_, _, _, _, _, _, h4⟩ := h; h4))
theorem ck_vals : ∀ {rows : List (List D)} {bs : List Addr}, Paired (fun r b => CKrow G.K b r) rows bs → Reps G ι H (rows.map D.tup) (bs.map V.ref) ∧ Vals (bs.map V.ref) (bs.map Value.ref)
  | _, _, .nil => ⟨.nil, .nil⟩
  | _, _, .cons h t => ⟨.cons h.rep (ck_vals t).1, .cons rfl (ck_vals t).2⟩
theorem CKtab.rep {a : Addr} {rows : List (List D)} (h : CKtab G.K a rows) : Rep G ι H (.tup (rows.map D.tup)) (.ref a) := by
  obtain ⟨bs, n, sl, h1, h2, h3⟩ := h
  obtain ⟨h4, h5⟩ := ck_vals (H := H) (ι := ι) h3
  exact rep_tup (.inr ⟨_, (bs.map Value.ref).toArray, n, h1, rfl, rfl, by rw [List.size_toArray, List.length_map, sizeLine_eq]; omega, by rw [List.toList_toArray]; exact h5⟩) h4
end
section
variable {X : Cx} {W : WX} {pos p p2 : Pos} {x : Str} {a : Addr} {rows : List (List D)}
theorem se_globC (hg : Gl X x) (hm : X.mg x = some (.ref a)) (C : CKtab X.K a rows) (hd : (x == ("__debug__" : Str)) = false := by decide) : SE X W (.Name x pos) (mC (.tup (rows.map D.tup))) :=
  se_c (v := .ref a) (pe_glob hg hm rfl hd) fun ι H => CKtab.rep (G := gOf X) C
/-! ### dict(..) of them -/
theorem pairs_of2 {pins : List (Addr × Obj)} {σ : St} {H : Hp} {s : Shared} (I : Inv X pins σ H s) : ∀ {ps : List Addr} {kvs : List (Key × V)}, Paired (fun p kv => SqT X.K H p [kV kv.1, kv.2]) ps kvs →
    ∃ (prs : List (Key × Value)) (vps : List (Value × Value)), KV kvs prs ∧ prs.length = ps.length ∧ vps.length = ps.length ∧ ∀ (j : Nat) (q : Value × Value), vps[j]? = some q → ∃ (b : Addr) (k : Key), ps[j]? = some b ∧ prs[j]? = some (k, q.2) ∧ IsTup s.heap b #[q.1, q.2] ∧ keyIs k q.1 = true
  | _, _, .nil => ⟨[], [], .nil, rfl, rfl, fun j q e => by simp at e⟩
  | _, _, .cons (a := p) (b := kv) h t => by
    obtain ⟨prs, vps, r, hl, hl2, hp⟩ := pairs_of2 I t
    obtain ⟨its, rv, ht, _⟩ := I.tuple h
    obtain ⟨u, y, ei, ru, ry⟩ := vals2 rv
    subst ei
    refine ⟨(kv.1, y) :: prs, (u, y) :: vps, .cons ⟨rfl, ry⟩ r, by rw [List.length_cons, List.length_cons, hl], by rw [List.length_cons, List.length_cons, hl2], fun j q e => ?_⟩
    cases j with
    | zero =>
      have e' : (u, y) = q := Option.some.inj e
      subst e'
      exact ⟨p, kv.1, rfl, rfl, ht, kV_is (P := X.prog) (w := X.w) ru⟩
    | succ j =>
      obtain ⟨b, k, e1, e2, e3, e4⟩ := hp j q (by simpa using e)
      exact ⟨b, k, by simpa using e1, by simpa using e2, e3, e4⟩
def rDictC (K : PySem.W.Frag) : List V → Hp → VK → Prop := fun xs H Q => ∃ (a : Addr) (bs : List Addr) (n : Nat) (sl : Array (Option Value)) (kvs : List (Key × V)), xs = [.ref a] ∧ K.lookup a = some ⟨.type "tuple", none, .seq (bs.map Value.ref).toArray n, sl⟩ ∧ bs.length ≤ 1000 ∧
  Paired (fun p kv => SqT K H p [kV kv.1, kv.2]) bs kvs ∧ ∀ p, H p = none → Q (.ref p) (upd H p (.dK (mergeK [] kvs)))
theorem call_dictC (hc : X.calm = true) : CallR X (.type "dict") (rDictC X.K) := by
  intro pins s σ H xs us Q I r q
  obtain ⟨a, bs, n, sl, kvs, rfl, hl, hz, hp, q⟩ := q
  obtain ⟨u, rfl, rx⟩ := r.one
  cases rx
  obtain ⟨prs, vps, rel, e1, e2, hpr⟩ := pairs_of2 I hp
  have P := PairArg.tuple (prog := X.prog) (w := X.w) a (bs.map Value.ref).toArray (fun j => bs.getD j 0) vps
  have hin : s.heap.get? a = some ⟨.type "tuple", none, .seq (bs.map Value.ref).toArray n, sl⟩ := I.kIn _ _ hl
  refine PySem.call_dict_pairs (knd := mixKind X.prog X.w) (kvs := prs) P (I.ok.hd hc) ⟨⟨_, n, hin, rfl, rfl, rfl⟩, ?_, fun j k v e => ?_⟩ ⟨by omega, fun i key v hr => ?_⟩ (by rw [sizeLine_eq]; omega) fun h' tk hd' hk => ?_
  · simp [e2]
  · obtain ⟨b, kk, g1, g2, g3, g4⟩ := hpr j (k, v) e
    have : bs.getD j 0 = b := by simp [List.getD, g1]
    show _ = some (Value.ref (bs.getD j 0)) ∧ PairAt s.heap (bs.getD j 0) _ _
    rw [this]
    obtain ⟨o, ho, hcl, m, hd⟩ := g3
    exact ⟨by simp [g1], .inl ⟨o, ho, hcl, m, hd⟩⟩
  · obtain ⟨b, kk, g1, g2, g3, g4⟩ := hpr i (key, v) hr
    exact ⟨kk, g2, g4⟩
  · have hm : (s.heap.objs.size == sysModules) = false := beq_eq_false_iff_ne.mpr (Nat.ne_of_gt I.big)
    have hlen : (mergeK [] kvs).length ≤ sizeLine := by
      refine Nat.le_trans (length_mergeK kvs []) ?_
      rw [List.length_nil, Nat.zero_add, rel.length, e1, sizeLine_eq]
      omega
    exact ⟨.ref s.heap.objs.size, upd H s.heap.objs.size (.dK (mergeK [] kvs)), I.laid (t' := tk) (fun b o e => hk b o (fun z => nomatch z) e) (Nat.le_refl _) (show ObjOk X.prog X.w _ _ _ (.dK (mergeK [] kvs)) from ⟨hlen, hm, merged [] prs, KV.merge rel .nil, hd'⟩), rfl, q _ (I.hok.fresh (Nat.le_refl _))⟩
def mDicC (l : List (D × D)) : MD := fun _ μ => .ok (.ref μ.length) (μ ++ [.dic l])
theorem ck_keys {K : PySem.W.Frag} {H : Hp} : ∀ {rows : List (List D)} {bs : List Addr} {kvs : List (Key × V)}, Paired (fun r b => CKrow K b r) rows bs → Paired (fun r kv => r.map vOf = [kV kv.1, kv.2]) rows kvs → Paired (fun p kv => SqT K H p [kV kv.1, kv.2]) bs kvs
  | _, _, _, .nil, .nil => .nil
  | _, _, _, .cons h t, .cons g u => .cons (by rw [← g]; exact CKrow.sq h) (ck_keys t u)
theorem se_dictC {l : List (D × D)} {kvs : List (Key × V)} (hc : X.calm = true) (hgd : Gl X "dict") (hmd : X.mg "dict" = none) (hg : Gl X x) (hm : X.mg x = some (.ref a)) (C : CKtab X.K a rows) (hk : Paired (fun r kv => r.map vOf = [kV kv.1, kv.2]) rows kvs) (hr : ∀ ι H, Paired (RepP (gOf X) ι H) l (mergeK [] kvs))
    (hd : (x == ("__debug__" : Str)) = false := by decide) (hpl : starEach [Expr.Name x p2] X.env = (false, eval (.Name x p2) X.env) :: starEach [] X.env := by rfl) (hpl2 : (backTo pos (starEach [] X.env)).any (·.1) = false := by rfl) :
    SE X W (.Call (.Name "dict" p) [.Name x p2] [] pos) (mDicC l) :=
  PE.mono (pe_callTy (call_dictC hc) hgd hmd (by decide +kernel) (pa_cons (pe_glob (v := .ref a) hg hm rfl hd) pa_nil) (by decide) (by decide) hpl hpl2) fun σ H Q ⟨ρ, μ, ι, env, rel, h⟩ => by
    obtain ⟨bs, n, sl, h1, h2, h3⟩ := C
    refine ⟨a, bs, n, sl, kvs, rfl, h1, h2, ck_keys h3 hk, fun p hp => ?_⟩
    obtain ⟨g2, r2⟩ := grow_cell (o := .dK (mergeK [] kvs)) (c := .dic l) rel hp fun x => ⟨_, upd_same, hr _ _⟩
    exact h _ _ g2 r2 _ (rep_new (r := rel))
end
/-! ### a local name that holds one of two defs, called -/
def mCallV (i : Nat) (x1 : Str) (s1 : Sem) (x2 : Str) (s2 : Sem) (ms : ML) : MD := fun ρ μ => match ρ[i]? with
  | some (some (.fn y)) => if y = x1 then (ms ρ μ).bind fun ds μ1 => s1 ds μ1 else if y = x2 then (ms ρ μ).bind fun ds μ1 => s2 ds μ1 else .stuck
  | _ => .stuck
section
variable {X : Cx} {W : WX} {k n : Nat} {x x1 x2 : Str} {p pos : Pos} {e : Expr} {es : List Expr} {ms : ML} {s1 s2 : Sem}
theorem se_callV {i j1 j2 : Nat} (F1 : Fn (gOf X) X.base x1 j1 n s1) (F2 : Fn (gOf X) X.base x2 j2 n s2) (hr : RoomG k X.A) (hj1 : j1 ≤ k) (hj2 : j2 ≤ k) (hN : X.N[i]? = some x) (hv : Vis X.env.scope x) (tk : Takes X W) (ha : SA X W (e :: es) ms) (hn : ∀ ρ μ ds μ', ms ρ μ = .ok ds μ' → ds.length = n)
    (hd : (x == ("__debug__" : Str)) = false := by decide) (hcd : (x == ("__classdict__" : Str)) = false := by decide) (he : starEach (e :: es) X.env = (false, eval e X.env) :: starEach es X.env := by rfl) (hpl : (backTo pos (starEach es X.env)).any (·.1) = false := by rfl) :
    SE X W (.Call (.Name x p) (e :: es) [] pos) (mCallV i x1 s1 x2 s2 ms) := by
  refine ⟨fun pins s σ H Q I ⟨ρ, μ, ι, env, rel, h⟩ => ?_⟩
  have go : ∀ {y : Str} {j : Nat} {sem : Sem}, Fn (gOf X) X.base y j n sem → j ≤ k → ρ[i]? = some (some (.fn y)) → Post (gOf X) ι H W σ ((ms ρ μ).bind fun ds μ1 => sem ds μ1) (fun ι' H' _ d => ∀ v, Rep (gOf X) ι' H' d v → Q v H') →
      wpAny (model X.prog X.w) X.A (eval (.Call (.Name x p) (e :: es) [] pos) X.env) (EP X pins σ Q) X.xe s := fun {y j sem} F hj er h => by
    obtain ⟨f, fd, ps, hm, hk, hb, F⟩ := F
    obtain ⟨v, hs, rv⟩ := env.at_ i _ er
    obtain ⟨f', hm', rfl⟩ : ∃ f', (gOf X).mg y = some (.ref f') ∧ v = .ref f' := by unfold Rep at rv; exact rv
    obtain rfl : f' = f := by have := hm'.symm.trans hm; cases this; rfl
    refine wpAny_Call_Name_kw (thn ((pe_var (pos := p) hN hv hd hcd).run pins s σ H (fun v H1 => v = .ref f' ∧ H1 = H) I ⟨.ref f', hs, rfl, rfl⟩) fun u s1 ⟨v, H1, I1, r1, q1⟩ => ?_)
    obtain ⟨rfl, rfl⟩ := q1
    cases r1
    refine PySem.W.callWith_K (h₀ := X.base) I.ok.mod.kin hk (thn (ha.run pos pins s1 σ _ (fun vs H2 => spM (gOf X) n sem vs H2 Q (WE W σ)) I1 ⟨ρ, μ, ι, env, rel, ?_⟩) fun us s2 ⟨vs, H2, I2, r, q⟩ => ⟨I2.kIn, goG (T := WE W) F (hr.le hj) hb (passAt tk σ) I2 r q⟩) he hpl
    have h := Post.bind h
    cases hm : ms ρ μ with
    | stuck => rw [hm] at h; exact h.elim
    | exc c fs m => rw [hm] at h; exact h
    | ok ds μ1 =>
      rw [hm] at h
      intro ι1 H1 g1 r1 vs rvs
      obtain ⟨_, _, h1⟩ := h ι1 H1 g1 r1
      exact ⟨ds, μ1, ι1, rvs, hn ρ μ ds μ1 hm, r1, h1.re fun c d H z => z⟩
  unfold mCallV at h
  split at h
  · rename_i y er
    split at h
    · rename_i h1
      subst h1
      exact go F1 hj1 er h
    · split at h
      · rename_i h2
        subst h2
        exact go F2 hj2 er h
      · exact h.elim
  · exact h.elim
end
end RW

set_option maxHeartbeats 4000000
namespace K86
open PySem L2 RW
def top (i : Nat) : Stmt := PySem.Challenge.pw_ropewarren_k86_house_texts.main.body.getD i (.Pass ⟨0, 0, 0, 0⟩)
abbrev s_law_stream : Stmt := top 33
abbrev N_law_stream : List Str := ["_law_script", "_law_own", "_law_cell"]
theorem sc_law_stream : FnScope N_law_stream ["_law_script", "_law_own"] (defScope s_law_stream) := ⟨rfl, rfl, rfl, by decide +kernel, rfl, by decide +kernel, by decide +kernel⟩
abbrev s_law_take : Stmt := top 34
abbrev N_law_take : List Str := ["_law_stream_here", "_law_below", "_law_cells", "_law_at", "_law_rest", "_law_turn", "_law_number"]
theorem sc_law_take : FnScope N_law_take ["_law_stream_here", "_law_below"] (defScope s_law_take) := ⟨rfl, rfl, rfl, by decide +kernel, rfl, by decide +kernel, by decide +kernel⟩
abbrev s_law_far : Stmt := top 36
abbrev N_law_far : List Str := ["_law_stream_here", "_law_most", "_law_below", "_law_found"]
theorem sc_law_far : FnScope N_law_far ["_law_stream_here", "_law_most"] (defScope s_law_far) := ⟨rfl, rfl, rfl, by decide +kernel, rfl, by decide +kernel, by decide +kernel⟩
abbrev s_law_wide : Stmt := top 39
abbrev N_law_wide : List Str := ["_law_stream_here", "_law_house", "_law_pipes", "_law_one", "_law_other", "_law_length", "_law_narrows", "_law_flaps", "_law_wide_here", "_law_at", "_law_width"]
theorem sc_law_wide : FnScope N_law_wide ["_law_stream_here", "_law_house"] (defScope s_law_wide) := ⟨rfl, rfl, rfl, by decide +kernel, rfl, by decide +kernel, by decide +kernel⟩
abbrev s_law_house_text : Stmt := top 38
abbrev N_law_house_text : List Str := ["_law_house", "_law_found", "_law_one", "_law_other", "_law_length", "_law_narrows", "_law_flaps", "_law_at", "_law_width", "_law_way"]
theorem sc_law_house_text : FnScope N_law_house_text ["_law_house"] (defScope s_law_house_text) := ⟨rfl, rfl, rfl, by decide +kernel, rfl, by decide +kernel, by decide +kernel⟩
abbrev s_law_far_house : Stmt := top 37
abbrev N_law_far_house : List Str := ["_law_stream_here", "_law_flaps", "_law_rooms", "_law_pipes", "_law_left", "_law_room", "_law_length", "_law_ats", "_law_narrow", "_law_hung", "_law_pipe", "_law_k", "_law_at"]
theorem sc_law_far_house : FnScope N_law_far_house ["_law_stream_here", "_law_flaps"] (defScope s_law_far_house) := ⟨rfl, rfl, rfl, by decide +kernel, rfl, by decide +kernel, by decide +kernel⟩
abbrev s_law_same : Stmt := top 35
abbrev N_law_same : List Str := ["_law_found", "_law_due", "_law_k"]
theorem sc_law_same : FnScope N_law_same ["_law_found", "_law_due"] (defScope s_law_same) := ⟨rfl, rfl, rfl, by decide +kernel, rfl, by decide +kernel, by decide +kernel⟩
abbrev s_pairs_text : Stmt := top 23
abbrev N_pairs_text : List Str := ["pairs", "one", "other"]
theorem sc_pairs_text : FnScope N_pairs_text ["pairs"] (defScope s_pairs_text) := ⟨rfl, rfl, rfl, by decide +kernel, rfl, by decide +kernel, by decide +kernel⟩
abbrev s_pipe_text : Stmt := top 24
abbrev N_pipe_text : List Str := ["pipe", "one", "other", "length", "narrows", "flaps", "words", "at", "way"]
theorem sc_pipe_text : FnScope N_pipe_text ["pipe"] (defScope s_pipe_text) := ⟨rfl, rfl, rfl, by decide +kernel, rfl, by decide +kernel, by decide +kernel⟩
abbrev s_house_text : Stmt := top 25
abbrev N_house_text : List Str := ["house", "pipe"]
theorem sc_house_text : FnScope N_house_text ["house"] (defScope s_house_text) := ⟨rfl, rfl, rfl, by decide +kernel, rfl, by decide +kernel, by decide +kernel⟩
abbrev s_must_be_text : Stmt := top 29
abbrev N_must_be_text : List Str := ["thing"]
theorem sc_must_be_text : FnScope N_must_be_text ["thing"] (defScope s_must_be_text) := ⟨rfl, rfl, rfl, by decide +kernel, rfl, by decide +kernel, by decide +kernel⟩
abbrev s_number_told : Stmt := top 26
abbrev N_number_told : List Str := ["word"]
theorem sc_number_told : FnScope N_number_told ["word"] (defScope s_number_told) := ⟨rfl, rfl, rfl, by decide +kernel, rfl, by decide +kernel, by decide +kernel⟩
abbrev s_is_joined : Stmt := top 17
abbrev N_is_joined : List Str := ["rooms", "pipes", "found", "at", "pipe", "here", "there"]
theorem sc_is_joined : FnScope N_is_joined ["rooms", "pipes"] (defScope s_is_joined) := ⟨rfl, rfl, rfl, by decide +kernel, rfl, by decide +kernel, by decide +kernel⟩
abbrev s_is_whole : Stmt := top 9
abbrev N_is_whole : List Str := ["thing"]
theorem sc_is_whole : FnScope N_is_whole ["thing"] (defScope s_is_whole) := ⟨rfl, rfl, rfl, by decide +kernel, rfl, by decide +kernel, by decide +kernel⟩
abbrev s_is_from : Stmt := top 10
abbrev N_is_from : List Str := ["thing", "low", "high"]
theorem sc_is_from : FnScope N_is_from ["thing", "low", "high"] (defScope s_is_from) := ⟨rfl, rfl, rfl, by decide +kernel, rfl, by decide +kernel, by decide +kernel⟩
abbrev s_is_pair : Stmt := top 11
abbrev N_is_pair : List Str := ["thing"]
theorem sc_is_pair : FnScope N_is_pair ["thing"] (defScope s_is_pair) := ⟨rfl, rfl, rfl, by decide +kernel, rfl, by decide +kernel, by decide +kernel⟩
abbrev s_is_size : Stmt := top 14
abbrev N_is_size : List Str := ["thing"]
theorem sc_is_size : FnScope N_is_size ["thing"] (defScope s_is_size) := ⟨rfl, rfl, rfl, by decide +kernel, rfl, by decide +kernel, by decide +kernel⟩
abbrev s_is_course : Stmt := top 15
abbrev N_is_course : List Str := ["thing"]
theorem sc_is_course : FnScope N_is_course ["thing"] (defScope s_is_course) := ⟨rfl, rfl, rfl, by decide +kernel, rfl, by decide +kernel, by decide +kernel⟩
abbrev s_are_pairs : Stmt := top 12
abbrev N_are_pairs : List Str := ["thing", "low", "high", "fits", "least", "pair"]
theorem sc_are_pairs : FnScope N_are_pairs ["thing", "low", "high", "fits"] (defScope s_are_pairs) := ⟨rfl, rfl, rfl, by decide +kernel, rfl, by decide +kernel, by decide +kernel⟩
abbrev s_is_pipe : Stmt := top 16
abbrev N_is_pipe : List Str := ["rooms", "thing", "one", "other", "length", "narrows", "flaps"]
theorem sc_is_pipe : FnScope N_is_pipe ["rooms", "thing"] (defScope s_is_pipe) := ⟨rfl, rfl, rfl, by decide +kernel, rfl, by decide +kernel, by decide +kernel⟩
abbrev s_is_house : Stmt := top 18
abbrev N_is_house : List Str := ["thing", "rooms", "pipes", "pipe"]
theorem sc_is_house : FnScope N_is_house ["thing"] (defScope s_is_house) := ⟨rfl, rfl, rfl, by decide +kernel, rfl, by decide +kernel, by decide +kernel⟩
abbrev s_numbers_told : Stmt := top 27
abbrev N_numbers_told : List Str := ["words", "word"]
theorem sc_numbers_told : FnScope N_numbers_told ["words"] (defScope s_numbers_told) := ⟨rfl, rfl, rfl, by decide +kernel, rfl, by decide +kernel, by decide +kernel⟩
abbrev s_pair_told : Stmt := top 28
abbrev N_pair_told : List Str := ["word", "found"]
theorem sc_pair_told : FnScope N_pair_told ["word"] (defScope s_pair_told) := ⟨rfl, rfl, rfl, by decide +kernel, rfl, by decide +kernel, by decide +kernel⟩
abbrev s_pipe_told : Stmt := top 30
abbrev N_pipe_told : List Str := ["text", "words", "narrows", "flaps", "word", "ways", "way", "mark"]
theorem sc_pipe_told : FnScope N_pipe_told ["text"] (defScope s_pipe_told) := ⟨rfl, rfl, rfl, by decide +kernel, rfl, by decide +kernel, by decide +kernel⟩
abbrev s_read_house : Stmt := top 31
abbrev N_read_house : List Str := ["thing", "parts", "found", "part"]
theorem sc_read_house : FnScope N_read_house ["thing"] (defScope s_read_house) := ⟨rfl, rfl, rfl, by decide +kernel, rfl, by decide +kernel, by decide +kernel⟩
abbrev s_law : Stmt := top 40
abbrev N_law : List Str := ["_law_script", "_law_stream_here", "_law_some", "_law_kept", "_law_turn", "_law_house", "_law_text", "_law_k"]
theorem sc_law : FnScope N_law ["_law_script"] (defScope s_law) := ⟨rfl, rfl, rfl, by decide +kernel, rfl, by decide +kernel, by decide +kernel⟩
/-! mirrors -/
abbrev ct_MARKS : List (List D) := [[.int 1, .str ">"], [.int (-1), .str "<"]]
noncomputable def b_law_stream : MS := sRet (mLst (mCons (mComp (iSeq (mSlc (mVar 0) oNone (oSome (mC (.int 63))))) (gN 2) (mYes) (mB absL (mCons (mVar 2) (mNil))) [2]) (mCons (mC (.int 0)) (mCons (mC (.int 0)) (mCons (mVar 1) (mNil))))))
noncomputable def m_law_stream : Sem := runB 3 b_law_stream
noncomputable def b_law_take : MS := sSeq (sAsg (mVar 0) (gTupM 4 (gConsM (gN 2) (gConsM (gN 3) (gConsM (gN 4) (gConsM (gN 5) (gNilM)))))))
    (sSeq (sAsg (mBin addD (mVar 5) (mC (.int 1))) (gSubM setDD (mVar 0) (mC (.int 3))))
    (sSeq (sIf (mAnd (mTest (mBin eqD (mVar 4) (mC (.int 0)))) (mTest (mBin (cmpI fun i j => decide (i < j)) (mVar 3) (mB lenL (mCons (mVar 2) (mNil)))))) (sSeq (sAsg (mBin addD (mVar 3) (mC (.int 1))) (gSubM setDD (mVar 0) (mC (.int 1))))
    (sSet 4 (mBin mulD (mBin idxA (mVar 2) (mVar 3)) (mB intL (mCons (mBin (cmpI fun i j => decide (j ≤ i)) (mBin idxA (mVar 2) (mVar 3)) (mBin powD (mC (.int 10)) (mC (.int 18)))) (mNil)))))) (sNil))
    (sSeq (sAsg (mBin fdivD (mVar 4) (mVar 1)) (gSubM setDD (mVar 0) (mC (.int 2))))
    (sSeq (sIf (mTest (mBin (cmpI fun i j => decide (j < i)) (mVar 4) (mC (.int 0)))) (sRet (mBin modD (mVar 4) (mVar 1))) (sNil))
    (sSeq (sSet 6 (mBin modD (mBin powD (mBin addD (mBin mulD (mVar 5) (mC (.int 48271))) (mC (.int 12345))) (mC (.int 3))) (mC (.int 2305843009213693951))))
    (sSeq (sIf (mTest (mBin neD (mVar 2) (mLst (mNil)))) (sSet 6 (mBin addD (mVar 6) (mBin mulD (mBin modD (mBin idxA (mVar 2) (mBin modD (mBin mulD (mVar 5) (mC (.int 7))) (mB lenL (mCons (mVar 2) (mNil))))) (mC (.int 2305843009213693951))) (mBin addD (mVar 5) (mC (.int 3)))))) (sNil))
    (sSeq (sSet 6 (mBin modD (mVar 6) (mC (.int 2305843009213693951))))
    (sRet (mBin modD (mBin fdivD (mBin modD (mBin mulD (mVar 6) (mVar 6)) (mC (.int 2305843009213693951))) (mC (.int 16))) (mVar 1))))))))))
noncomputable def m_law_take : Sem := runB 7 b_law_take
noncomputable def b_law_far : MS := sSeq (sSet 2 (mB min2L (mCons (mVar 1) (mCons (mBin idxA (mLst (mCons (mVar 1) (mCons (mC (.int 10)) (mCons (mC (.int 1000)) (mCons (mBin powD (mC (.int 10)) (mC (.int 9))) (mNil)))))) (mB m_law_take (mCons (mVar 0) (mCons (mC (.int 4)) (mNil))))) (mNil)))))
    (sSeq (sSet 3 (mB m_law_take (mCons (mVar 0) (mCons (mVar 2) (mNil)))))
    (sRet (mBin idxA (mLst (mCons (mVar 3) (mCons (mBin subD (mBin subD (mVar 1) (mC (.int 1))) (mVar 3)) (mNil)))) (mB intL (mCons (mBin eqD (mB m_law_take (mCons (mVar 0) (mCons (mC (.int 4)) (mNil)))) (mC (.int 0))) (mNil))))))
noncomputable def m_law_far : Sem := runB 4 b_law_far
noncomputable def b_law_wide : MS := sSeq (sSet 2 (mLst (mNil)))
    (sSeq (sFor (iSeq (mBin idxA (mVar 1) (mC (.int 1)))) (gTupM 5 (gConsM (gN 3) (gConsM (gN 4) (gConsM (gN 5) (gConsM (gN 6) (gConsM (gN 7) (gNilM))))))) (sSeq (sSet 8 (mB tupleL (mCons (mComp (iSeq (mVar 6)) (gTupM 2 (gConsM (gN 9) (gConsM (gN 10) (gNilM)))) (mYes) (mTup (mCons (mVar 9) (mCons (mBin addD (mC (.int 1)) (mB m_law_far (mCons (mVar 0) (mCons (mBin powD (mC (.int 10)) (mC (.int 6))) (mNil))))) (mNil)))) [9, 10]) (mNil))))
    (sExpr (mMt isLst appendM (mVar 2) (mCons (mTup (mCons (mVar 3) (mCons (mVar 4) (mCons (mVar 5) (mCons (mVar 8) (mCons (mVar 7) (mNil))))))) (mNil))))))
    (sRet (mTup (mCons (mBin idxA (mVar 1) (mC (.int 0))) (mCons (mB tupleL (mCons (mVar 2) (mNil))) (mNil))))))
noncomputable def m_law_wide : Sem := runB 11 b_law_wide
noncomputable def b_law_house_text : MS := sSeq (sSet 1 (mB strL (mCons (mBin idxA (mVar 0) (mC (.int 0))) (mNil))))
    (sSeq (sFor (iSeq (mBin idxA (mVar 0) (mC (.int 1)))) (gTupM 5 (gConsM (gN 2) (gConsM (gN 3) (gConsM (gN 4) (gConsM (gN 5) (gConsM (gN 6) (gNilM))))))) (sSeq (sSet 1 (mBin addD (mBin addD (mBin addD (mBin addD (mBin addD (mBin addD (mVar 1) (mC (.str ", "))) (mB strL (mCons (mVar 2) (mNil)))) (mC (.str " "))) (mB strL (mCons (mVar 3) (mNil)))) (mC (.str " "))) (mB strL (mCons (mVar 4) (mNil)))))
    (sSeq (sFor (iSeq (mVar 5)) (gTupM 2 (gConsM (gN 7) (gConsM (gN 8) (gNilM)))) (sSet 1 (mBin addD (mBin addD (mBin addD (mBin addD (mVar 1) (mC (.str " "))) (mB strL (mCons (mVar 7) (mNil)))) (mC (.str "x"))) (mB strL (mCons (mVar 8) (mNil))))))
    (sFor (iSeq (mVar 6)) (gTupM 2 (gConsM (gN 7) (gConsM (gN 9) (gNilM)))) (sSet 1 (mBin addD (mBin addD (mBin addD (mVar 1) (mC (.str " "))) (mB strL (mCons (mVar 7) (mNil)))) (mBin idxA (mLst (mCons (mC (.str ">")) (mCons (mC (.str "<")) (mNil)))) (mB intL (mCons (mBin (cmpI fun i j => decide (i < j)) (mVar 9) (mC (.int 0))) (mNil))))))))))
    (sRet (mVar 1)))
noncomputable def m_law_house_text : Sem := runB 10 b_law_house_text
noncomputable def b_law_far_house : MS := sSeq (sSet 2 (mBin addD (mC (.int 2)) (mB m_law_take (mCons (mVar 0) (mCons (mC (.int 15)) (mNil))))))
    (sSeq (sSet 3 (mLst (mNil)))
    (sSeq (sSet 4 (mLst (mCons (mC (.int 12)) (mCons (mVar 1) (mNil)))))
    (sSeq (sFor (iRange2 (mCons (mC (.int 1)) (mCons (mVar 2) (mNil)))) (gN 5) (sSeq (sSet 6 (mBin addD (mC (.int 1)) (mB m_law_far (mCons (mVar 0) (mCons (mBin powD (mC (.int 10)) (mC (.int 12))) (mNil))))))
    (sSeq (sSet 7 (mComp (iRange1 (mCons (mBin mulD (mB m_law_take (mCons (mVar 0) (mCons (mC (.int 3)) (mNil)))) (mB intL (mCons (mBin (cmpI fun i j => decide (j < i)) (mVar 6) (mC (.int 1))) (mNil)))) (mNil))) (gN 11) (mYes) (mBin addD (mC (.int 1)) (mB m_law_far (mCons (mVar 0) (mCons (mB max2L (mCons (mC (.int 1)) (mCons (mBin subD (mVar 6) (mC (.int 1))) (mNil)))) (mNil))))) [11]))
    (sSeq (sSet 8 (mSlc (mComp (iSeq (mB sortedA (mCons (mB setL (mCons (mVar 7) (mNil))) (mNil)))) (gN 12) (mYes) (mTup (mCons (mVar 12) (mCons (mBin addD (mC (.int 1)) (mB m_law_take (mCons (mVar 0) (mCons (mC (.int 3)) (mNil))))) (mNil)))) [12]) oNone (oSome (mBin idxA (mVar 4) (mC (.int 0))))))
    (sSeq (sSet 7 (mSlc (mComp (iRange1 (mCons (mB m_law_take (mCons (mVar 0) (mCons (mC (.int 2)) (mNil)))) (mNil))) (gN 11) (mYes) (mB m_law_far (mCons (mVar 0) (mCons (mVar 6) (mNil)))) [11]) oNone (oSome (mBin idxA (mVar 4) (mC (.int 1))))))
    (sSeq (sSet 9 (mComp (iSeq (mVar 7)) (gN 12) (mYes) (mTup (mCons (mVar 12) (mCons (mBin idxA (mLst (mCons (mC (.int 1)) (mCons (mUn negD (mC (.int 1))) (mNil)))) (mB m_law_take (mCons (mVar 0) (mCons (mC (.int 2)) (mNil))))) (mNil)))) [12]))
    (sSeq (sSet 4 (mLst (mCons (mBin subD (mBin idxA (mVar 4) (mC (.int 0))) (mB lenL (mCons (mVar 8) (mNil)))) (mCons (mBin subD (mBin idxA (mVar 4) (mC (.int 1))) (mB lenL (mCons (mVar 9) (mNil)))) (mNil)))))
    (sSeq (sSet 10 (mTup (mCons (mB m_law_take (mCons (mVar 0) (mCons (mVar 5) (mNil)))) (mCons (mVar 5) (mCons (mVar 6) (mCons (mB tupleL (mCons (mVar 8) (mNil))) (mCons (mB tupleL (mCons (mVar 9) (mNil))) (mNil))))))))
    (sExpr (mMt isLst insertM (mVar 3) (mCons (mB m_law_take (mCons (mVar 0) (mCons (mBin addD (mB lenL (mCons (mVar 3) (mNil))) (mC (.int 1))) (mNil)))) (mCons (mVar 10) (mNil)))))))))))))
    (sRet (mTup (mCons (mVar 2) (mCons (mB tupleL (mCons (mVar 3) (mNil))) (mNil))))))))
noncomputable def m_law_far_house : Sem := runB 13 b_law_far_house
noncomputable def b_law_same (self : Sem) : MS := sSeq (sIf (mTest (mUn (isT1 "tuple") (mVar 1))) (sSeq (sIf (mOr (mNot (mTest (mUn (isT1 "tuple") (mVar 0)))) (mTest (mBin neD (mB lenL (mCons (mVar 0) (mNil))) (mB lenL (mCons (mVar 1) (mNil)))))) (sRet (mC (.bl false))) (sNil))
    (sRet (mBin eqD (mComp (iRange1 (mCons (mB lenL (mCons (mVar 1) (mNil))) (mNil))) (gN 2) (mNot (mTest (mB self (mCons (mBin idxA (mVar 0) (mVar 2)) (mCons (mBin idxA (mVar 1) (mVar 2)) (mNil)))))) (mVar 2) [2]) (mLst (mNil))))) (sNil))
    (sRet (mBin eqT (mB reprL (mCons (mVar 0) (mNil))) (mB reprL (mCons (mVar 1) (mNil)))))
noncomputable def m_law_same : Nat → Sem
  | 0 => stuckS
  | n + 1 => runB 3 (b_law_same (m_law_same n))
noncomputable def b_pairs_text : MS := sRet (mComp (iSeq (mVar 0)) (gTupM 2 (gConsM (gN 1) (gConsM (gN 2) (gNilM)))) (mYes) (mJs [mUn fmtD (mVar 1), mC (.str "x"), mUn fmtD (mVar 2)] Str.empty) [1, 2])
noncomputable def m_pairs_text : Sem := runB 3 b_pairs_text
noncomputable def b_pipe_text : MS := sSeq (sAsg (mVar 0) (gTupM 5 (gConsM (gN 1) (gConsM (gN 2) (gConsM (gN 3) (gConsM (gN 4) (gConsM (gN 5) (gNilM))))))))
    (sSeq (sSet 6 (mBin addD (mLst (mCons (mB strL (mCons (mVar 1) (mNil))) (mCons (mB strL (mCons (mVar 2) (mNil))) (mCons (mB strL (mCons (mVar 3) (mNil))) (mNil))))) (mB m_pairs_text (mCons (mVar 4) (mNil)))))
    (sRet (mTx joinX (mC (.str " ")) (mBin addD (mVar 6) (mComp (iSeq (mVar 5)) (gTupM 2 (gConsM (gN 7) (gConsM (gN 8) (gNilM)))) (mYes) (mBin addD (mB strL (mCons (mVar 7) (mNil))) (mBin idxA (mDicC [(.int 1, .str ">"), (.int (-1), .str "<")]) (mVar 8))) [7, 8])))))
noncomputable def m_pipe_text : Sem := runB 9 b_pipe_text
noncomputable def b_house_text : MS := sRet (mTx joinX (mC (.str ", ")) (mBin addD (mLst (mCons (mB strL (mCons (mBin idxA (mVar 0) (mC (.int 0))) (mNil))) (mNil))) (mComp (iSeq (mBin idxA (mVar 0) (mC (.int 1)))) (gN 1) (mYes) (mB m_pipe_text (mCons (mVar 1) (mNil))) [1])))
noncomputable def m_house_text : Sem := runB 2 b_house_text
noncomputable def b_must_be_text : MS := sIf (mNot (mTest (mUn (isT1 "str") (mVar 0)))) ((fun _ _ => .stuck)) (sNil)
noncomputable def m_must_be_text : Sem := runB 1 b_must_be_text
noncomputable def b_number_told : MS := sSeq (sIf (mOr (mNot (mTest (mChain (cmpI fun i j => decide (i ≤ j)) (cmpI fun i j => decide (i ≤ j)) (mC (.int 1)) (mB lenL (mCons (mVar 0) (mNil))) (mC (.int 15))))) (mOr (mTest (mBin neD (mTx stripX (mVar 0) (mC (.str "0123456789"))) (mC (.str "")))) (mAnd (mTest (mBin (cmpI fun i j => decide (j < i)) (mB lenL (mCons (mVar 0) (mNil))) (mC (.int 1)))) (mTest (mBin eqD (mBin idxA (mVar 0) (mC (.int 0))) (mC (.str "0"))))))) ((fun _ _ => .stuck)) (sNil))
    (sRet (mB intX (mCons (mVar 0) (mNil))))
noncomputable def m_number_told : Sem := runB 1 b_number_told
noncomputable def b_is_joined : MS := sSeq (sSet 2 (mLst (mCons (mC (.int 0)) (mNil))))
    (sSeq (sSet 3 (mC (.int 0)))
    (sSeq (whileL (mTest (mBin (cmpI fun i j => decide (i < j)) (mVar 3) (mB lenX (mCons (mVar 2) (mNil))))) (sSeq (sFor (iSeq (mVar 1)) (gN 4) (sFor (iSeq (mTup (mCons (mSlc (mVar 4) oNone (oSome (mC (.int 2)))) (mCons (mUn (backAtD 1) (mVar 4)) (mNil))))) (gTupM 2 (gConsM (gN 5) (gConsM (gN 6) (gNilM)))) (sIf (mAnd (mTest (mBin eqD (mVar 5) (mBin idxA (mVar 2) (mVar 3)))) (mTest (mBin notInX (mVar 6) (mVar 2)))) (sExpr (mMt isLst appendM (mVar 2) (mCons (mVar 6) (mNil)))) (sNil))))
    (sAug 3 iaddD (mC (.int 1)))) 1000)
    (sRet (mBin eqD (mB lenX (mCons (mVar 2) (mNil))) (mVar 0)))))
noncomputable def m_is_joined : Sem := runB 7 b_is_joined
noncomputable def b_is_whole : MS := sRet (mAndV (mUn (isT1 "int") (mVar 0)) (mNotV (mUn (isT1 "bool") (mVar 0))))
noncomputable def m_is_whole : Sem := runB 1 b_is_whole
noncomputable def b_is_from : MS := sRet (mAndV (mB m_is_whole (mCons (mVar 0) (mNil))) (mChain (cmpI fun i j => decide (i ≤ j)) (cmpI fun i j => decide (i ≤ j)) (mVar 1) (mVar 0) (mVar 2)))
noncomputable def m_is_from : Sem := runB 3 b_is_from
noncomputable def b_is_pair : MS := sRet (mAndV (mUn (isT1 "tuple") (mVar 0)) (mBin eqD (mB lenL (mCons (mVar 0) (mNil))) (mC (.int 2))))
noncomputable def m_is_pair : Sem := runB 1 b_is_pair
noncomputable def b_is_size : MS := sRet (mB m_is_from (mCons (mVar 0) (mCons (mC (.int 1)) (mCons (mC (.int 1000000)) (mNil)))))
noncomputable def m_is_size : Sem := runB 1 b_is_size
noncomputable def b_is_course : MS := sRet (mAndV (mB m_is_whole (mCons (mVar 0) (mNil))) (mBin inX (mVar 0) (mTup (mCons (mUn negD (mC (.int 1))) (mCons (mC (.int 1)) (mNil))))))
noncomputable def m_is_course : Sem := runB 1 b_is_course
noncomputable def b_are_pairs : MS := sSeq (sIf (mNot (mTest (mUn (isT1 "tuple") (mVar 0)))) (sRet (mC (.bl false))) (sNil))
    (sSeq (sSet 4 (mVar 1))
    (sSeq (sFor (iSeq (mVar 0)) (gN 5) (sSeq (sIf (mOr (mNot (mTest (mB m_is_pair (mCons (mVar 5) (mNil))))) (mOr (mNot (mTest (mB m_is_from (mCons (mBin idxA (mVar 5) (mC (.int 0))) (mCons (mVar 4) (mCons (mVar 2) (mNil))))))) (mNot (mTest (mCallV 3 "is_size" m_is_size "is_course" m_is_course (mCons (mBin idxA (mVar 5) (mC (.int 1))) (mNil))))))) (sRet (mC (.bl false))) (sNil))
    (sSet 4 (mBin addD (mBin idxA (mVar 5) (mC (.int 0))) (mC (.int 1))))))
    (sRet (mC (.bl true)))))
noncomputable def m_are_pairs : Sem := runB 6 b_are_pairs
noncomputable def b_is_pipe : MS := sSeq (sIf (mOr (mNot (mTest (mUn (isT1 "tuple") (mVar 1)))) (mTest (mBin neD (mB lenL (mCons (mVar 1) (mNil))) (mC (.int 5))))) (sRet (mC (.bl false))) (sNil))
    (sSeq (sAsg (mVar 1) (gTupM 5 (gConsM (gN 2) (gConsM (gN 3) (gConsM (gN 4) (gConsM (gN 5) (gConsM (gN 6) (gNilM))))))))
    (sSeq (sIf (mOr (mNot (mTest (mB m_is_from (mCons (mVar 2) (mCons (mC (.int 0)) (mCons (mBin subD (mVar 0) (mC (.int 1))) (mNil))))))) (mOr (mNot (mTest (mB m_is_from (mCons (mVar 3) (mCons (mBin addD (mVar 2) (mC (.int 1))) (mCons (mBin subD (mVar 0) (mC (.int 1))) (mNil))))))) (mNot (mTest (mB m_is_from (mCons (mVar 4) (mCons (mC (.int 1)) (mCons (mC (.int 1000000000000)) (mNil))))))))) (sRet (mC (.bl false))) (sNil))
    (sRet (mAndV (mB m_are_pairs (mCons (mVar 5) (mCons (mC (.int 1)) (mCons (mBin subD (mVar 4) (mC (.int 1))) (mCons (mC (.fn "is_size")) (mNil)))))) (mB m_are_pairs (mCons (mVar 6) (mCons (mC (.int 0)) (mCons (mBin subD (mVar 4) (mC (.int 1))) (mCons (mC (.fn "is_course")) (mNil))))))))))
noncomputable def m_is_pipe : Sem := runB 7 b_is_pipe
noncomputable def b_is_house : MS := sSeq (sIf (mOr (mNot (mTest (mUn (isT1 "tuple") (mVar 0)))) (mTest (mBin neD (mB lenL (mCons (mVar 0) (mNil))) (mC (.int 2))))) (sRet (mC (.bl false))) (sNil))
    (sSeq (sAsg (mVar 0) (gTupM 2 (gConsM (gN 1) (gConsM (gN 2) (gNilM)))))
    (sSeq (sIf (mOr (mNot (mTest (mB m_is_from (mCons (mVar 1) (mCons (mC (.int 1)) (mCons (mC (.int 16)) (mNil))))))) (mOr (mNot (mTest (mUn (isT1 "tuple") (mVar 2)))) (mTest (mBin neD (mB lenL (mCons (mVar 2) (mNil))) (mBin subD (mVar 1) (mC (.int 1))))))) (sRet (mC (.bl false))) (sNil))
    (sSeq (sIf (mNot (mTest (mB allL (mCons (mComp (iSeq (mVar 2)) (gN 3) (mYes) (mB m_is_pipe (mCons (mVar 1) (mCons (mVar 3) (mNil)))) [3]) (mNil))))) (sRet (mC (.bl false))) (sNil))
    (sSeq (sIf (mOr (mTest (mBin (cmpI fun i j => decide (j < i)) (mB sumL (mCons (mComp (iSeq (mVar 2)) (gN 3) (mYes) (mB lenL (mCons (mBin idxA (mVar 3) (mC (.int 3))) (mNil))) [3]) (mNil))) (mC (.int 12)))) (mTest (mBin (cmpI fun i j => decide (j < i)) (mB sumL (mCons (mComp (iSeq (mVar 2)) (gN 3) (mYes) (mB lenL (mCons (mBin idxA (mVar 3) (mC (.int 4))) (mNil))) [3]) (mNil))) (mC (.int 6))))) (sRet (mC (.bl false))) (sNil))
    (sRet (mB m_is_joined (mCons (mVar 1) (mCons (mVar 2) (mNil)))))))))
noncomputable def m_is_house : Sem := runB 4 b_is_house
noncomputable def b_numbers_told : MS := sRet (mB tupleL (mCons (mComp (iSeq (mVar 0)) (gN 1) (mYes) (mB m_number_told (mCons (mVar 1) (mNil))) [1]) (mNil)))
noncomputable def m_numbers_told : Sem := runB 2 b_numbers_told
noncomputable def b_pair_told : MS := sSeq (sSet 1 (mB m_numbers_told (mCons (mTx splitX (mVar 0) (mC (.str "x"))) (mNil))))
    (sSeq (sIf (mTest (mBin neD (mB lenL (mCons (mVar 1) (mNil))) (mC (.int 2)))) ((fun _ _ => .stuck)) (sNil))
    (sRet (mVar 1)))
noncomputable def m_pair_told : Sem := runB 2 b_pair_told
noncomputable def b_pipe_told : MS := sSeq (sSet 1 (mTx splitX (mVar 0) (mC (.str " "))))
    (sSeq (sIf (mTest (mBin (cmpI fun i j => decide (i < j)) (mB lenL (mCons (mVar 1) (mNil))) (mC (.int 3)))) ((fun _ _ => .stuck)) (sNil))
    (sSeq (sSet 2 (mLst (mNil)))
    (sSeq (sSet 3 (mLst (mNil)))
    (sSeq (sFor (iSeq (mSlcX (mVar 1) (oSome (mC (.int 3))) oNone)) (gN 4) (sSeq (sSet 5 (mComp (iSeq (mC (.tup (ct_MARKS.map D.tup)))) (gTupM 2 (gConsM (gN 6) (gConsM (gN 7) (gNilM)))) (mTest (mTx endsX (mVar 4) (mVar 7))) (mVar 6) [6, 7]))
    (sIf (mTest (mBin neD (mVar 5) (mLst (mNil)))) (sExpr (mMt isLst appendM (mVar 3) (mCons (mTup (mCons (mB m_number_told (mCons (mSlcX (mVar 4) oNone (oSome (mUn negD (mC (.int 1))))) (mNil))) (mCons (mBin idxA (mVar 5) (mC (.int 0))) (mNil)))) (mNil)))) (sIf (mTest (mBin neD (mVar 3) (mLst (mNil)))) ((fun _ _ => .stuck)) (sExpr (mMt isLst appendM (mVar 2) (mCons (mB m_pair_told (mCons (mVar 4) (mNil))) (mNil))))))))
    (sRet (mBin addD (mB m_numbers_told (mCons (mSlcX (mVar 1) oNone (oSome (mC (.int 3)))) (mNil))) (mTup (mCons (mB tupleL (mCons (mVar 2) (mNil))) (mCons (mB tupleL (mCons (mVar 3) (mNil))) (mNil))))))))))
noncomputable def m_pipe_told : Sem := runB 8 b_pipe_told
noncomputable def b_read_house : MS := sSeq (sExpr (mB m_must_be_text (mCons (mVar 0) (mNil))))
    (sSeq (sSet 1 (mTx splitX (mVar 0) (mC (.str ", "))))
    (sSeq (sSet 2 (mTup (mCons (mB m_number_told (mCons (mBin idxA (mVar 1) (mC (.int 0))) (mNil))) (mCons (mB tupleL (mCons (mComp (iSeq (mSlc (mVar 1) (oSome (mC (.int 1))) oNone)) (gN 3) (mYes) (mB m_pipe_told (mCons (mVar 3) (mNil))) [3]) (mNil))) (mNil)))))
    (sSeq (sIf (mNot (mTest (mB m_is_house (mCons (mVar 2) (mNil))))) ((fun _ _ => .stuck)) (sNil))
    (sRet (mVar 2)))))
noncomputable def m_read_house : Sem := runB 4 b_read_house
noncomputable def b_law : MS := sSeq (sSet 1 (mB m_law_stream (mCons (mVar 0) (mCons (mC (.int 86)) (mNil)))))
    (sSeq (sSet 2 (mBin addD (mComp (iRange1 (mCons (mC (.int 4)) (mNil))) (gN 7) (mYes) (mB m_law_wide (mCons (mVar 1) (mCons (mB m_law_far_house (mCons (mVar 1) (mCons (mC (.int 6)) (mNil)))) (mNil)))) [7]) (mLst (mCons (mTup (mCons (mC (.int 1)) (mCons (mTup (mNil)) (mNil)))) (mNil)))))
    (sSeq (sSet 3 (mB reprL (mCons (mVar 2) (mNil))))
    (sSeq (sFor (iRange1 (mCons (mC (.int 2)) (mNil))) (gN 4) (sFor (iSeq (mVar 2)) (gN 5) (sSeq (sSet 6 (mB m_law_house_text (mCons (mVar 5) (mNil))))
    (sIf (mOr (mNot (mTest (mB (m_law_same 8) (mCons (mB m_house_text (mCons (mVar 5) (mNil))) (mCons (mVar 6) (mNil)))))) (mNot (mTest (mB (m_law_same 8) (mCons (mB m_read_house (mCons (mVar 6) (mNil))) (mCons (mVar 5) (mNil))))))) (sRet (mC (.bl false))) (sNil)))))
    (sRet (mBin eqT (mB reprL (mCons (mVar 2) (mNil))) (mVar 3))))))
noncomputable def m_law : Sem := runB 8 b_law
/-! what the top has made -/
structure Txt (K : PySem.W.Frag) (mg : Str → Option Value) : Prop where
  z_abs : mg "abs" = none
  z_all : mg "all" = none
  z_bool : mg "bool" = none
  z_dict : mg "dict" = none
  z_int : mg "int" = none
  z_isinstance : mg "isinstance" = none
  z_len : mg "len" = none
  z_max : mg "max" = none
  z_min : mg "min" = none
  z_range : mg "range" = none
  z_repr : mg "repr" = none
  z_set : mg "set" = none
  z_sorted : mg "sorted" = none
  z_str : mg "str" = none
  z_sum : mg "sum" = none
  z_tuple : mg "tuple" = none
  t_MARKS : ∃ a, mg "MARKS" = some (.ref a) ∧ CKtab K a ct_MARKS
  c_FIGURES : ∃ t, mg "FIGURES" = some (.str "0123456789" t)
  c_FLAPS : ∃ t, mg "FLAPS" = some (.int 6 t)
  c_LONG : ∃ t, mg "LONG" = some (.int 1000000000000 t)
  c_MOST_FIGURES : ∃ t, mg "MOST_FIGURES" = some (.int 15 t)
  c_NARROWS : ∃ t, mg "NARROWS" = some (.int 12 t)
  c_ROOMS : ∃ t, mg "ROOMS" = some (.int 16 t)
  c_WIDE : ∃ t, mg "WIDE" = some (.int 1000000 t)
section
variable {P : Program} {w : World} {K : PySem.W.Frag} {mg : Str → Option Value} {base : Heap}
theorem o_law_stream {f : Addr} {fd : FuncData} (F : L2.Fun K "_law_stream" "_law_stream" s_law_stream f fd) (T : Txt K mg) : FnG P w K mg base (L2.CX P w) 1 f fd ["_law_script", "_law_own"] (spM ⟨P, w, K, mg⟩ 2 m_law_stream) :=
  fn_ok (k := 0) F sc_law_stream fun cdv A outer s H E hr => (sss_one (ss_ret (se_lst (sa_cons (se_lc (own := [("_law_cell", 2)]) rfl sc_law_stream.nd (si_seq (se_slc (se_var 0 rfl (.inl rfl)) so_none (so_some se_int))) (blkOk_by (N := N_law_stream) (sc := defScope s_law_stream) (by decide +kernel)) (fun _ _ _ _ _ => (sgv_name sc_law_stream.nd rfl (by first | exact .inl rfl | exact .inr rfl) (by decide))) (fun _ _ _ _ _ => sts_nil) (fun _ _ _ _ _ => (se_B call_abs snd_abs rfl T.z_abs (by decide +kernel) (sa_cons (se_var 2 rfl (by first | exact .inl rfl | exact .inr (.inl rfl))) sa_nil)))) (sa_cons se_int (sa_cons se_int (sa_cons (se_var 1 rfl (.inl rfl)) sa_nil)))))))
theorem o_law_take {f : Addr} {fd : FuncData} (F : L2.Fun K "_law_take" "_law_take" s_law_take f fd) (T : Txt K mg) : FnG P w K mg base (L2.CX P w) 1 f fd ["_law_stream_here", "_law_below"] (spM ⟨P, w, K, mg⟩ 2 m_law_take) :=
  fn_ok (k := 0) F sc_law_take fun cdv A outer s H E hr => (sss_cons (ss_asg (se_var 0 rfl (.inl rfl)) (sg_tup rfl (sgs_cons (sg_name sc_law_take.nd rfl (.inl rfl)) (sgs_cons (sg_name sc_law_take.nd rfl (.inl rfl)) (sgs_cons (sg_name sc_law_take.nd rfl (.inl rfl)) (sgs_cons (sg_name sc_law_take.nd rfl (.inl rfl)) sgs_nil))))))
    (sss_cons (ss_asg (se_op op_addA snd_add (se_var 5 rfl (.inl rfl)) se_int) (sg_set hr.units (se_var 0 rfl (.inl rfl)) se_int))
    (sss_cons (ss_if (PW.pt (sw_and (st_cmp (op_eqD hr.units) snd_eq (se_var 4 rfl (.inl rfl)) se_int (nomark _)) (sw_and1 (st_cmp op_lt snd_cmpI (se_var 3 rfl (.inl rfl)) (se_B call_lenA snd_len rfl T.z_len (by decide +kernel) (sa_cons (se_var 2 rfl (.inl rfl)) sa_nil)) (nomark _))))) (sss_cons (ss_asg (se_op op_addA snd_add (se_var 3 rfl (.inl rfl)) se_int) (sg_set hr.units (se_var 0 rfl (.inl rfl)) se_int))
    (sss_one (ss_set (i := 4) sc_law_take.nd rfl (.inl rfl) (se_op op_mulA snd_mul (se_ix hr.units (se_var 2 rfl (.inl rfl)) (se_var 3 rfl (.inl rfl))) (se_T call_int1 snd_intL rfl T.z_int (by decide +kernel) (sa_cons (se_cmp op_ge snd_cmpI (se_ix hr.units (se_var 2 rfl (.inl rfl)) (se_var 3 rfl (.inl rfl))) (se_op op_pow snd_pow se_int se_int) (nomark _)) sa_nil)))))) sss_nil)
    (sss_cons (ss_asg (se_op op_fdivW snd_fdiv (se_var 4 rfl (.inl rfl)) (se_var 1 rfl (.inl rfl))) (sg_set hr.units (se_var 0 rfl (.inl rfl)) se_int))
    (sss_cons (ss_if (st_cmp op_gt snd_cmpI (se_var 4 rfl (.inl rfl)) se_int (nomark _)) (sss_one (ss_ret (se_op op_mod snd_mod (se_var 4 rfl (.inl rfl)) (se_var 1 rfl (.inl rfl))))) sss_nil)
    (sss_cons (ss_set (i := 6) sc_law_take.nd rfl (.inl rfl) (se_op op_mod snd_mod (se_op op_pow snd_pow (se_op op_addA snd_add (se_op op_mulA snd_mul (se_var 5 rfl (.inl rfl)) se_int) se_int) se_int) se_int))
    (sss_cons (ss_if (st_cmp (op_neD hr.units) snd_ne (se_var 2 rfl (.inl rfl)) (se_lst sa_nil) (nomark _)) (sss_one (ss_set (i := 6) sc_law_take.nd rfl (.inl rfl) (se_op op_addA snd_add (se_var 6 rfl (.inl rfl)) (se_op op_mulA snd_mul (se_op op_mod snd_mod (se_ix hr.units (se_var 2 rfl (.inl rfl)) (se_op op_mod snd_mod (se_op op_mulA snd_mul (se_var 5 rfl (.inl rfl)) se_int) (se_B call_lenA snd_len rfl T.z_len (by decide +kernel) (sa_cons (se_var 2 rfl (.inl rfl)) sa_nil)))) se_int) (se_op op_addA snd_add (se_var 5 rfl (.inl rfl)) se_int))))) sss_nil)
    (sss_cons (ss_set (i := 6) sc_law_take.nd rfl (.inl rfl) (se_op op_mod snd_mod (se_var 6 rfl (.inl rfl)) se_int))
    (sss_one (ss_ret (se_op op_mod snd_mod (se_op op_fdivW snd_fdiv (se_op op_mod snd_mod (se_op op_mulA snd_mul (se_var 6 rfl (.inl rfl)) (se_var 6 rfl (.inl rfl))) se_int) se_int) (se_var 1 rfl (.inl rfl)))))))))))))
theorem o_law_far {f : Addr} {fd : FuncData} (F : L2.Fun K "_law_far" "_law_far" s_law_far f fd) (T : Txt K mg) (g_law_take : Fn ⟨P, w, K, mg⟩ base "_law_take" 1 2 m_law_take) : FnG P w K mg base (L2.CX P w) 2 f fd ["_law_stream_here", "_law_most"] (spM ⟨P, w, K, mg⟩ 2 m_law_far) :=
  fn_ok (k := 1) F sc_law_far fun cdv A outer s H E hr => (sss_cons (ss_set (i := 2) sc_law_far.nd rfl (.inl rfl) (se_B (call_min2 rfl) snd_min2 rfl T.z_min (by decide +kernel) (sa_cons (se_var 1 rfl (.inl rfl)) (sa_cons (se_ix hr.units (se_lst (sa_cons (se_var 1 rfl (.inl rfl)) (sa_cons se_int (sa_cons se_int (sa_cons (se_op op_pow snd_pow se_int se_int) sa_nil))))) (se_call g_law_take hr (by omega) rfl (takes_of rfl rfl rfl rfl) (sa_cons (se_var 0 rfl (.inl rfl)) (sa_cons se_int sa_nil)) (mCons_len (mCons_len mNil_len)))) sa_nil))))
    (sss_cons (ss_set (i := 3) sc_law_far.nd rfl (.inl rfl) (se_call g_law_take hr (by omega) rfl (takes_of rfl rfl rfl rfl) (sa_cons (se_var 0 rfl (.inl rfl)) (sa_cons (se_var 2 rfl (.inl rfl)) sa_nil)) (mCons_len (mCons_len mNil_len))))
    (sss_one (ss_ret (se_ix hr.units (se_lst (sa_cons (se_var 3 rfl (.inl rfl)) (sa_cons (se_op op_sub snd_sub (se_op op_sub snd_sub (se_var 1 rfl (.inl rfl)) se_int) (se_var 3 rfl (.inl rfl))) sa_nil))) (se_T call_int1 snd_intL rfl T.z_int (by decide +kernel) (sa_cons (se_cmp (op_eqD hr.units) snd_eq (se_call g_law_take hr (by omega) rfl (takes_of rfl rfl rfl rfl) (sa_cons (se_var 0 rfl (.inl rfl)) (sa_cons se_int sa_nil)) (mCons_len (mCons_len mNil_len))) se_int (nomark _)) sa_nil)))))))
theorem o_law_wide {f : Addr} {fd : FuncData} (F : L2.Fun K "_law_wide" "_law_wide" s_law_wide f fd) (T : Txt K mg) (g_law_far : Fn ⟨P, w, K, mg⟩ base "_law_far" 2 2 m_law_far) : FnG P w K mg base (L2.CX P w) 3 f fd ["_law_stream_here", "_law_house"] (spM ⟨P, w, K, mg⟩ 2 m_law_wide) :=
  fn_ok (k := 2) F sc_law_wide fun cdv A outer s H E hr => (sss_cons (ss_set (i := 2) sc_law_wide.nd rfl (.inl rfl) (se_lst sa_nil))
    (sss_cons (ss_for (passes_of rfl) rfl (si_seq (se_ix hr.units (se_var 1 rfl (.inl rfl)) se_int)) (sg_tup rfl (sgs_cons (sg_name sc_law_wide.nd rfl (.inl rfl)) (sgs_cons (sg_name sc_law_wide.nd rfl (.inl rfl)) (sgs_cons (sg_name sc_law_wide.nd rfl (.inl rfl)) (sgs_cons (sg_name sc_law_wide.nd rfl (.inl rfl)) (sgs_cons (sg_name sc_law_wide.nd rfl (.inl rfl)) sgs_nil)))))) (sss_cons (ss_set (i := 8) sc_law_wide.nd rfl (.inl rfl) (se_T call_tuple_of snd_tupleL rfl T.z_tuple (by decide +kernel) (sa_cons (se_lc (own := [("_law_at", 9), ("_law_width", 10)]) rfl sc_law_wide.nd (si_seq (se_var 6 rfl (.inl rfl))) (blkOk_by (N := N_law_wide) (sc := defScope s_law_wide) (by decide +kernel)) (fun _ _ _ _ _ => (sgv_tup rfl (sgsv_cons (sgv_name sc_law_wide.nd rfl (by first | exact .inl rfl | exact .inr rfl) (by decide)) (sgsv_cons (sgv_name sc_law_wide.nd rfl (by first | exact .inl rfl | exact .inr rfl) (by decide)) sgsv_nil)))) (fun _ _ _ _ _ => sts_nil) (fun _ _ _ _ _ => (se_tup (sa_cons (se_var 9 rfl (by first | exact .inl rfl | exact .inr (.inl rfl))) (sa_cons (se_op op_addA snd_add se_int (se_call g_law_far hr (by omega) rfl takes0 (sa_cons (se_var 0 rfl (.inr (.inl rfl))) (sa_cons (se_op op_pow snd_pow se_int se_int) sa_nil)) (mCons_len (mCons_len mNil_len)))) sa_nil))))) sa_nil)))
    (sss_one (ss_expr (se_mt PySem.F.plainAttrs_list PySem.F.slot_list_append PySem.F.type_list_append mt_append ty_list snd_append (se_var 2 rfl (.inl rfl)) (sa_cons (se_tup (sa_cons (se_var 3 rfl (.inl rfl)) (sa_cons (se_var 4 rfl (.inl rfl)) (sa_cons (se_var 5 rfl (.inl rfl)) (sa_cons (se_var 8 rfl (.inl rfl)) (sa_cons (se_var 7 rfl (.inl rfl)) sa_nil)))))) sa_nil))))))
    (sss_one (ss_ret (se_tup (sa_cons (se_ix hr.units (se_var 1 rfl (.inl rfl)) se_int) (sa_cons (se_T call_tuple_of snd_tupleL rfl T.z_tuple (by decide +kernel) (sa_cons (se_var 2 rfl (.inl rfl)) sa_nil)) sa_nil)))))))
theorem o_law_house_text {f : Addr} {fd : FuncData} (F : L2.Fun K "_law_house_text" "_law_house_text" s_law_house_text f fd) (T : Txt K mg) : FnG P w K mg base (L2.CX P w) 1 f fd ["_law_house"] (spM ⟨P, w, K, mg⟩ 1 m_law_house_text) :=
  fn_ok (k := 0) F sc_law_house_text fun cdv A outer s H E hr => (sss_cons (ss_set (i := 1) sc_law_house_text.nd rfl (.inl rfl) (se_T call_strA snd_strL rfl T.z_str (by decide +kernel) (sa_cons (se_ix hr.units (se_var 0 rfl (.inl rfl)) se_int) sa_nil)))
    (sss_cons (ss_for (passes_of rfl) rfl (si_seq (se_ix hr.units (se_var 0 rfl (.inl rfl)) se_int)) (sg_tup rfl (sgs_cons (sg_name sc_law_house_text.nd rfl (.inl rfl)) (sgs_cons (sg_name sc_law_house_text.nd rfl (.inl rfl)) (sgs_cons (sg_name sc_law_house_text.nd rfl (.inl rfl)) (sgs_cons (sg_name sc_law_house_text.nd rfl (.inl rfl)) (sgs_cons (sg_name sc_law_house_text.nd rfl (.inl rfl)) sgs_nil)))))) (sss_cons (ss_set (i := 1) sc_law_house_text.nd rfl (.inl rfl) (se_op op_addA snd_add (se_op op_addA snd_add (se_op op_addA snd_add (se_op op_addA snd_add (se_op op_addA snd_add (se_op op_addA snd_add (se_var 1 rfl (.inl rfl)) se_str) (se_T call_strA snd_strL rfl T.z_str (by decide +kernel) (sa_cons (se_var 2 rfl (.inl rfl)) sa_nil))) se_str) (se_T call_strA snd_strL rfl T.z_str (by decide +kernel) (sa_cons (se_var 3 rfl (.inl rfl)) sa_nil))) se_str) (se_T call_strA snd_strL rfl T.z_str (by decide +kernel) (sa_cons (se_var 4 rfl (.inl rfl)) sa_nil))))
    (sss_cons (ss_for (passes_of rfl) rfl (si_seq (se_var 5 rfl (.inl rfl))) (sg_tup rfl (sgs_cons (sg_name sc_law_house_text.nd rfl (.inl rfl)) (sgs_cons (sg_name sc_law_house_text.nd rfl (.inl rfl)) sgs_nil))) (sss_one (ss_set (i := 1) sc_law_house_text.nd rfl (.inl rfl) (se_op op_addA snd_add (se_op op_addA snd_add (se_op op_addA snd_add (se_op op_addA snd_add (se_var 1 rfl (.inl rfl)) se_str) (se_T call_strA snd_strL rfl T.z_str (by decide +kernel) (sa_cons (se_var 7 rfl (.inl rfl)) sa_nil))) se_str) (se_T call_strA snd_strL rfl T.z_str (by decide +kernel) (sa_cons (se_var 8 rfl (.inl rfl)) sa_nil))))))
    (sss_one (ss_for (passes_of rfl) rfl (si_seq (se_var 6 rfl (.inl rfl))) (sg_tup rfl (sgs_cons (sg_name sc_law_house_text.nd rfl (.inl rfl)) (sgs_cons (sg_name sc_law_house_text.nd rfl (.inl rfl)) sgs_nil))) (sss_one (ss_set (i := 1) sc_law_house_text.nd rfl (.inl rfl) (se_op op_addA snd_add (se_op op_addA snd_add (se_op op_addA snd_add (se_var 1 rfl (.inl rfl)) se_str) (se_T call_strA snd_strL rfl T.z_str (by decide +kernel) (sa_cons (se_var 7 rfl (.inl rfl)) sa_nil))) (se_ix hr.units (se_lst (sa_cons se_str (sa_cons se_str sa_nil))) (se_T call_int1 snd_intL rfl T.z_int (by decide +kernel) (sa_cons (se_cmp op_lt snd_cmpI (se_var 9 rfl (.inl rfl)) se_int (nomark _)) sa_nil)))))))))))
    (sss_one (ss_ret (se_var 1 rfl (.inl rfl))))))
theorem o_law_far_house {f : Addr} {fd : FuncData} (F : L2.Fun K "_law_far_house" "_law_far_house" s_law_far_house f fd) (T : Txt K mg) (g_law_take : Fn ⟨P, w, K, mg⟩ base "_law_take" 1 2 m_law_take) (g_law_far : Fn ⟨P, w, K, mg⟩ base "_law_far" 2 2 m_law_far) : FnG P w K mg base (L2.CX P w) 3 f fd ["_law_stream_here", "_law_flaps"] (spM ⟨P, w, K, mg⟩ 2 m_law_far_house) :=
  fn_ok (k := 2) F sc_law_far_house fun cdv A outer s H E hr => (sss_cons (ss_set (i := 2) sc_law_far_house.nd rfl (.inl rfl) (se_op op_addA snd_add se_int (se_call g_law_take hr (by omega) rfl (takes_of rfl rfl rfl rfl) (sa_cons (se_var 0 rfl (.inr (.inl rfl))) (sa_cons se_int sa_nil)) (mCons_len (mCons_len mNil_len)))))
    (sss_cons (ss_set (i := 3) sc_law_far_house.nd rfl (.inl rfl) (se_lst sa_nil))
    (sss_cons (ss_set (i := 4) sc_law_far_house.nd rfl (.inl rfl) (se_lst (sa_cons se_int (sa_cons (se_var 1 rfl (.inl rfl)) sa_nil))))
    (sss_cons (ss_for (passes_of rfl) rfl (si_range2 rfl T.z_range (sa_cons se_int (sa_cons (se_var 2 rfl (.inl rfl)) sa_nil))) (sg_name sc_law_far_house.nd rfl (.inl rfl)) (sss_cons (ss_set (i := 6) sc_law_far_house.nd rfl (.inr rfl) (se_op op_addA snd_add se_int (se_call g_law_far hr (by omega) rfl (takes_of rfl rfl rfl rfl) (sa_cons (se_var 0 rfl (.inr (.inl rfl))) (sa_cons (se_op op_pow snd_pow se_int se_int) sa_nil)) (mCons_len (mCons_len mNil_len)))))
    (sss_cons (ss_setLc (i := 7) (own := [("_law_k", 11)]) rfl sc_law_far_house.nd rfl rfl (sw_true rfl rfl rfl (by decide +kernel)) (si_range1 rfl T.z_range (sa_cons (se_op op_mulA snd_mul (se_call g_law_take hr (by omega) rfl (takes_of rfl rfl rfl rfl) (sa_cons (se_var 0 rfl (.inr (.inl rfl))) (sa_cons se_int sa_nil)) (mCons_len (mCons_len mNil_len))) (se_T call_int1 snd_intL rfl T.z_int (by decide +kernel) (sa_cons (se_cmp op_gt snd_cmpI (se_var 6 rfl (.inr (.inl rfl))) se_int (nomark _)) sa_nil))) sa_nil)) (blkOk_by (N := N_law_far_house) (sc := defScope s_law_far_house) (by decide +kernel)) (fun _ _ _ _ _ => (sgv_name sc_law_far_house.nd rfl (by first | exact .inl rfl | exact .inr rfl) (by decide))) (fun _ _ _ _ _ => sts_nil) (fun _ _ _ _ _ => (se_op op_addA snd_add se_int (se_call g_law_far hr (by omega) rfl takes0 (sa_cons (se_var 0 rfl (.inr (.inl rfl))) (sa_cons (se_B (call_max2 rfl) snd_max2 rfl T.z_max (by decide +kernel) (sa_cons se_int (sa_cons (se_op op_sub snd_sub (se_var 6 rfl (.inr (.inl rfl))) se_int) sa_nil))) sa_nil)) (mCons_len (mCons_len mNil_len))))))
    (sss_cons (ss_set (i := 8) sc_law_far_house.nd rfl (.inl rfl) (se_slc (se_lc (own := [("_law_at", 12)]) rfl sc_law_far_house.nd (si_seq (se_B (cr_sortedB rfl hr.units) snd_sortedB rfl T.z_sorted (by decide +kernel) (sa_cons (se_T (cr_setOfL rfl) snd_setOf rfl T.z_set (by decide +kernel) (sa_cons (se_var 7 rfl (.inl rfl)) sa_nil)) sa_nil))) (blkOk_by (N := N_law_far_house) (sc := defScope s_law_far_house) (by decide +kernel)) (fun _ _ _ _ _ => (sgv_name sc_law_far_house.nd rfl (by first | exact .inl rfl | exact .inr rfl) (by decide))) (fun _ _ _ _ _ => sts_nil) (fun _ _ _ _ _ => (se_tup (sa_cons (se_var 12 rfl (by first | exact .inl rfl | exact .inr (.inl rfl))) (sa_cons (se_op op_addA snd_add se_int (se_call g_law_take hr (by omega) rfl takes0 (sa_cons (se_var 0 rfl (.inr (.inl rfl))) (sa_cons se_int sa_nil)) (mCons_len (mCons_len mNil_len)))) sa_nil))))) so_none (so_some (se_ix hr.units (se_var 4 rfl (.inl rfl)) se_int))))
    (sss_cons (ss_set (i := 7) sc_law_far_house.nd rfl (.inl rfl) (se_slc (se_lc (own := [("_law_k", 11)]) rfl sc_law_far_house.nd (si_range1 rfl T.z_range (sa_cons (se_call g_law_take hr (by omega) rfl (takes_of rfl rfl rfl rfl) (sa_cons (se_var 0 rfl (.inr (.inl rfl))) (sa_cons se_int sa_nil)) (mCons_len (mCons_len mNil_len))) sa_nil)) (blkOk_by (N := N_law_far_house) (sc := defScope s_law_far_house) (by decide +kernel)) (fun _ _ _ _ _ => (sgv_name sc_law_far_house.nd rfl (by first | exact .inl rfl | exact .inr rfl) (by decide))) (fun _ _ _ _ _ => sts_nil) (fun _ _ _ _ _ => (se_call g_law_far hr (by omega) rfl takes0 (sa_cons (se_var 0 rfl (.inr (.inl rfl))) (sa_cons (se_var 6 rfl (.inr (.inl rfl))) sa_nil)) (mCons_len (mCons_len mNil_len))))) so_none (so_some (se_ix hr.units (se_var 4 rfl (.inl rfl)) se_int))))
    (sss_cons (ss_setLc (i := 9) (own := [("_law_at", 12)]) rfl sc_law_far_house.nd rfl rfl (sw_true rfl rfl rfl (by decide +kernel)) (si_seq (se_var 7 rfl (.inl rfl))) (blkOk_by (N := N_law_far_house) (sc := defScope s_law_far_house) (by decide +kernel)) (fun _ _ _ _ _ => (sgv_name sc_law_far_house.nd rfl (by first | exact .inl rfl | exact .inr rfl) (by decide))) (fun _ _ _ _ _ => sts_nil) (fun _ _ _ _ _ => (se_tup (sa_cons (se_var 12 rfl (by first | exact .inl rfl | exact .inr (.inl rfl))) (sa_cons (se_ix hr.units (se_lst (sa_cons se_int (sa_cons (se_un un_neg snd_neg se_int) sa_nil))) (se_call g_law_take hr (by omega) rfl takes0 (sa_cons (se_var 0 rfl (.inr (.inl rfl))) (sa_cons se_int sa_nil)) (mCons_len (mCons_len mNil_len)))) sa_nil)))))
    (sss_cons (ss_set (i := 4) sc_law_far_house.nd rfl (.inl rfl) (se_lst (sa_cons (se_op op_sub snd_sub (se_ix hr.units (se_var 4 rfl (.inl rfl)) se_int) (se_B call_lenA snd_len rfl T.z_len (by decide +kernel) (sa_cons (se_var 8 rfl (.inl rfl)) sa_nil))) (sa_cons (se_op op_sub snd_sub (se_ix hr.units (se_var 4 rfl (.inl rfl)) se_int) (se_B call_lenA snd_len rfl T.z_len (by decide +kernel) (sa_cons (se_var 9 rfl (.inl rfl)) sa_nil))) sa_nil))))
    (sss_cons (ss_set (i := 10) sc_law_far_house.nd rfl (.inl rfl) (se_tup (sa_cons (se_call g_law_take hr (by omega) rfl (takes_of rfl rfl rfl rfl) (sa_cons (se_var 0 rfl (.inr (.inl rfl))) (sa_cons (se_var 5 rfl (.inl rfl)) sa_nil)) (mCons_len (mCons_len mNil_len))) (sa_cons (se_var 5 rfl (.inl rfl)) (sa_cons (se_var 6 rfl (.inr (.inl rfl))) (sa_cons (se_T call_tuple_of snd_tupleL rfl T.z_tuple (by decide +kernel) (sa_cons (se_var 8 rfl (.inl rfl)) sa_nil)) (sa_cons (se_T call_tuple_of snd_tupleL rfl T.z_tuple (by decide +kernel) (sa_cons (se_var 9 rfl (.inl rfl)) sa_nil)) sa_nil)))))))
    (sss_one (ss_expr (se_mt PySem.F.plainAttrs_list PySem.F.slot_list_insert PySem.F.type_list_insert mt_insert ty_list snd_insert (se_var 3 rfl (.inl rfl)) (sa_cons (se_call g_law_take hr (by omega) rfl (takes_of rfl rfl rfl rfl) (sa_cons (se_var 0 rfl (.inr (.inl rfl))) (sa_cons (se_op op_addA snd_add (se_B call_lenA snd_len rfl T.z_len (by decide +kernel) (sa_cons (se_var 3 rfl (.inl rfl)) sa_nil)) se_int) sa_nil)) (mCons_len (mCons_len mNil_len))) (sa_cons (se_var 10 rfl (.inl rfl)) sa_nil)))))))))))))
    (sss_one (ss_ret (se_tup (sa_cons (se_var 2 rfl (.inl rfl)) (sa_cons (se_T call_tuple_of snd_tupleL rfl T.z_tuple (by decide +kernel) (sa_cons (se_var 3 rfl (.inl rfl)) sa_nil)) sa_nil)))))))))
theorem o_law_same {f : Addr} {fd : FuncData} (F : L2.Fun K "_law_same" "_law_same" s_law_same f fd) (T : Txt K mg) (hm : mg "_law_same" = some (.ref f)) (bi : Binds K fd ["_law_found", "_law_due"] []) : ∀ n, FnG P w K mg base (L2.CX P w) (0 + n) f fd ["_law_found", "_law_due"] (spM ⟨P, w, K, mg⟩ 2 (m_law_same n))
  | 0 => fn_stuck rfl
  | n + 1 => by
    have gself : Fn ⟨P, w, K, mg⟩ base "_law_same" (0 + n) 2 (m_law_same n) := ⟨f, fd, _, hm, F.kp, bi, o_law_same F T hm bi n⟩
    exact fn_ok (k := 0 + n) F sc_law_same fun cdv A outer s H E hr => (sss_cons (ss_if (st_val (se_isi1 rfl T.z_isinstance (se_var 1 rfl (.inr (.inl rfl))) rfl T.z_tuple (by decide +kernel) (by decide))) (sss_cons (ss_if (PW.pt (sw_or (st_not (st_val (se_isi1 rfl T.z_isinstance (se_var 0 rfl (.inr (.inl rfl))) rfl T.z_tuple (by decide +kernel) (by decide)))) (sw_or1 (st_cmp (op_neD hr.units) snd_ne (se_B call_lenA snd_len rfl T.z_len (by decide +kernel) (sa_cons (se_var 0 rfl (.inr (.inl rfl))) sa_nil)) (se_B call_lenA snd_len rfl T.z_len (by decide +kernel) (sa_cons (se_var 1 rfl (.inr (.inl rfl))) sa_nil)) (nomark _))))) (sss_one (ss_ret se_bl)) sss_nil)
    (sss_one (ss_ret (se_cmp (op_eqD hr.units) snd_eq (se_lc (own := [("_law_k", 2)]) rfl sc_law_same.nd (si_range1 rfl T.z_range (sa_cons (se_B call_lenA snd_len rfl T.z_len (by decide +kernel) (sa_cons (se_var 1 rfl (.inr (.inl rfl))) sa_nil)) sa_nil)) (blkOk_by (N := N_law_same) (sc := defScope s_law_same) (by decide +kernel)) (fun _ _ _ _ _ => (sgv_name sc_law_same.nd rfl (by first | exact .inl rfl | exact .inr rfl) (by decide))) (fun _ _ _ _ _ => (sts_one (st_not (st_val (se_call gself hr (Nat.le_refl _) rfl takes0 (sa_cons (se_ix hr.units (se_var 0 rfl (.inr (.inl rfl))) (se_var 2 rfl (by first | exact .inl rfl | exact .inr (.inl rfl)))) (sa_cons (se_ix hr.units (se_var 1 rfl (.inr (.inl rfl))) (se_var 2 rfl (by first | exact .inl rfl | exact .inr (.inl rfl)))) sa_nil)) (mCons_len (mCons_len mNil_len))))))) (fun _ _ _ _ _ => (se_var 2 rfl (by first | exact .inl rfl | exact .inr (.inl rfl))))) (se_lst sa_nil) (nomark _))))) sss_nil)
    (sss_one (ss_ret (se_cmp op_eq snd_eqT (se_B (cr_repr hr.gd hr.units) snd_repr rfl T.z_repr (by decide +kernel) (sa_cons (se_var 0 rfl (.inr (.inl rfl))) sa_nil)) (se_B (cr_repr hr.gd hr.units) snd_repr rfl T.z_repr (by decide +kernel) (sa_cons (se_var 1 rfl (.inr (.inl rfl))) sa_nil)) (nomark _)))))
theorem o_pairs_text {f : Addr} {fd : FuncData} (F : L2.Fun K "pairs_text" "pairs_text" s_pairs_text f fd) (T : Txt K mg) : FnG P w K mg base (L2.CX P w) 1 f fd ["pairs"] (spM ⟨P, w, K, mg⟩ 1 m_pairs_text) :=
  fn_ok (k := 0) F sc_pairs_text fun cdv A outer s H E hr => (sss_one (ss_ret (se_lc (own := [("one", 1), ("other", 2)]) rfl sc_pairs_text.nd (si_seq (se_var 0 rfl (.inl rfl))) (blkOk_by (N := N_pairs_text) (sc := defScope s_pairs_text) (by decide +kernel)) (fun _ _ _ _ _ => (sgv_tup rfl (sgsv_cons (sgv_name sc_pairs_text.nd rfl (by first | exact .inl rfl | exact .inr rfl) (by decide)) (sgsv_cons (sgv_name sc_pairs_text.nd rfl (by first | exact .inl rfl | exact .inr rfl) (by decide)) sgsv_nil)))) (fun _ _ _ _ _ => sts_nil) (fun _ _ _ _ _ => (se_joined (ms := [mUn fmtD (mVar 1), mC (.str "x"), mUn fmtD (mVar 2)]) (.cons (se_fmt (se_var 1 rfl (by first | exact .inl rfl | exact .inr (.inl rfl)))) (.cons se_str (.cons (se_fmt (se_var 2 rfl (by first | exact .inl rfl | exact .inr (.inl rfl)))) .nil))))))))
theorem o_pipe_text {f : Addr} {fd : FuncData} (F : L2.Fun K "pipe_text" "pipe_text" s_pipe_text f fd) (T : Txt K mg) (g_pairs_text : Fn ⟨P, w, K, mg⟩ base "pairs_text" 1 1 m_pairs_text) : FnG P w K mg base (L2.CX P w) 2 f fd ["pipe"] (spM ⟨P, w, K, mg⟩ 1 m_pipe_text) :=
  fn_ok (k := 1) F sc_pipe_text fun cdv A outer s H E hr => (sss_cons (ss_asg (se_var 0 rfl (.inl rfl)) (sg_tup rfl (sgs_cons (sg_name sc_pipe_text.nd rfl (.inl rfl)) (sgs_cons (sg_name sc_pipe_text.nd rfl (.inl rfl)) (sgs_cons (sg_name sc_pipe_text.nd rfl (.inl rfl)) (sgs_cons (sg_name sc_pipe_text.nd rfl (.inl rfl)) (sgs_cons (sg_name sc_pipe_text.nd rfl (.inl rfl)) sgs_nil)))))))
    (sss_cons (ss_set (i := 6) sc_pipe_text.nd rfl (.inl rfl) (se_op op_addA snd_add (se_lst (sa_cons (se_T call_strA snd_strL rfl T.z_str (by decide +kernel) (sa_cons (se_var 1 rfl (.inl rfl)) sa_nil)) (sa_cons (se_T call_strA snd_strL rfl T.z_str (by decide +kernel) (sa_cons (se_var 2 rfl (.inl rfl)) sa_nil)) (sa_cons (se_T call_strA snd_strL rfl T.z_str (by decide +kernel) (sa_cons (se_var 3 rfl (.inl rfl)) sa_nil)) sa_nil)))) (se_call g_pairs_text hr (by omega) rfl (takes_of rfl rfl rfl rfl) (sa_cons (se_var 4 rfl (.inl rfl)) sa_nil) (mCons_len mNil_len))))
    (sss_one (ss_ret (se_tx PySem.F.slot_str_join PySem.F.type_str_join mt_join snd_joinX se_str (se_op op_addA snd_add (se_var 6 rfl (.inl rfl)) (se_lc (own := [("at", 7), ("way", 8)]) rfl sc_pipe_text.nd (si_seq (se_var 5 rfl (.inl rfl))) (blkOk_by (N := N_pipe_text) (sc := defScope s_pipe_text) (by decide +kernel)) (fun _ _ _ _ _ => (sgv_tup rfl (sgsv_cons (sgv_name sc_pipe_text.nd rfl (by first | exact .inl rfl | exact .inr rfl) (by decide)) (sgsv_cons (sgv_name sc_pipe_text.nd rfl (by first | exact .inl rfl | exact .inr rfl) (by decide)) sgsv_nil)))) (fun _ _ _ _ _ => sts_nil) (fun _ _ _ _ _ => (se_op op_addA snd_add (se_T call_strA snd_strL rfl T.z_str (by decide +kernel) (sa_cons (se_var 7 rfl (by first | exact .inl rfl | exact .inr (.inl rfl))) sa_nil)) (se_ix hr.units (T.t_MARKS.elim fun _ hc => se_dictC (l := [(.int 1, .str ">"), (.int (-1), .str "<")]) (kvs := [(.inl 1, .str ">"), (.inl (-1), .str "<")]) rfl rfl T.z_dict rfl hc.1 hc.2 (.cons rfl (.cons rfl .nil)) (fun _ _ => (.cons ⟨rfl, rep_str _⟩ (.cons ⟨rfl, rep_str _⟩ .nil)))) (se_var 8 rfl (by first | exact .inl rfl | exact .inr (.inl rfl)))))))))))))
theorem o_house_text {f : Addr} {fd : FuncData} (F : L2.Fun K "house_text" "house_text" s_house_text f fd) (T : Txt K mg) (g_pipe_text : Fn ⟨P, w, K, mg⟩ base "pipe_text" 2 1 m_pipe_text) : FnG P w K mg base (L2.CX P w) 3 f fd ["house"] (spM ⟨P, w, K, mg⟩ 1 m_house_text) :=
  fn_ok (k := 2) F sc_house_text fun cdv A outer s H E hr => (sss_one (ss_ret (se_tx PySem.F.slot_str_join PySem.F.type_str_join mt_join snd_joinX se_str (se_op op_addA snd_add (se_lst (sa_cons (se_T call_strA snd_strL rfl T.z_str (by decide +kernel) (sa_cons (se_ix hr.units (se_var 0 rfl (.inl rfl)) se_int) sa_nil)) sa_nil)) (se_lc (own := [("pipe", 1)]) rfl sc_house_text.nd (si_seq (se_ix hr.units (se_var 0 rfl (.inl rfl)) se_int)) (blkOk_by (N := N_house_text) (sc := defScope s_house_text) (by decide +kernel)) (fun _ _ _ _ _ => (sgv_name sc_house_text.nd rfl (by first | exact .inl rfl | exact .inr rfl) (by decide))) (fun _ _ _ _ _ => sts_nil) (fun _ _ _ _ _ => (se_call g_pipe_text hr (by omega) rfl takes0 (sa_cons (se_var 1 rfl (by first | exact .inl rfl | exact .inr (.inl rfl))) sa_nil) (mCons_len mNil_len))))))))
theorem o_must_be_text {f : Addr} {fd : FuncData} (F : L2.Fun K "must_be_text" "must_be_text" s_must_be_text f fd) (T : Txt K mg) : FnG P w K mg base (L2.CX P w) 1 f fd ["thing"] (spM ⟨P, w, K, mg⟩ 1 m_must_be_text) :=
  fn_ok (k := 0) F sc_must_be_text fun cdv A outer s H E hr => (sss_one (ss_if (st_not (st_val (se_isi1 rfl T.z_isinstance (se_var 0 rfl (.inl rfl)) rfl T.z_str (by decide +kernel) (by decide)))) (sss_one ss_stuck) sss_nil))
theorem o_number_told {f : Addr} {fd : FuncData} (F : L2.Fun K "number_told" "number_told" s_number_told f fd) (T : Txt K mg) : FnG P w K mg base (L2.CX P w) 1 f fd ["word"] (spM ⟨P, w, K, mg⟩ 1 m_number_told) :=
  fn_ok (k := 0) F sc_number_told fun cdv A outer s H E hr => (sss_cons (ss_if (PW.pt (sw_or (st_not (st_chain op_le op_le snd_cmpI snd_cmpI se_int (se_B call_lenA snd_len rfl T.z_len (by decide +kernel) (sa_cons (se_var 0 rfl (.inl rfl)) sa_nil)) (T.c_MOST_FIGURES.elim fun _ hc => se_globI rfl hc))) (sw_or (st_cmp (op_neD hr.units) snd_ne (se_tx PySem.F.slot_str_strip PySem.F.type_str_strip mt_stripChars snd_stripX (se_var 0 rfl (.inl rfl)) (T.c_FIGURES.elim fun _ hc => se_globS rfl hc)) se_str (nomark _)) (sw_or1 (PW.pt (sw_and (st_cmp op_gt snd_cmpI (se_B call_lenA snd_len rfl T.z_len (by decide +kernel) (sa_cons (se_var 0 rfl (.inl rfl)) sa_nil)) se_int (nomark _)) (sw_and1 (st_cmp (op_eqD hr.units) snd_eq (se_ix hr.units (se_var 0 rfl (.inl rfl)) se_int) se_str (nomark _))))))))) (sss_one ss_stuck) sss_nil)
    (sss_one (ss_ret (se_T call_intX snd_intX rfl T.z_int (by decide +kernel) (sa_cons (se_var 0 rfl (.inl rfl)) sa_nil)))))
theorem o_is_joined {f : Addr} {fd : FuncData} (F : L2.Fun K "is_joined" "is_joined" s_is_joined f fd) (T : Txt K mg) : FnG P w K mg base (L2.CX P w) 1 f fd ["rooms", "pipes"] (spM ⟨P, w, K, mg⟩ 2 m_is_joined) :=
  fn_ok (k := 0) F sc_is_joined fun cdv A outer s H E hr => (sss_cons (ss_set (i := 2) sc_is_joined.nd rfl (.inl rfl) (se_lst (sa_cons se_int sa_nil)))
    (sss_cons (ss_set (i := 3) sc_is_joined.nd rfl (.inl rfl) se_int)
    (sss_cons (ss_while 1000 (passes_of rfl) (st_cmp op_lt snd_cmpI (se_var 3 rfl (.inl rfl)) (se_B cr_lenX snd_lenX rfl T.z_len (by decide +kernel) (sa_cons (se_var 2 rfl (.inl rfl)) sa_nil)) (nomark _)) (sss_cons (ss_for (passes_of rfl) rfl (si_seq (se_var 1 rfl (.inl rfl))) (sg_name sc_is_joined.nd rfl (.inl rfl)) (sss_one (ss_for (passes_of rfl) rfl (si_seq (se_tup (sa_cons (se_slc (se_var 4 rfl (.inl rfl)) so_none (so_some se_int)) (sa_cons (se_backAt (se_var 4 rfl (.inl rfl))) sa_nil)))) (sg_tup rfl (sgs_cons (sg_name sc_is_joined.nd rfl (.inl rfl)) (sgs_cons (sg_name sc_is_joined.nd rfl (.inl rfl)) sgs_nil))) (sss_one (ss_if (PW.pt (sw_and (st_cmp (op_eqD hr.units) snd_eq (se_var 5 rfl (.inl rfl)) (se_ix hr.units (se_var 2 rfl (.inl rfl)) (se_var 3 rfl (.inl rfl))) (nomark _)) (sw_and1 (st_cmp (op_notInX hr.units) snd_notInX (se_var 6 rfl (.inl rfl)) (se_var 2 rfl (.inl rfl)) (by with_unfolding_all rfl))))) (sss_one (ss_expr (se_mt PySem.F.plainAttrs_list PySem.F.slot_list_append PySem.F.type_list_append mt_append ty_list snd_append (se_var 2 rfl (.inl rfl)) (sa_cons (se_var 6 rfl (.inl rfl)) sa_nil)))) sss_nil)))))
    (sss_one (ss_aug (j := 3) sc_is_joined.nd rfl (.inl rfl) se_int (pip_of iop_add) snd_iadd))))
    (sss_one (ss_ret (se_cmp (op_eqD hr.units) snd_eq (se_B cr_lenX snd_lenX rfl T.z_len (by decide +kernel) (sa_cons (se_var 2 rfl (.inl rfl)) sa_nil)) (se_var 0 rfl (.inl rfl)) (nomark _)))))))
theorem o_is_whole {f : Addr} {fd : FuncData} (F : L2.Fun K "is_whole" "is_whole" s_is_whole f fd) (T : Txt K mg) : FnG P w K mg base (L2.CX P w) 1 f fd ["thing"] (spM ⟨P, w, K, mg⟩ 1 m_is_whole) :=
  fn_ok (k := 0) F sc_is_whole fun cdv A outer s H E hr => (sss_one (ss_ret (se_and (se_isi1 rfl T.z_isinstance (se_var 0 rfl (.inl rfl)) rfl T.z_int (by decide +kernel) (by decide)) (se_one (se_not (se_isi1 rfl T.z_isinstance (se_var 0 rfl (.inl rfl)) rfl T.z_bool (by decide +kernel) (by decide)))))))
theorem o_is_from {f : Addr} {fd : FuncData} (F : L2.Fun K "is_from" "is_from" s_is_from f fd) (T : Txt K mg) (g_is_whole : Fn ⟨P, w, K, mg⟩ base "is_whole" 1 1 m_is_whole) : FnG P w K mg base (L2.CX P w) 2 f fd ["thing", "low", "high"] (spM ⟨P, w, K, mg⟩ 3 m_is_from) :=
  fn_ok (k := 1) F sc_is_from fun cdv A outer s H E hr => (sss_one (ss_ret (se_and (se_call g_is_whole hr (by omega) rfl (takes_of rfl rfl rfl rfl) (sa_cons (se_var 0 rfl (.inl rfl)) sa_nil) (mCons_len mNil_len)) (se_one (se_chain op_le op_le snd_cmpI snd_cmpI (se_var 1 rfl (.inl rfl)) (se_var 0 rfl (.inl rfl)) (se_var 2 rfl (.inl rfl)))))))
theorem o_is_pair {f : Addr} {fd : FuncData} (F : L2.Fun K "is_pair" "is_pair" s_is_pair f fd) (T : Txt K mg) : FnG P w K mg base (L2.CX P w) 1 f fd ["thing"] (spM ⟨P, w, K, mg⟩ 1 m_is_pair) :=
  fn_ok (k := 0) F sc_is_pair fun cdv A outer s H E hr => (sss_one (ss_ret (se_and (se_isi1 rfl T.z_isinstance (se_var 0 rfl (.inl rfl)) rfl T.z_tuple (by decide +kernel) (by decide)) (se_one (se_cmp (op_eqD hr.units) snd_eq (se_B call_lenA snd_len rfl T.z_len (by decide +kernel) (sa_cons (se_var 0 rfl (.inl rfl)) sa_nil)) se_int (nomark _))))))
theorem o_is_size {f : Addr} {fd : FuncData} (F : L2.Fun K "is_size" "is_size" s_is_size f fd) (T : Txt K mg) (g_is_from : Fn ⟨P, w, K, mg⟩ base "is_from" 2 3 m_is_from) : FnG P w K mg base (L2.CX P w) 3 f fd ["thing"] (spM ⟨P, w, K, mg⟩ 1 m_is_size) :=
  fn_ok (k := 2) F sc_is_size fun cdv A outer s H E hr => (sss_one (ss_ret (se_call g_is_from hr (by omega) rfl (takes_of rfl rfl rfl rfl) (sa_cons (se_var 0 rfl (.inl rfl)) (sa_cons se_int (sa_cons (T.c_WIDE.elim fun _ hc => se_globI rfl hc) sa_nil))) (mCons_len (mCons_len (mCons_len mNil_len))))))
theorem o_is_course {f : Addr} {fd : FuncData} (F : L2.Fun K "is_course" "is_course" s_is_course f fd) (T : Txt K mg) (g_is_whole : Fn ⟨P, w, K, mg⟩ base "is_whole" 1 1 m_is_whole) : FnG P w K mg base (L2.CX P w) 2 f fd ["thing"] (spM ⟨P, w, K, mg⟩ 1 m_is_course) :=
  fn_ok (k := 1) F sc_is_course fun cdv A outer s H E hr => (sss_one (ss_ret (se_and (se_call g_is_whole hr (by omega) rfl (takes_of rfl rfl rfl rfl) (sa_cons (se_var 0 rfl (.inl rfl)) sa_nil) (mCons_len mNil_len)) (se_one (se_cmp (op_inX hr.units) snd_inX (se_var 0 rfl (.inl rfl)) (se_tup (sa_cons (se_un un_neg snd_neg se_int) (sa_cons se_int sa_nil))) (by with_unfolding_all rfl))))))
theorem o_are_pairs {f : Addr} {fd : FuncData} (F : L2.Fun K "are_pairs" "are_pairs" s_are_pairs f fd) (T : Txt K mg) (g_is_pair : Fn ⟨P, w, K, mg⟩ base "is_pair" 1 1 m_is_pair) (g_is_from : Fn ⟨P, w, K, mg⟩ base "is_from" 2 3 m_is_from) (g_is_size : Fn ⟨P, w, K, mg⟩ base "is_size" 3 1 m_is_size) (g_is_course : Fn ⟨P, w, K, mg⟩ base "is_course" 2 1 m_is_course) : FnG P w K mg base (L2.CX P w) 4 f fd ["thing", "low", "high", "fits"] (spM ⟨P, w, K, mg⟩ 4 m_are_pairs) :=
  fn_ok (k := 3) F sc_are_pairs fun cdv A outer s H E hr => (sss_cons (ss_if (st_not (st_val (se_isi1 rfl T.z_isinstance (se_var 0 rfl (.inl rfl)) rfl T.z_tuple (by decide +kernel) (by decide)))) (sss_one (ss_ret se_bl)) sss_nil)
    (sss_cons (ss_set (i := 4) sc_are_pairs.nd rfl (.inl rfl) (se_var 1 rfl (.inl rfl)))
    (sss_cons (ss_for (passes_of rfl) rfl (si_seq (se_var 0 rfl (.inl rfl))) (sg_name sc_are_pairs.nd rfl (.inl rfl)) (sss_cons (ss_if (PW.pt (sw_or (st_not (st_val (se_call g_is_pair hr (by omega) rfl (takes_of rfl rfl rfl rfl) (sa_cons (se_var 5 rfl (.inl rfl)) sa_nil) (mCons_len mNil_len)))) (sw_or (st_not (st_val (se_call g_is_from hr (by omega) rfl (takes_of rfl rfl rfl rfl) (sa_cons (se_ix hr.units (se_var 5 rfl (.inl rfl)) se_int) (sa_cons (se_var 4 rfl (.inl rfl)) (sa_cons (se_var 2 rfl (.inl rfl)) sa_nil))) (mCons_len (mCons_len (mCons_len mNil_len)))))) (sw_or1 (st_not (st_val (se_callV (i := 3) g_is_size g_is_course hr (by omega) (by omega) rfl (.inl rfl) (takes_of rfl rfl rfl rfl) (sa_cons (se_ix hr.units (se_var 5 rfl (.inl rfl)) se_int) sa_nil) (mCons_len mNil_len)))))))) (sss_one (ss_ret se_bl)) sss_nil)
    (sss_one (ss_set (i := 4) sc_are_pairs.nd rfl (.inl rfl) (se_op op_addA snd_add (se_ix hr.units (se_var 5 rfl (.inl rfl)) se_int) se_int)))))
    (sss_one (ss_ret se_bl)))))
theorem o_is_pipe {f : Addr} {fd : FuncData} (F : L2.Fun K "is_pipe" "is_pipe" s_is_pipe f fd) (T : Txt K mg) (g_are_pairs : Fn ⟨P, w, K, mg⟩ base "are_pairs" 4 4 m_are_pairs) (g_is_from : Fn ⟨P, w, K, mg⟩ base "is_from" 2 3 m_is_from) (g_is_size : Fn ⟨P, w, K, mg⟩ base "is_size" 3 1 m_is_size) (g_is_course : Fn ⟨P, w, K, mg⟩ base "is_course" 2 1 m_is_course) : FnG P w K mg base (L2.CX P w) 5 f fd ["rooms", "thing"] (spM ⟨P, w, K, mg⟩ 2 m_is_pipe) :=
  fn_ok (k := 4) F sc_is_pipe fun cdv A outer s H E hr => (sss_cons (ss_if (PW.pt (sw_or (st_not (st_val (se_isi1 rfl T.z_isinstance (se_var 1 rfl (.inl rfl)) rfl T.z_tuple (by decide +kernel) (by decide)))) (sw_or1 (st_cmp (op_neD hr.units) snd_ne (se_B call_lenA snd_len rfl T.z_len (by decide +kernel) (sa_cons (se_var 1 rfl (.inl rfl)) sa_nil)) se_int (nomark _))))) (sss_one (ss_ret se_bl)) sss_nil)
    (sss_cons (ss_asg (se_var 1 rfl (.inl rfl)) (sg_tup rfl (sgs_cons (sg_name sc_is_pipe.nd rfl (.inl rfl)) (sgs_cons (sg_name sc_is_pipe.nd rfl (.inl rfl)) (sgs_cons (sg_name sc_is_pipe.nd rfl (.inl rfl)) (sgs_cons (sg_name sc_is_pipe.nd rfl (.inl rfl)) (sgs_cons (sg_name sc_is_pipe.nd rfl (.inl rfl)) sgs_nil)))))))
    (sss_cons (ss_if (PW.pt (sw_or (st_not (st_val (se_call g_is_from hr (by omega) rfl (takes_of rfl rfl rfl rfl) (sa_cons (se_var 2 rfl (.inl rfl)) (sa_cons se_int (sa_cons (se_op op_sub snd_sub (se_var 0 rfl (.inl rfl)) se_int) sa_nil))) (mCons_len (mCons_len (mCons_len mNil_len)))))) (sw_or (st_not (st_val (se_call g_is_from hr (by omega) rfl (takes_of rfl rfl rfl rfl) (sa_cons (se_var 3 rfl (.inl rfl)) (sa_cons (se_op op_addA snd_add (se_var 2 rfl (.inl rfl)) se_int) (sa_cons (se_op op_sub snd_sub (se_var 0 rfl (.inl rfl)) se_int) sa_nil))) (mCons_len (mCons_len (mCons_len mNil_len)))))) (sw_or1 (st_not (st_val (se_call g_is_from hr (by omega) rfl (takes_of rfl rfl rfl rfl) (sa_cons (se_var 4 rfl (.inl rfl)) (sa_cons se_int (sa_cons (T.c_LONG.elim fun _ hc => se_globI rfl hc) sa_nil))) (mCons_len (mCons_len (mCons_len mNil_len)))))))))) (sss_one (ss_ret se_bl)) sss_nil)
    (sss_one (ss_ret (se_and (se_call g_are_pairs hr (by omega) rfl (takes_of rfl rfl rfl rfl) (sa_cons (se_var 5 rfl (.inl rfl)) (sa_cons se_int (sa_cons (se_op op_sub snd_sub (se_var 4 rfl (.inl rfl)) se_int) (sa_cons (Exists.elim g_is_size fun _ h1 => h1.elim fun _ h2 => h2.elim fun _ h3 => se_globF rfl h3.1) sa_nil)))) (mCons_len (mCons_len (mCons_len (mCons_len mNil_len))))) (se_one (se_call g_are_pairs hr (by omega) rfl (takes_of rfl rfl rfl rfl) (sa_cons (se_var 6 rfl (.inl rfl)) (sa_cons se_int (sa_cons (se_op op_sub snd_sub (se_var 4 rfl (.inl rfl)) se_int) (sa_cons (Exists.elim g_is_course fun _ h1 => h1.elim fun _ h2 => h2.elim fun _ h3 => se_globF rfl h3.1) sa_nil)))) (mCons_len (mCons_len (mCons_len (mCons_len mNil_len))))))))))))
theorem o_is_house {f : Addr} {fd : FuncData} (F : L2.Fun K "is_house" "is_house" s_is_house f fd) (T : Txt K mg) (g_is_joined : Fn ⟨P, w, K, mg⟩ base "is_joined" 1 2 m_is_joined) (g_is_from : Fn ⟨P, w, K, mg⟩ base "is_from" 2 3 m_is_from) (g_is_pipe : Fn ⟨P, w, K, mg⟩ base "is_pipe" 5 2 m_is_pipe) : FnG P w K mg base (L2.CX P w) 6 f fd ["thing"] (spM ⟨P, w, K, mg⟩ 1 m_is_house) :=
  fn_ok (k := 5) F sc_is_house fun cdv A outer s H E hr => (sss_cons (ss_if (PW.pt (sw_or (st_not (st_val (se_isi1 rfl T.z_isinstance (se_var 0 rfl (.inl rfl)) rfl T.z_tuple (by decide +kernel) (by decide)))) (sw_or1 (st_cmp (op_neD hr.units) snd_ne (se_B call_lenA snd_len rfl T.z_len (by decide +kernel) (sa_cons (se_var 0 rfl (.inl rfl)) sa_nil)) se_int (nomark _))))) (sss_one (ss_ret se_bl)) sss_nil)
    (sss_cons (ss_asg (se_var 0 rfl (.inl rfl)) (sg_tup rfl (sgs_cons (sg_name sc_is_house.nd rfl (.inr rfl)) (sgs_cons (sg_name sc_is_house.nd rfl (.inl rfl)) sgs_nil))))
    (sss_cons (ss_if (PW.pt (sw_or (st_not (st_val (se_call g_is_from hr (by omega) rfl (takes_of rfl rfl rfl rfl) (sa_cons (se_var 1 rfl (.inr (.inl rfl))) (sa_cons se_int (sa_cons (T.c_ROOMS.elim fun _ hc => se_globI rfl hc) sa_nil))) (mCons_len (mCons_len (mCons_len mNil_len)))))) (sw_or (st_not (st_val (se_isi1 rfl T.z_isinstance (se_var 2 rfl (.inl rfl)) rfl T.z_tuple (by decide +kernel) (by decide)))) (sw_or1 (st_cmp (op_neD hr.units) snd_ne (se_B call_lenA snd_len rfl T.z_len (by decide +kernel) (sa_cons (se_var 2 rfl (.inl rfl)) sa_nil)) (se_op op_sub snd_sub (se_var 1 rfl (.inr (.inl rfl))) se_int) (nomark _)))))) (sss_one (ss_ret se_bl)) sss_nil)
    (sss_cons (ss_if (st_not (st_val (se_B (cr_all rfl) snd_all rfl T.z_all (by decide +kernel) (sa_cons (se_lc (own := [("pipe", 3)]) rfl sc_is_house.nd (si_seq (se_var 2 rfl (.inl rfl))) (blkOk_by (N := N_is_house) (sc := defScope s_is_house) (by decide +kernel)) (fun _ _ _ _ _ => (sgv_name sc_is_house.nd rfl (by first | exact .inl rfl | exact .inr rfl) (by decide))) (fun _ _ _ _ _ => sts_nil) (fun _ _ _ _ _ => (se_call g_is_pipe hr (by omega) rfl takes0 (sa_cons (se_var 1 rfl (.inr (.inl rfl))) (sa_cons (se_var 3 rfl (by first | exact .inl rfl | exact .inr (.inl rfl))) sa_nil)) (mCons_len (mCons_len mNil_len))))) sa_nil)))) (sss_one (ss_ret se_bl)) sss_nil)
    (sss_cons (ss_if (PW.pt (sw_or (st_cmp op_gt snd_cmpI (se_B (cr_sum rfl) snd_sum rfl T.z_sum (by decide +kernel) (sa_cons (se_lc (own := [("pipe", 3)]) rfl sc_is_house.nd (si_seq (se_var 2 rfl (.inl rfl))) (blkOk_by (N := N_is_house) (sc := defScope s_is_house) (by decide +kernel)) (fun _ _ _ _ _ => (sgv_name sc_is_house.nd rfl (by first | exact .inl rfl | exact .inr rfl) (by decide))) (fun _ _ _ _ _ => sts_nil) (fun _ _ _ _ _ => (se_B call_lenA snd_len rfl T.z_len (by decide +kernel) (sa_cons (se_ix hr.units (se_var 3 rfl (by first | exact .inl rfl | exact .inr (.inl rfl))) se_int) sa_nil)))) sa_nil)) (T.c_NARROWS.elim fun _ hc => se_globI rfl hc) (nomark _)) (sw_or1 (st_cmp op_gt snd_cmpI (se_B (cr_sum rfl) snd_sum rfl T.z_sum (by decide +kernel) (sa_cons (se_lc (own := [("pipe", 3)]) rfl sc_is_house.nd (si_seq (se_var 2 rfl (.inl rfl))) (blkOk_by (N := N_is_house) (sc := defScope s_is_house) (by decide +kernel)) (fun _ _ _ _ _ => (sgv_name sc_is_house.nd rfl (by first | exact .inl rfl | exact .inr rfl) (by decide))) (fun _ _ _ _ _ => sts_nil) (fun _ _ _ _ _ => (se_B call_lenA snd_len rfl T.z_len (by decide +kernel) (sa_cons (se_ix hr.units (se_var 3 rfl (by first | exact .inl rfl | exact .inr (.inl rfl))) se_int) sa_nil)))) sa_nil)) (T.c_FLAPS.elim fun _ hc => se_globI rfl hc) (nomark _))))) (sss_one (ss_ret se_bl)) sss_nil)
    (sss_one (ss_ret (se_call g_is_joined hr (by omega) rfl (takes_of rfl rfl rfl rfl) (sa_cons (se_var 1 rfl (.inr (.inl rfl))) (sa_cons (se_var 2 rfl (.inl rfl)) sa_nil)) (mCons_len (mCons_len mNil_len))))))))))
theorem o_numbers_told {f : Addr} {fd : FuncData} (F : L2.Fun K "numbers_told" "numbers_told" s_numbers_told f fd) (T : Txt K mg) (g_number_told : Fn ⟨P, w, K, mg⟩ base "number_told" 1 1 m_number_told) : FnG P w K mg base (L2.CX P w) 2 f fd ["words"] (spM ⟨P, w, K, mg⟩ 1 m_numbers_told) :=
  fn_ok (k := 1) F sc_numbers_told fun cdv A outer s H E hr => (sss_one (ss_ret (se_T call_tuple_of snd_tupleL rfl T.z_tuple (by decide +kernel) (sa_cons (se_lc (own := [("word", 1)]) rfl sc_numbers_told.nd (si_seq (se_var 0 rfl (.inl rfl))) (blkOk_by (N := N_numbers_told) (sc := defScope s_numbers_told) (by decide +kernel)) (fun _ _ _ _ _ => (sgv_name sc_numbers_told.nd rfl (by first | exact .inl rfl | exact .inr rfl) (by decide))) (fun _ _ _ _ _ => sts_nil) (fun _ _ _ _ _ => (se_call g_number_told hr (by omega) rfl takes0 (sa_cons (se_var 1 rfl (by first | exact .inl rfl | exact .inr (.inl rfl))) sa_nil) (mCons_len mNil_len)))) sa_nil))))
theorem o_pair_told {f : Addr} {fd : FuncData} (F : L2.Fun K "pair_told" "pair_told" s_pair_told f fd) (T : Txt K mg) (g_numbers_told : Fn ⟨P, w, K, mg⟩ base "numbers_told" 2 1 m_numbers_told) : FnG P w K mg base (L2.CX P w) 3 f fd ["word"] (spM ⟨P, w, K, mg⟩ 1 m_pair_told) :=
  fn_ok (k := 2) F sc_pair_told fun cdv A outer s H E hr => (sss_cons (ss_set (i := 1) sc_pair_told.nd rfl (.inl rfl) (se_call g_numbers_told hr (by omega) rfl (takes_of rfl rfl rfl rfl) (sa_cons (se_tx PySem.F.slot_str_split PySem.F.type_str_split mt_split snd_splitX (se_var 0 rfl (.inl rfl)) se_str) sa_nil) (mCons_len mNil_len)))
    (sss_cons (ss_if (st_cmp (op_neD hr.units) snd_ne (se_B call_lenA snd_len rfl T.z_len (by decide +kernel) (sa_cons (se_var 1 rfl (.inl rfl)) sa_nil)) se_int (nomark _)) (sss_one ss_stuck) sss_nil)
    (sss_one (ss_ret (se_var 1 rfl (.inl rfl))))))
theorem o_pipe_told {f : Addr} {fd : FuncData} (F : L2.Fun K "pipe_told" "pipe_told" s_pipe_told f fd) (T : Txt K mg) (g_numbers_told : Fn ⟨P, w, K, mg⟩ base "numbers_told" 2 1 m_numbers_told) (g_number_told : Fn ⟨P, w, K, mg⟩ base "number_told" 1 1 m_number_told) (g_pair_told : Fn ⟨P, w, K, mg⟩ base "pair_told" 3 1 m_pair_told) : FnG P w K mg base (L2.CX P w) 4 f fd ["text"] (spM ⟨P, w, K, mg⟩ 1 m_pipe_told) :=
  fn_ok (k := 3) F sc_pipe_told fun cdv A outer s H E hr => (sss_cons (ss_set (i := 1) sc_pipe_told.nd rfl (.inl rfl) (se_tx PySem.F.slot_str_split PySem.F.type_str_split mt_split snd_splitX (se_var 0 rfl (.inl rfl)) se_str))
    (sss_cons (ss_if (st_cmp op_lt snd_cmpI (se_B call_lenA snd_len rfl T.z_len (by decide +kernel) (sa_cons (se_var 1 rfl (.inl rfl)) sa_nil)) se_int (nomark _)) (sss_one ss_stuck) sss_nil)
    (sss_cons (ss_set (i := 2) sc_pipe_told.nd rfl (.inl rfl) (se_lst sa_nil))
    (sss_cons (ss_set (i := 3) sc_pipe_told.nd rfl (.inl rfl) (se_lst sa_nil))
    (sss_cons (ss_for (passes_of rfl) rfl (si_seq (se_slcX (se_var 1 rfl (.inl rfl)) (so_some se_int) so_none)) (sg_name sc_pipe_told.nd rfl (.inr rfl)) (sss_cons (ss_setLc (i := 5) (own := [("way", 6), ("mark", 7)]) rfl sc_pipe_told.nd rfl rfl (sw_true rfl rfl rfl (by decide +kernel)) (si_seq (T.t_MARKS.elim fun _ hc => se_globC rfl hc.1 hc.2)) (blkOk_by (N := N_pipe_told) (sc := defScope s_pipe_told) (by decide +kernel)) (fun _ _ _ _ _ => (sgv_tup rfl (sgsv_cons (sgv_name sc_pipe_told.nd rfl (by first | exact .inl rfl | exact .inr rfl) (by decide)) (sgsv_cons (sgv_name sc_pipe_told.nd rfl (by first | exact .inl rfl | exact .inr rfl) (by decide)) sgsv_nil)))) (fun _ _ _ _ _ => (sts_one (st_val (se_tx PySem.F.slot_str_endswith PySem.F.type_str_endswith mt_endswith snd_endsX (se_var 4 rfl (.inr (.inl rfl))) (se_var 7 rfl (by first | exact .inl rfl | exact .inr (.inl rfl))))))) (fun _ _ _ _ _ => (se_var 6 rfl (by first | exact .inl rfl | exact .inr (.inl rfl)))))
    (sss_one (ss_if (st_cmp (op_neD hr.units) snd_ne (se_var 5 rfl (.inl rfl)) (se_lst sa_nil) (nomark _)) (sss_one (ss_expr (se_mt PySem.F.plainAttrs_list PySem.F.slot_list_append PySem.F.type_list_append mt_append ty_list snd_append (se_var 3 rfl (.inl rfl)) (sa_cons (se_tup (sa_cons (se_call g_number_told hr (by omega) rfl (takes_of rfl rfl rfl rfl) (sa_cons (se_slcX (se_var 4 rfl (.inr (.inl rfl))) so_none (so_some (se_un un_neg snd_neg se_int))) sa_nil) (mCons_len mNil_len)) (sa_cons (se_ix hr.units (se_var 5 rfl (.inl rfl)) se_int) sa_nil))) sa_nil)))) (sss_one (ss_if (st_cmp (op_neD hr.units) snd_ne (se_var 3 rfl (.inl rfl)) (se_lst sa_nil) (nomark _)) (sss_one ss_stuck) (sss_one (ss_expr (se_mt PySem.F.plainAttrs_list PySem.F.slot_list_append PySem.F.type_list_append mt_append ty_list snd_append (se_var 2 rfl (.inl rfl)) (sa_cons (se_call g_pair_told hr (by omega) rfl (takes_of rfl rfl rfl rfl) (sa_cons (se_var 4 rfl (.inr (.inl rfl))) sa_nil) (mCons_len mNil_len)) sa_nil))))))))))
    (sss_one (ss_ret (se_op op_addA snd_add (se_call g_numbers_told hr (by omega) rfl (takes_of rfl rfl rfl rfl) (sa_cons (se_slcX (se_var 1 rfl (.inl rfl)) so_none (so_some se_int)) sa_nil) (mCons_len mNil_len)) (se_tup (sa_cons (se_T call_tuple_of snd_tupleL rfl T.z_tuple (by decide +kernel) (sa_cons (se_var 2 rfl (.inl rfl)) sa_nil)) (sa_cons (se_T call_tuple_of snd_tupleL rfl T.z_tuple (by decide +kernel) (sa_cons (se_var 3 rfl (.inl rfl)) sa_nil)) sa_nil)))))))))))
theorem o_read_house {f : Addr} {fd : FuncData} (F : L2.Fun K "read_house" "read_house" s_read_house f fd) (T : Txt K mg) (g_must_be_text : Fn ⟨P, w, K, mg⟩ base "must_be_text" 1 1 m_must_be_text) (g_number_told : Fn ⟨P, w, K, mg⟩ base "number_told" 1 1 m_number_told) (g_is_house : Fn ⟨P, w, K, mg⟩ base "is_house" 6 1 m_is_house) (g_pipe_told : Fn ⟨P, w, K, mg⟩ base "pipe_told" 4 1 m_pipe_told) : FnG P w K mg base (L2.CX P w) 7 f fd ["thing"] (spM ⟨P, w, K, mg⟩ 1 m_read_house) :=
  fn_ok (k := 6) F sc_read_house fun cdv A outer s H E hr => (sss_cons (ss_expr (se_call g_must_be_text hr (by omega) rfl (takes_of rfl rfl rfl rfl) (sa_cons (se_var 0 rfl (.inl rfl)) sa_nil) (mCons_len mNil_len)))
    (sss_cons (ss_set (i := 1) sc_read_house.nd rfl (.inl rfl) (se_tx PySem.F.slot_str_split PySem.F.type_str_split mt_split snd_splitX (se_var 0 rfl (.inl rfl)) se_str))
    (sss_cons (ss_set (i := 2) sc_read_house.nd rfl (.inl rfl) (se_tup (sa_cons (se_call g_number_told hr (by omega) rfl (takes_of rfl rfl rfl rfl) (sa_cons (se_ix hr.units (se_var 1 rfl (.inl rfl)) se_int) sa_nil) (mCons_len mNil_len)) (sa_cons (se_T call_tuple_of snd_tupleL rfl T.z_tuple (by decide +kernel) (sa_cons (se_lc (own := [("part", 3)]) rfl sc_read_house.nd (si_seq (se_slc (se_var 1 rfl (.inl rfl)) (so_some se_int) so_none)) (blkOk_by (N := N_read_house) (sc := defScope s_read_house) (by decide +kernel)) (fun _ _ _ _ _ => (sgv_name sc_read_house.nd rfl (by first | exact .inl rfl | exact .inr rfl) (by decide))) (fun _ _ _ _ _ => sts_nil) (fun _ _ _ _ _ => (se_call g_pipe_told hr (by omega) rfl takes0 (sa_cons (se_var 3 rfl (by first | exact .inl rfl | exact .inr (.inl rfl))) sa_nil) (mCons_len mNil_len)))) sa_nil)) sa_nil))))
    (sss_cons (ss_if (st_not (st_val (se_call g_is_house hr (by omega) rfl (takes_of rfl rfl rfl rfl) (sa_cons (se_var 2 rfl (.inl rfl)) sa_nil) (mCons_len mNil_len)))) (sss_one ss_stuck) sss_nil)
    (sss_one (ss_ret (se_var 2 rfl (.inl rfl))))))))
theorem o_law {f : Addr} {fd : FuncData} (F : L2.Fun K "law" "law" s_law f fd) (T : Txt K mg) (g_law_stream : Fn ⟨P, w, K, mg⟩ base "_law_stream" 1 2 m_law_stream) (g_law_wide : Fn ⟨P, w, K, mg⟩ base "_law_wide" 3 2 m_law_wide) (g_law_house_text : Fn ⟨P, w, K, mg⟩ base "_law_house_text" 1 1 m_law_house_text) (g_law_far_house : Fn ⟨P, w, K, mg⟩ base "_law_far_house" 3 2 m_law_far_house) (g_law_same : Fn ⟨P, w, K, mg⟩ base "_law_same" 8 2 (m_law_same 8)) (g_house_text : Fn ⟨P, w, K, mg⟩ base "house_text" 3 1 m_house_text) (g_read_house : Fn ⟨P, w, K, mg⟩ base "read_house" 7 1 m_read_house) : FnG P w K mg base (L2.CX P w) 9 f fd ["_law_script"] (spM ⟨P, w, K, mg⟩ 1 m_law) :=
  fn_ok (k := 8) F sc_law fun cdv A outer s H E hr => (sss_cons (ss_set (i := 1) sc_law.nd rfl (.inr rfl) (se_call g_law_stream hr (by omega) rfl (takes_of rfl rfl rfl rfl) (sa_cons (se_var 0 rfl (.inl rfl)) (sa_cons se_int sa_nil)) (mCons_len (mCons_len mNil_len))))
    (sss_cons (ss_set (i := 2) sc_law.nd rfl (.inl rfl) (se_op op_addA snd_add (se_lc (own := [("_law_k", 7)]) rfl sc_law.nd (si_range1 rfl T.z_range (sa_cons se_int sa_nil)) (blkOk_by (N := N_law) (sc := defScope s_law) (by decide +kernel)) (fun _ _ _ _ _ => (sgv_name sc_law.nd rfl (by first | exact .inl rfl | exact .inr rfl) (by decide))) (fun _ _ _ _ _ => sts_nil) (fun _ _ _ _ _ => (se_call g_law_wide hr (by omega) rfl takes0 (sa_cons (se_var 1 rfl (.inr (.inl rfl))) (sa_cons (se_call g_law_far_house hr (by omega) rfl takes0 (sa_cons (se_var 1 rfl (.inr (.inl rfl))) (sa_cons se_int sa_nil)) (mCons_len (mCons_len mNil_len))) sa_nil)) (mCons_len (mCons_len mNil_len))))) (se_lst (sa_cons (se_tup (sa_cons se_int (sa_cons (se_tup sa_nil) sa_nil))) sa_nil))))
    (sss_cons (ss_set (i := 3) sc_law.nd rfl (.inl rfl) (se_B (cr_repr hr.gd hr.units) snd_repr rfl T.z_repr (by decide +kernel) (sa_cons (se_var 2 rfl (.inl rfl)) sa_nil)))
    (sss_cons (ss_for (passes_of rfl) rfl (si_range1 rfl T.z_range (sa_cons se_int sa_nil)) (sg_name sc_law.nd rfl (.inl rfl)) (sss_one (ss_for (passes_of rfl) rfl (si_seq (se_var 2 rfl (.inl rfl))) (sg_name sc_law.nd rfl (.inl rfl)) (sss_cons (ss_set (i := 6) sc_law.nd rfl (.inl rfl) (se_call g_law_house_text hr (by omega) rfl (takes_of rfl rfl rfl rfl) (sa_cons (se_var 5 rfl (.inl rfl)) sa_nil) (mCons_len mNil_len)))
    (sss_one (ss_if (PW.pt (sw_or (st_not (st_val (se_call g_law_same hr (by omega) rfl (takes_of rfl rfl rfl rfl) (sa_cons (se_call g_house_text hr (by omega) rfl (takes_of rfl rfl rfl rfl) (sa_cons (se_var 5 rfl (.inl rfl)) sa_nil) (mCons_len mNil_len)) (sa_cons (se_var 6 rfl (.inl rfl)) sa_nil)) (mCons_len (mCons_len mNil_len))))) (sw_or1 (st_not (st_val (se_call g_law_same hr (by omega) rfl (takes_of rfl rfl rfl rfl) (sa_cons (se_call g_read_house hr (by omega) rfl (takes_of rfl rfl rfl rfl) (sa_cons (se_var 6 rfl (.inl rfl)) sa_nil) (mCons_len mNil_len)) (sa_cons (se_var 5 rfl (.inl rfl)) sa_nil)) (mCons_len (mCons_len mNil_len)))))))) (sss_one (ss_ret se_bl)) sss_nil))))))
    (sss_one (ss_ret (se_cmp op_eq snd_eqT (se_B (cr_repr hr.gd hr.units) snd_repr rfl T.z_repr (by decide +kernel) (sa_cons (se_var 2 rfl (.inl rfl)) sa_nil)) (se_var 3 rfl (.inl rfl)) (nomark _))))))))
end
theorem all_mk {l : PySem.W.OpenLaw} {w : World} {K : PySem.W.Frag} {h : Heap} {mg : Str → Option Value} {fa : Addr} (X : K.In h) (G : h.Ns mainGlobals mg) (hfa : mg "law" = some (.ref fa)) {f_law_stream : Addr} {od_law_stream an_law_stream : Option Addr} {sl_law_stream : Array (Option Value)} {oc_law_stream kV_law_stream dc_law_stream pm_law_stream cd_law_stream ct_law_stream : Value} {f_law_take : Addr} {od_law_take an_law_take : Option Addr} {sl_law_take : Array (Option Value)} {oc_law_take kV_law_take dc_law_take pm_law_take cd_law_take ct_law_take : Value} {f_law_far : Addr} {od_law_far an_law_far : Option Addr} {sl_law_far : Array (Option Value)} {oc_law_far kV_law_far dc_law_far pm_law_far cd_law_far ct_law_far : Value} {f_law_wide : Addr} {od_law_wide an_law_wide : Option Addr} {sl_law_wide : Array (Option Value)} {oc_law_wide kV_law_wide dc_law_wide pm_law_wide cd_law_wide ct_law_wide : Value} {f_law_house_text : Addr} {od_law_house_text an_law_house_text : Option Addr} {sl_law_house_text : Array (Option Value)} {oc_law_house_text kV_law_house_text dc_law_house_text pm_law_house_text cd_law_house_text ct_law_house_text : Value} {f_law_far_house : Addr} {od_law_far_house an_law_far_house : Option Addr} {sl_law_far_house : Array (Option Value)} {oc_law_far_house kV_law_far_house dc_law_far_house pm_law_far_house cd_law_far_house ct_law_far_house : Value} {f_law_same : Addr} {od_law_same an_law_same : Option Addr} {sl_law_same : Array (Option Value)} {oc_law_same kV_law_same dc_law_same pm_law_same cd_law_same ct_law_same : Value} {f_pairs_text : Addr} {od_pairs_text an_pairs_text : Option Addr} {sl_pairs_text : Array (Option Value)} {oc_pairs_text kV_pairs_text dc_pairs_text pm_pairs_text cd_pairs_text ct_pairs_text : Value} {f_pipe_text : Addr} {od_pipe_text an_pipe_text : Option Addr} {sl_pipe_text : Array (Option Value)} {oc_pipe_text kV_pipe_text dc_pipe_text pm_pipe_text cd_pipe_text ct_pipe_text : Value} {f_house_text : Addr} {od_house_text an_house_text : Option Addr} {sl_house_text : Array (Option Value)} {oc_house_text kV_house_text dc_house_text pm_house_text cd_house_text ct_house_text : Value} {f_must_be_text : Addr} {od_must_be_text an_must_be_text : Option Addr} {sl_must_be_text : Array (Option Value)} {oc_must_be_text kV_must_be_text dc_must_be_text pm_must_be_text cd_must_be_text ct_must_be_text : Value} {f_number_told : Addr} {od_number_told an_number_told : Option Addr} {sl_number_told : Array (Option Value)} {oc_number_told kV_number_told dc_number_told pm_number_told cd_number_told ct_number_told : Value} {f_is_joined : Addr} {od_is_joined an_is_joined : Option Addr} {sl_is_joined : Array (Option Value)} {oc_is_joined kV_is_joined dc_is_joined pm_is_joined cd_is_joined ct_is_joined : Value} {f_is_whole : Addr} {od_is_whole an_is_whole : Option Addr} {sl_is_whole : Array (Option Value)} {oc_is_whole kV_is_whole dc_is_whole pm_is_whole cd_is_whole ct_is_whole : Value} {f_is_from : Addr} {od_is_from an_is_from : Option Addr} {sl_is_from : Array (Option Value)} {oc_is_from kV_is_from dc_is_from pm_is_from cd_is_from ct_is_from : Value} {f_is_pair : Addr} {od_is_pair an_is_pair : Option Addr} {sl_is_pair : Array (Option Value)} {oc_is_pair kV_is_pair dc_is_pair pm_is_pair cd_is_pair ct_is_pair : Value} {f_is_size : Addr} {od_is_size an_is_size : Option Addr} {sl_is_size : Array (Option Value)} {oc_is_size kV_is_size dc_is_size pm_is_size cd_is_size ct_is_size : Value} {f_is_course : Addr} {od_is_course an_is_course : Option Addr} {sl_is_course : Array (Option Value)} {oc_is_course kV_is_course dc_is_course pm_is_course cd_is_course ct_is_course : Value} {f_are_pairs : Addr} {od_are_pairs an_are_pairs : Option Addr} {sl_are_pairs : Array (Option Value)} {oc_are_pairs kV_are_pairs dc_are_pairs pm_are_pairs cd_are_pairs ct_are_pairs : Value} {f_is_pipe : Addr} {od_is_pipe an_is_pipe : Option Addr} {sl_is_pipe : Array (Option Value)} {oc_is_pipe kV_is_pipe dc_is_pipe pm_is_pipe cd_is_pipe ct_is_pipe : Value} {f_is_house : Addr} {od_is_house an_is_house : Option Addr} {sl_is_house : Array (Option Value)} {oc_is_house kV_is_house dc_is_house pm_is_house cd_is_house ct_is_house : Value} {f_numbers_told : Addr} {od_numbers_told an_numbers_told : Option Addr} {sl_numbers_told : Array (Option Value)} {oc_numbers_told kV_numbers_told dc_numbers_told pm_numbers_told cd_numbers_told ct_numbers_told : Value} {f_pair_told : Addr} {od_pair_told an_pair_told : Option Addr} {sl_pair_told : Array (Option Value)} {oc_pair_told kV_pair_told dc_pair_told pm_pair_told cd_pair_told ct_pair_told : Value} {f_pipe_told : Addr} {od_pipe_told an_pipe_told : Option Addr} {sl_pipe_told : Array (Option Value)} {oc_pipe_told kV_pipe_told dc_pipe_told pm_pipe_told cd_pipe_told ct_pipe_told : Value} {f_read_house : Addr} {od_read_house an_read_house : Option Addr} {sl_read_house : Array (Option Value)} {oc_read_house kV_read_house dc_read_house pm_read_house cd_read_house ct_read_house : Value} {f_law : Addr} {od_law an_law : Option Addr} {sl_law : Array (Option Value)} {oc_law kV_law dc_law pm_law cd_law ct_law : Value} {tA_MARKS : Addr} {tn_MARKS : Nat} {ts_MARKS : Array (Option Value)} {tB0_MARKS : Addr} {tn0_MARKS : Nat} {ts0_MARKS : Array (Option Value)} {tk0_0_MARKS : Tok} {tk0_1_MARKS : Tok} {tB1_MARKS : Addr} {tn1_MARKS : Nat} {ts1_MARKS : Array (Option Value)} {tk1_0_MARKS : Tok} {tk1_1_MARKS : Tok} {t_FIGURES : Tok} {t_FLAPS : Tok} {t_LONG : Tok} {t_MOST_FIGURES : Tok} {t_NARROWS : Tok} {t_ROOMS : Tok} {t_WIDE : Tok}
    (a_law_stream : PySem.W.nsIn K mainGlobals "_law_stream" = some (some (.ref f_law_stream)))
    (l_law_stream : K.lookup f_law_stream = some ⟨oc_law_stream, od_law_stream, .func (PySem.W.fnOf "_law_stream" "_law_stream" (defArgs s_law_stream) (defBody s_law_stream) (defScope s_law_stream) .none kV_law_stream dc_law_stream pm_law_stream an_law_stream cd_law_stream ct_law_stream), sl_law_stream⟩)
    (c_law_stream : PySem.W.codeIn K cd_law_stream "_law_stream" = true)
    (k_law_stream : PySem.W.keepIn K (.ref f_law_stream) = true)
    (a_law_take : PySem.W.nsIn K mainGlobals "_law_take" = some (some (.ref f_law_take)))
    (l_law_take : K.lookup f_law_take = some ⟨oc_law_take, od_law_take, .func (PySem.W.fnOf "_law_take" "_law_take" (defArgs s_law_take) (defBody s_law_take) (defScope s_law_take) .none kV_law_take dc_law_take pm_law_take an_law_take cd_law_take ct_law_take), sl_law_take⟩)
    (c_law_take : PySem.W.codeIn K cd_law_take "_law_take" = true)
    (k_law_take : PySem.W.keepIn K (.ref f_law_take) = true)
    (a_law_far : PySem.W.nsIn K mainGlobals "_law_far" = some (some (.ref f_law_far)))
    (l_law_far : K.lookup f_law_far = some ⟨oc_law_far, od_law_far, .func (PySem.W.fnOf "_law_far" "_law_far" (defArgs s_law_far) (defBody s_law_far) (defScope s_law_far) .none kV_law_far dc_law_far pm_law_far an_law_far cd_law_far ct_law_far), sl_law_far⟩)
    (c_law_far : PySem.W.codeIn K cd_law_far "_law_far" = true)
    (k_law_far : PySem.W.keepIn K (.ref f_law_far) = true)
    (a_law_wide : PySem.W.nsIn K mainGlobals "_law_wide" = some (some (.ref f_law_wide)))
    (l_law_wide : K.lookup f_law_wide = some ⟨oc_law_wide, od_law_wide, .func (PySem.W.fnOf "_law_wide" "_law_wide" (defArgs s_law_wide) (defBody s_law_wide) (defScope s_law_wide) .none kV_law_wide dc_law_wide pm_law_wide an_law_wide cd_law_wide ct_law_wide), sl_law_wide⟩)
    (c_law_wide : PySem.W.codeIn K cd_law_wide "_law_wide" = true)
    (k_law_wide : PySem.W.keepIn K (.ref f_law_wide) = true)
    (a_law_house_text : PySem.W.nsIn K mainGlobals "_law_house_text" = some (some (.ref f_law_house_text)))
    (l_law_house_text : K.lookup f_law_house_text = some ⟨oc_law_house_text, od_law_house_text, .func (PySem.W.fnOf "_law_house_text" "_law_house_text" (defArgs s_law_house_text) (defBody s_law_house_text) (defScope s_law_house_text) .none kV_law_house_text dc_law_house_text pm_law_house_text an_law_house_text cd_law_house_text ct_law_house_text), sl_law_house_text⟩)
    (c_law_house_text : PySem.W.codeIn K cd_law_house_text "_law_house_text" = true)
    (k_law_house_text : PySem.W.keepIn K (.ref f_law_house_text) = true)
    (a_law_far_house : PySem.W.nsIn K mainGlobals "_law_far_house" = some (some (.ref f_law_far_house)))
    (l_law_far_house : K.lookup f_law_far_house = some ⟨oc_law_far_house, od_law_far_house, .func (PySem.W.fnOf "_law_far_house" "_law_far_house" (defArgs s_law_far_house) (defBody s_law_far_house) (defScope s_law_far_house) .none kV_law_far_house dc_law_far_house pm_law_far_house an_law_far_house cd_law_far_house ct_law_far_house), sl_law_far_house⟩)
    (c_law_far_house : PySem.W.codeIn K cd_law_far_house "_law_far_house" = true)
    (k_law_far_house : PySem.W.keepIn K (.ref f_law_far_house) = true)
    (a_law_same : PySem.W.nsIn K mainGlobals "_law_same" = some (some (.ref f_law_same)))
    (l_law_same : K.lookup f_law_same = some ⟨oc_law_same, od_law_same, .func (PySem.W.fnOf "_law_same" "_law_same" (defArgs s_law_same) (defBody s_law_same) (defScope s_law_same) .none kV_law_same dc_law_same pm_law_same an_law_same cd_law_same ct_law_same), sl_law_same⟩)
    (c_law_same : PySem.W.codeIn K cd_law_same "_law_same" = true)
    (k_law_same : PySem.W.keepIn K (.ref f_law_same) = true)
    (a_pairs_text : PySem.W.nsIn K mainGlobals "pairs_text" = some (some (.ref f_pairs_text)))
    (l_pairs_text : K.lookup f_pairs_text = some ⟨oc_pairs_text, od_pairs_text, .func (PySem.W.fnOf "pairs_text" "pairs_text" (defArgs s_pairs_text) (defBody s_pairs_text) (defScope s_pairs_text) .none kV_pairs_text dc_pairs_text pm_pairs_text an_pairs_text cd_pairs_text ct_pairs_text), sl_pairs_text⟩)
    (c_pairs_text : PySem.W.codeIn K cd_pairs_text "pairs_text" = true)
    (k_pairs_text : PySem.W.keepIn K (.ref f_pairs_text) = true)
    (a_pipe_text : PySem.W.nsIn K mainGlobals "pipe_text" = some (some (.ref f_pipe_text)))
    (l_pipe_text : K.lookup f_pipe_text = some ⟨oc_pipe_text, od_pipe_text, .func (PySem.W.fnOf "pipe_text" "pipe_text" (defArgs s_pipe_text) (defBody s_pipe_text) (defScope s_pipe_text) .none kV_pipe_text dc_pipe_text pm_pipe_text an_pipe_text cd_pipe_text ct_pipe_text), sl_pipe_text⟩)
    (c_pipe_text : PySem.W.codeIn K cd_pipe_text "pipe_text" = true)
    (k_pipe_text : PySem.W.keepIn K (.ref f_pipe_text) = true)
    (a_house_text : PySem.W.nsIn K mainGlobals "house_text" = some (some (.ref f_house_text)))
    (l_house_text : K.lookup f_house_text = some ⟨oc_house_text, od_house_text, .func (PySem.W.fnOf "house_text" "house_text" (defArgs s_house_text) (defBody s_house_text) (defScope s_house_text) .none kV_house_text dc_house_text pm_house_text an_house_text cd_house_text ct_house_text), sl_house_text⟩)
    (c_house_text : PySem.W.codeIn K cd_house_text "house_text" = true)
    (k_house_text : PySem.W.keepIn K (.ref f_house_text) = true)
    (a_must_be_text : PySem.W.nsIn K mainGlobals "must_be_text" = some (some (.ref f_must_be_text)))
    (l_must_be_text : K.lookup f_must_be_text = some ⟨oc_must_be_text, od_must_be_text, .func (PySem.W.fnOf "must_be_text" "must_be_text" (defArgs s_must_be_text) (defBody s_must_be_text) (defScope s_must_be_text) .none kV_must_be_text dc_must_be_text pm_must_be_text an_must_be_text cd_must_be_text ct_must_be_text), sl_must_be_text⟩)
    (c_must_be_text : PySem.W.codeIn K cd_must_be_text "must_be_text" = true)
    (k_must_be_text : PySem.W.keepIn K (.ref f_must_be_text) = true)
    (a_number_told : PySem.W.nsIn K mainGlobals "number_told" = some (some (.ref f_number_told)))
    (l_number_told : K.lookup f_number_told = some ⟨oc_number_told, od_number_told, .func (PySem.W.fnOf "number_told" "number_told" (defArgs s_number_told) (defBody s_number_told) (defScope s_number_told) .none kV_number_told dc_number_told pm_number_told an_number_told cd_number_told ct_number_told), sl_number_told⟩)
    (c_number_told : PySem.W.codeIn K cd_number_told "number_told" = true)
    (k_number_told : PySem.W.keepIn K (.ref f_number_told) = true)
    (a_is_joined : PySem.W.nsIn K mainGlobals "is_joined" = some (some (.ref f_is_joined)))
    (l_is_joined : K.lookup f_is_joined = some ⟨oc_is_joined, od_is_joined, .func (PySem.W.fnOf "is_joined" "is_joined" (defArgs s_is_joined) (defBody s_is_joined) (defScope s_is_joined) .none kV_is_joined dc_is_joined pm_is_joined an_is_joined cd_is_joined ct_is_joined), sl_is_joined⟩)
    (c_is_joined : PySem.W.codeIn K cd_is_joined "is_joined" = true)
    (k_is_joined : PySem.W.keepIn K (.ref f_is_joined) = true)
    (a_is_whole : PySem.W.nsIn K mainGlobals "is_whole" = some (some (.ref f_is_whole)))
    (l_is_whole : K.lookup f_is_whole = some ⟨oc_is_whole, od_is_whole, .func (PySem.W.fnOf "is_whole" "is_whole" (defArgs s_is_whole) (defBody s_is_whole) (defScope s_is_whole) .none kV_is_whole dc_is_whole pm_is_whole an_is_whole cd_is_whole ct_is_whole), sl_is_whole⟩)
    (c_is_whole : PySem.W.codeIn K cd_is_whole "is_whole" = true)
    (k_is_whole : PySem.W.keepIn K (.ref f_is_whole) = true)
    (a_is_from : PySem.W.nsIn K mainGlobals "is_from" = some (some (.ref f_is_from)))
    (l_is_from : K.lookup f_is_from = some ⟨oc_is_from, od_is_from, .func (PySem.W.fnOf "is_from" "is_from" (defArgs s_is_from) (defBody s_is_from) (defScope s_is_from) .none kV_is_from dc_is_from pm_is_from an_is_from cd_is_from ct_is_from), sl_is_from⟩)
    (c_is_from : PySem.W.codeIn K cd_is_from "is_from" = true)
    (k_is_from : PySem.W.keepIn K (.ref f_is_from) = true)
    (a_is_pair : PySem.W.nsIn K mainGlobals "is_pair" = some (some (.ref f_is_pair)))
    (l_is_pair : K.lookup f_is_pair = some ⟨oc_is_pair, od_is_pair, .func (PySem.W.fnOf "is_pair" "is_pair" (defArgs s_is_pair) (defBody s_is_pair) (defScope s_is_pair) .none kV_is_pair dc_is_pair pm_is_pair an_is_pair cd_is_pair ct_is_pair), sl_is_pair⟩)
    (c_is_pair : PySem.W.codeIn K cd_is_pair "is_pair" = true)
    (k_is_pair : PySem.W.keepIn K (.ref f_is_pair) = true)
    (a_is_size : PySem.W.nsIn K mainGlobals "is_size" = some (some (.ref f_is_size)))
    (l_is_size : K.lookup f_is_size = some ⟨oc_is_size, od_is_size, .func (PySem.W.fnOf "is_size" "is_size" (defArgs s_is_size) (defBody s_is_size) (defScope s_is_size) .none kV_is_size dc_is_size pm_is_size an_is_size cd_is_size ct_is_size), sl_is_size⟩)
    (c_is_size : PySem.W.codeIn K cd_is_size "is_size" = true)
    (k_is_size : PySem.W.keepIn K (.ref f_is_size) = true)
    (a_is_course : PySem.W.nsIn K mainGlobals "is_course" = some (some (.ref f_is_course)))
    (l_is_course : K.lookup f_is_course = some ⟨oc_is_course, od_is_course, .func (PySem.W.fnOf "is_course" "is_course" (defArgs s_is_course) (defBody s_is_course) (defScope s_is_course) .none kV_is_course dc_is_course pm_is_course an_is_course cd_is_course ct_is_course), sl_is_course⟩)
    (c_is_course : PySem.W.codeIn K cd_is_course "is_course" = true)
    (k_is_course : PySem.W.keepIn K (.ref f_is_course) = true)
    (a_are_pairs : PySem.W.nsIn K mainGlobals "are_pairs" = some (some (.ref f_are_pairs)))
    (l_are_pairs : K.lookup f_are_pairs = some ⟨oc_are_pairs, od_are_pairs, .func (PySem.W.fnOf "are_pairs" "are_pairs" (defArgs s_are_pairs) (defBody s_are_pairs) (defScope s_are_pairs) .none kV_are_pairs dc_are_pairs pm_are_pairs an_are_pairs cd_are_pairs ct_are_pairs), sl_are_pairs⟩)
    (c_are_pairs : PySem.W.codeIn K cd_are_pairs "are_pairs" = true)
    (k_are_pairs : PySem.W.keepIn K (.ref f_are_pairs) = true)
    (a_is_pipe : PySem.W.nsIn K mainGlobals "is_pipe" = some (some (.ref f_is_pipe)))
    (l_is_pipe : K.lookup f_is_pipe = some ⟨oc_is_pipe, od_is_pipe, .func (PySem.W.fnOf "is_pipe" "is_pipe" (defArgs s_is_pipe) (defBody s_is_pipe) (defScope s_is_pipe) .none kV_is_pipe dc_is_pipe pm_is_pipe an_is_pipe cd_is_pipe ct_is_pipe), sl_is_pipe⟩)
    (c_is_pipe : PySem.W.codeIn K cd_is_pipe "is_pipe" = true)
    (k_is_pipe : PySem.W.keepIn K (.ref f_is_pipe) = true)
    (a_is_house : PySem.W.nsIn K mainGlobals "is_house" = some (some (.ref f_is_house)))
    (l_is_house : K.lookup f_is_house = some ⟨oc_is_house, od_is_house, .func (PySem.W.fnOf "is_house" "is_house" (defArgs s_is_house) (defBody s_is_house) (defScope s_is_house) .none kV_is_house dc_is_house pm_is_house an_is_house cd_is_house ct_is_house), sl_is_house⟩)
    (c_is_house : PySem.W.codeIn K cd_is_house "is_house" = true)
    (k_is_house : PySem.W.keepIn K (.ref f_is_house) = true)
    (a_numbers_told : PySem.W.nsIn K mainGlobals "numbers_told" = some (some (.ref f_numbers_told)))
    (l_numbers_told : K.lookup f_numbers_told = some ⟨oc_numbers_told, od_numbers_told, .func (PySem.W.fnOf "numbers_told" "numbers_told" (defArgs s_numbers_told) (defBody s_numbers_told) (defScope s_numbers_told) .none kV_numbers_told dc_numbers_told pm_numbers_told an_numbers_told cd_numbers_told ct_numbers_told), sl_numbers_told⟩)
    (c_numbers_told : PySem.W.codeIn K cd_numbers_told "numbers_told" = true)
    (k_numbers_told : PySem.W.keepIn K (.ref f_numbers_told) = true)
    (a_pair_told : PySem.W.nsIn K mainGlobals "pair_told" = some (some (.ref f_pair_told)))
    (l_pair_told : K.lookup f_pair_told = some ⟨oc_pair_told, od_pair_told, .func (PySem.W.fnOf "pair_told" "pair_told" (defArgs s_pair_told) (defBody s_pair_told) (defScope s_pair_told) .none kV_pair_told dc_pair_told pm_pair_told an_pair_told cd_pair_told ct_pair_told), sl_pair_told⟩)
    (c_pair_told : PySem.W.codeIn K cd_pair_told "pair_told" = true)
    (k_pair_told : PySem.W.keepIn K (.ref f_pair_told) = true)
    (a_pipe_told : PySem.W.nsIn K mainGlobals "pipe_told" = some (some (.ref f_pipe_told)))
    (l_pipe_told : K.lookup f_pipe_told = some ⟨oc_pipe_told, od_pipe_told, .func (PySem.W.fnOf "pipe_told" "pipe_told" (defArgs s_pipe_told) (defBody s_pipe_told) (defScope s_pipe_told) .none kV_pipe_told dc_pipe_told pm_pipe_told an_pipe_told cd_pipe_told ct_pipe_told), sl_pipe_told⟩)
    (c_pipe_told : PySem.W.codeIn K cd_pipe_told "pipe_told" = true)
    (k_pipe_told : PySem.W.keepIn K (.ref f_pipe_told) = true)
    (a_read_house : PySem.W.nsIn K mainGlobals "read_house" = some (some (.ref f_read_house)))
    (l_read_house : K.lookup f_read_house = some ⟨oc_read_house, od_read_house, .func (PySem.W.fnOf "read_house" "read_house" (defArgs s_read_house) (defBody s_read_house) (defScope s_read_house) .none kV_read_house dc_read_house pm_read_house an_read_house cd_read_house ct_read_house), sl_read_house⟩)
    (c_read_house : PySem.W.codeIn K cd_read_house "read_house" = true)
    (k_read_house : PySem.W.keepIn K (.ref f_read_house) = true)
    (a_law : PySem.W.nsIn K mainGlobals "law" = some (some (.ref f_law)))
    (l_law : K.lookup f_law = some ⟨oc_law, od_law, .func (PySem.W.fnOf "law" "law" (defArgs s_law) (defBody s_law) (defScope s_law) .none kV_law dc_law pm_law an_law cd_law ct_law), sl_law⟩)
    (c_law : PySem.W.codeIn K cd_law "law" = true)
    (k_law : PySem.W.keepIn K (.ref f_law) = true)
    (z_abs : PySem.W.nsIn K mainGlobals "abs" = some none)
    (z_all : PySem.W.nsIn K mainGlobals "all" = some none)
    (z_bool : PySem.W.nsIn K mainGlobals "bool" = some none)
    (z_dict : PySem.W.nsIn K mainGlobals "dict" = some none)
    (z_int : PySem.W.nsIn K mainGlobals "int" = some none)
    (z_isinstance : PySem.W.nsIn K mainGlobals "isinstance" = some none)
    (z_len : PySem.W.nsIn K mainGlobals "len" = some none)
    (z_max : PySem.W.nsIn K mainGlobals "max" = some none)
    (z_min : PySem.W.nsIn K mainGlobals "min" = some none)
    (z_range : PySem.W.nsIn K mainGlobals "range" = some none)
    (z_repr : PySem.W.nsIn K mainGlobals "repr" = some none)
    (z_set : PySem.W.nsIn K mainGlobals "set" = some none)
    (z_sorted : PySem.W.nsIn K mainGlobals "sorted" = some none)
    (z_str : PySem.W.nsIn K mainGlobals "str" = some none)
    (z_sum : PySem.W.nsIn K mainGlobals "sum" = some none)
    (z_tuple : PySem.W.nsIn K mainGlobals "tuple" = some none)
    (ta_MARKS : PySem.W.nsIn K mainGlobals "MARKS" = some (some (.ref tA_MARKS)))
    (tl_MARKS : K.lookup tA_MARKS = some ⟨.type "tuple", none, .seq [Value.ref tB0_MARKS, Value.ref tB1_MARKS].toArray tn_MARKS, ts_MARKS⟩)
    (tl0_MARKS : K.lookup tB0_MARKS = some ⟨.type "tuple", none, .seq [Value.int 1 tk0_0_MARKS, Value.str ">" tk0_1_MARKS].toArray tn0_MARKS, ts0_MARKS⟩)
    (tl1_MARKS : K.lookup tB1_MARKS = some ⟨.type "tuple", none, .seq [Value.int (-1) tk1_0_MARKS, Value.str "<" tk1_1_MARKS].toArray tn1_MARKS, ts1_MARKS⟩)
    (c_FIGURES : PySem.W.nsIn K mainGlobals "FIGURES" = some (some (.str "0123456789" t_FIGURES)))
    (c_FLAPS : PySem.W.nsIn K mainGlobals "FLAPS" = some (some (.int 6 t_FLAPS)))
    (c_LONG : PySem.W.nsIn K mainGlobals "LONG" = some (some (.int 1000000000000 t_LONG)))
    (c_MOST_FIGURES : PySem.W.nsIn K mainGlobals "MOST_FIGURES" = some (some (.int 15 t_MOST_FIGURES)))
    (c_NARROWS : PySem.W.nsIn K mainGlobals "NARROWS" = some (some (.int 12 t_NARROWS)))
    (c_ROOMS : PySem.W.nsIn K mainGlobals "ROOMS" = some (some (.int 16 t_ROOMS)))
    (c_WIDE : PySem.W.nsIn K mainGlobals "WIDE" = some (some (.int 1000000 t_WIDE)))
    (math : ∀ ns : List Int, ns.length ≤ 63 → ∃ μ, m_law [.frl (ns.map D.int)] [] = .ok (.bl true) μ) :
    ∃ fd : FuncData, (∀ (s : Shared) (v : Value), BindsTo s fd ⟨[v], []⟩ [("_law_script", v)]) ∧ ∀ base : Heap, K.In base → base.Ns mainGlobals mg → FnG l.prog w K mg base (L2.CX l.prog w) 9 fa fd ["_law_script"] (spLaw K) := by
  have e := hfa.symm.trans (PySem.W.mg_of X G a_law)
  cases e
  have T : Txt K mg := ⟨PySem.W.mg_none_of X G z_abs, PySem.W.mg_none_of X G z_all, PySem.W.mg_none_of X G z_bool, PySem.W.mg_none_of X G z_dict, PySem.W.mg_none_of X G z_int, PySem.W.mg_none_of X G z_isinstance, PySem.W.mg_none_of X G z_len, PySem.W.mg_none_of X G z_max, PySem.W.mg_none_of X G z_min, PySem.W.mg_none_of X G z_range, PySem.W.mg_none_of X G z_repr, PySem.W.mg_none_of X G z_set, PySem.W.mg_none_of X G z_sorted, PySem.W.mg_none_of X G z_str, PySem.W.mg_none_of X G z_sum, PySem.W.mg_none_of X G z_tuple, ⟨_, PySem.W.mg_of X G ta_MARKS, [tB0_MARKS, tB1_MARKS], tn_MARKS, ts_MARKS, tl_MARKS, by simp, (.cons ⟨_, tn0_MARKS, ts0_MARKS, tl0_MARKS, by simp, (.cons ⟨_, rfl⟩ (.cons ⟨_, rfl⟩ .nil)), rfl⟩ (.cons ⟨_, tn1_MARKS, ts1_MARKS, tl1_MARKS, by simp, (.cons ⟨_, rfl⟩ (.cons ⟨_, rfl⟩ .nil)), rfl⟩ .nil))⟩, ⟨_, PySem.W.mg_of X G c_FIGURES⟩, ⟨_, PySem.W.mg_of X G c_FLAPS⟩, ⟨_, PySem.W.mg_of X G c_LONG⟩, ⟨_, PySem.W.mg_of X G c_MOST_FIGURES⟩, ⟨_, PySem.W.mg_of X G c_NARROWS⟩, ⟨_, PySem.W.mg_of X G c_ROOMS⟩, ⟨_, PySem.W.mg_of X G c_WIDE⟩⟩
  have F_law_stream := fun_mk (st := s_law_stream) l_law_stream c_law_stream k_law_stream
  have b_law_stream := F_law_stream.binds (ps := ["_law_script", "_law_own"]) fun _ _ _ _ _ _ us hl => match us, hl with | [_, _], _ => rfl
  have F_law_take := fun_mk (st := s_law_take) l_law_take c_law_take k_law_take
  have b_law_take := F_law_take.binds (ps := ["_law_stream_here", "_law_below"]) fun _ _ _ _ _ _ us hl => match us, hl with | [_, _], _ => rfl
  have F_law_far := fun_mk (st := s_law_far) l_law_far c_law_far k_law_far
  have b_law_far := F_law_far.binds (ps := ["_law_stream_here", "_law_most"]) fun _ _ _ _ _ _ us hl => match us, hl with | [_, _], _ => rfl
  have F_law_wide := fun_mk (st := s_law_wide) l_law_wide c_law_wide k_law_wide
  have b_law_wide := F_law_wide.binds (ps := ["_law_stream_here", "_law_house"]) fun _ _ _ _ _ _ us hl => match us, hl with | [_, _], _ => rfl
  have F_law_house_text := fun_mk (st := s_law_house_text) l_law_house_text c_law_house_text k_law_house_text
  have b_law_house_text := F_law_house_text.binds (ps := ["_law_house"]) fun _ _ _ _ _ _ us hl => match us, hl with | [_], _ => rfl
  have F_law_far_house := fun_mk (st := s_law_far_house) l_law_far_house c_law_far_house k_law_far_house
  have b_law_far_house := F_law_far_house.binds (ps := ["_law_stream_here", "_law_flaps"]) fun _ _ _ _ _ _ us hl => match us, hl with | [_, _], _ => rfl
  have F_law_same := fun_mk (st := s_law_same) l_law_same c_law_same k_law_same
  have b_law_same := F_law_same.binds (ps := ["_law_found", "_law_due"]) fun _ _ _ _ _ _ us hl => match us, hl with | [_, _], _ => rfl
  have F_pairs_text := fun_mk (st := s_pairs_text) l_pairs_text c_pairs_text k_pairs_text
  have b_pairs_text := F_pairs_text.binds (ps := ["pairs"]) fun _ _ _ _ _ _ us hl => match us, hl with | [_], _ => rfl
  have F_pipe_text := fun_mk (st := s_pipe_text) l_pipe_text c_pipe_text k_pipe_text
  have b_pipe_text := F_pipe_text.binds (ps := ["pipe"]) fun _ _ _ _ _ _ us hl => match us, hl with | [_], _ => rfl
  have F_house_text := fun_mk (st := s_house_text) l_house_text c_house_text k_house_text
  have b_house_text := F_house_text.binds (ps := ["house"]) fun _ _ _ _ _ _ us hl => match us, hl with | [_], _ => rfl
  have F_must_be_text := fun_mk (st := s_must_be_text) l_must_be_text c_must_be_text k_must_be_text
  have b_must_be_text := F_must_be_text.binds (ps := ["thing"]) fun _ _ _ _ _ _ us hl => match us, hl with | [_], _ => rfl
  have F_number_told := fun_mk (st := s_number_told) l_number_told c_number_told k_number_told
  have b_number_told := F_number_told.binds (ps := ["word"]) fun _ _ _ _ _ _ us hl => match us, hl with | [_], _ => rfl
  have F_is_joined := fun_mk (st := s_is_joined) l_is_joined c_is_joined k_is_joined
  have b_is_joined := F_is_joined.binds (ps := ["rooms", "pipes"]) fun _ _ _ _ _ _ us hl => match us, hl with | [_, _], _ => rfl
  have F_is_whole := fun_mk (st := s_is_whole) l_is_whole c_is_whole k_is_whole
  have b_is_whole := F_is_whole.binds (ps := ["thing"]) fun _ _ _ _ _ _ us hl => match us, hl with | [_], _ => rfl
  have F_is_from := fun_mk (st := s_is_from) l_is_from c_is_from k_is_from
  have b_is_from := F_is_from.binds (ps := ["thing", "low", "high"]) fun _ _ _ _ _ _ us hl => match us, hl with | [_, _, _], _ => rfl
  have F_is_pair := fun_mk (st := s_is_pair) l_is_pair c_is_pair k_is_pair
  have b_is_pair := F_is_pair.binds (ps := ["thing"]) fun _ _ _ _ _ _ us hl => match us, hl with | [_], _ => rfl
  have F_is_size := fun_mk (st := s_is_size) l_is_size c_is_size k_is_size
  have b_is_size := F_is_size.binds (ps := ["thing"]) fun _ _ _ _ _ _ us hl => match us, hl with | [_], _ => rfl
  have F_is_course := fun_mk (st := s_is_course) l_is_course c_is_course k_is_course
  have b_is_course := F_is_course.binds (ps := ["thing"]) fun _ _ _ _ _ _ us hl => match us, hl with | [_], _ => rfl
  have F_are_pairs := fun_mk (st := s_are_pairs) l_are_pairs c_are_pairs k_are_pairs
  have b_are_pairs := F_are_pairs.binds (ps := ["thing", "low", "high", "fits"]) fun _ _ _ _ _ _ us hl => match us, hl with | [_, _, _, _], _ => rfl
  have F_is_pipe := fun_mk (st := s_is_pipe) l_is_pipe c_is_pipe k_is_pipe
  have b_is_pipe := F_is_pipe.binds (ps := ["rooms", "thing"]) fun _ _ _ _ _ _ us hl => match us, hl with | [_, _], _ => rfl
  have F_is_house := fun_mk (st := s_is_house) l_is_house c_is_house k_is_house
  have b_is_house := F_is_house.binds (ps := ["thing"]) fun _ _ _ _ _ _ us hl => match us, hl with | [_], _ => rfl
  have F_numbers_told := fun_mk (st := s_numbers_told) l_numbers_told c_numbers_told k_numbers_told
  have b_numbers_told := F_numbers_told.binds (ps := ["words"]) fun _ _ _ _ _ _ us hl => match us, hl with | [_], _ => rfl
  have F_pair_told := fun_mk (st := s_pair_told) l_pair_told c_pair_told k_pair_told
  have b_pair_told := F_pair_told.binds (ps := ["word"]) fun _ _ _ _ _ _ us hl => match us, hl with | [_], _ => rfl
  have F_pipe_told := fun_mk (st := s_pipe_told) l_pipe_told c_pipe_told k_pipe_told
  have b_pipe_told := F_pipe_told.binds (ps := ["text"]) fun _ _ _ _ _ _ us hl => match us, hl with | [_], _ => rfl
  have F_read_house := fun_mk (st := s_read_house) l_read_house c_read_house k_read_house
  have b_read_house := F_read_house.binds (ps := ["thing"]) fun _ _ _ _ _ _ us hl => match us, hl with | [_], _ => rfl
  have F_law := fun_mk (st := s_law) l_law c_law k_law
  have b_law := F_law.binds (ps := ["_law_script"]) fun _ _ _ _ _ _ us hl => match us, hl with | [_], _ => rfl
  refine ⟨PySem.W.fnOf "law" "law" (defArgs s_law) (defBody s_law) (defScope s_law) .none kV_law dc_law pm_law an_law cd_law ct_law, fun s v => .of_eq rfl, fun base _ _ => ?_⟩
  have g_law_stream : Fn ⟨l.prog, w, K, mg⟩ base "_law_stream" 1 2 m_law_stream := ⟨f_law_stream, _, _, PySem.W.mg_of X G a_law_stream, F_law_stream.kp, b_law_stream, o_law_stream F_law_stream T⟩
  have g_law_take : Fn ⟨l.prog, w, K, mg⟩ base "_law_take" 1 2 m_law_take := ⟨f_law_take, _, _, PySem.W.mg_of X G a_law_take, F_law_take.kp, b_law_take, o_law_take F_law_take T⟩
  have g_law_far : Fn ⟨l.prog, w, K, mg⟩ base "_law_far" 2 2 m_law_far := ⟨f_law_far, _, _, PySem.W.mg_of X G a_law_far, F_law_far.kp, b_law_far, o_law_far F_law_far T g_law_take⟩
  have g_law_wide : Fn ⟨l.prog, w, K, mg⟩ base "_law_wide" 3 2 m_law_wide := ⟨f_law_wide, _, _, PySem.W.mg_of X G a_law_wide, F_law_wide.kp, b_law_wide, o_law_wide F_law_wide T g_law_far⟩
  have g_law_house_text : Fn ⟨l.prog, w, K, mg⟩ base "_law_house_text" 1 1 m_law_house_text := ⟨f_law_house_text, _, _, PySem.W.mg_of X G a_law_house_text, F_law_house_text.kp, b_law_house_text, o_law_house_text F_law_house_text T⟩
  have g_law_far_house : Fn ⟨l.prog, w, K, mg⟩ base "_law_far_house" 3 2 m_law_far_house := ⟨f_law_far_house, _, _, PySem.W.mg_of X G a_law_far_house, F_law_far_house.kp, b_law_far_house, o_law_far_house F_law_far_house T g_law_take g_law_far⟩
  have g_law_same : Fn ⟨l.prog, w, K, mg⟩ base "_law_same" 8 2 (m_law_same 8) := ⟨f_law_same, _, _, PySem.W.mg_of X G a_law_same, F_law_same.kp, b_law_same, o_law_same F_law_same T (PySem.W.mg_of X G a_law_same) b_law_same 8⟩
  have g_pairs_text : Fn ⟨l.prog, w, K, mg⟩ base "pairs_text" 1 1 m_pairs_text := ⟨f_pairs_text, _, _, PySem.W.mg_of X G a_pairs_text, F_pairs_text.kp, b_pairs_text, o_pairs_text F_pairs_text T⟩
  have g_pipe_text : Fn ⟨l.prog, w, K, mg⟩ base "pipe_text" 2 1 m_pipe_text := ⟨f_pipe_text, _, _, PySem.W.mg_of X G a_pipe_text, F_pipe_text.kp, b_pipe_text, o_pipe_text F_pipe_text T g_pairs_text⟩
  have g_house_text : Fn ⟨l.prog, w, K, mg⟩ base "house_text" 3 1 m_house_text := ⟨f_house_text, _, _, PySem.W.mg_of X G a_house_text, F_house_text.kp, b_house_text, o_house_text F_house_text T g_pipe_text⟩
  have g_must_be_text : Fn ⟨l.prog, w, K, mg⟩ base "must_be_text" 1 1 m_must_be_text := ⟨f_must_be_text, _, _, PySem.W.mg_of X G a_must_be_text, F_must_be_text.kp, b_must_be_text, o_must_be_text F_must_be_text T⟩
  have g_number_told : Fn ⟨l.prog, w, K, mg⟩ base "number_told" 1 1 m_number_told := ⟨f_number_told, _, _, PySem.W.mg_of X G a_number_told, F_number_told.kp, b_number_told, o_number_told F_number_told T⟩
  have g_is_joined : Fn ⟨l.prog, w, K, mg⟩ base "is_joined" 1 2 m_is_joined := ⟨f_is_joined, _, _, PySem.W.mg_of X G a_is_joined, F_is_joined.kp, b_is_joined, o_is_joined F_is_joined T⟩
  have g_is_whole : Fn ⟨l.prog, w, K, mg⟩ base "is_whole" 1 1 m_is_whole := ⟨f_is_whole, _, _, PySem.W.mg_of X G a_is_whole, F_is_whole.kp, b_is_whole, o_is_whole F_is_whole T⟩
  have g_is_from : Fn ⟨l.prog, w, K, mg⟩ base "is_from" 2 3 m_is_from := ⟨f_is_from, _, _, PySem.W.mg_of X G a_is_from, F_is_from.kp, b_is_from, o_is_from F_is_from T g_is_whole⟩
  have g_is_pair : Fn ⟨l.prog, w, K, mg⟩ base "is_pair" 1 1 m_is_pair := ⟨f_is_pair, _, _, PySem.W.mg_of X G a_is_pair, F_is_pair.kp, b_is_pair, o_is_pair F_is_pair T⟩
  have g_is_size : Fn ⟨l.prog, w, K, mg⟩ base "is_size" 3 1 m_is_size := ⟨f_is_size, _, _, PySem.W.mg_of X G a_is_size, F_is_size.kp, b_is_size, o_is_size F_is_size T g_is_from⟩
  have g_is_course : Fn ⟨l.prog, w, K, mg⟩ base "is_course" 2 1 m_is_course := ⟨f_is_course, _, _, PySem.W.mg_of X G a_is_course, F_is_course.kp, b_is_course, o_is_course F_is_course T g_is_whole⟩
  have g_are_pairs : Fn ⟨l.prog, w, K, mg⟩ base "are_pairs" 4 4 m_are_pairs := ⟨f_are_pairs, _, _, PySem.W.mg_of X G a_are_pairs, F_are_pairs.kp, b_are_pairs, o_are_pairs F_are_pairs T g_is_pair g_is_from g_is_size g_is_course⟩
  have g_is_pipe : Fn ⟨l.prog, w, K, mg⟩ base "is_pipe" 5 2 m_is_pipe := ⟨f_is_pipe, _, _, PySem.W.mg_of X G a_is_pipe, F_is_pipe.kp, b_is_pipe, o_is_pipe F_is_pipe T g_are_pairs g_is_from g_is_size g_is_course⟩
  have g_is_house : Fn ⟨l.prog, w, K, mg⟩ base "is_house" 6 1 m_is_house := ⟨f_is_house, _, _, PySem.W.mg_of X G a_is_house, F_is_house.kp, b_is_house, o_is_house F_is_house T g_is_joined g_is_from g_is_pipe⟩
  have g_numbers_told : Fn ⟨l.prog, w, K, mg⟩ base "numbers_told" 2 1 m_numbers_told := ⟨f_numbers_told, _, _, PySem.W.mg_of X G a_numbers_told, F_numbers_told.kp, b_numbers_told, o_numbers_told F_numbers_told T g_number_told⟩
  have g_pair_told : Fn ⟨l.prog, w, K, mg⟩ base "pair_told" 3 1 m_pair_told := ⟨f_pair_told, _, _, PySem.W.mg_of X G a_pair_told, F_pair_told.kp, b_pair_told, o_pair_told F_pair_told T g_numbers_told⟩
  have g_pipe_told : Fn ⟨l.prog, w, K, mg⟩ base "pipe_told" 4 1 m_pipe_told := ⟨f_pipe_told, _, _, PySem.W.mg_of X G a_pipe_told, F_pipe_told.kp, b_pipe_told, o_pipe_told F_pipe_told T g_numbers_told g_number_told g_pair_told⟩
  have g_read_house : Fn ⟨l.prog, w, K, mg⟩ base "read_house" 7 1 m_read_house := ⟨f_read_house, _, _, PySem.W.mg_of X G a_read_house, F_read_house.kp, b_read_house, o_read_house F_read_house T g_must_be_text g_number_told g_is_house g_pipe_told⟩
  exact (o_law (P := l.prog) (w := w) (base := base) F_law T g_law_stream g_law_wide g_law_house_text g_law_far_house g_law_same g_house_text g_read_house).less fun vs H Q E q => law_sp (G := ⟨l.prog, w, K, mg⟩) math q
theorem walk {l : PySem.W.OpenLaw} {q : Program} {loose : List Str} {XP : (Str → Option Value) → Heap → Prop} {YP : World → Heap → Prop} {d : DefRec} {K : Params → PySem.W.Frag} (hn : l.most = some 63) (hdf : d.params.defaults = [])
    (hY : ∀ (w : World) (h : Heap), YP w h → (K w.params).In h)
    (F : ∀ (w : World) (mg : Str → Option Value) (fa : Addr) (h : Heap), (K w.params).In h → h.Ns mainGlobals mg → mg d.name = some (.ref fa) →
      ∃ fd : FuncData, (∀ (s : Shared) (u : Value), BindsTo s fd ⟨[u], []⟩ [("_law_script", u)]) ∧ ∀ base : Heap, (K w.params).In base → base.Ns mainGlobals mg → FnG l.prog w (K w.params) mg base (L2.CX l.prog w) 9 fa fd ["_law_script"] (spLaw (K w.params))) :
    PySem.W.WalkO q loose XP YP l.row.toRowW d [] (fun f vs => PySem.call f vs) :=
  RW.walkG (n := 63) (k := 9) (x := "_law_script") (Z := fun w => L2.CX l.prog w) (pr := fun w => spLaw (K w.params)) hn (by decide) hdf ⟨⟨rfl, by decide, by decide⟩, rfl⟩ hY F (fun _ _ a ns hl hO hS => ⟨a, ns, rfl, only_frl hO hS, hl, fun _ => rfl⟩) fun _ _ _ _ _ ⟨_, _, _, _, _, _, _, _, _, _, _, _, z⟩ => z
end K86

/-! S0: houses as data (for families without family A's deck). -/
namespace K86
open PySem L2 RW
/-! ### pipes -/
structure Pipe where
  a : Int
  b : Int
  len : Int
  nar : List (Int × Int)
  fl : List (Int × Int)
def pairD (p : Int × Int) : D := .tup [.int p.1, .int p.2]
def Pipe.d (p : Pipe) : D := .tup [.int p.a, .int p.b, .int p.len, .tup (p.nar.map pairD), .tup (p.fl.map pairD)]
/-- what stands on a pipe -/
structure Pipe.Ok (p : Pipe) : Prop where
  l1 : 1 ≤ p.len
  l2 : p.len ≤ 1000000000000
  n1 : (p.nar.map (·.1)).Pairwise (· < ·)
  n2 : ∀ x ∈ p.nar, 1 ≤ x.1 ∧ x.1 ≤ p.len - 1 ∧ 1 ≤ x.2 ∧ x.2 ≤ 1000000
  f1 : (p.fl.map (·.1)).Pairwise (· < ·)
  f2 : ∀ x ∈ p.fl, 0 ≤ x.1 ∧ x.1 ≤ p.len - 1 ∧ (x.2 = 1 ∨ x.2 = -1)
/-! ### houses -/
def upTo (n : Nat) : List Int := (List.range n).map fun (i : Nat) => (i : Int)
theorem upTo_succ (n : Nat) : upTo (n + 1) = upTo n ++ [(n : Int)] := by simp [upTo, List.range_succ]
theorem upTo_len (n : Nat) : (upTo n).length = n := by simp [upTo]
theorem mem_upTo {n : Nat} {x : Int} : x ∈ upTo n ↔ 0 ≤ x ∧ x < n := by
  simp only [upTo, List.mem_map, List.mem_range]
  exact ⟨fun ⟨a, h, e⟩ => by omega, fun h => ⟨x.toNat, by omega, by omega⟩⟩
theorem upTo_nodup (n : Nat) : (upTo n).Nodup := by
  induction n with
  | zero => exact .nil
  | succ n ih =>
    rw [upTo_succ, List.nodup_append]
    exact ⟨ih, by simp, fun a ha b hb e => by simp at hb; have := (mem_upTo.mp ha); omega⟩
inductive Tree : List Int → List Pipe → Prop
  | one (x : Int) : Tree [x] []
  | grow {S : List Int} {ps1 ps2 : List Pipe} {p : Pipe} {x y : Int} (t : Tree S (ps1 ++ ps2)) (hy : y ∈ S) (hx : x ∉ S) (he : (p.a = y ∧ p.b = x) ∨ (p.a = x ∧ p.b = y)) (hl : p.a < p.b) : Tree (S ++ [x]) (ps1 ++ p :: ps2)
def houseD (R : Nat) (ps : List Pipe) : D := .tup [.int R, .tup (ps.map Pipe.d)]
structure House (R : Nat) (ps : List Pipe) : Prop where
  r1 : 1 ≤ R
  r2 : R ≤ 16
  tree : ∃ S : List Int, S.Perm (upTo R) ∧ Tree S ps
  len : ps.length + 1 = R
  ok : ∀ p ∈ ps, p.Ok
  rng : ∀ p ∈ ps, 0 ≤ p.a ∧ p.a < p.b ∧ p.b < R
  nar : ((ps.map fun p => (p.nar.length : Int)).sum) ≤ 12
  fla : ((ps.map fun p => (p.fl.length : Int)).sum) ≤ 6
theorem sum_ins (f : Pipe → Int) (l1 l2 : List Pipe) (p : Pipe) : ((l1 ++ [p] ++ l2).map f).sum = ((l1 ++ l2).map f).sum + f p := by
  simp only [List.map_append, List.map_cons, List.map_nil, List.sum_append, List.sum_cons, List.sum_nil]; omega
end K86

/-! S99: plain laws of texts and calls. -/
namespace K86
open PySem L2 RW
section
variable {μ : Mem}
theorem len_str {w : Str} (h : w.length ≤ 100000) : lenL [.str w] μ = .ok (.int (w.length : Int)) μ := by
  simp only [lenL]
  rw [if_pos (by rw [sizeLine_eq]; omega)]
theorem tup_lst {m : Nat} {l : List D} (e : μ[m]? = some (.lst l)) : tupleL [.ref m] μ = .ok (.tup l) μ := by simp only [tupleL, e]
theorem split_at {y : Str} {s : Nat} {w : Str} (ey : TL.tl y = [s]) (hs : s < 256) {parts : List Str} (hne : parts ≠ []) (hp : ∀ p ∈ parts, s ∉ TL.tl p) (hw : w = Txt.join y parts) (hl : w.length ≤ 100000) :
    splitX (.str w) (.str y) μ = .ok (.ref μ.length) (μ ++ [.lst (parts.map D.str)]) := by
  have hy : y.length = 1 := by rw [TL.len_tl, ey]; rfl
  have hk : y.cps.all (· < 256) = true := by
    rw [← Array.all_toList]
    show (TL.tl y).all _ = true
    rw [ey]; simp [hs]
  simp only [splitX]
  rw [if_pos ⟨by rw [hy]; rfl, by rw [sizeLine_eq]; omega⟩, hw, TL.split_join ey hk hne hp]
theorem join2 {y a b : Str} : Txt.join y [a, b] = a ++ y ++ b := by rw [TL.join_eq]; rfl
theorem tl_app3 (a b c : Str) : (a ++ b ++ c).length = a.length + b.length + c.length := by
  rw [TL.len_tl, TL.tl_append, TL.tl_append, List.length_append, List.length_append, ← TL.len_tl, ← TL.len_tl, ← TL.len_tl]
theorem join1 {y a : Str} : Txt.join y [a] = a := by rw [TL.join_eq]; rfl
theorem tl_app2 (a b : Str) : (a ++ b).length = a.length + b.length := by
  rw [TL.len_tl, TL.tl_append, List.length_append, ← TL.len_tl, ← TL.len_tl]
theorem sum_le {ys : List Str} {B : Nat} (h : ∀ y ∈ ys, y.length ≤ B) : (ys.map (·.length)).sum ≤ ys.length * B := by
  induction ys with
  | nil => simp
  | cons y ys ih =>
    have h1 := h y (List.mem_cons_self ..)
    have h2 := ih fun z hz => h z (List.mem_cons_of_mem _ hz)
    rw [List.map_cons, List.sum_cons, List.length_cons, Nat.succ_mul]; omega
theorem join_row {a : Str} {d : D} {ys : List Str} (e : rowI d μ = some (ys.map D.str)) (h : ∀ y ∈ ys, y.length ≤ 10000) (hl : ys.length ≤ 200) (ha : a.length ≤ 10) : joinX (.str a) d μ = .ok (.str (Txt.join a ys)) μ := by
  have h1 := sum_le h
  have h2 : ys.length * a.length ≤ 200 * 10 := Nat.mul_le_mul hl ha
  have h3 : ys.length * 10000 ≤ 200 * 10000 := Nat.mul_le_mul hl (Nat.le_refl _)
  simp only [joinX, e, strsD_map]
  rw [if_pos (by omega)]
theorem row_lst {m : Nat} {l : List D} (e : μ[m]? = some (.lst l)) : rowI (.ref m) μ = some l := by simp only [rowI, e]
theorem slc_k {a b : MD} {ρ : Rho} {μ μ1 μ2 μ3 : Mem} {x d : D} {j : Int} (h1 : a ρ μ = .ok x μ1) (h2 : b ρ μ1 = .ok (.int j) μ2) (h3 : slcD x (some j) none μ2 = .ok d μ3) : mSlc a (oSome b) oNone ρ μ = .ok d μ3 := by
  simp only [mSlc, h1, Res.bind, oNone, oSome, h2, h3]
theorem joinL_snoc {S : List Nat} : ∀ {l : List (List Nat)} {p : List Nat}, l ≠ [] → TL.joinL S (l ++ [p]) = TL.joinL S l ++ (S ++ p)
  | [], _, h => absurd rfl h
  | [a], p, _ => rfl
  | a :: b :: l, p, _ => by
    show a ++ (S ++ TL.joinL S ((b :: l) ++ [p])) = (a ++ (S ++ TL.joinL S (b :: l))) ++ (S ++ p)
    rw [joinL_snoc (l := b :: l) (by simp)]
    simp [List.append_assoc]
theorem join_snoc {y p : Str} {l : List Str} (h : l ≠ []) : Txt.join y (l ++ [p]) = Txt.join y l ++ y ++ p := by
  refine TL.ext_tl ?_
  rw [TL.join_eq, TL.join_eq, TL.tl_join, TL.tl_append, TL.tl_append, TL.tl_join, List.map_append, List.map_cons, List.map_nil, joinL_snoc (by simpa using h), List.append_assoc]
theorem str_assoc (a b c : Str) : a ++ b ++ c = a ++ (b ++ c) := TL.ext_tl (by simp only [TL.tl_append, List.append_assoc])
theorem joinL_len {S : List Nat} {B : Nat} : ∀ {l : List (List Nat)}, (∀ x ∈ l, x.length ≤ B) → (TL.joinL S l).length ≤ l.length * (S.length + B)
  | [], _ => by simp [TL.joinL]
  | [a], h => by
    have := h a (by simp)
    show a.length ≤ _
    simp; omega
  | a :: b :: l, h => by
    have h1 := h a (by simp)
    have h2 := joinL_len (S := S) (l := b :: l) fun x hx => h x (List.mem_cons_of_mem _ hx)
    show (a ++ (S ++ TL.joinL S (b :: l))).length ≤ _
    rw [List.length_append, List.length_append, List.length_cons (a := a), Nat.succ_mul]
    omega
theorem join_len {y : Str} {B : Nat} {l : List Str} (h : ∀ x ∈ l, x.length ≤ B) : (Txt.join y l).length ≤ l.length * (y.length + B) := by
  have := joinL_len (S := TL.tl y) (B := B) (l := l.map TL.tl) fun x hx => by
    obtain ⟨z, hz, rfl⟩ := List.mem_map.mp hx
    rw [← TL.len_tl]; exact h z hz
  rw [List.length_map, ← TL.len_tl, ← TL.tl_join, ← TL.join_eq, ← TL.len_tl] at this
  exact this
theorem add_str {a b : Str} (h : a.length + b.length ≤ 100000) : addD (.str a) (.str b) μ = .ok (.str (a ++ b)) μ := by
  simp only [addD]
  rw [if_pos (by rw [sizeLine_eq]; omega)]
theorem call3k {ρ : Rho} {μ1 μ2 μ3 μ4 : Mem} {p q r d : D} {f : Sem} {x y z : MD} (h1 : x ρ μ = .ok p μ1) (h2 : y ρ μ1 = .ok q μ2) (h3 : z ρ μ2 = .ok r μ3) (h : f [p, q, r] μ3 = .ok d μ4) : mB f (mCons x (mCons y (mCons z mNil))) ρ μ = .ok d μ4 := by
  simp only [mB, mCons, mNil, h1, h2, h3, Res.bind]; exact h
theorem tup_test {ρ : Rho} {x : MD} {l : List D} (h : x ρ μ = .ok (.tup l) μ) : mNot (mTest (mUn (isT1 "tuple") x)) ρ μ = .ok false μ := by
  have u : subT "tuple" "tuple" = true := by decide +kernel
  exact not_k (b := true) (test_k (un_k h (by simp [isT1, tyD, u])))
theorem len_tup {ρ : Rho} {x : MD} {l : List D} (h : x ρ μ = .ok (.tup l) μ) : mB lenL (mCons x mNil) ρ μ = .ok (.int (l.length : Int)) μ := call1k h rfl
theorem all_true {m : Nat} {α : Type} {l : List α} (e : μ[m]? = some (.lst (l.map fun _ => D.bl true))) : allL [.ref m] μ = .ok (.bl true) μ := by
  have h : (l.map fun _ => D.bl true) = (l.map fun _ => true).map D.bl := by rw [List.map_map]; rfl
  rw [h] at e
  have h2 : (l.map fun _ => true).all id = true := by simp
  simp only [allL, lstAt, e, bsD_map, h2]
theorem cut_tl {a : D} {l : List D} : cutD (a :: l) (some 1) none = l := by
  have e : HT.sIx (a :: l).length 0 (some ((1 : Nat) : Int)) = min 1 (a :: l).length := HT.sIx_nat _ _ 1
  unfold cutD
  rw [HT.sIx_none, show (1 : Int) = ((1 : Nat) : Int) by rfl, e]
  simp
end
end K86

/-! S100: numbers and pairs read from texts. -/
namespace K86
open PySem L2 RW
section
variable {μ : Mem}
theorem number_told_spec {n : Int} (h0 : 0 ≤ n) (h1 : n < 1000000000000000) : m_number_told [.str (num n)] μ = .ok (.int n) μ := by
  have hl := num_len h0 h1
  have hs := num_strip h0
  have hi := num_int h0 h1
  have hh := num_head h0
  generalize hw : num n = w at *
  have ll : lenL [.str w] μ = .ok (.int (w.length : Int)) μ := len_str (by omega)
  have c1 : mNot (mTest (mChain (cmpI fun i j => decide (i ≤ j)) (cmpI fun i j => decide (i ≤ j)) (mC (.int 1)) (mB lenL (mCons (mVar 0) (mNil))) (mC (.int 15)))) (startR 1 [.str w]) μ = .ok false μ := by
    have g1 : (1 : Int) ≤ (w.length : Int) := by omega
    have g2 : (w.length : Int) ≤ 15 := by omega
    refine not_k (b := true) (test_k ?_)
    simp [startR, ll, cmpI, g1, g2]
  have c2 : mTest (mBin neD (mTx stripX (mVar 0) (mC (.str "0123456789"))) (mC (.str ""))) (startR 1 [.str w]) μ = .ok false μ := by
    refine test_k (bin_k (p := .str "") (q := .str "") (μ1 := μ) (μ2 := μ) (tx_k (a := w) (q := .str "0123456789") rfl rfl ?_) rfl ?_)
    · simp only [stripX]
      rw [if_pos (by rw [sizeLine_eq]; omega), hs]
    · rw [neS (by decide +kernel) (by decide +kernel)]; rfl
  have c3 : mAnd (mTest (mBin (cmpI fun i j => decide (j < i)) (mB lenL (mCons (mVar 0) (mNil))) (mC (.int 1)))) (mTest (mBin eqD (mBin idxA (mVar 0) (mC (.int 0))) (mC (.str "0")))) (startR 1 [.str w]) μ = .ok false μ := by
    by_cases hg : 1 < w.length
    · have hg' : (1 : Int) < (w.length : Int) := by omega
      obtain ⟨c, r, e, hc⟩ := hh hg
      have ix : idxA (.str w) (.int 0) μ = .ok (.str ⟨#[c]⟩) μ := by
        have e2 : atI w.cps.toList (0 : Int) = some c := by
          rw [show w.cps.toList = c :: r from e]
          exact atI_pos (by decide) rfl
        simp only [idxA, idxD]
        rw [if_pos (by rw [sizeLine_eq]; omega), e2]
      have hd : ∀ x ∈ TL.tl w, 48 ≤ x ∧ x ≤ 57 := fun x hx => by rw [← hw] at hx; exact num_dig h0 hx
      have hcr := hd c (by rw [show TL.tl w = c :: r from e]; exact List.mem_cons_self ..)
      refine and_t (test_k (bin_k (call1k (μ1 := μ) rfl ll) rfl (d := .bl true) (by simp [cmpI, hg']))) (test_k (bin_k (bin_k (p := .str w) (q := .int 0) rfl rfl ix) rfl ?_))
      rw [eqS (by simp [PyData.strOk]; omega) (by decide +kernel)]
      have : ¬ ((⟨#[c]⟩ : Str) = ("0" : Str)) := fun z => by
        have := congrArg TL.tl z
        rw [show TL.tl ("0" : Str) = [48] by decide +kernel] at this
        simp [TL.tl] at this
        exact hc this
      simp [this]
    · have hg' : ¬ (1 : Int) < (w.length : Int) := by omega
      exact and_f (test_k (bin_k (call1k (μ1 := μ) rfl ll) rfl (d := .bl false) (by simp [cmpI]; omega)))
  refine run_is ?_
  unfold b_number_told
  refine (seq_skip (μ1 := μ) (or_f c1 (or_f c2 c3))).trans (ret_is (call1k (p := .str w) (μ1 := μ) rfl ?_))
  simp only [intX, hi]
  rw [if_pos (by omega)]
def okN (n : Int) : Prop := 0 ≤ n ∧ n < 1000000000000000
theorem numbers_told_spec {m : Nat} {ns : List Int} (e : μ[m]? = some (.lst (ns.map fun n => .str (num n)))) (h : ∀ n ∈ ns, okN n) (hl : ns.length ≤ 1000) :
    ∃ μ', m_numbers_told [.ref m] μ = .ok (.tup (ns.map D.int)) μ' ∧ Keep [] μ μ' := by
  obtain ⟨μ', q, k⟩ := comp_k (it := iSeq (mVar 0)) (g := gN 1) (te := mB m_number_told (mCons (mVar 1) (mNil))) (own := [1]) (ρ := startR 2 [.ref m]) (ex := []) (fun n => .str (num n)) D.int ns
    (seq_lst (n := m) (l := ns.map fun n => .str (num n)) (μ1 := μ) rfl e) (fun μ' k => k.get e (by simp)) (by omega)
    (fun n hn μ' k => ⟨_, μ', rfl, call1k (p := .str (num n)) (μ1 := μ') (by simp [wipeR, startR]) (number_told_spec (h n hn).1 (h n hn).2), .refl⟩)
  exact ⟨_, run_is (ret_is (call1k q (tup_lst app_new))), k.trans Keep.app⟩
/-- ⟨one⟩x⟨other⟩ -/
def pairT (p : Int × Int) : Str := num p.1 ++ ("x" : Str) ++ num p.2
theorem pairT_len {p : Int × Int} (h1 : okN p.1) (h2 : okN p.2) : (pairT p).length ≤ 31 := by
  have a := num_len h1.1 h1.2
  have b := num_len h2.1 h2.2
  unfold pairT
  rw [tl_app3, show ("x" : Str).length = 1 by decide +kernel]
  omega
theorem pair_told_spec {p : Int × Int} (h1 : okN p.1) (h2 : okN p.2) : ∃ μ', m_pair_told [.str (pairT p)] μ = .ok (pairD p) μ' ∧ Keep [] μ μ' := by
  have sp : splitX (.str (pairT p)) (.str "x") μ = .ok (.ref μ.length) (μ ++ [.lst (([num p.1, num p.2]).map D.str)]) :=
    split_at (s := 120) (by decide +kernel) (by decide) (by simp) (fun w hw => by
      rcases List.mem_cons.mp hw with rfl | hw
      · exact num_free h1.1 (by decide)
      · rw [List.mem_singleton.mp hw]; exact num_free h2.1 (by decide)) (by rw [join2]; rfl) (by have := pairT_len h1 h2; omega)
  obtain ⟨μ2, q, k⟩ := numbers_told_spec (μ := μ ++ [.lst (([num p.1, num p.2]).map D.str)]) (m := μ.length) (ns := [p.1, p.2]) app_new (fun n hn => by
      rcases List.mem_cons.mp hn with rfl | hn
      · exact h1
      · rw [List.mem_singleton.mp hn]; exact h2) (by simp)
  have c1 : mB m_numbers_told (mCons (mTx splitX (mVar 0) (mC (.str "x"))) (mNil)) (startR 2 [.str (pairT p)]) μ = .ok (pairD p) μ2 := call1k (tx_k (a := pairT p) (q := .str "x") rfl rfl sp) q
  refine ⟨μ2, run_is ?_, Keep.trans Keep.app k⟩
  unfold b_pair_told
  refine (seq_set c1).trans ?_
  rw [show (startR 2 [.str (pairT p)]).set 1 (some (pairD p)) = [some (.str (pairT p)), some (pairD p)] from rfl]
  refine (seq_skip (μ1 := μ2) (test_k (bin_k (p := .int 2) (q := .int 2) (μ1 := μ2) (μ2 := μ2) (call1k (p := pairD p) (μ1 := μ2) rfl rfl) rfl (by rw [neI]; rfl)))).trans (ret_is rfl)
theorem must_spec {w : Str} : ∃ ρ, b_must_be_text (startR 1 [.str w]) μ = .ok (.nx ρ) μ := by
  have u : subT "str" "str" = true := by decide +kernel
  exact ⟨_, (if_f (μ1 := μ) (not_k (b := true) (test_k (un_k (p := .str w) (μ1 := μ) rfl (by simp [isT1, tyD, u]))))).trans rfl⟩
theorem must_be {w : Str} : m_must_be_text [.str w] μ = .ok .non μ := by
  obtain ⟨ρ, e⟩ := must_spec (μ := μ) (w := w)
  show runB 1 b_must_be_text [.str w] μ = _
  simp only [runB, e]; rfl
/-! ### pairs written -/
theorem log_num {i : Int} (h : okN i) : i.natAbs.log2 < 1920 := by
  obtain ⟨h0, h1⟩ := h
  have h1 : i.natAbs < 2 ^ 60 := by omega
  by_cases h0 : i.natAbs = 0
  · rw [h0]; decide
  · have := (Nat.log2_lt h0).mpr h1
    omega
theorem str_num {i : Int} (h : okN i) : strL [.int i] μ = .ok (.str (num i)) μ := by
  simp only [strL]
  rw [if_pos (log_num h)]
theorem fmt_num {i : Int} (h : okN i) : fmtD (.int i) μ = .ok (.str (num i)) μ := by
  simp only [fmtD]
  rw [if_pos (log_num h)]
theorem js_pair {ρ : Rho} {a b : MD} {p : Int × Int} (h1 : okN p.1) (h2 : okN p.2) (ha : a ρ μ = .ok (.int p.1) μ) (hb : b ρ μ = .ok (.int p.2) μ) :
    mJs [mUn fmtD a, mC (.str "x"), mUn fmtD b] Str.empty ρ μ = .ok (.str (pairT p)) μ := by
  have la := num_len h1.1 h1.2
  have lb := num_len h2.1 h2.2
  have f1 : mUn fmtD a ρ μ = .ok (.str (num p.1)) μ := un_k ha (fmt_num h1)
  have f2 : mUn fmtD b ρ μ = .ok (.str (num p.2)) μ := un_k hb (fmt_num h2)
  have e1 : Str.empty ++ num p.1 = num p.1 := TL.ext_tl (by rw [TL.tl_append]; rfl)
  have lx : ("x" : Str).length = 1 := by decide +kernel
  have t3 : (num p.1 ++ ("x" : Str)).length ≤ sizeLine := by rw [TL.len_tl, TL.tl_append, List.length_append, ← TL.len_tl, ← TL.len_tl, lx, sizeLine_eq]; omega
  have t4 : (num p.1 ++ ("x" : Str) ++ num p.2).length ≤ sizeLine := by rw [tl_app3, lx, sizeLine_eq]; omega
  have s3 : mJs [] (num p.1 ++ ("x" : Str) ++ num p.2) ρ μ = .ok (.str (pairT p)) μ := rfl
  have s2 : mJs [mUn fmtD b] (num p.1 ++ ("x" : Str)) ρ μ = .ok (.str (pairT p)) μ := by
    unfold mJs
    simp only [f2, Res.bind]
    rw [if_pos t4, s3]
  have s1 : mJs [mC (.str "x"), mUn fmtD b] (num p.1) ρ μ = .ok (.str (pairT p)) μ := by
    unfold mJs
    simp only [mC, Res.bind]
    rw [if_pos t3, s2]
  unfold mJs
  simp only [f1, Res.bind]
  rw [e1, if_pos (by rw [sizeLine_eq]; omega), s1]
theorem pairs_text_spec {ps : List (Int × Int)} (h : ∀ p ∈ ps, okN p.1 ∧ okN p.2) (hl : ps.length ≤ 1000) :
    ∃ (m : Nat) (μ' : Mem), m_pairs_text [.tup (ps.map pairD)] μ = .ok (.ref m) μ' ∧ μ'[m]? = some (.lst ((ps.map pairT).map D.str)) ∧ Keep [] μ μ' := by
  obtain ⟨μ', q, k⟩ := comp_k (it := iSeq (mVar 0)) (g := gTupM 2 (gConsM (gN 1) (gConsM (gN 2) (gNilM)))) (te := mJs [mUn fmtD (mVar 1), mC (.str "x"), mUn fmtD (mVar 2)] Str.empty) (own := [1, 2]) (ρ := startR 3 [.tup (ps.map pairD)]) (ex := []) pairD (fun p => .str (pairT p)) ps
    (seq_tup (l := ps.map pairD) (μ1 := μ) rfl) (fun μ' k => trivial) (by omega)
    (fun p hp μ' k => ⟨_, μ', rfl, js_pair (h p hp).1 (h p hp).2 rfl rfl, .refl⟩)
  refine ⟨_, _, run_is (ret_is q), ?_, k.trans Keep.app⟩
  rw [List.map_map]
  exact app_new
theorem is_whole_spec {x : Int} : m_is_whole [.int x] μ = .ok (.bl true) μ := by
  have u1 : subT "int" "int" = true := by decide +kernel
  have u2 : subT "int" "bool" = false := by decide +kernel
  exact run_is (ret_is (by simp [startR, isT1, tyD, u1, u2]))
theorem is_from_spec {x lo hi : Int} (h1 : lo ≤ x) (h2 : x ≤ hi) : m_is_from [.int x, .int lo, .int hi] μ = .ok (.bl true) μ := by
  refine run_is (ret_is (andV_t (call1k (p := .int x) (μ1 := μ) rfl is_whole_spec) ?_))
  simp [startR, cmpI, h1, h2]
end
end K86

/-! Q4B: comprehensions over ints, ranges. -/
namespace K86
open PySem L2 RW
namespace Q
theorem comp_mapD {chk : Mem → Prop} {te : MD} {ρ0 : Rho} {i : Nat} (xs : List Int) (f : Int → D) (μ : Mem) (hc : chk μ) (ht : ∀ x ∈ xs, te (ρ0.set i (some (.int x))) μ = .ok (f x) μ) (hl : xs.length < 100000) :
    compL chk (gN i) mYes te ρ0 (xs.map D.int) [] μ = .ok (xs.map f) μ := by
  have key := compL_ok (chk := chk) (g := gN i) (tt := mYes) (te := te) (ρ0 := ρ0) (xs.map D.int) (fun j acc μ' => j ≤ xs.length ∧ acc = (xs.take j).map f ∧ μ' = μ) 0 (acc := []) (μ := μ) ⟨Nat.zero_le _, by simp, rfl⟩
    (fun _ _ _ ⟨_, _, e⟩ => e ▸ hc) (fun j d acc μ' e ⟨hj, ea, em⟩ => by
      simp only [Nat.zero_add] at hj ea em ⊢
      subst em
      rw [List.getElem?_map] at e
      obtain ⟨x, ex, rfl⟩ := Option.map_eq_some_iff.mp e
      have hj2 := (List.getElem?_eq_some_iff.mp ex).1
      refine .mk (μ := μ') rfl (.mk (μ := μ') rfl ?_)
      rw [if_pos rfl]
      refine ⟨by rw [ea, List.length_map, List.length_take, sizeLine_eq]; omega, .mk (ht x (List.mem_of_getElem? ex)) ⟨by omega, ?_, rfl⟩⟩
      rw [ea, List.take_add_one, ex]; simp)
  rw [List.length_map, Nat.zero_add] at key
  obtain ⟨l, μ', e, _, rfl, rfl⟩ := key
  rw [e, List.take_length]
theorem range_at {lo : Int} {n i : Nat} {d : D} (e : (rangeItems lo n)[i]? = some d) : i < n ∧ d = .int (lo + (i : Int)) := by
  unfold rangeItems at e
  rw [List.getElem?_map] at e
  obtain ⟨x, ex, rfl⟩ := Option.map_eq_some_iff.mp e
  obtain ⟨h1, h2⟩ := List.getElem?_eq_some_iff.mp ex
  rw [List.length_range] at h1
  rw [List.getElem_range] at h2
  exact ⟨h1, by rw [h2]⟩
theorem range_len {lo : Int} {n : Nat} : (rangeItems lo n).length = n := by unfold rangeItems; simp
end Q
end K86

/-! S1: the stream and its numbers. -/
namespace K86
open PySem L2 RW
/-- the stream at k, its cells at c; N: its turn is no more than that -/
def Stm (μ : Mem) (k c N : Nat) : Prop := k ≠ c ∧ ∃ (cs : List Int) (a q t : Nat), μ[k]? = some (.lst [.ref c, .int a, .int q, .int t]) ∧ μ[c]? = some (.lst (cs.map .int)) ∧ (∀ x ∈ cs, 0 ≤ x) ∧ cs.length ≤ 63 ∧ t ≤ N
section
variable {μ μ' : Mem} {k c N : Nat} {ex : List Nat}
theorem Stm.mono {M : Nat} (h : Stm μ k c N) (hm : N ≤ M) : Stm μ k c M := by
  obtain ⟨n, cs, a, q, t, e1, e2, h1, h2, h3⟩ := h
  exact ⟨n, cs, a, q, t, e1, e2, h1, h2, by omega⟩
theorem Stm.keep (h : Stm μ k c N) (w : Keep ex μ μ') (h1 : k ∉ ex) (h2 : c ∉ ex) : Stm μ' k c N := by
  obtain ⟨n, cs, a, q, t, e1, e2, h3⟩ := h
  exact ⟨n, cs, a, q, t, w.get e1 h1, w.get e2 h2, h3⟩
theorem Stm.app {cs : List Cell} (h : Stm μ k c N) : Stm (μ ++ cs) k c N := h.keep (ex := []) Keep.app (by simp) (by simp)
theorem Stm.lt (h : Stm μ k c N) : k < μ.length ∧ c < μ.length := by
  obtain ⟨n, cs, a, q, t, e1, e2, h3⟩ := h
  exact ⟨at_lt e1, at_lt e2⟩
theorem lst_ne {cs : List Int} {n : Nat} (e : μ[c]? = some (.lst (cs.map .int))) (e2 : μ[n]? = some (.lst [])) : neD (.ref c) (.ref n) μ = .ok (.bl (!cs.isEmpty)) μ := by
  have pys : ∀ l : List Int, D.pys? 7 μ (l.map D.int) = some (l.map PyData.int) := fun l => by
    induction l with
    | nil => simp [D.pys?]
    | cons a l ih => simp [D.pys?, D.py?, ih]
  have h1 : D.py? 8 μ (.ref c) = some (.list (cs.map PyData.int)) := by simp [D.py?, e, pys]
  have h2 : D.py? 8 μ (.ref n) = some (.list []) := by simp [D.py?, e2, D.pys?]
  have h3 : SeqAt.shaped (.list []) = true := by rfl
  have h4 : SeqAt.shaped (.list (cs.map PyData.int)) = true := by
    have g1 : ∀ l : List Int, PyData.canLayAll0 (l.map PyData.int) = true := fun l => by
      induction l with
      | nil => rfl
      | cons a l ih => simp [PyData.canLayAll0, PyData.canLay0, ih]
    have g2 : ∀ l : List Int, PyData.depthAll (l.map PyData.int) = 0 := fun l => by
      induction l with
      | nil => rfl
      | cons a l ih => simp [PyData.depthAll, PyData.depth, ih]
    unfold SeqAt.shaped
    refine Bool.and_eq_true_iff.mpr ⟨by simp only [PyData.canLay0, g1], decide_eq_true ?_⟩
    simp only [PyData.depth, g2]; omega
  simp only [neD, h1, h2, h3, h4, Bool.and_self, if_true]
  cases cs <;> simp [PyData.eqv, PyData.eqvAll]
theorem take_spec {j : Int} (h : Stm μ k c N) (hN : N < 1000000) (hj : 0 < j) (hj2 : j < 18446744073709551616) :
    ∃ (x : Int) (μ' : Mem), m_law_take [.ref k, .int j] μ = .ok (.int x) μ' ∧ 0 ≤ x ∧ x < j ∧ Stm μ' k c (N + 1) ∧ Keep [k] μ μ' := by
  obtain ⟨n1, cs, a, q, t, e1, e2, hp, hl, ht⟩ := h
  have l1 := at_lt e1
  -- the turn
  obtain ⟨μ1, hμ1⟩ : ∃ μ1, μ1 = μ.set k (.lst [.ref c, .int a, .int q, .int ((t : Int) + 1)]) := ⟨_, rfl⟩
  have e11 : μ1[k]? = some (.lst [.ref c, .int a, .int q, .int ((t + 1 : Nat) : Int)]) := by rw [hμ1, set_at l1]; rfl
  have e21 : μ1[c]? = some (.lst (cs.map .int)) := by rw [hμ1, set_ne' n1]; exact e2
  have k1 : Keep [k] μ μ1 := by rw [hμ1]; exact Keep.set (by simp)
  have s1 : setDD (.ref k) (.int 3) (.int ((t : Int) + 1)) μ = .ok () μ1 := by rw [hμ1]; exact set_lst' e1 (by decide) (by show (3 : Int) < 4; decide)
  -- the next great cell, perhaps
  obtain ⟨a2, q2, μ2, step, e12, e22, k2, q0⟩ : ∃ (a2 q2 : Nat) (μ2 : Mem), (sIf (mAnd (mTest (mBin eqD (mVar 4) (mC (.int 0)))) (mTest (mBin (cmpI fun i j => decide (i < j)) (mVar 3) (mB lenL (mCons (mVar 2) (mNil)))))) (sSeq (sAsg (mBin addD (mVar 3) (mC (.int 1))) (gSubM setDD (mVar 0) (mC (.int 1))))
      (sSet 4 (mBin mulD (mBin idxA (mVar 2) (mVar 3)) (mB intL (mCons (mBin (cmpI fun i j => decide (j ≤ i)) (mBin idxA (mVar 2) (mVar 3)) (mBin powD (mC (.int 10)) (mC (.int 18)))) (mNil)))))) (sNil)) [some (.ref k), some (.int j), some (.ref c), some (.int a), some (.int q), some (.int t), none] μ1 =
        .ok (.nx [some (.ref k), some (.int j), some (.ref c), some (.int a), some (.int q2), some (.int t), none]) μ2 ∧ (∃ q3 : Nat, μ2[k]? = some (.lst [.ref c, .int a2, .int q3, .int ((t + 1 : Nat) : Int)])) ∧ μ2[c]? = some (.lst (cs.map .int)) ∧ Keep [k] μ1 μ2 ∧ True := by
    by_cases hc : (q : Int) = 0 ∧ (a : Int) < cs.length
    · obtain ⟨hq, ha⟩ := hc
      obtain ⟨μ2, hμ2⟩ : ∃ μ2, μ2 = μ1.set k (.lst [.ref c, .int ((a : Int) + 1), .int q, .int ((t + 1 : Nat) : Int)]) := ⟨_, rfl⟩
      have e12 : μ2[k]? = some (.lst [.ref c, .int ((a + 1 : Nat) : Int), .int q, .int ((t + 1 : Nat) : Int)]) := by rw [hμ2, set_at (at_lt e11)]; rfl
      have e22 : μ2[c]? = some (.lst (cs.map .int)) := by rw [hμ2, set_ne' n1]; exact e21
      have s2 : setDD (.ref k) (.int 1) (.int ((a : Int) + 1)) μ1 = .ok () μ2 := by rw [hμ2]; exact set_lst' e11 (by decide) (by show (1 : Int) < 4; decide)
      obtain ⟨x, ex⟩ : ∃ x, cs[a]? = some x := ⟨_, List.getElem?_eq_getElem (by omega)⟩
      have hx := hp x (List.mem_of_getElem? ex)
      have ix : idxA (.ref c) (.int (a : Int)) μ2 = .ok (.int x) μ2 := ix_lst e22 (by omega) (by rw [Int.toNat_natCast, List.getElem?_map, ex]; rfl)
      have hb : (if decide (1000000000000000000 ≤ x) = true then (1 : Int) else 0).natAbs < 18446744073709551616 := by split <;> decide
      have hnn : 0 ≤ x * (if decide (1000000000000000000 ≤ x) = true then (1 : Int) else 0) := by split <;> omega
      obtain ⟨q2, hq2⟩ : ∃ q2 : Nat, x * (if decide (1000000000000000000 ≤ x) = true then (1 : Int) else 0) = (q2 : Int) := ⟨_, (Int.toNat_of_nonneg hnn).symm⟩
      refine ⟨a + 1, q2, μ2, ?_, ⟨q, e12⟩, e22, by rw [hμ2]; exact Keep.set (by simp), trivial⟩
      refine (if_t (μ1 := μ1) (by simp [eqI, hq, lenL, e21, cmpI, ha])).trans ?_
      refine (seq_asg (d := .int ((a : Int) + 1)) (μ1 := μ1) (ρ2 := [some (.ref k), some (.int j), some (.ref c), some (.int a), some (.int q), some (.int t), none]) (μ2 := μ2) (by simp [add_ok]) (by simp [s2])).trans ?_
      refine (set_is (d := .int q2) (μ' := μ2) ?_).trans rfl
      have hpw : powD (.int 10) (.int 18) μ2 = .ok (.int 1000000000000000000) μ2 := by rfl
      simp only [mBin, mB, mCons, mNil, mC, mVar, List.getElem?_cons_succ, List.getElem?_cons_zero, Res.bind, ix, hpw, cmpI, intL, mul_ok (.inr hb), hq2]
    · refine ⟨a, q, μ1, (if_f (μ1 := μ1) ?_).trans rfl, ⟨q, e11⟩, e21, .refl, trivial⟩
      by_cases hq : (q : Int) = 0
      · have ha : ¬ (a : Int) < cs.length := fun z => hc ⟨hq, z⟩
        simp [eqI, hq, lenL, e21, cmpI, ha]
      · have hq' : ¬ q = 0 := fun z => hq (by rw [z]; rfl)
        simp [eqI, hq']
  obtain ⟨q3, e12⟩ := e12
  obtain ⟨μ3, hμ3⟩ : ∃ μ3, μ3 = μ2.set k (.lst [.ref c, .int a2, .int ((q2 : Int) / j), .int ((t + 1 : Nat) : Int)]) := ⟨_, rfl⟩
  have hd : 0 ≤ (q2 : Int) / j := Int.ediv_nonneg (by omega) (by omega)
  obtain ⟨q4, hq4⟩ : ∃ q4 : Nat, (q2 : Int) / j = (q4 : Int) := ⟨_, (Int.toNat_of_nonneg hd).symm⟩
  have e13 : μ3[k]? = some (.lst [.ref c, .int a2, .int q4, .int ((t + 1 : Nat) : Int)]) := by rw [hμ3, set_at (at_lt e12), hq4]
  have e23 : μ3[c]? = some (.lst (cs.map .int)) := by rw [hμ3, set_ne' n1]; exact e22
  have s3 : setDD (.ref k) (.int 2) (.int ((q2 : Int) / j)) μ2 = .ok () μ3 := by rw [hμ3]; exact set_lst' e12 (by decide) (by show (2 : Int) < 4; decide)
  have k3 : Keep [k] μ2 μ3 := by rw [hμ3]; exact Keep.set (by simp)
  have kk : Keep [k] μ μ3 := (k1.trans k2).trans k3
  have st : Stm μ3 k c (N + 1) := ⟨n1, cs, a2, q4, t + 1, e13, e23, hp, hl, by omega⟩
  have begin_ : ∀ {rest : MS}, (sSeq (sAsg (mVar 0) (gTupM 4 (gConsM (gN 2) (gConsM (gN 3) (gConsM (gN 4) (gConsM (gN 5) (gNilM)))))))
    (sSeq (sAsg (mBin addD (mVar 5) (mC (.int 1))) (gSubM setDD (mVar 0) (mC (.int 3)))) rest)) (startR 7 [.ref k, .int j]) μ = rest [some (.ref k), some (.int j), some (.ref c), some (.int a), some (.int q), some (.int t), none] μ1 := fun {rest} => by
    rw [seq_asg (d := .ref k) (μ1 := μ) (ρ2 := [some (.ref k), some (.int j), some (.ref c), some (.int a), some (.int q), some (.int t), none]) (μ2 := μ) rfl (by simp [e1, startR])]
    rw [seq_asg (d := .int ((t : Int) + 1)) (μ1 := μ) (ρ2 := [some (.ref k), some (.int j), some (.ref c), some (.int a), some (.int q), some (.int t), none]) (μ2 := μ1) rfl (by simp [s1])]
  have third : ∀ {rest : MS}, (sSeq (sAsg (mBin fdivD (mVar 4) (mVar 1)) (gSubM setDD (mVar 0) (mC (.int 2)))) rest) [some (.ref k), some (.int j), some (.ref c), some (.int a), some (.int q2), some (.int t), none] μ2 = rest [some (.ref k), some (.int j), some (.ref c), some (.int a), some (.int q2), some (.int t), none] μ3 := fun {rest} =>
    seq_asg (d := .int ((q2 : Int) / j)) (μ1 := μ2) (by simp [fdiv_ok hj hj2]) (by simp [s3])
  by_cases hr : (0 : Int) < q2
  · obtain ⟨r1, r2⟩ := mod_rng (i := (q2 : Int)) hj
    refine ⟨(q2 : Int) % j, μ3, run_is (begin_.trans ((seq_run step).trans (third.trans (seq_ret ((if_t (μ1 := μ3) (by simp [cmpI]; omega)).trans (ret_is ?_)))))), r1, r2, st, kk⟩
    simp [mod_ok hj]
  · have hb : ∀ {x : Int}, 0 ≤ x → x < 2305843009213693951 → x.natAbs < 18446744073709551616 := fun h1 h2 => by omega
    have hp3 : ((t : Int) * 48271 + 12345).natAbs < 18446744073709551616 := by omega
    obtain ⟨a1, b1⟩ := mod_rng (i := ((t : Int) * 48271 + 12345) ^ 3) (j := 2305843009213693951) (by decide)
    generalize hx1 : ((t : Int) * 48271 + 12345) ^ 3 % 2305843009213693951 = x1 at a1 b1
    let ρ (v : Option D) : Rho := [some (.ref k), some (.int j), some (.ref c), some (.int a), some (.int q2), some (.int t), v]
    have w1 : ∀ {rest : MS}, (sSeq (sSet 6 (mBin modD (mBin powD (mBin addD (mBin mulD (mVar 5) (mC (.int 48271))) (mC (.int 12345))) (mC (.int 3))) (mC (.int 2305843009213693951)))) rest) (ρ none) μ3 = rest (ρ (some (.int x1))) μ3 := fun {rest} => by
      have pw : powD (.int ((t : Int) * 48271 + 12345)) (.int 3) μ3 = .ok (.int (((t : Int) * 48271 + 12345) ^ 3)) μ3 := by
        simp only [powD]
        rw [if_pos ⟨by decide, by decide, hp3⟩]; rfl
      exact (seq_set (d := .int x1) (μ1 := μ3) (by simp [ρ, mul_ok, add_ok, pw, mod_ok, hx1])).trans rfl
    -- mixed with a cell
    obtain ⟨x2, w2⟩ : ∃ x2 : Int, ∀ {rest : MS}, (sSeq (sIf (mTest (mBin neD (mVar 2) (mLst (mNil)))) (sSet 6 (mBin addD (mVar 6) (mBin mulD (mBin modD (mBin idxA (mVar 2) (mBin modD (mBin mulD (mVar 5) (mC (.int 7))) (mB lenL (mCons (mVar 2) (mNil))))) (mC (.int 2305843009213693951))) (mBin addD (mVar 5) (mC (.int 3)))))) (sNil)) rest) (ρ (some (.int x1))) μ3 = rest (ρ (some (.int x2))) (μ3 ++ [.lst []]) := by
      have e24 : (μ3 ++ [Cell.lst []])[c]? = some (.lst (cs.map .int)) := app_at e23
      have ne := lst_ne (n := μ3.length) e24 app_new
      cases hcs : cs.isEmpty with
      | true =>
        rw [hcs] at ne
        refine ⟨x1, fun {rest} => seq_skip (μ1 := μ3 ++ [.lst []]) ?_⟩
        simp [ρ, ne]
      | false =>
        rw [hcs] at ne
        have hpos : (0 : Int) < cs.length := by
          cases cs with
          | nil => cases hcs
          | cons a l => simp
        obtain ⟨m1, m2⟩ := mod_rng (i := (t : Int) * 7) hpos
        obtain ⟨y, ey⟩ : ∃ y, cs[((t : Int) * 7 % cs.length).toNat]? = some y := ⟨_, List.getElem?_eq_getElem (by omega)⟩
        have ix : idxA (.ref c) (.int ((t : Int) * 7 % cs.length)) (μ3 ++ [.lst []]) = .ok (.int y) (μ3 ++ [.lst []]) := ix_lst e24 m1 (by rw [List.getElem?_map, ey]; rfl)
        have h3 : ((t : Int) + 3).natAbs < 18446744073709551616 := by omega
        refine ⟨x1 + y % 2305843009213693951 * ((t : Int) + 3), fun {rest} => (seq_run ((if_t (μ1 := μ3 ++ [.lst []]) ?_).trans (set_is (d := .int (x1 + y % 2305843009213693951 * ((t : Int) + 3))) (μ' := μ3 ++ [.lst []]) ?_))).trans rfl⟩
        · simp [ρ, ne]
        · have ll : lenL [.ref c] (μ3 ++ [.lst []]) = .ok (.int cs.length) (μ3 ++ [.lst []]) := by simp only [lenL, e24, List.length_map]
          have mm : mulD (.int (t : Int)) (.int 7) (μ3 ++ [.lst []]) = .ok (.int ((t : Int) * 7)) (μ3 ++ [.lst []]) := mul_ok (.inr (by decide))
          have md : modD (.int ((t : Int) * 7)) (.int cs.length) (μ3 ++ [.lst []]) = .ok (.int ((t : Int) * 7 % cs.length)) (μ3 ++ [.lst []]) := mod_ok hpos
          have md2 : modD (.int y) (.int 2305843009213693951) (μ3 ++ [.lst []]) = .ok (.int (y % 2305843009213693951)) (μ3 ++ [.lst []]) := mod_ok (by decide)
          have mm2 : mulD (.int (y % 2305843009213693951)) (.int ((t : Int) + 3)) (μ3 ++ [.lst []]) = .ok (.int (y % 2305843009213693951 * ((t : Int) + 3))) (μ3 ++ [.lst []]) := mul_ok (.inr h3)
          simp only [mBin, mB, mCons, mNil, mC, mVar, ρ, List.getElem?_cons_succ, List.getElem?_cons_zero, Res.bind, mm, ll, md, ix, md2, add_ok, mm2]
    obtain ⟨a3, b3⟩ := mod_rng (i := x2) (j := 2305843009213693951) (by decide)
    generalize hx3 : x2 % 2305843009213693951 = x3 at a3 b3
    obtain ⟨r1, r2⟩ := mod_rng (i := x3 * x3 % 2305843009213693951 / 16) hj
    refine ⟨_, μ3 ++ [.lst []], run_is (begin_.trans ((seq_run step).trans (third.trans ((seq_skip (μ1 := μ3) (by simp [cmpI]; omega)).trans (w1.trans (w2.trans ?_)))))), r1, r2, st.app, kk.trans Keep.app⟩
    refine (seq_set (d := .int x3) (μ1 := μ3 ++ [.lst []]) (by simp [ρ, mod_ok, hx3])).trans ?_
    exact ret_is (by simp [ρ, mul_ok (.inl (hb a3 b3)), fdiv_ok, mod_ok, mod_ok hj])
end
end K86

/-! S2: the stream made; numbers of a range, drawn. -/
namespace K86
open PySem L2 RW
theorem cut63 (ns : List Int) (hn : ns.length ≤ 63) : cutD (ns.map D.int) none (some 63) = ns.map D.int := by
  have e : HT.sIx ns.length ns.length (some 63) = min 63 ns.length := HT.sIx_nat _ _ 63
  unfold cutD
  rw [List.length_map, HT.sIx_none, e, Nat.min_eq_right hn]
  simp only [List.drop_zero, Nat.sub_zero]
  rw [List.take_of_length_le (by simp)]
theorem stream_spec (ns : List Int) (own : Nat) (hn : ns.length ≤ 63) : ∃ (k c : Nat) (μ : Mem), m_law_stream [.frl (ns.map D.int), .int own] [] = .ok (.ref k) μ ∧ Stm μ k c own := by
  let as : List Int := ns.map fun x => if x < 0 then -x else x
  have hs : mSlc (mVar 0) oNone (oSome (mC (.int 63))) (startR 3 [.frl (ns.map D.int), .int own]) [] = .ok (.ref 0) [.lst (ns.map D.int)] := by
    simp [startR, slcD, cut63 ns hn]
  have hc := comp_map (chk := fun μ' => μ'[0]? = some (.lst (ns.map D.int))) (i := 2) (te := mB absL (mCons (mVar 2) (mNil))) (ρ0 := wipeR (startR 3 [.frl (ns.map D.int), .int own]) [2]) ns (fun x => if x < 0 then -x else x) [.lst (ns.map D.int)] rfl (fun x _ => by simp [wipeR, startR, absL]) (by omega)
  have c1 := comp_is (tt := mYes) (own := [2]) (seq_lst hs rfl) hc
  have e1 : ([Cell.lst (ns.map D.int)] ++ [.lst (as.map D.int), .lst [.ref 1, .int 0, .int 0, .int own]])[2]? = some (.lst [.ref 1, .int 0, .int 0, .int own]) := rfl
  refine ⟨2, 1, [.lst (ns.map D.int)] ++ [.lst (as.map D.int), .lst [.ref 1, .int 0, .int 0, .int own]], run_is (ret_is ?_), by decide, as, 0, 0, own, rfl, rfl, fun x hx => ?_, by simp [as, hn], Nat.le_refl _⟩
  · rw [mLst, mCons, c1]
    rfl
  · obtain ⟨y, -, rfl⟩ := List.mem_map.mp hx
    split <;> omega
/-- numbers of a range, each where a draw says so -/
theorem pick_spec {μ : Mem} {k c N : Nat} {ρ0 : Rho} {te : MD} {P : Int → Prop} {e : Int → Int → D} {i n : Nat} {lo : Int} (h : Stm μ k c N) (hN : N + 2 * n < 1000000) (hk : ρ0[0]? = some (some (.ref k))) (hi : i ≠ 0)
    (ht : ∀ (x : Int) (μ1 : Mem) (M : Nat), lo ≤ x → x < lo + n → Stm μ1 k c M → M < 1000000 → ∃ (v : Int) (μ2 : Mem), te (ρ0.set i (some (.int x))) μ1 = .ok (e x v) μ2 ∧ P v ∧ Stm μ2 k c (M + 1) ∧ Keep [k] μ1 μ2) :
    ∃ (xs : List (Int × Int)) (μ' : Mem), compL (fun _ => True) (gN i) (mTest (mBin eqD (mB m_law_take (mCons (mVar 0) (mCons (mC (.int 4)) (mNil)))) (mC (.int 0)))) te ρ0 (rangeItems lo n) [] μ = .ok (xs.map fun p => e p.1 p.2) μ' ∧
      (xs.map (·.1)).Pairwise (· < ·) ∧ (∀ x ∈ xs, lo ≤ x.1 ∧ x.1 < lo + n ∧ P x.2) ∧ xs.length ≤ n ∧ Stm μ' k c (N + 2 * n) ∧ Keep [k] μ μ' := by
  have key := compL_ok (chk := fun _ => True) (g := gN i) (tt := mTest (mBin eqD (mB m_law_take (mCons (mVar 0) (mCons (mC (.int 4)) (mNil)))) (mC (.int 0)))) (te := te) (ρ0 := ρ0) (rangeItems lo n)
    (fun j acc μ' => j ≤ n ∧ ∃ xs : List (Int × Int), acc = (xs.map fun p => e p.1 p.2) ∧ (xs.map (·.1)).Pairwise (· < ·) ∧ (∀ x ∈ xs, lo ≤ x.1 ∧ x.1 < lo + j ∧ P x.2) ∧ xs.length ≤ j ∧ Stm μ' k c (N + 2 * j) ∧ Keep [k] μ μ') 0 (acc := []) (μ := μ)
    ⟨Nat.zero_le _, [], rfl, .nil, by simp, Nat.le_refl _, h, .refl⟩ (fun _ _ _ _ => trivial)
    (fun j d acc μ' ed ⟨hj, xs, ea, pw, ha, hl, hs, kk⟩ => by
      simp only [Nat.zero_add] at hj ha hl hs ⊢
      obtain ⟨hj2, rfl⟩ := Q.range_at ed
      obtain ⟨y, μ1, q, y0, y1, s1, k1⟩ := take_spec (j := 4) hs (by omega) (by decide) (by decide)
      have v0 : (ρ0.set i (some (.int (lo + (j : Int)))))[0]? = some (some (.ref k)) := by rw [List.getElem?_set_ne hi]; exact hk
      refine .mk (μ := μ') rfl (.mk (a := decide (y = 0)) (μ := μ1) ?_ ?_)
      · simp only [mTest, mBin, mB, mCons, mVar, mC, mNil, v0, Res.bind, q, eqI]
      · by_cases hy : y = 0
        · rw [if_pos (by simpa using hy)]
          obtain ⟨v, μ2, w, hv, s2, k2⟩ := ht (lo + (j : Int)) μ1 (N + 2 * j + 1) (by omega) (by omega) s1 (by omega)
          refine ⟨by rw [ea, List.length_map, sizeLine_eq]; omega, .mk w ⟨by omega, xs ++ [(lo + (j : Int), v)], by rw [ea]; simp, ?_, fun x hx => ?_, by simp; omega, s2.mono (by omega), (kk.trans k1).trans k2⟩⟩
          · rw [List.map_append, List.pairwise_append]
            refine ⟨pw, by simp, fun a ha' b hb => ?_⟩
            obtain ⟨x, hx, rfl⟩ := List.mem_map.mp ha'
            simp at hb
            have := (ha x hx).2.1
            omega
          · rcases List.mem_append.mp hx with hx | hx
            · obtain ⟨a1, a2, a3⟩ := ha x hx
              exact ⟨a1, by omega, a3⟩
            · simp at hx
              subst hx
              exact ⟨by simp; omega, by simp; omega, hv⟩
        · rw [if_neg (by simpa using hy)]
          exact ⟨by omega, xs, ea, pw, fun x hx => (by obtain ⟨a1, a2, a3⟩ := ha x hx; exact ⟨a1, by omega, a3⟩), by omega, s1.mono (by omega), kk.trans k1⟩)
  rw [Q.range_len, Nat.zero_add] at key
  obtain ⟨l, μ', w, _, xs, rfl, pw, ha, hl, hs, kk⟩ := key
  exact ⟨xs, μ', w, pw, ha, hl, hs, kk⟩
end K86

/-! S90: what far houses want where there are no small ones. -/
namespace K86
open PySem L2 RW
theorem cut_to {l : List D} {n : Nat} : cutD l none (some (n : Int)) = l.take n := by
  have e : HT.sIx l.length l.length (some (n : Int)) = min n l.length := HT.sIx_nat _ _ n
  unfold cutD
  rw [HT.sIx_none, e]
  simp only [List.drop_zero, Nat.sub_zero]
  by_cases h : n ≤ l.length
  · rw [Nat.min_eq_left h]
  · rw [Nat.min_eq_right (by omega), List.take_of_length_le (by omega), List.take_of_length_le (by omega)]
theorem call1e {f : Sem} {x : MD} {ρ : Rho} {μ μ1 : Mem} {p d : D} (h1 : x ρ μ = .ok p μ) (h : f [p] μ = .ok d μ1) : mB f (mCons x mNil) ρ μ = .ok d μ1 := by
  simp only [mB, mCons, mNil, h1, Res.bind, h]
theorem call4 {f : Sem} {x y z w : MD} {ρ : Rho} {μ μ1 : Mem} {p q r s d : D} (h1 : x ρ μ = .ok p μ) (h2 : y ρ μ = .ok q μ) (h3 : z ρ μ = .ok r μ) (h4 : w ρ μ = .ok s μ) (h : f [p, q, r, s] μ = .ok d μ1) : mB f (mCons x (mCons y (mCons z (mCons w mNil)))) ρ μ = .ok d μ1 := by
  simp only [mB, mCons, mNil, h1, h2, h3, h4, Res.bind, h]
theorem bin_is {f : D → D → Mem → Res D} {x y : MD} {ρ : Rho} {μ μ1 μ2 μ3 : Mem} {p q d : D} (h1 : x ρ μ = .ok p μ1) (h2 : y ρ μ1 = .ok q μ2) (h : f p q μ2 = .ok d μ3) : mBin f x y ρ μ = .ok d μ3 := by
  simp only [mBin, h1, h2, Res.bind, h]
theorem call3 {f : Sem} {x y z : MD} {ρ : Rho} {μ1 : Mem} {p q r d : D} (h1 : x ρ μ = .ok p μ) (h2 : y ρ μ = .ok q μ) (h3 : z ρ μ = .ok r μ) (h : f [p, q, r] μ = .ok d μ1) : mB f (mCons x (mCons y (mCons z mNil))) ρ μ = .ok d μ1 := by
  simp only [mB, mCons, mNil, h1, h2, h3, Res.bind, h]
theorem call2e {f : Sem} {x y : MD} {ρ : Rho} {μ μ1 : Mem} {p q d : D} (h1 : x ρ μ = .ok p μ) (h2 : y ρ μ = .ok q μ) (h : f [p, q] μ = .ok d μ1) : mB f (mCons x (mCons y mNil)) ρ μ = .ok d μ1 := by
  simp only [mB, mCons, mNil, h1, h2, Res.bind, h]
theorem call5 {f : Sem} {x y z w v : MD} {ρ : Rho} {μ μ1 : Mem} {p q r s t d : D} (h1 : x ρ μ = .ok p μ) (h2 : y ρ μ = .ok q μ) (h3 : z ρ μ = .ok r μ) (h4 : w ρ μ = .ok s μ) (h5 : v ρ μ = .ok t μ) (h : f [p, q, r, s, t] μ = .ok d μ1) : mB f (mCons x (mCons y (mCons z (mCons w (mCons v mNil))))) ρ μ = .ok d μ1 := by
  simp only [mB, mCons, mNil, h1, h2, h3, h4, h5, Res.bind, h]
theorem for_is0 {it : MIt} {g : MG} {body : MS} {ρ : Rho} {μ μ1 μ' : Mem} {items : List D} {chk : Mem → Prop} {f : Fl} (h1 : it ρ μ = .ok (items, chk) μ1) (h2 : forL chk g body items ρ μ1 = .ok f μ') : sFor it g body ρ μ = .ok f μ' := by
  simp only [sFor, h1, onE, h2]
end K86

/-! S21: far numbers. -/
namespace K86
open PySem L2 RW
section
variable {μ : Mem} {k c N : Nat}
theorem far_spec' {M : Int} (h : Stm μ k c N) (hN : N + 3 < 1000000) (h1 : 1 ≤ M) (h2 : M ≤ 1000000000000000) : ∃ (x : Int) (μ' : Mem), m_law_far [.ref k, .int M] μ = .ok (.int x) μ' ∧ 0 ≤ x ∧ x < M ∧ Stm μ' k c (N + 3) ∧ Keep [k] μ μ' := by
  have l0 := h.lt
  let L : List D := [.int M, .int 10, .int 1000, .int 1000000000]
  have s0 : Stm (μ ++ [.lst L]) k c N := h.app
  obtain ⟨y, μ1, q1, y0, y1, s1, k1⟩ := take_spec (j := 4) s0 (by omega) (by decide) (by decide)
  have e1 : μ1[μ.length]? = some (.lst L) := k1.get app_new (by simp; omega)
  obtain ⟨v, ev, hv⟩ : ∃ v : Int, L[y.toNat]? = some (.int v) ∧ 1 ≤ v := by
    have : y = 0 ∨ y = 1 ∨ y = 2 ∨ y = 3 := by omega
    rcases this with rfl | rfl | rfl | rfl
    · exact ⟨M, rfl, h1⟩
    · exact ⟨10, rfl, by decide⟩
    · exact ⟨1000, rfl, by decide⟩
    · exact ⟨1000000000, rfl, by decide⟩
  have ix : idxA (.ref μ.length) (.int y) μ1 = .ok (.int v) μ1 := ix_lst e1 y0 ev
  obtain ⟨w, hw, w1, w2⟩ : ∃ w : Int, min2L [.int M, .int v] μ1 = .ok (.int w) μ1 ∧ 1 ≤ w ∧ w ≤ M := by
    refine ⟨if v < M then v else M, by simp only [min2L], ?_, ?_⟩ <;> split <;> omega
  obtain ⟨z, μ2, q2, z0, z1, s2, k2⟩ := take_spec (j := w) s1 (by omega) (by omega) (by omega)
  let L2 : List D := [.int z, .int (M - 1 - z)]
  have s2' : Stm (μ2 ++ [.lst L2]) k c (N + 1 + 1) := s2.app
  have l2 := s2.lt
  obtain ⟨u, μ3, q3, u0, u1, s3, k3⟩ := take_spec (j := 4) s2' (by omega) (by decide) (by decide)
  have e3 : μ3[μ2.length]? = some (.lst L2) := k3.get app_new (by simp; omega)
  obtain ⟨x, ex, x0, x1⟩ : ∃ x : Int, idxA (.ref μ2.length) (.int (if decide (u = 0) = true then 1 else 0)) μ3 = .ok (.int x) μ3 ∧ 0 ≤ x ∧ x < M := by
    by_cases hu : u = 0
    · exact ⟨M - 1 - z, by rw [if_pos (by simpa using hu)]; exact ix_lst e3 (by decide) rfl, by omega, by omega⟩
    · exact ⟨z, by rw [if_neg (by simpa using hu)]; exact ix_lst e3 (by decide) rfl, by omega, by omega⟩
  refine ⟨x, μ3, run_is ?_, x0, x1, s3, ((Keep.trans Keep.app k1).trans k2).trans (Keep.trans Keep.app k3)⟩
  unfold b_law_far
  have t2 : mB min2L (mCons (mVar 1) (mCons (mBin idxA (mLst (mCons (mVar 1) (mCons (mC (.int 10)) (mCons (mC (.int 1000)) (mCons (mBin powD (mC (.int 10)) (mC (.int 9))) (mNil)))))) (mB m_law_take (mCons (mVar 0) (mCons (mC (.int 4)) (mNil))))) (mNil))) (startR 4 [.ref k, .int M]) μ = .ok (.int w) μ1 := by
    simp [startR, powD, q1, L, ix, hw]
  refine (seq_set t2).trans ?_
  have z2 : (startR 4 [.ref k, .int M]).set 2 (some (.int w)) = [some (.ref k), some (.int M), some (.int w), none] := by simp [startR]
  rw [z2]
  have t3 : mB m_law_take (mCons (mVar 0) (mCons (mVar 2) (mNil))) [some (.ref k), some (.int M), some (.int w), none] μ1 = .ok (.int z) μ2 := by simp [q2]
  refine (seq_set t3).trans (ret_is ?_)
  simp [subD, q3, eqI, intL, L2]
  simpa using ex
theorem far_spec {M : Int} (h : Stm μ k c N) (hN : N + 3 < 1000000) (h1 : 1 ≤ M) (h2 : M ≤ 1000000000000) : ∃ (x : Int) (μ' : Mem), m_law_far [.ref k, .int M] μ = .ok (.int x) μ' ∧ 0 ≤ x ∧ x < M ∧ Stm μ' k c (N + 3) ∧ Keep [k] μ μ' := far_spec' h hN h1 (by omega)
end
end K86

/-! S25a: so many things, each by draws. -/
namespace K86
open PySem L2 RW
theorem usort_len : ∀ ys : List Int, (usort ys).length ≤ ys.length := fun ys => by
  induction ys with
  | nil => simp [usort]
  | cons y ys ih =>
    unfold usort
    split
    · simp; omega
    · rw [(insI_perm y _).length_eq]; simp; omega
theorem slc_to {a b : MD} {ρ : Rho} {μ μ1 μ2 μ3 : Mem} {x d : D} {j : Int} (h1 : a ρ μ = .ok x μ1) (h2 : b ρ μ1 = .ok (.int j) μ2) (h3 : slcD x none (some j) μ2 = .ok d μ3) : mSlc a oNone (oSome b) ρ μ = .ok d μ3 := by
  simp only [mSlc, h1, Res.bind, oNone, oSome, h2, h3]
section
variable {μ : Mem} {k c N : Nat}
/-- of each number of a list a thing with w draws -/
theorem eachW_spec {chk : Mem → Prop} {ρ0 : Rho} {te : MD} {P : Int → Int → Prop} {e : Int → Int → D} {i w : Nat} {ns : List Int} (h : Stm μ k c N) (hN : N + w * ns.length < 1000000) (hl : ns.length ≤ 1000) (hc : ∀ μ', Keep [k] μ μ' → chk μ')
    (ht : ∀ (x : Int) (μ1 : Mem) (M : Nat), x ∈ ns → Stm μ1 k c M → M + w < 1000000 → ∃ (v : Int) (μ2 : Mem), te (ρ0.set i (some (.int x))) μ1 = .ok (e x v) μ2 ∧ P x v ∧ Stm μ2 k c (M + w) ∧ Keep [k] μ1 μ2) :
    ∃ (xs : List (Int × Int)) (μ' : Mem), compL chk (gN i) mYes te ρ0 (ns.map D.int) [] μ = .ok (xs.map fun p => e p.1 p.2) μ' ∧ xs.map (·.1) = ns ∧ (∀ x ∈ xs, P x.1 x.2) ∧ Stm μ' k c (N + w * ns.length) ∧ Keep [k] μ μ' := by
  have key := compL_ok (chk := chk) (g := gN i) (tt := mYes) (te := te) (ρ0 := ρ0) (ns.map D.int)
    (fun j acc μ' => j ≤ ns.length ∧ ∃ xs : List (Int × Int), acc = (xs.map fun p => e p.1 p.2) ∧ xs.map (·.1) = ns.take j ∧ (∀ x ∈ xs, P x.1 x.2) ∧ Stm μ' k c (N + w * j) ∧ Keep [k] μ μ') 0 (acc := []) (μ := μ)
    ⟨Nat.zero_le _, [], rfl, by simp, by simp, h, .refl⟩ (fun _ _ _ ⟨_, _, _, _, _, _, kk⟩ => hc _ kk)
    (fun j d acc μ' ed ⟨hj, xs, ea, em, hp, hs, kk⟩ => by
      simp only [Nat.zero_add] at hj em hs ⊢
      rw [List.getElem?_map] at ed
      obtain ⟨x, ex, rfl⟩ := Option.map_eq_some_iff.mp ed
      have hj2 := (List.getElem?_eq_some_iff.mp ex).1
      have hw : w * j + w ≤ w * ns.length := by
        have : w * (j + 1) ≤ w * ns.length := Nat.mul_le_mul_left w hj2
        rwa [Nat.mul_add, Nat.mul_one] at this
      obtain ⟨v, μ2, q, hv, s2, k2⟩ := ht x μ' (N + w * j) (List.mem_of_getElem? ex) hs (by omega)
      refine .mk (μ := μ') rfl (.mk (μ := μ') rfl ?_)
      rw [if_pos rfl]
      have hl : xs.length = j := by
        have := congrArg List.length em
        rw [List.length_map, List.length_take] at this
        omega
      refine ⟨by rw [ea, List.length_map, sizeLine_eq]; omega, .mk q ⟨by omega, xs ++ [(x, v)], by rw [ea]; simp, by rw [List.map_append, em, List.take_add_one, ex]; rfl, fun z hz => ?_, by rw [show N + w * (j + 1) = N + w * j + w by rw [Nat.mul_add, Nat.mul_one]; omega]; exact s2, kk.trans k2⟩⟩
      rcases List.mem_append.mp hz with hz | hz
      · exact hp z hz
      · simp at hz; subst hz; exact hv)
  rw [List.length_map, Nat.zero_add] at key
  obtain ⟨l, μ', q, _, xs, rfl, em, hp, hs, kk⟩ := key
  rw [List.take_length] at em
  exact ⟨xs, μ', q, em, hp, hs, kk⟩
theorem range_upTo {n : Nat} : rangeItems 0 n = (upTo n).map D.int := by
  unfold rangeItems upTo
  rw [List.map_map]
  refine List.map_congr_left fun i _ => ?_
  show D.int (0 + (i : Int)) = D.int (i : Int)
  rw [Int.zero_add]
/-- so many numbers, each by w draws -/
theorem nums_spec {ρ0 : Rho} {te : MD} {P : Int → Prop} {i w n : Nat} (h : Stm μ k c N) (hN : N + w * n < 1000000) (hn : n ≤ 1000)
    (ht : ∀ (x : Int) (μ1 : Mem) (M : Nat), Stm μ1 k c M → M + w < 1000000 → ∃ (v : Int) (μ2 : Mem), te (ρ0.set i (some (.int x))) μ1 = .ok (.int v) μ2 ∧ P v ∧ Stm μ2 k c (M + w) ∧ Keep [k] μ1 μ2) :
    ∃ (ns : List Int) (μ' : Mem), compL (fun _ => True) (gN i) mYes te ρ0 (rangeItems 0 n) [] μ = .ok (ns.map D.int) μ' ∧ ns.length = n ∧ (∀ x ∈ ns, P x) ∧ Stm μ' k c (N + w * n) ∧ Keep [k] μ μ' := by
  obtain ⟨xs, μ', q, em, hp, hs, kk⟩ := eachW_spec (chk := fun _ => True) (ρ0 := ρ0) (te := te) (P := fun _ v => P v) (e := fun _ v => .int v) (i := i) (w := w) (ns := upTo n) h (by rw [upTo_len]; exact hN) (by rw [upTo_len]; exact hn) (fun _ _ => trivial) (fun x μ1 M _ hs hM => ht x μ1 M hs hM)
  rw [upTo_len] at hs
  refine ⟨xs.map (·.2), μ', ?_, ?_, fun x hx => ?_, hs, kk⟩
  · rw [range_upTo, q, List.map_map]; rfl
  · rw [List.length_map, ← upTo_len n, ← em, List.length_map]
  · obtain ⟨z, hz, rfl⟩ := List.mem_map.mp hx
    exact hp z hz
end
end K86

/-! S25: what lies on a far pipe. -/
namespace K86
open PySem L2 RW
section
variable {μ : Mem} {k c N : Nat}
def rhoF (k pp q : Nat) (r L : Int) (v1 v2 o7 o8 o9 o10 : Option D) : Rho := [some (.ref k), v1, v2, some (.ref pp), some (.ref q), some (.int r), some (.int L), o7, o8, o9, o10, none, none]
variable {pp q : Nat} {r L : Int} {v1 v2 o7 o8 o9 o10 : Option D}
theorem ats_part (h : Stm μ k c N) (hN : N + 10 < 1000000) (h1 : 1 ≤ L) (h2 : L ≤ 1000000000000) : ∃ (ns : List Int) (n : Nat) (μ' : Mem), mComp (iRange1 (mCons (mBin mulD (mB m_law_take (mCons (mVar 0) (mCons (mC (.int 3)) (mNil)))) (mB intL (mCons (mBin (cmpI fun i j => decide (j < i)) (mVar 6) (mC (.int 1))) (mNil)))) (mNil))) (gN 11) (mYes) (mBin addD (mC (.int 1)) (mB m_law_far (mCons (mVar 0) (mCons (mB max2L (mCons (mC (.int 1)) (mCons (mBin subD (mVar 6) (mC (.int 1))) (mNil)))) (mNil))))) [11] (rhoF k pp q r L v1 v2 o7 o8 o9 o10) μ = .ok (.ref n) μ' ∧ μ'[n]? = some (.lst (ns.map D.int)) ∧ ns.length ≤ 2 ∧ (∀ x ∈ ns, 1 ≤ x ∧ x ≤ L - 1) ∧ Stm μ' k c (N + 7) ∧ Keep [k] μ μ' ∧ μ.length ≤ n := by
  obtain ⟨x, μ1, q1, x0, x1, s1, k1⟩ := take_spec (j := 3) h (by omega) (by decide) (by decide)
  obtain ⟨n, hn, hn2⟩ : ∃ n : Nat, x * (if decide (1 < L) = true then 1 else 0) = (n : Int) ∧ n ≤ 2 ∧ (0 < n → 1 < L) := by
    by_cases hL : 1 < L
    · exact ⟨x.toNat, by rw [if_pos (by simpa using hL)]; omega, by omega, fun _ => hL⟩
    · exact ⟨0, by rw [if_neg (by simpa using hL)]; omega, by omega, fun z => absurd z (by omega)⟩
  have hb : (if decide (1 < L) = true then (1 : Int) else 0).natAbs < 18446744073709551616 := by split <;> decide
  have rg : iRange1 (mCons (mBin mulD (mB m_law_take (mCons (mVar 0) (mCons (mC (.int 3)) (mNil)))) (mB intL (mCons (mBin (cmpI fun i j => decide (j < i)) (mVar 6) (mC (.int 1))) (mNil)))) (mNil)) (rhoF k pp q r L v1 v2 o7 o8 o9 o10) μ = .ok (rangeItems 0 n, fun _ => True) μ1 := by
    have e : mBin mulD (mB m_law_take (mCons (mVar 0) (mCons (mC (.int 3)) (mNil)))) (mB intL (mCons (mBin (cmpI fun i j => decide (j < i)) (mVar 6) (mC (.int 1))) (mNil))) (rhoF k pp q r L v1 v2 o7 o8 o9 o10) μ = .ok (.int n) μ1 := by
      simp only [mBin, mB, mCons, mNil, mC, mVar, rhoF, List.getElem?_cons_succ, List.getElem?_cons_zero, Res.bind, q1, cmpI, intL, mul_ok (.inr hb), hn]
    have e2 := range1_ok (n := n) (μ := μ1) (by omega)
    simp only [iRange1, mCons, mNil, e, Res.bind, e2]
  obtain ⟨ns, μ2, q2, hl, hp, s2, k2⟩ := nums_spec (ρ0 := wipeR (rhoF k pp q r L v1 v2 o7 o8 o9 o10) [11]) (te := mBin addD (mC (.int 1)) (mB m_law_far (mCons (mVar 0) (mCons (mB max2L (mCons (mC (.int 1)) (mCons (mBin subD (mVar 6) (mC (.int 1))) (mNil)))) (mNil))))) (P := fun v => 0 < n → 1 ≤ v ∧ v ≤ L - 1) (i := 11) (w := 3) (n := n) s1 (by omega) (by omega)
    (fun x μ1 M hs hM => by
      obtain ⟨m, hm, hm1, hm2, hm3⟩ : ∃ m : Int, max2L [.int 1, .int (L - 1)] μ1 = .ok (.int m) μ1 ∧ 1 ≤ m ∧ m ≤ 1000000000000 ∧ (1 < L → m = L - 1) := by
        by_cases hL : 1 < L - 1
        · exact ⟨L - 1, by simp only [max2L, if_pos hL], by omega, by omega, fun _ => rfl⟩
        · exact ⟨1, by simp only [max2L, if_neg hL], by omega, by omega, fun _ => by omega⟩
      obtain ⟨v, μ2, qq, v0, v1', s, kk⟩ := far_spec (M := m) hs (by omega) hm1 hm2
      refine ⟨1 + v, μ2, ?_, fun z => ?_, s, kk⟩
      · simp [wipeR, rhoF, subD, hm, qq, add_ok]
      · have := hm3 (hn2.2 z); omega)
  refine ⟨ns, μ2.length, μ2 ++ [.lst (ns.map D.int)], comp_is rg q2, app_new, by omega, fun x hx => hp x hx ?_, (s2.app).mono (by omega), (k1.trans k2).trans Keep.app, (k1.trans k2).1⟩
  rw [← hl]; exact List.length_pos_of_mem hx
theorem nar_part {n : Nat} {ns : List Int} {b : D} {left : Nat} (h : Stm μ k c N) (hN : N + 10 < 1000000) (en : μ[n]? = some (.lst (ns.map D.int))) (hnk : n ≠ k) (hl : ns.length ≤ 2) (hr : ∀ x ∈ ns, 1 ≤ x ∧ x ≤ L - 1) (eq : μ[q]? = some (.lst [.int left, b])) (hqk : q ≠ k) :
    ∃ (xs : List (Int × Int)) (m : Nat) (μ' : Mem), mSlc (mComp (iSeq (mB sortedA (mCons (mB setL (mCons (mVar 7) (mNil))) (mNil)))) (gN 12) (mYes) (mTup (mCons (mVar 12) (mCons (mBin addD (mC (.int 1)) (mB m_law_take (mCons (mVar 0) (mCons (mC (.int 3)) (mNil))))) (mNil)))) [12]) oNone (oSome (mBin idxA (mVar 4) (mC (.int 0)))) (rhoF k pp q r L v1 v2 (some (.ref n)) o8 o9 o10) μ = .ok (.ref m) μ' ∧ μ'[m]? = some (.lst (xs.map pairD)) ∧ xs.length ≤ left ∧ (xs.map (·.1)).Pairwise (· < ·) ∧ (∀ x ∈ xs, 1 ≤ x.1 ∧ x.1 ≤ L - 1 ∧ 1 ≤ x.2 ∧ x.2 ≤ 3) ∧ Stm μ' k c (N + 2) ∧ Keep [k] μ μ' ∧ μ.length ≤ m := by
  have h3 : intsAt (.ref n) μ = some ns := by simp [intsAt, en]
  have ul := usort_len ns
  let μ1 : Mem := (μ ++ [.iset (usort ns)]) ++ [.lst ((usort ns).map D.int)]
  have h4 : (μ ++ [Cell.iset (usort ns)])[μ.length]? = some (.iset (usort ns)) := app_new
  have e1 : (mB sortedA (mCons (mB setL (mCons (mVar 7) (mNil))) (mNil))) (rhoF k pp q r L v1 v2 (some (.ref n)) o8 o9 o10) μ = .ok (.ref (μ ++ [Cell.iset (usort ns)]).length) μ1 := by
    simp only [mB, mCons, mNil, mVar, rhoF, List.getElem?_cons_succ, List.getElem?_cons_zero, Res.bind, setL, h3, if_pos (show ns.length ≤ 4000 by omega), sortedA, sortedL, h4, if_pos (show (usort ns).length < 64 by omega), μ1]
  have l0 := h.lt
  have s1 : Stm μ1 k c N := (h.app).app
  have en1 : μ1[(μ ++ [Cell.iset (usort ns)]).length]? = some (.lst ((usort ns).map D.int)) := app_new
  obtain ⟨xs, μ2, q2, em, hp, s2, k2⟩ := eachW_spec (chk := fun μ' => μ'[(μ ++ [Cell.iset (usort ns)]).length]? = some (.lst ((usort ns).map D.int))) (ρ0 := wipeR (rhoF k pp q r L v1 v2 (some (.ref n)) o8 o9 o10) [12]) (te := mTup (mCons (mVar 12) (mCons (mBin addD (mC (.int 1)) (mB m_law_take (mCons (mVar 0) (mCons (mC (.int 3)) (mNil))))) (mNil)))) (P := fun _ v => 1 ≤ v ∧ v ≤ 3) (e := fun x v => .tup [.int x, .int v]) (i := 12) (w := 1) (ns := usort ns) s1 (by omega) (by omega) (fun μ' kk => kk.get en1 (by simp; omega))
    (fun x μ1 M _ hs hM => by
      obtain ⟨v, μ2, qq, v0, v1', s, kk⟩ := take_spec (j := 3) hs (by omega) (by decide) (by decide)
      exact ⟨1 + v, μ2, by simp [wipeR, rhoF, qq, add_ok], ⟨by omega, by omega⟩, s, kk⟩)
  have c1 := comp_is (own := [12]) (seq_lst e1 en1) q2
  have eq2 : (μ2 ++ [Cell.lst (xs.map pairD)])[q]? = some (.lst [.int left, b]) := app_at (k2.get (app_at (app_at eq)) (by simp [hqk]))
  let μ3 : Mem := (μ2 ++ [Cell.lst (xs.map pairD)]) ++ [.lst ((xs.take left).map pairD)]
  have sl : slcD (.ref μ2.length) none (some (left : Int)) (μ2 ++ [Cell.lst (xs.map pairD)]) = .ok (.ref (μ2 ++ [Cell.lst (xs.map pairD)]).length) μ3 := by
    simp only [slcD, app_new, cut_to, μ3, List.map_take]
  refine ⟨xs.take left, (μ2 ++ [Cell.lst (xs.map pairD)]).length, μ3, ?_, app_new, by rw [List.length_take]; omega, ?_, fun z hz => ?_, ((s2.app).app).mono (by omega), ((Keep.trans (Keep.trans Keep.app Keep.app) k2).trans Keep.app).trans Keep.app, ?_⟩
  · have ix : idxA (.ref q) (.int 0) (μ2 ++ [Cell.lst (xs.map pairD)]) = .ok (.int left) (μ2 ++ [Cell.lst (xs.map pairD)]) := ix_lst eq2 (by decide) rfl
    exact slc_to c1 (bin_is (p := .ref q) (q := .int 0) rfl rfl ix) sl
  · rw [List.map_take, em]
    exact (usort_sorted ns).sublist (List.take_sublist _ _)
  · have hm := List.mem_of_mem_take hz
    have h5 : z.1 ∈ usort ns := by rw [← em]; exact List.mem_map_of_mem hm
    have := hr z.1 (usort_mem.mp h5)
    have := hp z hm
    omega
  · have := k2.1
    simp [μ1] at this ⊢; omega
end
end K86

/-! S26: flaps of a far pipe. -/
namespace K86
open PySem L2 RW
section
variable {μ : Mem} {k c N : Nat} {pp q : Nat} {r L : Int} {v1 v2 o7 o8 o9 o10 : Option D}
theorem flat_part {a : D} {left : Nat} (h : Stm μ k c N) (hN : N + 10 < 1000000) (h1 : 1 ≤ L) (h2 : L ≤ 1000000000000) (eq : μ[q]? = some (.lst [a, .int left])) (hqk : q ≠ k) :
    ∃ (ns : List Int) (m : Nat) (μ' : Mem), mSlc (mComp (iRange1 (mCons (mB m_law_take (mCons (mVar 0) (mCons (mC (.int 2)) (mNil)))) (mNil))) (gN 11) (mYes) (mB m_law_far (mCons (mVar 0) (mCons (mVar 6) (mNil)))) [11]) oNone (oSome (mBin idxA (mVar 4) (mC (.int 1)))) (rhoF k pp q r L v1 v2 o7 o8 o9 o10) μ = .ok (.ref m) μ' ∧ μ'[m]? = some (.lst (ns.map D.int)) ∧ ns.length ≤ left ∧ ns.length ≤ 1 ∧ (∀ x ∈ ns, 0 ≤ x ∧ x ≤ L - 1) ∧ Stm μ' k c (N + 4) ∧ Keep [k] μ μ' ∧ μ.length ≤ m := by
  obtain ⟨x, μ1, q1, x0, x1, s1, k1⟩ := take_spec (j := 2) h (by omega) (by decide) (by decide)
  obtain ⟨n, rfl⟩ : ∃ n : Nat, x = (n : Int) := ⟨x.toNat, by omega⟩
  have rg : iRange1 (mCons (mB m_law_take (mCons (mVar 0) (mCons (mC (.int 2)) (mNil)))) (mNil)) (rhoF k pp q r L v1 v2 o7 o8 o9 o10) μ = .ok (rangeItems 0 n, fun _ => True) μ1 := by
    have e2 := range1_ok (n := n) (μ := μ1) (by omega)
    simp only [iRange1, mB, mCons, mNil, mC, mVar, rhoF, List.getElem?_cons_succ, List.getElem?_cons_zero, Res.bind, q1, e2]
  obtain ⟨ns, μ2, q2, hl, hp, s2, k2⟩ := nums_spec (ρ0 := wipeR (rhoF k pp q r L v1 v2 o7 o8 o9 o10) [11]) (te := mB m_law_far (mCons (mVar 0) (mCons (mVar 6) (mNil)))) (P := fun v => 0 ≤ v ∧ v ≤ L - 1) (i := 11) (w := 3) (n := n) s1 (by omega) (by omega)
    (fun x μ1 M hs hM => by
      obtain ⟨v, μ2, qq, v0, v1', s, kk⟩ := far_spec (M := L) hs (by omega) h1 h2
      exact ⟨v, μ2, by simp [wipeR, rhoF, qq], ⟨v0, by omega⟩, s, kk⟩)
  have c1 := comp_is (own := [11]) rg q2
  have eq2 : (μ2 ++ [Cell.lst (ns.map D.int)])[q]? = some (.lst [a, .int left]) := app_at (k2.get (k1.get eq (by simp [hqk])) (by simp [hqk]))
  let μ3 : Mem := (μ2 ++ [Cell.lst (ns.map D.int)]) ++ [.lst ((ns.take left).map D.int)]
  have sl : slcD (.ref μ2.length) none (some (left : Int)) (μ2 ++ [Cell.lst (ns.map D.int)]) = .ok (.ref (μ2 ++ [Cell.lst (ns.map D.int)]).length) μ3 := by
    simp only [slcD, app_new, cut_to, μ3, List.map_take]
  refine ⟨ns.take left, (μ2 ++ [Cell.lst (ns.map D.int)]).length, μ3, ?_, app_new, by rw [List.length_take]; omega, by rw [List.length_take]; omega, fun z hz => hp z (List.mem_of_mem_take hz), ((s2.app).app).mono (by omega), (((k1.trans k2).trans Keep.app).trans Keep.app), ?_⟩
  · have ix : idxA (.ref q) (.int 1) (μ2 ++ [Cell.lst (ns.map D.int)]) = .ok (.int left) (μ2 ++ [Cell.lst (ns.map D.int)]) := ix_lst eq2 (by decide) rfl
    exact slc_to c1 (bin_is (p := .ref q) (q := .int 1) rfl rfl ix) sl
  · have := (k1.trans k2).1
    simp; omega
theorem hung_part {n : Nat} {ns : List Int} (h : Stm μ k c N) (hN : N + 10 < 1000000) (en : μ[n]? = some (.lst (ns.map D.int))) (hnk : n ≠ k) (hl : ns.length ≤ 1) :
    ∃ (xs : List (Int × Int)) (m : Nat) (μ' : Mem), mComp (iSeq (mVar 7)) (gN 12) (mYes) (mTup (mCons (mVar 12) (mCons (mBin idxA (mLst (mCons (mC (.int 1)) (mCons (mUn negD (mC (.int 1))) (mNil)))) (mB m_law_take (mCons (mVar 0) (mCons (mC (.int 2)) (mNil))))) (mNil)))) [12] (rhoF k pp q r L v1 v2 (some (.ref n)) o8 o9 o10) μ = .ok (.ref m) μ' ∧ μ'[m]? = some (.lst (xs.map pairD)) ∧ xs.map (·.1) = ns ∧ (∀ x ∈ xs, x.2 = 1 ∨ x.2 = -1) ∧ Stm μ' k c (N + 1) ∧ Keep [k] μ μ' ∧ μ.length ≤ m := by
  obtain ⟨xs, μ2, q2, em, hp, s2, k2⟩ := eachW_spec (chk := fun μ' => μ'[n]? = some (.lst (ns.map D.int))) (ρ0 := wipeR (rhoF k pp q r L v1 v2 (some (.ref n)) o8 o9 o10) [12]) (te := mTup (mCons (mVar 12) (mCons (mBin idxA (mLst (mCons (mC (.int 1)) (mCons (mUn negD (mC (.int 1))) (mNil)))) (mB m_law_take (mCons (mVar 0) (mCons (mC (.int 2)) (mNil))))) (mNil)))) (P := fun _ v => v = 1 ∨ v = -1) (e := fun x v => .tup [.int x, .int v]) (i := 12) (w := 1) (ns := ns) h (by omega) (by omega) (fun μ' kk => kk.get en (by simp [hnk]))
    (fun x μ1 M _ hs hM => by
      have hl := hs.lt
      have hs' : Stm (μ1 ++ [Cell.lst [.int 1, .int (-1)]]) k c M := hs.app
      obtain ⟨y, μ2, q, y0, y1, s, kk⟩ := take_spec (j := 2) hs' (by omega) (by decide) (by decide)
      have e2 : μ2[μ1.length]? = some (.lst [.int 1, .int (-1)]) := kk.get app_new (by simp; omega)
      obtain ⟨v, ev, hv⟩ : ∃ v : Int, ([D.int 1, .int (-1)] : List D)[y.toNat]? = some (.int v) ∧ (v = 1 ∨ v = -1) := by
        have : y = 0 ∨ y = 1 := by omega
        rcases this with rfl | rfl
        · exact ⟨1, rfl, .inl rfl⟩
        · exact ⟨-1, rfl, .inr rfl⟩
      have ix : idxA (.ref μ1.length) (.int y) μ2 = .ok (.int v) μ2 := ix_lst e2 y0 ev
      exact ⟨v, μ2, by simp [wipeR, rhoF, negD, q, ix], hv, s, Keep.trans Keep.app kk⟩)
  exact ⟨xs, μ2.length, μ2 ++ [.lst (xs.map pairD)], comp_is (seq_lst (n := n) rfl en) q2, app_new, em, hp, (s2.app).mono (by omega), k2.trans Keep.app, k2.1⟩
end
structure LaidF (fl : Int) (i : Nat) (ps : List Pipe) (ln lf : Nat) : Prop where
  len : ps.length = i
  tree : Tree (upTo (i + 1)) ps
  ok : ∀ p ∈ ps, p.Ok
  rng : ∀ p ∈ ps, 0 ≤ p.a ∧ p.a < p.b ∧ p.b < 1 + (i : Int)
  nar : ((ps.map fun p => (p.nar.length : Int)).sum) + ln = 12
  fla : ((ps.map fun p => (p.fl.length : Int)).sum) + lf = fl
theorem LaidF.more {fl : Int} {i ln lf w : Nat} {ps : List Pipe} {p : Pipe} (L : LaidF fl i ps ln lf) (hw : w ≤ i) (pa : 0 ≤ p.a ∧ p.a < 1 + (i : Int)) (pb : p.b = 1 + (i : Int)) (pok : p.Ok) (pn : p.nar.length ≤ ln) (pf : p.fl.length ≤ lf) :
    LaidF fl (i + 1) (ps.take w ++ [p] ++ ps.drop w) (ln - p.nar.length) (lf - p.fl.length) := by
  have hmem : ∀ q ∈ ps.take w ++ [p] ++ ps.drop w, q = p ∨ q ∈ ps := fun q hq => by
    rcases List.mem_append.mp hq with hq | hq
    · rcases List.mem_append.mp hq with hq | hq
      · exact .inr (List.mem_of_mem_take hq)
      · simp at hq; exact .inl hq
    · exact .inr (List.mem_of_mem_drop hq)
  have hl := L.len
  refine ⟨by simp; omega, ?_, fun q hq => ?_, fun q hq => ?_, ?_, ?_⟩
  · have ht' : Tree (upTo (i + 1)) (ps.take w ++ ps.drop w) := by rw [List.take_append_drop]; exact L.tree
    have := Tree.grow (p := p) (x := ((i + 1 : Nat) : Int)) (y := p.a) ht' (mem_upTo.mpr ⟨pa.1, by omega⟩) (fun z => by have := (mem_upTo.mp z).2; omega) (.inl ⟨rfl, by omega⟩) (by omega)
    rw [upTo_succ, List.append_assoc]
    exact this
  · rcases hmem q hq with rfl | hq
    · exact pok
    · exact L.ok q hq
  · rcases hmem q hq with rfl | hq
    · omega
    · have := L.rng q hq; omega
  · have := L.nar
    rw [sum_ins, List.take_append_drop]; omega
  · have := L.fla
    rw [sum_ins, List.take_append_drop]; omega
end K86

/-! S27: a far pipe laid. -/
namespace K86
open PySem L2 RW
noncomputable def layF : MS := sSeq (sSet 6 (mBin addD (mC (.int 1)) (mB m_law_far (mCons (mVar 0) (mCons (mBin powD (mC (.int 10)) (mC (.int 12))) (mNil))))))
    (sSeq (sSet 7 (mComp (iRange1 (mCons (mBin mulD (mB m_law_take (mCons (mVar 0) (mCons (mC (.int 3)) (mNil)))) (mB intL (mCons (mBin (cmpI fun i j => decide (j < i)) (mVar 6) (mC (.int 1))) (mNil)))) (mNil))) (gN 11) (mYes) (mBin addD (mC (.int 1)) (mB m_law_far (mCons (mVar 0) (mCons (mB max2L (mCons (mC (.int 1)) (mCons (mBin subD (mVar 6) (mC (.int 1))) (mNil)))) (mNil))))) [11]))
    (sSeq (sSet 8 (mSlc (mComp (iSeq (mB sortedA (mCons (mB setL (mCons (mVar 7) (mNil))) (mNil)))) (gN 12) (mYes) (mTup (mCons (mVar 12) (mCons (mBin addD (mC (.int 1)) (mB m_law_take (mCons (mVar 0) (mCons (mC (.int 3)) (mNil))))) (mNil)))) [12]) oNone (oSome (mBin idxA (mVar 4) (mC (.int 0))))))
    (sSeq (sSet 7 (mSlc (mComp (iRange1 (mCons (mB m_law_take (mCons (mVar 0) (mCons (mC (.int 2)) (mNil)))) (mNil))) (gN 11) (mYes) (mB m_law_far (mCons (mVar 0) (mCons (mVar 6) (mNil)))) [11]) oNone (oSome (mBin idxA (mVar 4) (mC (.int 1))))))
    (sSeq (sSet 9 (mComp (iSeq (mVar 7)) (gN 12) (mYes) (mTup (mCons (mVar 12) (mCons (mBin idxA (mLst (mCons (mC (.int 1)) (mCons (mUn negD (mC (.int 1))) (mNil)))) (mB m_law_take (mCons (mVar 0) (mCons (mC (.int 2)) (mNil))))) (mNil)))) [12]))
    (sSeq (sSet 4 (mLst (mCons (mBin subD (mBin idxA (mVar 4) (mC (.int 0))) (mB lenL (mCons (mVar 8) (mNil)))) (mCons (mBin subD (mBin idxA (mVar 4) (mC (.int 1))) (mB lenL (mCons (mVar 9) (mNil)))) (mNil)))))
    (sSeq (sSet 10 (mTup (mCons (mB m_law_take (mCons (mVar 0) (mCons (mVar 5) (mNil)))) (mCons (mVar 5) (mCons (mVar 6) (mCons (mB tupleL (mCons (mVar 8) (mNil))) (mCons (mB tupleL (mCons (mVar 9) (mNil))) (mNil))))))))
    (sExpr (mMt isLst insertM (mVar 3) (mCons (mB m_law_take (mCons (mVar 0) (mCons (mBin addD (mB lenL (mCons (mVar 3) (mNil))) (mC (.int 1))) (mNil)))) (mCons (mVar 10) (mNil)))))))))))
theorem far_house_eq : b_law_far_house = sSeq (sSet 2 (mBin addD (mC (.int 2)) (mB m_law_take (mCons (mVar 0) (mCons (mC (.int 15)) (mNil))))))
    (sSeq (sSet 3 (mLst (mNil)))
    (sSeq (sSet 4 (mLst (mCons (mC (.int 12)) (mCons (mVar 1) (mNil)))))
    (sSeq (sFor (iRange2 (mCons (mC (.int 1)) (mCons (mVar 2) (mNil)))) (gN 5) layF)
    (sRet (mTup (mCons (mVar 2) (mCons (mB tupleL (mCons (mVar 3) (mNil))) (mNil)))))))) := rfl
section
variable {μ : Mem} {k c N : Nat} {pp q : Nat} {r L : Int} {v1 v2 o7 o8 o9 o10 : Option D}
/-- the last steps: the pipe made and put in -/
theorem put_part {i ln lf m9 m8 : Nat} {fl : Int} {xs hs : List (Int × Int)} {ps : List Pipe} (h : Stm μ k c N) (hN : N + 10 < 1000000) (hi : i < 1000) (h1 : 1 ≤ L) (h2 : L ≤ 1000000000000) (La : LaidF fl i ps ln lf)
    (ep : μ[pp]? = some (.lst (ps.map Pipe.d))) (a3 : pp ≠ k) (a4 : pp ≠ c) (eq : μ[q]? = some (.lst [.int ln, .int lf])) (e8 : μ[m8]? = some (.lst (xs.map pairD))) (e9 : μ[m9]? = some (.lst (hs.map pairD))) (n8 : m8 ≠ k) (n9 : m9 ≠ k)
    (x1 : xs.length ≤ ln) (x2 : (xs.map (·.1)).Pairwise (· < ·)) (x3 : ∀ x ∈ xs, 1 ≤ x.1 ∧ x.1 ≤ L - 1 ∧ 1 ≤ x.2 ∧ x.2 ≤ 3) (y1 : hs.length ≤ lf) (y2 : (hs.map (·.1)).Pairwise (· < ·)) (y3 : ∀ x ∈ hs, 0 ≤ x.1 ∧ x.1 ≤ L - 1 ∧ (x.2 = 1 ∨ x.2 = -1)) :
    ∃ (b10 : Option D) (q' : Nat) (ps' : List Pipe) (ln' lf' : Nat) (μ' : Mem), (sSeq (sSet 4 (mLst (mCons (mBin subD (mBin idxA (mVar 4) (mC (.int 0))) (mB lenL (mCons (mVar 8) (mNil)))) (mCons (mBin subD (mBin idxA (mVar 4) (mC (.int 1))) (mB lenL (mCons (mVar 9) (mNil)))) (mNil)))))
    (sSeq (sSet 10 (mTup (mCons (mB m_law_take (mCons (mVar 0) (mCons (mVar 5) (mNil)))) (mCons (mVar 5) (mCons (mVar 6) (mCons (mB tupleL (mCons (mVar 8) (mNil))) (mCons (mB tupleL (mCons (mVar 9) (mNil))) (mNil))))))))
    (sExpr (mMt isLst insertM (mVar 3) (mCons (mB m_law_take (mCons (mVar 0) (mCons (mBin addD (mB lenL (mCons (mVar 3) (mNil))) (mC (.int 1))) (mNil)))) (mCons (mVar 10) (mNil))))))) (rhoF k pp q (1 + (i : Int)) L v1 v2 o7 (some (.ref m8)) (some (.ref m9)) o10) μ =
      .ok (.nx (rhoF k pp q' (1 + (i : Int)) L v1 v2 o7 (some (.ref m8)) (some (.ref m9)) b10)) μ' ∧ LaidF fl (i + 1) ps' ln' lf' ∧
      μ'[pp]? = some (.lst (ps'.map Pipe.d)) ∧ μ'[q']? = some (.lst [.int ln', .int lf']) ∧ μ.length ≤ q' ∧ Stm μ' k c (N + 2) ∧ Keep [k, pp] μ μ' := by
  have l0 := h.lt
  have lp := at_lt ep
  let μ4 : Mem := μ ++ [.lst [.int ((ln - xs.length : Nat) : Int), .int ((lf - hs.length : Nat) : Int)]]
  have s4 : Stm μ4 k c N := h.app
  obtain ⟨y, μ5, q5, y0, y1', s5, k5⟩ := take_spec (j := 1 + (i : Int)) s4 (by omega) (by omega) (by omega)
  let p : Pipe := ⟨y, 1 + (i : Int), L, xs, hs⟩
  have hp : p.Ok := ⟨h1, h2, x2, fun z hz => ⟨(x3 z hz).1, (x3 z hz).2.1, (x3 z hz).2.2.1, by have := (x3 z hz).2.2.2; omega⟩, y2, y3⟩
  have hpl := La.len
  obtain ⟨w, μ7, q7, w0, w1, s7, k7⟩ := take_spec (j := (ps.length : Int) + 1) s5 (by omega) (by omega) (by omega)
  have kB : Keep [k] μ μ5 := Keep.trans Keep.app k5
  have e8' : μ5[m8]? = some (.lst (xs.map pairD)) := kB.get e8 (by simp [n8])
  have e9' : μ5[m9]? = some (.lst (hs.map pairD)) := kB.get e9 (by simp [n9])
  have ep5 : μ5[pp]? = some (.lst (ps.map Pipe.d)) := kB.get ep (by simp [a3])
  have ep7 : μ7[pp]? = some (.lst (ps.map Pipe.d)) := k7.get ep5 (by simp [a3])
  have eq4 : μ4[μ.length]? = some (.lst [.int ((ln - xs.length : Nat) : Int), .int ((lf - hs.length : Nat) : Int)]) := app_new
  have eq7 : μ7[μ.length]? = some (.lst [.int ((ln - xs.length : Nat) : Int), .int ((lf - hs.length : Nat) : Int)]) := (k5.trans k7).get eq4 (by simp; omega)
  have hpd : (ps.map Pipe.d).take w.toNat ++ [p.d] ++ (ps.map Pipe.d).drop w.toNat = (ps.take w.toNat ++ [p] ++ ps.drop w.toNat).map Pipe.d := by simp [List.map_take, List.map_drop]
  let μ8 : Mem := μ7.set pp (.lst ((ps.take w.toNat ++ [p] ++ ps.drop w.toNat).map Pipe.d))
  have LL := La.more (w := w.toNat) (p := p) (by omega) ⟨y0, y1'⟩ rfl hp x1 y1
  refine ⟨some p.d, μ.length, ps.take w.toNat ++ [p] ++ ps.drop w.toNat, ln - xs.length, lf - hs.length, μ8, ?_, LL, set_at (at_lt ep7), ?_, Nat.le_refl _, ?_, ?_⟩
  · have l8 : lenL [.ref m8] μ = .ok (.int xs.length) μ := by simp only [lenL, e8, List.length_map]
    have l9 : lenL [.ref m9] μ = .ok (.int hs.length) μ := by simp only [lenL, e9, List.length_map]
    have i0 : idxA (.ref q) (.int 0) μ = .ok (.int ln) μ := ix_lst eq (by decide) rfl
    have i1 : idxA (.ref q) (.int 1) μ = .ok (.int lf) μ := ix_lst eq (by decide) rfl
    have z0 : (ln : Int) - (xs.length : Int) = ((ln - xs.length : Nat) : Int) := by omega
    have z1 : (lf : Int) - (hs.length : Int) = ((lf - hs.length : Nat) : Int) := by omega
    refine (seq_set (d := .ref μ.length) (μ1 := μ4) ?_).trans ?_
    · simp only [mLst, mBin, mB, mCons, mNil, mVar, mC, rhoF, List.getElem?_cons_succ, List.getElem?_cons_zero, Res.bind, i0, i1, l8, l9, subD, z0, z1]
      rfl
    refine (seq_set (d := p.d) (μ1 := μ5) ?_).trans ?_
    · have t8 : tupleL [.ref m8] μ5 = .ok (.tup (xs.map pairD)) μ5 := by simp only [tupleL, e8']
      have t9 : tupleL [.ref m9] μ5 = .ok (.tup (hs.map pairD)) μ5 := by simp only [tupleL, e9']
      simp only [mTup, mB, mCons, mNil, mVar, mC, rhoF, List.set_cons_succ, List.set_cons_zero, List.getElem?_cons_succ, List.getElem?_cons_zero, Res.bind, q5, t8, t9]
      rfl
    · have ls : lenL [.ref pp] μ5 = .ok (.int ps.length) μ5 := by simp only [lenL, ep5, List.length_map]
      have isl : isLst (.ref pp) μ5 = true := by simp only [isLst, ep5]
      have ins := ins_ok (y := p.d) ep7 w0 (by omega) (by rw [List.length_map]; omega)
      simp only [sExpr, mMt, mVar, mB, mCons, mNil, mC, mBin, rhoF, List.set_cons_succ, List.set_cons_zero, List.getElem?_cons_succ, List.getElem?_cons_zero, Res.bind, isl, if_true, ls, add_ok, q7, ins]
      rw [hpd]
      rfl
  · exact (set_ne' (by omega)).trans eq7
  · exact (s7.keep (ex := [pp]) (Keep.set (by simp)) (by simp [Ne.symm a3]) (by simp [Ne.symm a4])).mono (by omega)
  · have m1 : ∀ {μ μ' : Mem}, Keep [k] μ μ' → Keep [k, pp] μ μ' := fun q => q.mono fun i hi => .inl (by simp at hi ⊢; omega)
    exact ((m1 kB).trans (m1 k7)).trans (Keep.set (by simp))
theorem lay_stepF {i ln lf : Nat} {fl : Int} {o6 o11 o12 : Option D} {ps : List Pipe} (h : Stm μ k c N) (hN : N + 50 < 1000000) (hi : i < 1000) (La : LaidF fl i ps ln lf)
    (ep : μ[pp]? = some (.lst (ps.map Pipe.d))) (a3 : pp ≠ k) (a4 : pp ≠ c) (eq : μ[q]? = some (.lst [.int ln, .int lf])) (b1 : q ≠ k) :
    ∃ (b6 b7 b8 b9 b10 : Option D) (q' : Nat) (ps' : List Pipe) (ln' lf' : Nat) (μ' : Mem), layF [some (.ref k), v1, v2, some (.ref pp), some (.ref q), some (.int (1 + (i : Int))), o6, o7, o8, o9, o10, none, none] μ =
      .ok (.nx [some (.ref k), v1, v2, some (.ref pp), some (.ref q'), some (.int (1 + (i : Int))), b6, b7, b8, b9, b10, none, none]) μ' ∧ LaidF fl (i + 1) ps' ln' lf' ∧
      μ'[pp]? = some (.lst (ps'.map Pipe.d)) ∧ μ'[q']? = some (.lst [.int ln', .int lf']) ∧ μ.length ≤ q' ∧ Stm μ' k c (N + 50) ∧ Keep [k, pp] μ μ' := by
  obtain ⟨x, μ1, q1, x0, x1, s1, k1⟩ := far_spec (M := 1000000000000) h (by omega) (by decide) (by decide)
  have h1 : 1 ≤ 1 + x := by omega
  have h2 : 1 + x ≤ 1000000000000 := by omega
  generalize hL : 1 + x = L at h1 h2
  have l0 := h.lt
  have lp := at_lt ep
  have lq := at_lt eq
  obtain ⟨ns, n, μ2, q2, en, nl, nr, s2, k2, ln2⟩ := ats_part (pp := pp) (q := q) (r := 1 + (i : Int)) (v1 := v1) (v2 := v2) (o7 := o7) (o8 := o8) (o9 := o9) (o10 := o10) s1 (by omega) h1 h2
  have k12 := k1.trans k2
  have z1 := k1.1
  obtain ⟨xs, m8, μ3, q3, e8, x8, w8, r8, s3, k3, l8⟩ := nar_part (pp := pp) (r := 1 + (i : Int)) (v1 := v1) (v2 := v2) (o8 := o8) (o9 := o9) (o10 := o10) s2 (by omega) en (by omega) nl nr (k12.get eq (by simp [b1])) b1
  have k13 := k12.trans k3
  have z2 := k12.1
  have z3 := k13.1
  obtain ⟨fs, n7, μ4, q4, e7, f1, f2, f3, s4, k4, l7⟩ := flat_part (L := L) (pp := pp) (r := 1 + (i : Int)) (v1 := v1) (v2 := v2) (o7 := some (.ref n)) (o8 := some (.ref m8)) (o9 := o9) (o10 := o10) s3 (by omega) h1 h2 (k13.get eq (by simp [b1])) b1
  have k14 := k13.trans k4
  have z4 := k14.1
  obtain ⟨hs, m9, μ5, q5, e9, g1, g2, s5, k5, l9⟩ := hung_part (L := L) (pp := pp) (q := q) (r := 1 + (i : Int)) (v1 := v1) (v2 := v2) (o8 := some (.ref m8)) (o9 := o9) (o10 := o10) s4 (by omega) e7 (by omega) f2
  have k15 := k14.trans k5
  have hsl : hs.length = fs.length := by rw [← g1, List.length_map]
  obtain ⟨b10, q', ps', ln', lf', μ6, q6, La', ep6, eq6, lq6, s6, k6⟩ := put_part (v1 := v1) (v2 := v2) (o7 := some (.ref n7)) (o10 := o10) s5 (by omega) hi h1 h2 La (k15.get ep (by simp [a3])) a3 a4 (k15.get eq (by simp [b1])) ((k4.trans k5).get e8 (by simp; omega)) e9 (by omega) (by omega) x8 w8 r8 (by omega)
    (by
      rw [g1]
      match fs, f2 with
      | [], _ => exact .nil
      | [a], _ => exact List.pairwise_singleton _ _)
    (fun z hz => by
      have : z.1 ∈ fs := by rw [← g1]; exact List.mem_map_of_mem hz
      have := f3 _ this
      exact ⟨this.1, this.2, g2 z hz⟩)
  refine ⟨some (.int L), some (.ref n7), some (.ref m8), some (.ref m9), b10, q', ps', ln', lf', μ6, ?_, La', ep6, eq6, by have := k15.1; omega, s6.mono (by omega), (k15.mono fun i hi => .inl (by simp at hi ⊢; omega)).trans k6⟩
  unfold layF
  refine (seq_set (d := .int L) (μ1 := μ1) ?_).trans ?_
  · have pw : powD (.int 10) (.int 12) μ = .ok (.int 1000000000000) μ := by rfl
    simp only [mBin, mB, mCons, mNil, mC, mVar, List.getElem?_cons_zero, Res.bind, pw, q1, add_ok, hL]
  refine (seq_set q2).trans ?_
  refine (seq_set q3).trans ?_
  refine (seq_set q4).trans ?_
  refine (seq_set q5).trans ?_
  exact q6
end
end K86

/-! S28: far houses. -/
namespace K86
open PySem L2 RW
theorem far_house_spec {μ : Mem} {k c N : Nat} {fl : Int} (h : Stm μ k c N) (hN : N + 1000 < 1000000) (g0 : 0 ≤ fl) (g1 : fl ≤ 6) :
    ∃ (R : Nat) (ps : List Pipe) (μ' : Mem), m_law_far_house [.ref k, .int fl] μ = .ok (houseD R ps) μ' ∧ House R ps ∧ 2 ≤ R ∧ Stm μ' k c (N + 1000) ∧ Keep [k] μ μ' := by
  obtain ⟨x, μ1, q1, x0, x1, s1, k1⟩ := take_spec (j := 15) h (by omega) (by omega) (by omega)
  obtain ⟨R, hR⟩ : ∃ R : Nat, 2 + x = (R : Int) := ⟨(2 + x).toNat, by omega⟩
  obtain ⟨fn, rfl⟩ : ∃ fn : Nat, fl = (fn : Int) := ⟨fl.toNat, by omega⟩
  have l0 := h.lt
  have l1 := s1.lt
  have z1 := k1.1
  let L : List D := [.int 12, .int fn]
  let μ2 : Mem := (μ1 ++ [Cell.lst []]) ++ [.lst L]
  have s2 : Stm μ2 k c (N + 1) := (s1.app).app
  let ρ (q : Nat) (b5 b6 b7 b8 b9 b10 : Option D) : Rho := [some (.ref k), some (.int fn), some (.int R), some (.ref μ1.length), some (.ref q), b5, b6, b7, b8, b9, b10, none, none]
  have loop := forL_ok (chk := fun _ => True) (g := gN 5) (body := layF) (rangeItems 1 (R - 1))
    (fun i ρ' μ' => i ≤ R - 1 ∧ ∃ (q : Nat) (b5 b6 b7 b8 b9 b10 : Option D) (ps : List Pipe) (ln lf : Nat), ρ' = ρ q b5 b6 b7 b8 b9 b10 ∧ LaidF (fn : Int) i ps ln lf ∧ μ'[μ1.length]? = some (.lst (ps.map Pipe.d)) ∧ μ'[q]? = some (.lst [.int ln, .int lf]) ∧ μ1.length < q ∧ Stm μ' k c (N + 1 + 50 * i) ∧ Keep [k, μ1.length] μ2 μ') 0
    (ρ := ρ (μ1 ++ [Cell.lst []]).length none none none none none none) (μ := μ2) ⟨Nat.zero_le _, _, none, none, none, none, none, none, [], 12, fn, rfl, ⟨rfl, .one 0, by simp, by simp, by simp, by simp⟩, app_at app_new, app_new, by simp, s2, .refl⟩ (fun _ _ _ _ => trivial)
    (fun i d ρ' μ' ed ⟨hi, q, b5, b6, b7, b8, b9, b10, ps, ln, lf, eρ, La, ep, eq, hq, hs, hk⟩ => by
      simp only [Nat.zero_add] at hi La hs ⊢
      obtain ⟨hi2, rfl⟩ := Q.range_at ed
      subst eρ
      have hl := hk.1
      have hl2 : μ2.length = μ1.length + 2 := by simp [μ2]
      obtain ⟨c6, c7, c8, c9, c10, q', ps', ln', lf', μ3, qq, La', ep', eq', hq', s', k'⟩ := lay_stepF (v1 := some (.int fn)) (v2 := some (.int R)) (o6 := b6) (o7 := b7) (o8 := b8) (o9 := b9) (o10 := b10) (o11 := none) (o12 := none) hs (by omega) (by omega) La ep (by omega) (by omega) eq (by omega)
      exact .mk (μ := μ') rfl (.mk qq ⟨_, .inl rfl, by omega, q', some (.int (1 + (i : Int))), c6, c7, c8, c9, c10, ps', ln', lf', rfl, La', ep', eq', by omega, s'.mono (by omega), hk.trans k'⟩))
  rw [Q.range_len, Nat.zero_add] at loop
  obtain ⟨f, μ3, w, ρ2, rfl, _, q, b5, b6, b7, b8, b9, b10, ps, ln, lf, rfl, La, ep, eq, hq, s3, k3⟩ := loop
  have ht := La.tree
  rw [show R - 1 + 1 = R by omega] at ht
  have n0 := La.nar
  have f0 := La.fla
  have hl := La.len
  refine ⟨R, ps, μ3, run_is ?_, ⟨by omega, by omega, ⟨upTo R, .refl _, ht⟩, by omega, La.ok, fun p hp => ?_, by omega, by omega⟩, by omega, s3.mono (by omega), ?_⟩
  · rw [far_house_eq]
    refine (seq_set (d := .int R) (μ1 := μ1) (by simp [startR, q1, add_ok, hR])).trans ?_
    refine (seq_set (d := .ref μ1.length) (μ1 := μ1 ++ [.lst []]) (by simp)).trans ?_
    refine (seq_set (d := .ref (μ1 ++ [Cell.lst []]).length) (μ1 := μ2) (by simp [startR, μ2, L])).trans ?_
    refine (seq_run (for_run (ir2 (m := 1) (n := R) (e := mC (.int 1)) (f := mVar 2) rfl rfl (by omega) (by omega)) w)).trans ?_
    refine ret_is ?_
    simp [tupleL, ep, houseD, ρ]
  · have := La.rng p hp; omega
  · exact (((k1.trans Keep.app).trans Keep.app).mono (ex' := [k, μ1.length]) fun i hi => .inl (by simp at hi ⊢; omega)).trans k3 |>.mono fun i hi => by
      have := k1.1
      simp at hi ⊢; omega
end K86

/-! Q1: things that are shown (repr), whatever they are. -/
namespace K86
open PySem L2 RW
theorem sh_up {μ : Mem} : ∀ (n : Nat) (d : D) (p : PyData), D.sh? n μ d = some p → D.sh? (n + 1) μ d = some p := by
  have key : ∀ n, (∀ (d : D) (p : PyData), D.sh? n μ d = some p → D.sh? (n + 1) μ d = some p) → ∀ (l : List D) (ps : List PyData), D.shs? n μ l = some ps → D.shs? (n + 1) μ l = some ps := by
    intro n h l
    induction l with
    | nil => intro ps e; unfold D.shs? at e ⊢; exact e
    | cons d l ih =>
      intro ps e
      unfold D.shs? at e ⊢
      split at e
      · rename_i k r e1 e2
        rw [h d k e1, ih r e2]
        exact e
      · cases e
  intro n
  induction n with
  | zero =>
    intro d p e
    cases d <;> (unfold D.sh? at e ⊢; first | exact e | cases e)
  | succ n ih =>
    intro d p e
    cases d with
    | tup l =>
      unfold D.sh? at e ⊢
      obtain ⟨ps, e1, rfl⟩ := Option.map_eq_some_iff.mp e
      rw [key n ih l ps e1]; rfl
    | ref m =>
      unfold D.sh? at e ⊢
      split at e
      · rename_i l em
        obtain ⟨ps, e1, rfl⟩ := Option.map_eq_some_iff.mp e
        simp only [em, key n ih l ps e1]; rfl
      · rename_i em
        exact e
      · cases e
    | _ => unfold D.sh? at e ⊢; first | exact e | cases e
theorem sh_le {μ : Mem} {n m : Nat} (h : n ≤ m) {d : D} {p : PyData} (e : D.sh? n μ d = some p) : D.sh? m μ d = some p := by
  obtain ⟨k, rfl⟩ := Nat.le.dest h
  clear h
  induction k with
  | zero => exact e
  | succ k ih => exact sh_up _ _ _ ih
theorem shs_le {μ : Mem} {n m : Nat} (h : n ≤ m) : ∀ {l : List D} {ps : List PyData}, D.shs? n μ l = some ps → D.shs? m μ l = some ps
  | [], ps, e => by unfold D.shs? at e ⊢; exact e
  | d :: l, ps, e => by
    unfold D.shs? at e ⊢
    split at e
    · rename_i k r e1 e2
      rw [sh_le h e1, shs_le h e2]
      exact e
    · cases e
theorem sh_ty {μ : Mem} {n : Nat} {d : D} {p : PyData} (e : D.sh? n μ d = some p) : ∃ t, tyD d μ = some t := by
  cases d with
  | ref m =>
    cases n with
    | zero => unfold D.sh? at e; cases e
    | succ n =>
      unfold D.sh? at e
      split at e
      · rename_i l em; exact ⟨"list", by simp only [tyD, em]⟩
      · rename_i em; exact ⟨"dict", by simp only [tyD, em]⟩
      · cases e
  | fn x => cases n <;> (unfold D.sh? at e; cases e)
  | _ => exact ⟨_, rfl⟩
/-- a thing that stays what it shows while the cells but ex stay -/
structure Thg (ex : List Nat) (μ : Mem) (n B : Nat) (d : D) (p : PyData) : Prop where
  sh : ∀ μ', Keep ex μ μ' → D.sh? n μ' d = some p
  ok : p.showable = true
  short : p.leavesShort 60 = true
  small : p.bulk ≤ B
  deep : p.depth ≤ n
structure Thgs (ex : List Nat) (μ : Mem) (n B : Nat) (l : List D) (ps : List PyData) : Prop where
  sh : ∀ μ', Keep ex μ μ' → D.shs? n μ' l = some ps
  ok : PyData.showableAll ps = true
  short : PyData.leavesShortAll 60 ps = true
  small : PyData.bulkAll ps ≤ B
  deep : PyData.depthAll ps ≤ n
section
variable {ex : List Nat} {μ μ' : Mem} {n m B C : Nat} {d : D} {p : PyData} {l : List D} {ps : List PyData}
theorem Thg.keep (T : Thg ex μ n B d p) (k : Keep ex μ μ') : Thg ex μ' n B d p := ⟨fun μ2 k2 => T.sh μ2 (k.trans k2), T.ok, T.short, T.small, T.deep⟩
theorem Thgs.keep (T : Thgs ex μ n B l ps) (k : Keep ex μ μ') : Thgs ex μ' n B l ps := ⟨fun μ2 k2 => T.sh μ2 (k.trans k2), T.ok, T.short, T.small, T.deep⟩
theorem Thg.le (T : Thg ex μ n B d p) (h : n ≤ m) (h2 : B ≤ C) : Thg ex μ m C d p := ⟨fun μ2 k2 => sh_le h (T.sh μ2 k2), T.ok, T.short, Nat.le_trans T.small h2, Nat.le_trans T.deep h⟩
theorem Thgs.le (T : Thgs ex μ n B l ps) (h : n ≤ m) (h2 : B ≤ C) : Thgs ex μ m C l ps := ⟨fun μ2 k2 => shs_le h (T.sh μ2 k2), T.ok, T.short, Nat.le_trans T.small h2, Nat.le_trans T.deep h⟩
theorem Thg.ty (T : Thg ex μ n B d p) : ∃ t, tyD d μ = some t := sh_ty (T.sh μ .refl)
theorem thg_non : Thg ex μ n B .non .none := ⟨fun _ _ => by unfold D.sh?; rfl, rfl, rfl, Nat.zero_le _, Nat.zero_le _⟩
theorem thg_bl {b : Bool} : Thg ex μ n B (.bl b) (.bool b) := ⟨fun _ _ => by unfold D.sh?; rfl, rfl, rfl, Nat.zero_le _, Nat.zero_le _⟩
theorem thg_int {i : Int} (h : i.natAbs < 10 ^ 50) : Thg ex μ n B (.int i) (.int i) := ⟨fun _ _ => by unfold D.sh?; rfl, by
  simp only [PyData.showable, decide_eq_true_eq]
  have h1 : i.natAbs < 2 ^ 170 := Nat.lt_of_lt_of_le h (by decide)
  by_cases h0 : i.natAbs = 0
  · rw [h0]; decide
  · have := (Nat.log2_lt h0).mpr h1
    omega, by
  simp only [PyData.leavesShort, decide_eq_true_eq]
  have := int_text_length_le10 (k := 50) (by decide) h
  have e : (PyData.shown (.int i)).length = (toString i).length := by
    simp only [PyData.shown]
    exact ofString_length _
  omega, Nat.zero_le _, Nat.zero_le _⟩
theorem thg_str {s : Str} (h : s.cps.toList.all (fun c => decide (c < 16 ^ 8)) = true) (h2 : s.cps.size ≤ B) : Thg ex μ n B (.str s) (.str s) := ⟨fun _ _ => by unfold D.sh?; rfl, rfl, h, h2, Nat.zero_le _⟩
theorem thgs_nil : Thgs ex μ n 0 [] [] := ⟨fun _ _ => by unfold D.shs?; rfl, rfl, rfl, Nat.le_refl _, Nat.zero_le _⟩
theorem thgs_cons (T : Thg ex μ n B d p) (Ts : Thgs ex μ n C l ps) : Thgs ex μ n (B + 1 + C) (d :: l) (p :: ps) := ⟨fun μ2 k2 => by
  unfold D.shs?
  rw [T.sh μ2 k2, Ts.sh μ2 k2], by simp [PyData.showableAll, T.ok, Ts.ok], by simp [PyData.leavesShortAll, T.short, Ts.short], by
  have := T.small; have := Ts.small
  simp only [PyData.bulkAll]; omega, by
  simp only [PyData.depthAll]
  exact Nat.max_le.mpr ⟨T.deep, Ts.deep⟩⟩
theorem thg_tup (Ts : Thgs ex μ n B l ps) : Thg ex μ (n + 1) B (.tup l) (.tuple ps) := ⟨fun μ2 k2 => by
  unfold D.sh?
  rw [Ts.sh μ2 k2]; rfl, Ts.ok, Ts.short, Ts.small, by simp only [PyData.depth]; exact Nat.succ_le_succ Ts.deep⟩
theorem thg_lst {a : Nat} (e : μ[a]? = some (.lst l)) (ha : a ∉ ex) (Ts : Thgs ex μ n B l ps) : Thg ex μ (n + 1) B (.ref a) (.list ps) := ⟨fun μ2 k2 => by
  unfold D.sh?
  rw [k2.get e ha]
  simp only [Ts.sh μ2 k2]; rfl, Ts.ok, Ts.short, Ts.small, by simp only [PyData.depth]; exact Nat.succ_le_succ Ts.deep⟩
theorem thg_dic {a : Nat} (e : μ[a]? = some (.dic [])) (ha : a ∉ ex) : Thg ex μ (n + 1) B (.ref a) (.dict []) := ⟨fun μ2 k2 => by
  unfold D.sh?
  rw [k2.get e ha], rfl, rfl, Nat.zero_le _, by simp [PyData.depth, PyData.depthKv]⟩
/-- repr([x, y]) -/
theorem repr_two {x y : D} {a b : PyData} (T : Thg ex μ 6 1000 x a) (U : Thg ex μ 6 1000 y b) : reprL [.ref μ.length] (μ ++ [.lst [x, y]]) = .ok (.str (PyData.list [a, b]).shown) (μ ++ [.lst [x, y]]) := by
  have k : Keep ex μ (μ ++ [.lst [x, y]]) := Keep.app
  have Ts := thgs_cons (T.keep k) (thgs_cons (U.keep k) thgs_nil)
  have e : D.sh? 8 (μ ++ [.lst [x, y]]) (.ref μ.length) = some (.list [a, b]) := by
    have h := Ts.sh _ .refl
    unfold D.sh?
    rw [show (μ ++ [Cell.lst [x, y]])[μ.length]? = some (.lst [x, y]) by simp]
    simp only [shs_le (by decide : 6 ≤ 7) h]; rfl
  have ok : showOk (.list [a, b]) = true := by
    simp only [showOk, Bool.and_eq_true, decide_eq_true_eq]
    refine ⟨⟨Ts.ok, ?_⟩, ?_⟩
    · have h1 := PyData.shown_le_bulk 60 (by decide) (.list [a, b]) Ts.short
      have h2 := Ts.small
      simp only [PyData.bulk] at h1
      rw [sizeLine_eq]
      omega
    · have := Ts.deep
      simp only [PyData.depth]
      omega
  simp only [reprL, e, ok, if_true]
end
end K86

/-! S105: what is the same as itself; repr; things by draws. -/
namespace K86
open PySem L2 RW
section
variable {μ : Mem} {k c N : Nat}
theorem repr_thg {ex : List Nat} {B : Nat} {d : D} {p : PyData} (T : Thg ex μ 8 B d p) (hB : B ≤ 100000) : reprL [d] μ = .ok (.str p.shown) μ := by
  have e : D.sh? 8 μ d = some p := T.sh μ .refl
  have ok : showOk p = true := by
    simp only [showOk, Bool.and_eq_true, decide_eq_true_eq]
    refine ⟨⟨T.ok, ?_⟩, ?_⟩
    · have h1 := PyData.shown_le_bulk 60 (by decide) p T.short
      have h2 := T.small
      rw [sizeLine_eq]
      omega
    · have := T.deep
      omega
  simp only [reprL, e, ok, if_true]
theorem strs_small {s : Str} (h : ∀ c ∈ TL.tl s, c < 128) : s.cps.toList.all (fun c => decide (c < 16 ^ 8)) = true := by
  rw [List.all_eq_true]
  intro c hc
  have := h c hc
  exact decide_eq_true (by omega)
theorem eqT_self {s : Str} : eqT (.str s) (.str s) μ = .ok (.bl true) μ := by simp [eqT]
theorem same_flat {n : Nat} {d : D} {p : PyData} {B : Nat} (T : Thg [] μ 8 B d p) (hB : B ≤ 100000) (hd : isT1 "tuple" d μ = .ok (.bl false) μ) : m_law_same (n + 1) [d, d] μ = .ok (.bl true) μ := by
  have r := repr_thg T hB
  refine run_is (m := b_law_same (m_law_same n)) ?_
  unfold b_law_same
  refine (seq_skip (μ1 := μ) (test_k (un_k (p := d) (μ1 := μ) rfl hd))).trans (ret_is ?_)
  exact bin_k (call1k (p := d) (μ1 := μ) rfl r) (call1k (p := d) (μ1 := μ) rfl r) eqT_self
theorem okN_abs {i : Int} (h : okN i) : i.natAbs < 10 ^ 50 := by
  have := h.1; have := h.2
  exact Nat.lt_trans (show i.natAbs < 10 ^ 15 by omega) (by decide)
theorem same_int {n : Nat} {i : Int} (h : i.natAbs < 10 ^ 50) : m_law_same (n + 1) [.int i, .int i] μ = .ok (.bl true) μ := by
  have u : subT "int" "tuple" = false := by decide +kernel
  exact same_flat (thg_int (B := 0) h) (by decide) (by simp [isT1, tyD, u])
theorem same_str {n : Nat} {s : Str} (h : ∀ c ∈ TL.tl s, c < 128) (hl : s.length ≤ 100000) : m_law_same (n + 1) [.str s, .str s] μ = .ok (.bl true) μ := by
  have u : subT "str" "tuple" = false := by decide +kernel
  exact same_flat (thg_str (B := s.length) (strs_small h) (Nat.le_refl _)) hl (by simp [isT1, tyD, u])
def PlN : Nat → D → Prop
  | _, .int i => i.natAbs < 10 ^ 50
  | n + 1, .tup l => l.length ≤ 1000 ∧ ∀ x ∈ l, PlN n x
  | _, _ => False
theorem same_tup {n : Nat} {l : List D} (hz : l.length ≤ 1000) (ih : ∀ (x : D) (μ : Mem), x ∈ l → ∃ μ', m_law_same n [x, x] μ = .ok (.bl true) μ' ∧ Keep [] μ μ') : ∃ μ', m_law_same (n + 1) [.tup l, .tup l] μ = .ok (.bl true) μ' ∧ Keep [] μ μ' := by
  have s4 : subT "tuple" "tuple" = true := by decide +kernel
  have key := compL_ok (chk := fun _ => True) (g := gN 2) (tt := mNot (mTest (mB (m_law_same n) (mCons (mBin idxA (mVar 0) (mVar 2)) (mCons (mBin idxA (mVar 1) (mVar 2)) (mNil)))))) (te := mVar 2)
    (ρ0 := [some (.tup l), some (.tup l), none]) (rangeItems 0 l.length) (fun i acc μ' => acc = [] ∧ Keep [] μ μ') 0 (acc := []) (μ := μ) ⟨rfl, .refl⟩ (fun _ _ _ _ => trivial) (fun i d acc μ' ed ⟨ea, k⟩ => by
      obtain ⟨hi, rfl⟩ := Q.range_at ed
      rw [Int.zero_add]
      obtain ⟨a, ha⟩ : ∃ a, l[i]? = some a := ⟨_, List.getElem?_eq_getElem (by omega)⟩
      obtain ⟨μ2, q, k2⟩ := ih a μ' (List.mem_of_getElem? ha)
      have i1 : idxA (.tup l) (.int (i : Int)) μ' = .ok a μ' := ix_tup (by omega) (by rw [Int.toNat_natCast]; exact ha)
      refine .mk (a := [some (.tup l), some (.tup l), some (.int (i : Int))]) (μ := μ') (by simp) (.mk (a := false) (μ := μ2) (by simp [i1, q]) ?_)
      rw [if_neg (by simp)]
      exact ⟨ea, k.trans k2⟩)
  obtain ⟨l2, μ2, e, rfl, k⟩ := key
  have ll : lenL [.tup l] μ = .ok (.int (l.length : Int)) μ := rfl
  have ir : iRange1 (mCons (mB lenL (mCons (mVar 1) (mNil))) (mNil)) [some (.tup l), some (.tup l), none] μ = .ok (rangeItems 0 l.length, fun _ => True) μ := ir1 (by simp [ll]) (by omega)
  have hc := comp_is (own := [2]) ir (show compL _ _ _ _ (wipeR [some (.tup l), some (.tup l), none] [2]) _ [] μ = _ from e)
  have d0 : ∀ (μ : Mem) (r : Nat), μ[r]? = some (.lst []) → D.py? 8 μ (.ref r) = some (.list []) := fun μ r h => by simp [D.py?, h, D.pys?]
  have he : eqD (.ref μ2.length) (.ref (μ2.length + 1)) (μ2 ++ [.lst []] ++ [.lst []]) = .ok (.bl true) (μ2 ++ [.lst []] ++ [.lst []]) := by
    have h1 := d0 (μ2 ++ [.lst []] ++ [.lst []]) μ2.length (app_at app_new)
    have h2 := d0 (μ2 ++ [.lst []] ++ [.lst []]) (μ2.length + 1) (by rw [show μ2.length + 1 = (μ2 ++ [Cell.lst []]).length by simp]; exact app_new)
    have h3 : SeqAt.shaped (PyData.list []) = true := by rfl
    simp only [eqD, h1, h2, h3, Bool.and_self, if_true, PyData.eqv, PyData.eqvAll]
  refine ⟨μ2 ++ [.lst []] ++ [.lst []], run_is (m := b_law_same (m_law_same n)) ?_, k.trans (Keep.trans Keep.app Keep.app)⟩
  unfold b_law_same
  refine seq_ret ((if_t (μ1 := μ) (by simp [startR, isT1, tyD, s4])).trans ?_)
  have ln : neD (.int (l.length : Int)) (.int (l.length : Int)) μ = .ok (.bl false) μ := by rw [neI]; simp
  refine (seq_skip (μ1 := μ) (by simp [startR, isT1, tyD, s4, ll, ln])).trans ?_
  refine ret_is ?_
  rw [mBin, show startR 3 [D.tup l, D.tup l] = [some (.tup l), some (.tup l), none] from rfl, hc]
  simp only [Res.bind, mLst, mNil, List.length_nil, Nat.zero_le, if_true, List.length_append, List.length_cons]
  exact he
theorem same_self : ∀ (n : Nat) (d : D) (μ : Mem), PlN n d → ∀ k, n ≤ k → ∃ μ', m_law_same (k + 1) [d, d] μ = .ok (.bl true) μ' ∧ Keep [] μ μ'
  | n, .int i, μ, h, k, _ => ⟨μ, same_int (by cases n <;> (unfold PlN at h; exact h)), .refl⟩
  | n + 1, .tup l, μ, h, k, hk => by
    unfold PlN at h
    obtain ⟨k, rfl⟩ : ∃ j, k = j + 1 := ⟨k - 1, by omega⟩
    exact same_tup h.1 fun x μ hx => same_self n x μ (h.2 x hx) k (by omega)
  | 0, .tup l, μ, h, _, _ => by unfold PlN at h; exact h.elim
  | _, .frl l, _, h, _, _ => by unfold PlN at h; exact h.elim
  | _, .ref l, _, h, _, _ => by unfold PlN at h; exact h.elim
  | _, .fn l, _, h, _, _ => by unfold PlN at h; exact h.elim
  | _, .non, _, h, _, _ => by unfold PlN at h; exact h.elim
  | _, .bl _, _, h, _, _ => by unfold PlN at h; exact h.elim
  | _, .str _, _, h, _, _ => by unfold PlN at h; exact h.elim
theorem pln_ints {n : Nat} {xs : List Int} (h : ∀ x ∈ xs, x.natAbs < 10 ^ 50) (hl : xs.length ≤ 1000) : PlN (n + 1) (.tup (xs.map D.int)) := by
  unfold PlN
  refine ⟨by rw [List.length_map]; exact hl, fun x hx => ?_⟩
  obtain ⟨y, hy, rfl⟩ := List.mem_map.mp hx
  cases n <;> (unfold PlN; exact h y hy)
theorem pln_pair {n : Nat} {p : Int × Int} (h1 : p.1.natAbs < 10 ^ 50) (h2 : p.2.natAbs < 10 ^ 50) : PlN (n + 1) (pairD p) := pln_ints (xs := [p.1, p.2]) (fun x hx => by
  rcases List.mem_cons.mp hx with rfl | hx
  · exact h1
  · rw [List.mem_singleton.mp hx]; exact h2) (by simp)
/-! ### what is shown -/
theorem thgs_map {α : Type} {ex : List Nat} {n B : Nat} {enc : α → D} {q : α → PyData} : ∀ {l : List α}, (∀ x ∈ l, Thg ex μ n B (enc x) (q x)) → Thgs ex μ n (l.length * (B + 1)) (l.map enc) (l.map q)
  | [], _ => by rw [List.length_nil, Nat.zero_mul]; exact thgs_nil
  | x :: l, h => by
    have t := thgs_cons (h x (List.mem_cons_self ..)) (thgs_map fun y hy => h y (List.mem_cons_of_mem _ hy))
    exact t.le (Nat.le_refl _) (by rw [List.length_cons, Nat.succ_mul]; omega)
theorem thg_ints {ex : List Nat} {n : Nat} {xs : List Int} (h : ∀ x ∈ xs, x.natAbs < 10 ^ 50) : Thg ex μ (n + 1) xs.length (.tup (xs.map D.int)) (.tuple (xs.map PyData.int)) := by
  have t := thg_tup (thgs_map (μ := μ) (ex := ex) (n := n) (B := 0) (enc := D.int) (q := PyData.int) fun x hx => thg_int (h x hx))
  exact t.le (Nat.le_refl _) (by omega)
theorem thg_pair {ex : List Nat} {n : Nat} {p : Int × Int} (h1 : p.1.natAbs < 10 ^ 50) (h2 : p.2.natAbs < 10 ^ 50) : Thg ex μ (n + 1) 2 (pairD p) (.tuple [.int p.1, .int p.2]) :=
  thg_ints (xs := [p.1, p.2]) fun x hx => by
    rcases List.mem_cons.mp hx with rfl | hx
    · exact h1
    · rw [List.mem_singleton.mp hx]; exact h2
/-! ### so many things, each by draws -/
theorem draws_spec {α : Type} {ρ0 : Rho} {te : MD} {P : α → Prop} {e : α → D} {i w n : Nat} (h : Stm μ k c N) (hN : N + w * n < 1000000) (hn : n ≤ 1000)
    (ht : ∀ (x : Int) (μ1 : Mem) (M : Nat), Stm μ1 k c M → M + w < 1000000 → ∃ (v : α) (μ2 : Mem), te (ρ0.set i (some (.int x))) μ1 = .ok (e v) μ2 ∧ P v ∧ Stm μ2 k c (M + w) ∧ Keep [k] μ1 μ2) :
    ∃ (vs : List α) (μ' : Mem), compL (fun _ => True) (gN i) mYes te ρ0 (rangeItems 0 n) [] μ = .ok (vs.map e) μ' ∧ vs.length = n ∧ (∀ v ∈ vs, P v) ∧ Stm μ' k c (N + w * n) ∧ Keep [k] μ μ' := by
  have key := compL_ok (chk := fun _ => True) (g := gN i) (tt := mYes) (te := te) (ρ0 := ρ0) (rangeItems 0 n)
    (fun j acc μ' => j ≤ n ∧ ∃ vs : List α, acc = vs.map e ∧ vs.length = j ∧ (∀ v ∈ vs, P v) ∧ Stm μ' k c (N + w * j) ∧ Keep [k] μ μ') 0 (acc := []) (μ := μ)
    ⟨Nat.zero_le _, [], rfl, rfl, by simp, h, .refl⟩ (fun _ _ _ _ => trivial)
    (fun j d acc μ' ed ⟨hj, vs, ea, el, hp, hs, kk⟩ => by
      simp only [Nat.zero_add] at hj el hs ⊢
      obtain ⟨hj2, rfl⟩ := Q.range_at ed
      have hw : w * j + w ≤ w * n := by
        have : w * (j + 1) ≤ w * n := Nat.mul_le_mul_left w hj2
        rwa [Nat.mul_add, Nat.mul_one] at this
      obtain ⟨v, μ2, q, hv, s2, k2⟩ := ht (0 + (j : Int)) μ' (N + w * j) hs (by omega)
      refine .mk (μ := μ') rfl (.mk (μ := μ') rfl ?_)
      rw [if_pos rfl]
      refine ⟨by rw [ea, List.length_map, sizeLine_eq]; omega, .mk q ⟨by omega, vs ++ [v], by rw [ea]; simp, by simp [el], fun z hz => ?_, by rw [show N + w * (j + 1) = N + w * j + w by rw [Nat.mul_add, Nat.mul_one]; omega]; exact s2, kk.trans k2⟩⟩
      rcases List.mem_append.mp hz with hz | hz
      · exact hp z hz
      · simp at hz; subst hz; exact hv)
  rw [show (rangeItems 0 n).length = n by simp [rangeItems], Nat.zero_add] at key
  obtain ⟨l, μ', q, _, vs, rfl, el, hp, hs, kk⟩ := key
  exact ⟨vs, μ', q, el, hp, hs, kk⟩
theorem small_num {n : Int} (h : okN n) : ∀ c ∈ TL.tl (num n), c < 128 := fun c hc => by have := num_dig h.1 hc; omega
theorem small_join {y : Str} {B : Nat} (hy : ∀ c ∈ TL.tl y, c < B) : ∀ {l : List Str}, (∀ x ∈ l, ∀ c ∈ TL.tl x, c < B) → ∀ c ∈ TL.tl (Txt.join y l), c < B := by
  intro l h
  rw [TL.join_eq, TL.tl_join]
  have key : ∀ m : List (List Nat), (∀ x ∈ m, ∀ c ∈ x, c < B) → ∀ c ∈ TL.joinL (TL.tl y) m, c < B := by
    intro m
    induction m with
    | nil => intro _ c hc; simp [TL.joinL] at hc
    | cons a m ih =>
      intro h c hc
      cases m with
      | nil => exact h a (by simp) c hc
      | cons b m =>
        rcases List.mem_append.mp (show c ∈ a ++ (TL.tl y ++ TL.joinL (TL.tl y) (b :: m)) from hc) with hc | hc
        · exact h a (by simp) c hc
        · rcases List.mem_append.mp hc with hc | hc
          · exact hy c hc
          · exact ih (fun x hx => h x (List.mem_cons_of_mem _ hx)) c hc
  exact key _ fun x hx => by
    obtain ⟨z, hz, rfl⟩ := List.mem_map.mp hx
    exact h z hz
theorem small_one {y : Str} {a : Nat} (e : TL.tl y = [a]) (ha : a < 128) : ∀ c ∈ TL.tl y, c < 128 := fun c hc => by
  rw [e] at hc
  rw [List.mem_singleton.mp hc]; exact ha
theorem small_app {a b : Str} (ha : ∀ c ∈ TL.tl a, c < 128) (hb : ∀ c ∈ TL.tl b, c < 128) : ∀ c ∈ TL.tl (a ++ b), c < 128 := fun c hc => by
  rw [TL.tl_append] at hc
  rcases List.mem_append.mp hc with hc | hc
  · exact ha c hc
  · exact hb c hc
theorem look {ρ : Rho} {wr rd thing text : MD} {w : Str} {d : D} {n : Nat} {μ1 : Mem} (hw : wr ρ μ = .ok (.str w) μ1) (hk : Keep [] μ μ1) (ht : ∀ μ, text ρ μ = .ok (.str w) μ) (hs : ∀ c ∈ TL.tl w, c < 128) (hl : w.length ≤ 100000)
    (hr : ∀ μ' : Mem, Keep [] μ μ' → ∃ μ2, rd ρ μ' = .ok d μ2 ∧ Keep [] μ' μ2) (hd : ∀ μ' : Mem, Keep [] μ μ' → thing ρ μ' = .ok d μ') (hp : PlN n d) (hn : n ≤ 7) :
    ∃ μ', sIf (mOr (mNot (mTest (mB (m_law_same 8) (mCons wr (mCons text mNil))))) (mNot (mTest (mB (m_law_same 8) (mCons rd (mCons thing mNil)))))) (sRet (mC (.bl false))) sNil ρ μ = .ok (.nx ρ) μ' ∧ Keep [] μ μ' := by
  obtain ⟨μ2, q2, k2⟩ := hr μ1 hk
  obtain ⟨μ3, q3, k3⟩ := same_self n d μ2 hp 7 hn
  have c1 := call2k (f := m_law_same 8) hw (ht μ1) (same_str (n := 7) (μ := μ1) hs hl)
  have c2 := call2k (f := m_law_same 8) q2 (hd μ2 (hk.trans k2)) q3
  exact ⟨μ3, (if_f (or_f (not_k (b := true) (test_k c1)) (not_k (b := true) (test_k c2)))).trans rfl, (hk.trans k2).trans k3⟩
theorem ix_last {l : List D} {n : Nat} {d : D} (h : μ[n]? = some (.lst l)) (e : l[l.length - 1]? = some d) : idxA (.ref n) (.int (-1)) μ = .ok d μ := by
  have hl : 0 < l.length := by have := (List.getElem?_eq_some_iff.mp e).1; omega
  have h2 : atI l (-1) = some d := by
    unfold atI ixN
    rw [if_neg (by decide), if_pos (by omega)]
    show l[((-1 : Int) + (l.length : Int)).toNat]? = some d
    rw [show ((-1 : Int) + (l.length : Int)).toNat = l.length - 1 by omega, e]
  simp only [idxA, idxD, h, h2]
end
end K86

/-! S110: far houses, their narrow places of any width. -/
namespace K86
open PySem L2 RW
section
variable {μ : Mem} {k c N : Nat}
/-- of each thing of a row another one, by w draws -/
theorem eachD_spec {α β : Type} {chk : Mem → Prop} {g : MG} {ρ0 : Rho} {te : MD} (enc : α → D) (e : β → D) (P : α → β → Prop) {w : Nat} {xs : List α} (h : Stm μ k c N) (hN : N + w * xs.length < 1000000) (hl : xs.length ≤ 1000) (hc : ∀ μ', Keep [k] μ μ' → chk μ')
    (ht : ∀ (x : α) (μ1 : Mem) (M : Nat), x ∈ xs → Stm μ1 k c M → M + w < 1000000 → Keep [k] μ μ1 → ∃ (ρ1 : Rho) (v : β) (μ2 : Mem), g (enc x) ρ0 μ1 = .ok ρ1 μ1 ∧ te ρ1 μ1 = .ok (e v) μ2 ∧ P x v ∧ Stm μ2 k c (M + w) ∧ Keep [k] μ1 μ2) :
    ∃ (ys : List β) (μ' : Mem), compL chk g mYes te ρ0 (xs.map enc) [] μ = .ok (ys.map e) μ' ∧ Paired P xs ys ∧ Stm μ' k c (N + w * xs.length) ∧ Keep [k] μ μ' := by
  have key := compL_ok (chk := chk) (g := g) (tt := mYes) (te := te) (ρ0 := ρ0) (xs.map enc)
    (fun j acc μ' => j ≤ xs.length ∧ ∃ ys : List β, acc = ys.map e ∧ Paired P (xs.take j) ys ∧ Stm μ' k c (N + w * j) ∧ Keep [k] μ μ') 0 (acc := []) (μ := μ)
    ⟨Nat.zero_le _, [], rfl, by rw [List.take_zero]; exact .nil, h, .refl⟩ (fun _ _ _ ⟨_, _, _, _, _, kk⟩ => hc _ kk)
    (fun j d acc μ' ed ⟨hj, ys, ea, hp, hs, kk⟩ => by
      simp only [Nat.zero_add] at hj hp hs ⊢
      rw [List.getElem?_map] at ed
      obtain ⟨x, ex, rfl⟩ := Option.map_eq_some_iff.mp ed
      have hj2 := (List.getElem?_eq_some_iff.mp ex).1
      have hw : w * j + w ≤ w * xs.length := by
        have : w * (j + 1) ≤ w * xs.length := Nat.mul_le_mul_left w hj2
        rwa [Nat.mul_add, Nat.mul_one] at this
      obtain ⟨ρ1, v, μ2, q0, q, hv, s2, k2⟩ := ht x μ' (N + w * j) (List.mem_of_getElem? ex) hs (by omega) kk
      refine .mk q0 (.mk (μ := μ') rfl ?_)
      rw [if_pos rfl]
      have hl2 : ys.length = j := by
        have := hp.length
        rw [List.length_take] at this
        omega
      refine ⟨by rw [ea, List.length_map, sizeLine_eq]; omega, .mk q ⟨by omega, ys ++ [v], by rw [ea]; simp, ?_, by rw [show N + w * (j + 1) = N + w * j + w by rw [Nat.mul_add, Nat.mul_one]; omega]; exact s2, kk.trans k2⟩⟩
      rw [List.take_add_one, ex]
      exact RW.Paired.snoc hp hv)
  rw [List.length_map, Nat.zero_add] at key
  obtain ⟨l, μ', q, _, ys, rfl, hp, hs, kk⟩ := key
  rw [List.take_length] at hp
  exact ⟨ys, μ', q, hp, hs, kk⟩
end
/-- the same pipe, its narrow places of other widths -/
structure Like (p q : Pipe) : Prop where
  a : q.a = p.a
  b : q.b = p.b
  len : q.len = p.len
  nar : Paired (fun x y : Int × Int => y.1 = x.1 ∧ 1 ≤ y.2 ∧ y.2 ≤ 1000000) p.nar q.nar
  fl : q.fl = p.fl
theorem paired_mem {α β : Type} {F : α → β → Prop} : ∀ {l : List α} {r : List β}, Paired F l r → ∀ y ∈ r, ∃ x ∈ l, F x y
  | _, _, .nil, y, h => (List.not_mem_nil h).elim
  | _, _, .cons (a := a) (b := b) h t, y, hy => by
    rcases List.mem_cons.mp hy with rfl | hy
    · exact ⟨a, List.mem_cons_self .., h⟩
    · obtain ⟨x, hx, hf⟩ := paired_mem t y hy
      exact ⟨x, List.mem_cons_of_mem _ hx, hf⟩
theorem paired_split {α β : Type} {F : α → β → Prop} {p : α} : ∀ {l1 l2 : List α} {r : List β}, Paired F (l1 ++ p :: l2) r → ∃ r1 q r2, r = r1 ++ q :: r2 ∧ Paired F (l1 ++ l2) (r1 ++ r2) ∧ F p q
  | [], l2, _, .cons (b := b) h t => ⟨[], b, _, rfl, t, h⟩
  | a :: l1, l2, _, .cons (b := b) h t => by
    obtain ⟨r1, q, r2, rfl, h2, h3⟩ := paired_split t
    exact ⟨b :: r1, q, r2, rfl, .cons h h2, h3⟩
theorem like_tree {S : List Int} {ps : List Pipe} (t : Tree S ps) : ∀ {qs : List Pipe}, Paired Like ps qs → Tree S qs := by
  induction t with
  | one x => intro qs h; cases h; exact .one x
  | grow t hy hx he hl ih =>
    intro qs h
    obtain ⟨r1, q, r2, rfl, h2, h3⟩ := paired_split h
    refine .grow (ih h2) hy hx ?_ ?_
    · rw [h3.a, h3.b]; exact he
    · rw [h3.a, h3.b]; exact hl
theorem paired_fst {F : Int × Int → Int × Int → Prop} (hf : ∀ x y, F x y → y.1 = x.1) : ∀ {l r : List (Int × Int)}, Paired F l r → r.map (·.1) = l.map (·.1)
  | _, _, .nil => rfl
  | _, _, .cons h t => by rw [List.map_cons, List.map_cons, hf _ _ h, paired_fst hf t]
theorem like_sum {f : Pipe → Int} (hf : ∀ p q, Like p q → f q = f p) : ∀ {ps qs : List Pipe}, Paired Like ps qs → (qs.map f).sum = (ps.map f).sum
  | _, _, .nil => rfl
  | _, _, .cons h t => by rw [List.map_cons, List.map_cons, List.sum_cons, List.sum_cons, hf _ _ h, like_sum hf t]
theorem like_house {R : Nat} {ps qs : List Pipe} (H : House R ps) (h : Paired Like ps qs) : House R qs where
  r1 := H.r1
  r2 := H.r2
  tree := let ⟨S, h1, h2⟩ := H.tree; ⟨S, h1, like_tree h2 h⟩
  len := by have := H.len; have := h.length; omega
  ok := fun q hq => by
    obtain ⟨p, hp, l⟩ := paired_mem h q hq
    have ok := H.ok p hp
    have e := paired_fst (fun _ _ z => z.1) l.nar
    refine ⟨by rw [l.len]; exact ok.l1, by rw [l.len]; exact ok.l2, by rw [e]; exact ok.n1, fun x hx => ?_, by rw [l.fl]; exact ok.f1, by rw [l.fl, l.len]; exact ok.f2⟩
    obtain ⟨y, hy, hf⟩ := paired_mem l.nar x hx
    have := ok.n2 y hy
    rw [l.len]
    omega
  rng := fun q hq => by
    obtain ⟨p, hp, l⟩ := paired_mem h q hq
    have := H.rng p hp
    rw [l.a, l.b]; exact this
  nar := by rw [like_sum (fun p q l => by rw [l.nar.length]) h]; exact H.nar
  fla := by rw [like_sum (fun p q l => by rw [l.fl]) h]; exact H.fla
theorem le_sum {f : Pipe → Int} (h0 : ∀ p, 0 ≤ f p) : ∀ {ps : List Pipe} {p : Pipe}, p ∈ ps → f p ≤ (ps.map f).sum
  | q :: ps, p, h => by
    have nn : ∀ l : List Pipe, 0 ≤ (l.map f).sum := fun l => by
      induction l with
      | nil => simp
      | cons a l ih => rw [List.map_cons, List.sum_cons]; have := h0 a; omega
    rw [List.map_cons, List.sum_cons]
    rcases List.mem_cons.mp h with rfl | h
    · have := nn ps; omega
    · have := le_sum h0 h; have := h0 q; omega
theorem House.nar_le {R : Nat} {ps : List Pipe} (H : House R ps) {p : Pipe} (hp : p ∈ ps) : p.nar.length ≤ 12 := by
  have := le_sum (f := fun p => (p.nar.length : Int)) (fun p => by omega) hp
  have := H.nar
  omega
theorem House.fl_le {R : Nat} {ps : List Pipe} (H : House R ps) {p : Pipe} (hp : p ∈ ps) : p.fl.length ≤ 6 := by
  have := le_sum (f := fun p => (p.fl.length : Int)) (fun p => by omega) hp
  have := H.fla
  omega
section
variable {μ : Mem} {k c N : Nat}
theorem pow6 {ρ : Rho} : mBin powD (mC (.int 10)) (mC (.int 6)) ρ μ = .ok (.int 1000000) μ := rfl
theorem far_of {ρ : Rho} {f : MD} {M : Int} (h : Stm μ k c N) (hN : N + 3 < 1000000) (h1 : 1 ≤ M) (h2 : M ≤ 1000000000000000) (h0 : ρ[0]? = some (some (.ref k))) (hf : f ρ μ = .ok (.int M) μ) :
    ∃ (x : Int) (μ' : Mem), mB m_law_far (mCons (mVar 0) (mCons f (mNil))) ρ μ = .ok (.int x) μ' ∧ 0 ≤ x ∧ x < M ∧ Stm μ' k c (N + 3) ∧ Keep [k] μ μ' := by
  obtain ⟨x, μ', q, x0, x1, s, kk⟩ := far_spec' (M := M) h hN h1 h2
  have m0 : (mVar 0) ρ μ = .ok (.ref k) μ := by simp only [mVar, h0]
  exact ⟨x, μ', call2k m0 hf q, x0, x1, s, kk⟩
noncomputable def wdT : MD := mB tupleL (mCons (mComp (iSeq (mVar 6)) (gTupM 2 (gConsM (gN 9) (gConsM (gN 10) (gNilM)))) (mYes) (mTup (mCons (mVar 9) (mCons (mBin addD (mC (.int 1)) (mB m_law_far (mCons (mVar 0) (mCons (mBin powD (mC (.int 10)) (mC (.int 6))) (mNil))))) (mNil)))) [9, 10]) (mNil))
noncomputable def wdB : MS := sSeq (sSet 8 wdT) (sExpr (mMt isLst appendM (mVar 2) (mCons (mTup (mCons (mVar 3) (mCons (mVar 4) (mCons (mVar 5) (mCons (mVar 8) (mCons (mVar 7) (mNil))))))) (mNil))))
theorem wide_eq : b_law_wide = sSeq (sSet 2 (mLst (mNil)))
    (sSeq (sFor (iSeq (mBin idxA (mVar 1) (mC (.int 1)))) (gTupM 5 (gConsM (gN 3) (gConsM (gN 4) (gConsM (gN 5) (gConsM (gN 6) (gConsM (gN 7) (gNilM))))))) wdB)
    (sRet (mTup (mCons (mBin idxA (mVar 1) (mC (.int 0))) (mCons (mB tupleL (mCons (mVar 2) (mNil))) (mNil)))))) := rfl
abbrev rhoW (k : Nat) (v1 : Option D) (n : Nat) (p : Pipe) (o8 : Option D) : Rho := [some (.ref k), v1, some (.ref n), some (.int p.a), some (.int p.b), some (.int p.len), some (.tup (p.nar.map pairD)), some (.tup (p.fl.map pairD)), o8, none, none]
theorem app_lst {n : Nat} {l : List D} {y : D} {ρ : Rho} {o e : MD} {μ1 : Mem} (ho : o ρ μ = .ok (.ref n) μ) (e1 : μ1[n]? = some (.lst l)) (e0 : isLst (.ref n) μ = true) (he : e ρ μ = .ok y μ1) (hl : l.length ≤ 10000) : sExpr (mMt isLst appendM o (mCons e mNil)) ρ μ = .ok (.nx ρ) (μ1.set n (.lst (l ++ [y]))) := by
  have ap : appendM (.ref n) [y] μ1 = .ok .non (μ1.set n (.lst (l ++ [y]))) := by
    simp only [appendM, e1]
    rw [if_pos (by rw [sizeLine_eq]; omega)]
  simp only [sExpr, mMt, ho, Res.bind, e0, if_true, mCons, mNil, he, ap]
  rfl
theorem isLst_of {n : Nat} {l : List D} (e : μ[n]? = some (.lst l)) : isLst (.ref n) μ = true := by simp only [isLst, e]
theorem wdT_spec {v1 o8 : Option D} {n : Nat} {p : Pipe} (h : Stm μ k c N) (hN : N + 100 < 1000000) (hp : p.nar.length ≤ 12) :
    ∃ (xs : List (Int × Int)) (μ' : Mem), wdT (rhoW k v1 n p o8) μ = .ok (.tup (xs.map pairD)) μ' ∧ Paired (fun x y : Int × Int => y.1 = x.1 ∧ 1 ≤ y.2 ∧ y.2 ≤ 1000000) p.nar xs ∧ Stm μ' k c (N + 100) ∧ Keep [k] μ μ' := by
  obtain ⟨xs, μ2, q2, hq, s2, k2⟩ := eachD_spec (chk := fun _ => True) (g := gTupM 2 (gConsM (gN 9) (gConsM (gN 10) (gNilM)))) (ρ0 := wipeR (rhoW k v1 n p o8) [9, 10]) (te := mTup (mCons (mVar 9) (mCons (mBin addD (mC (.int 1)) (mB m_law_far (mCons (mVar 0) (mCons (mBin powD (mC (.int 10)) (mC (.int 6))) (mNil))))) (mNil)))) pairD pairD (fun x y : Int × Int => y.1 = x.1 ∧ 1 ≤ y.2 ∧ y.2 ≤ 1000000) (w := 3) (xs := p.nar) h (by omega) (by omega) (fun _ _ => trivial)
    (fun x μ1 M _ hs hM _ => by
      let ρ1 : Rho := [some (.ref k), v1, some (.ref n), some (.int p.a), some (.int p.b), some (.int p.len), some (.tup (p.nar.map pairD)), some (.tup (p.fl.map pairD)), o8, some (.int x.1), some (.int x.2)]
      obtain ⟨v, μ2, qq, v0, v1', s, kk⟩ := far_of (ρ := ρ1) (f := mBin powD (mC (.int 10)) (mC (.int 6))) (M := 1000000) hs (by omega) (by decide) (by decide) rfl pow6
      refine ⟨ρ1, (x.1, 1 + v), μ2, rfl, ?_, ⟨rfl, by show (1 : Int) ≤ 1 + v; omega, by show 1 + v ≤ (1000000 : Int); omega⟩, s, kk⟩
      have g1 : mBin addD (mC (.int 1)) (mB m_law_far (mCons (mVar 0) (mCons (mBin powD (mC (.int 10)) (mC (.int 6))) (mNil)))) ρ1 μ1 = .ok (.int (1 + v)) μ2 := bin_k rfl qq rfl
      have g2 : mVar 9 ρ1 μ1 = .ok (.int x.1) μ1 := rfl
      simp only [mTup, mCons, mNil, g1, g2, Res.bind]
      rfl)
  have c1 := comp_is (own := [9, 10]) (ρ := rhoW k v1 n p o8) (seq_tup (a := mVar 6) (l := p.nar.map pairD) (μ1 := μ) rfl) q2
  exact ⟨xs, _, call1k c1 (tup_lst app_new), hq, (s2.app).mono (by omega), k2.trans Keep.app⟩
theorem law_wide_spec {R : Nat} {ps : List Pipe} (H : House R ps) (h : Stm μ k c N) (hN : N + 3000 < 1000000) : ∃ (qs : List Pipe) (μ' : Mem), m_law_wide [.ref k, houseD R ps] μ = .ok (houseD R qs) μ' ∧ House R qs ∧ Stm μ' k c (N + 3000) ∧ Keep [k] μ μ' := by
  have hl := H.len
  have hr := H.r2
  have l0 := h.lt
  let n : Nat := μ.length
  let v1 : Option D := some (houseD R ps)
  let μ1 : Mem := μ ++ [.lst []]
  have s1 : Stm μ1 k c N := h.app
  have loop := forL_ok (chk := fun _ => True) (g := gTupM 5 (gConsM (gN 3) (gConsM (gN 4) (gConsM (gN 5) (gConsM (gN 6) (gConsM (gN 7) (gNilM))))))) (body := wdB) (ps.map Pipe.d)
    (fun i ρ μ' => i ≤ ps.length ∧ (∃ o3 o4 o5 o6 o7 o8, ρ = [some (.ref k), v1, some (.ref n), o3, o4, o5, o6, o7, o8, none, none]) ∧ ∃ qs, μ'[n]? = some (.lst (qs.map Pipe.d)) ∧ Paired Like (ps.take i) qs ∧ Stm μ' k c (N + 100 * i) ∧ Keep [k, n] μ1 μ') 0
    (ρ := [some (.ref k), v1, some (.ref n), none, none, none, none, none, none, none, none]) (μ := μ1) ⟨Nat.zero_le _, ⟨_, _, _, _, _, _, rfl⟩, [], app_new, by rw [List.take_zero]; exact .nil, s1, .refl⟩ (fun _ _ _ _ => trivial)
    (fun i d ρ μ' ed ⟨hi, ⟨o3, o4, o5, o6, o7, o8, eρ⟩, qs, en, hp, hs, kk⟩ => by
      simp only [Nat.zero_add] at hi hp hs ⊢
      subst eρ
      rw [List.getElem?_map] at ed
      obtain ⟨p, ep, rfl⟩ := Option.map_eq_some_iff.mp ed
      have hm := List.mem_of_getElem? ep
      have hj := (List.getElem?_eq_some_iff.mp ep).1
      have hql : qs.length = i := by
        have := hp.length
        rw [List.length_take] at this
        omega
      obtain ⟨xs, μ2, q2, hx, s2, k2⟩ := wdT_spec (v1 := v1) (o8 := o8) (n := n) (p := p) hs (by omega) (H.nar_le hm)
      have en2 : μ2[n]? = some (.lst (qs.map Pipe.d)) := k2.get en (by simp [n]; omega)
      let q : Pipe := ⟨p.a, p.b, p.len, xs, p.fl⟩
      have c2 : sExpr (mMt isLst appendM (mVar 2) (mCons (mTup (mCons (mVar 3) (mCons (mVar 4) (mCons (mVar 5) (mCons (mVar 8) (mCons (mVar 7) (mNil))))))) (mNil))) (rhoW k v1 n p (some (.tup (xs.map pairD)))) μ2 = .ok (.nx (rhoW k v1 n p (some (.tup (xs.map pairD))))) (μ2.set n (.lst (qs.map Pipe.d ++ [q.d]))) :=
        app_lst (n := n) (l := qs.map Pipe.d) (y := q.d) rfl en2 (isLst_of en2) rfl (by rw [List.length_map]; omega)
      refine .mk (a := rhoW k v1 n p o8) (μ := μ') rfl (.mk ((seq_set q2).trans c2) ⟨_, .inl rfl, by omega, ⟨_, _, _, _, _, _, rfl⟩, qs ++ [q], ?_, ?_, ?_, ?_⟩)
      · rw [set_at (at_lt en2), List.map_append]; rfl
      · rw [List.take_add_one, ep]
        exact RW.Paired.snoc hp ⟨rfl, rfl, rfl, hx, rfl⟩
      · rw [show N + 100 * (i + 1) = N + 100 * i + 100 by omega]
        exact s2.keep (ex := [n]) (Keep.set (by simp)) (by simp [n]; omega) (by simp [n]; omega)
      · exact (kk.trans (k2.mono fun i hi => .inl (by simp at hi; simp [hi]))).trans (Keep.set (by simp)))
  rw [List.length_map, Nat.zero_add] at loop
  obtain ⟨f, μ3, w, ρ', rfl, -, ⟨o3, o4, o5, o6, o7, o8, rfl⟩, qs, en, hp, hs, kk⟩ := loop
  rw [List.take_length] at hp
  refine ⟨qs, μ3, run_is ?_, like_house H hp, hs.mono (by omega), ?_⟩
  · rw [wide_eq]
    refine (seq_set (d := .ref n) (μ1 := μ1) rfl).trans ?_
    show sSeq _ _ [some (.ref k), v1, some (.ref n), none, none, none, none, none, none, none, none] μ1 = _
    refine (seq_run (for_run (seq_tup (l := ps.map Pipe.d) (μ1 := μ1) (bin_k (p := houseD R ps) (q := .int 1) (μ1 := μ1) (μ2 := μ1) rfl rfl (ix_tup (by decide) rfl))) w)).trans (ret_is ?_)
    have c1 : mBin idxA (mVar 1) (mC (.int 0)) [some (.ref k), v1, some (.ref n), o3, o4, o5, o6, o7, o8, none, none] μ3 = .ok (.int R) μ3 := bin_k (p := houseD R ps) (q := .int 0) (μ1 := μ3) (μ2 := μ3) rfl rfl (ix_tup (by decide) rfl)
    have c2 : mB tupleL (mCons (mVar 2) mNil) [some (.ref k), v1, some (.ref n), o3, o4, o5, o6, o7, o8, none, none] μ3 = .ok (.tup (qs.map Pipe.d)) μ3 := call1k (p := .ref n) (μ1 := μ3) rfl (tup_lst en)
    simp only [mTup, mCons, mNil, c1, c2, Res.bind]
    rfl
  · refine (Keep.trans (ex := [k, n]) (μ' := μ1) Keep.app kk).mono fun i hi => ?_
    rcases List.mem_cons.mp hi with rfl | hi
    · exact .inl (by simp)
    · rw [List.mem_singleton.mp hi]; exact .inr (Nat.le_refl _)
end
end K86

/-! S111: houses as the law writes them. -/
namespace K86
open PySem L2 RW
def mark (w : Int) : Str := if w < 0 then ("<" : Str) else (">" : Str)
def flT (p : Int × Int) : Str := num p.1 ++ mark p.2
def wordsP (p : Pipe) : List Str := [num p.a, num p.b, num p.len] ++ p.nar.map pairT ++ p.fl.map flT
def ptxt (p : Pipe) : Str := Txt.join (" " : Str) (wordsP p)
def htx (R : Int) (ps : List Pipe) : Str := Txt.join (", " : Str) (num R :: ps.map ptxt)
structure PipeT (p : Pipe) : Prop where
  a : okN p.a
  b : okN p.b
  len : okN p.len
  nar : ∀ x ∈ p.nar, okN x.1 ∧ okN x.2
  fl : ∀ x ∈ p.fl, okN x.1 ∧ (x.2 = 1 ∨ x.2 = -1)
  nl : p.nar.length ≤ 12
  fll : p.fl.length ≤ 6
theorem House.pt {R : Nat} {ps : List Pipe} (H : House R ps) : ∀ p ∈ ps, PipeT p := fun p hp => by
  have r := H.rng p hp
  have ok := H.ok p hp
  have r2 := H.r2
  have l1 := ok.l1
  have l2 := ok.l2
  exact ⟨⟨by omega, by omega⟩, ⟨by omega, by omega⟩, ⟨by omega, by omega⟩, fun x hx => by have := ok.n2 x hx; exact ⟨⟨by omega, by omega⟩, ⟨by omega, by omega⟩⟩, fun x hx => by have := ok.f2 x hx; exact ⟨⟨by omega, by omega⟩, this.2.2⟩, H.nar_le hp, H.fl_le hp⟩
section
variable {μ : Mem}
theorem mark_len (w : Int) : (mark w).length = 1 := by
  unfold mark
  split <;> decide +kernel
theorem flT_len {p : Int × Int} (h : okN p.1) : (flT p).length ≤ 16 := by
  have := num_len h.1 h.2
  unfold flT
  rw [tl_app2, mark_len]; omega
theorem word_len {p : Pipe} (h : PipeT p) : ∀ w ∈ wordsP p, w.length ≤ 31 := fun w hw => by
  unfold wordsP at hw
  rcases List.mem_append.mp hw with hw | hw
  · rcases List.mem_append.mp hw with hw | hw
    · have a := num_len h.a.1 h.a.2
      have b := num_len h.b.1 h.b.2
      have c := num_len h.len.1 h.len.2
      simp only [List.mem_cons, List.not_mem_nil, or_false] at hw
      rcases hw with rfl | rfl | rfl <;> omega
    · obtain ⟨x, hx, rfl⟩ := List.mem_map.mp hw
      exact pairT_len (h.nar x hx).1 (h.nar x hx).2
  · obtain ⟨x, hx, rfl⟩ := List.mem_map.mp hw
    have := flT_len (p := x) (h.fl x hx).1
    omega
theorem words_len {p : Pipe} (h : PipeT p) : (wordsP p).length ≤ 21 := by
  have := h.nl
  have := h.fll
  unfold wordsP
  simp only [List.length_append, List.length_map, List.length_cons, List.length_nil]; omega
theorem sp_len : (" " : Str).length = 1 := by decide +kernel
theorem cs_len : (", " : Str).length = 2 := by decide +kernel
theorem x_len : ("x" : Str).length = 1 := by decide +kernel
theorem join_le {ws : List Str} {n : Nat} (hw : ∀ w ∈ ws, w.length ≤ 31) (hl : ws.length ≤ n) : (Txt.join (" " : Str) ws).length ≤ n * 32 := by
  have := join_len (y := (" " : Str)) (B := 31) hw
  rw [sp_len] at this
  exact Nat.le_trans this (Nat.mul_le_mul hl (Nat.le_refl _))
theorem ptxt_len {p : Pipe} (h : PipeT p) : (ptxt p).length ≤ 672 := join_le (n := 21) (word_len h) (words_len h)
theorem htx_len {R : Int} {ps : List Pipe} (hR : okN R) (h : ∀ p ∈ ps, PipeT p) (hl : ps.length ≤ 15) : (htx R ps).length ≤ 10784 := by
  have := join_len (y := (", " : Str)) (B := 672) (l := num R :: ps.map ptxt) fun w hw => by
    rcases List.mem_cons.mp hw with rfl | hw
    · have := num_len hR.1 hR.2; omega
    · obtain ⟨p, hp, rfl⟩ := List.mem_map.mp hw
      exact ptxt_len (h p hp)
  rw [cs_len, List.length_cons, List.length_map] at this
  exact Nat.le_trans this (Nat.mul_le_mul (show ps.length + 1 ≤ 16 by omega) (Nat.le_refl _))
theorem htx_snoc {R : Int} {ps : List Pipe} {p : Pipe} : htx R (ps ++ [p]) = htx R ps ++ (", " : Str) ++ ptxt p := by
  unfold htx
  rw [List.map_append, List.map_cons, List.map_nil, ← List.cons_append, join_snoc (by simp)]
/-! ### the law's own writing -/
noncomputable def hwN : MS := sSet 1 (mBin addD (mBin addD (mBin addD (mBin addD (mVar 1) (mC (.str " "))) (mB strL (mCons (mVar 7) (mNil)))) (mC (.str "x"))) (mB strL (mCons (mVar 8) (mNil))))
noncomputable def hwF : MS := sSet 1 (mBin addD (mBin addD (mBin addD (mVar 1) (mC (.str " "))) (mB strL (mCons (mVar 7) (mNil)))) (mBin idxA (mLst (mCons (mC (.str ">")) (mCons (mC (.str "<")) (mNil)))) (mB intL (mCons (mBin (cmpI fun i j => decide (i < j)) (mVar 9) (mC (.int 0))) (mNil)))))
noncomputable def hwH : MS := sSet 1 (mBin addD (mBin addD (mBin addD (mBin addD (mBin addD (mBin addD (mVar 1) (mC (.str ", "))) (mB strL (mCons (mVar 2) (mNil)))) (mC (.str " "))) (mB strL (mCons (mVar 3) (mNil)))) (mC (.str " "))) (mB strL (mCons (mVar 4) (mNil))))
noncomputable def hwB : MS := sSeq hwH
    (sSeq (sFor (iSeq (mVar 5)) (gTupM 2 (gConsM (gN 7) (gConsM (gN 8) (gNilM)))) hwN)
    (sFor (iSeq (mVar 6)) (gTupM 2 (gConsM (gN 7) (gConsM (gN 9) (gNilM)))) hwF))
theorem house_text_eq : b_law_house_text = sSeq (sSet 1 (mB strL (mCons (mBin idxA (mVar 0) (mC (.int 0))) (mNil))))
    (sSeq (sFor (iSeq (mBin idxA (mVar 0) (mC (.int 1)))) (gTupM 5 (gConsM (gN 2) (gConsM (gN 3) (gConsM (gN 4) (gConsM (gN 5) (gConsM (gN 6) (gNilM))))))) hwB)
    (sRet (mVar 1))) := rfl
abbrev rhoH (v0 : Option D) (t : Str) (p : Pipe) (o7 o8 o9 : Option D) : Rho := [v0, some (.str t), some (.int p.a), some (.int p.b), some (.int p.len), some (.tup (p.nar.map pairD)), some (.tup (p.fl.map pairD)), o7, o8, o9]
variable {v0 o7 o8 o9 : Option D} {p : Pipe} {t A : Str}
theorem hwH_spec (h : PipeT p) (ht : t.length ≤ 20000) : hwH (rhoH v0 t p o7 o8 o9) μ = .ok (.nx (rhoH v0 (t ++ (", " : Str) ++ Txt.join (" " : Str) [num p.a, num p.b, num p.len]) p o7 o8 o9)) μ := by
  have a := num_len h.a.1 h.a.2
  have b := num_len h.b.1 h.b.2
  have d := num_len h.len.1 h.len.2
  have e : t ++ (", " : Str) ++ Txt.join (" " : Str) [num p.a, num p.b, num p.len] = t ++ (", " : Str) ++ num p.a ++ (" " : Str) ++ num p.b ++ (" " : Str) ++ num p.len := by
    have j : Txt.join (" " : Str) [num p.a, num p.b, num p.len] = num p.a ++ (" " : Str) ++ num p.b ++ (" " : Str) ++ num p.len := by
      rw [show [num p.a, num p.b, num p.len] = [num p.a, num p.b] ++ [num p.len] from rfl, join_snoc (by simp), join2]
    rw [j]
    simp only [str_assoc]
  rw [e]
  have s2 : mB strL (mCons (mVar 2) mNil) (rhoH v0 t p o7 o8 o9) μ = .ok (.str (num p.a)) μ := call1k (p := .int p.a) (μ1 := μ) rfl (str_num h.a)
  have s3 : mB strL (mCons (mVar 3) mNil) (rhoH v0 t p o7 o8 o9) μ = .ok (.str (num p.b)) μ := call1k (p := .int p.b) (μ1 := μ) rfl (str_num h.b)
  have s4 : mB strL (mCons (mVar 4) mNil) (rhoH v0 t p o7 o8 o9) μ = .ok (.str (num p.len)) μ := call1k (p := .int p.len) (μ1 := μ) rfl (str_num h.len)
  have c1 : mBin addD (mVar 1) (mC (.str ", ")) (rhoH v0 t p o7 o8 o9) μ = .ok (.str (t ++ (", " : Str))) μ := bin_k (p := .str t) (q := .str ", ") (μ1 := μ) (μ2 := μ) rfl rfl (add_str (by rw [cs_len]; omega))
  have l1 : (t ++ (", " : Str)).length ≤ 20002 := by rw [tl_app2, cs_len]; omega
  have c2 := bin_k c1 s2 (add_str (by omega))
  have l2 : (t ++ (", " : Str) ++ num p.a).length ≤ 20017 := by rw [tl_app2]; omega
  have c3 := bin_k c2 (y := mC (.str " ")) (q := .str " ") rfl (add_str (by rw [sp_len]; omega))
  have l3 : (t ++ (", " : Str) ++ num p.a ++ (" " : Str)).length ≤ 20018 := by rw [tl_app2, sp_len]; omega
  have c4 := bin_k c3 s3 (add_str (by omega))
  have l4 : (t ++ (", " : Str) ++ num p.a ++ (" " : Str) ++ num p.b).length ≤ 20033 := by rw [tl_app2]; omega
  have c5 := bin_k c4 (y := mC (.str " ")) (q := .str " ") rfl (add_str (by rw [sp_len]; omega))
  have l5 : (t ++ (", " : Str) ++ num p.a ++ (" " : Str) ++ num p.b ++ (" " : Str)).length ≤ 20034 := by rw [tl_app2, sp_len]; omega
  have c6 := bin_k c5 s4 (add_str (by omega))
  exact (set_is c6).trans rfl
theorem hwN_spec {x : Int × Int} (h1 : okN x.1) (h2 : okN x.2) (ht : t.length ≤ 30000) : hwN (rhoH v0 t p (some (.int x.1)) (some (.int x.2)) o9) μ = .ok (.nx (rhoH v0 (t ++ (" " : Str) ++ pairT x) p (some (.int x.1)) (some (.int x.2)) o9)) μ := by
  have a := num_len h1.1 h1.2
  have b := num_len h2.1 h2.2
  have e : t ++ (" " : Str) ++ pairT x = t ++ (" " : Str) ++ num x.1 ++ ("x" : Str) ++ num x.2 := by
    unfold pairT
    simp only [str_assoc]
  rw [e]
  have c1 : mBin addD (mVar 1) (mC (.str " ")) (rhoH v0 t p (some (.int x.1)) (some (.int x.2)) o9) μ = .ok (.str (t ++ (" " : Str))) μ := bin_k (p := .str t) (q := .str " ") (μ1 := μ) (μ2 := μ) rfl rfl (add_str (by rw [sp_len]; omega))
  have l1 : (t ++ (" " : Str)).length ≤ 30001 := by rw [tl_app2, sp_len]; omega
  have c2 := bin_k c1 (call1k (p := .int x.1) (x := mVar 7) (μ1 := μ) rfl (str_num h1)) (add_str (by omega))
  have l2 : (t ++ (" " : Str) ++ num x.1).length ≤ 30016 := by rw [tl_app2]; omega
  have c3 := bin_k c2 (y := mC (.str "x")) (q := .str "x") rfl (add_str (by rw [x_len]; omega))
  have l3 : (t ++ (" " : Str) ++ num x.1 ++ ("x" : Str)).length ≤ 30017 := by rw [tl_app2, x_len]; omega
  have c4 := bin_k c3 (call1k (p := .int x.2) (x := mVar 8) (μ1 := μ) rfl (str_num h2)) (add_str (by omega))
  exact (set_is c4).trans rfl
theorem hwF_spec {x : Int × Int} (h1 : okN x.1) (ht : t.length ≤ 30000) : ∃ μ', hwF (rhoH v0 t p (some (.int x.1)) o8 (some (.int x.2))) μ = .ok (.nx (rhoH v0 (t ++ (" " : Str) ++ flT x) p (some (.int x.1)) o8 (some (.int x.2)))) μ' ∧ Keep [] μ μ' := by
  have a := num_len h1.1 h1.2
  have e : t ++ (" " : Str) ++ flT x = t ++ (" " : Str) ++ num x.1 ++ mark x.2 := by
    unfold flT
    simp only [str_assoc]
  rw [e]
  have c1 : mBin addD (mVar 1) (mC (.str " ")) (rhoH v0 t p (some (.int x.1)) o8 (some (.int x.2))) μ = .ok (.str (t ++ (" " : Str))) μ := bin_k (p := .str t) (q := .str " ") (μ1 := μ) (μ2 := μ) rfl rfl (add_str (by rw [sp_len]; omega))
  have l1 : (t ++ (" " : Str)).length ≤ 30001 := by rw [tl_app2, sp_len]; omega
  have c2 := bin_k c1 (call1k (p := .int x.1) (x := mVar 7) (μ1 := μ) rfl (str_num h1)) (add_str (by omega))
  have l2 : (t ++ (" " : Str) ++ num x.1).length ≤ 30016 := by rw [tl_app2]; omega
  let μ1 : Mem := μ ++ [.lst [.str ">", .str "<"]]
  have m1 : mLst (mCons (mC (.str ">")) (mCons (mC (.str "<")) (mNil))) (rhoH v0 t p (some (.int x.1)) o8 (some (.int x.2))) μ = .ok (.ref μ.length) μ1 := rfl
  have m2 : mB intL (mCons (mBin (cmpI fun i j => decide (i < j)) (mVar 9) (mC (.int 0))) (mNil)) (rhoH v0 t p (some (.int x.1)) o8 (some (.int x.2))) μ1 = .ok (.int (if decide (x.2 < 0) = true then 1 else 0)) μ1 := call1k (p := .bl (decide (x.2 < 0))) (μ1 := μ1) rfl rfl
  have m3 : idxA (.ref μ.length) (.int (if decide (x.2 < 0) = true then 1 else 0)) μ1 = .ok (.str (mark x.2)) μ1 := by
    unfold mark
    by_cases hx : x.2 < 0
    · rw [if_pos (by simpa using hx), if_pos hx]; exact ix_lst app_new (by decide) rfl
    · rw [if_neg (by simpa using hx), if_neg hx]; exact ix_lst app_new (by decide) rfl
  have c3 := bin_k c2 (bin_k m1 m2 m3) (add_str (by rw [mark_len]; omega))
  exact ⟨μ1, (set_is c3).trans rfl, Keep.app⟩
theorem loopN (h : ∀ x ∈ p.nar, okN x.1 ∧ okN x.2) (hl : p.nar.length ≤ 12) {ws : List Str} (hws : ws ≠ []) (hw : ∀ w ∈ ws, w.length ≤ 31) (hwl : ws.length ≤ 3) (hA : A.length ≤ 20010) :
    ∃ (q7 q8 : Option D), sFor (iSeq (mVar 5)) (gTupM 2 (gConsM (gN 7) (gConsM (gN 8) (gNilM)))) hwN (rhoH v0 (A ++ Txt.join (" " : Str) ws) p o7 o8 o9) μ = .ok (.nx (rhoH v0 (A ++ Txt.join (" " : Str) (ws ++ p.nar.map pairT)) p q7 q8 o9)) μ := by
  have loop := forL_ok (chk := fun _ => True) (g := gTupM 2 (gConsM (gN 7) (gConsM (gN 8) (gNilM)))) (body := hwN) (p.nar.map pairD)
    (fun i ρ μ' => μ' = μ ∧ i ≤ p.nar.length ∧ ∃ q7 q8, ρ = rhoH v0 (A ++ Txt.join (" " : Str) (ws ++ (p.nar.take i).map pairT)) p q7 q8 o9) 0
    (ρ := rhoH v0 (A ++ Txt.join (" " : Str) ws) p o7 o8 o9) (μ := μ) ⟨rfl, Nat.zero_le _, o7, o8, by rw [List.take_zero, List.map_nil, List.append_nil]⟩ (fun _ _ _ _ => trivial)
    (fun i d ρ μ' ed ⟨em, hi, q7, q8, eρ⟩ => by
      simp only [Nat.zero_add] at hi eρ ⊢
      subst em eρ
      rw [List.getElem?_map] at ed
      obtain ⟨x, ex, rfl⟩ := Option.map_eq_some_iff.mp ed
      have hx := List.mem_of_getElem? ex
      have hj := (List.getElem?_eq_some_iff.mp ex).1
      have jl := join_le (ws := ws ++ (p.nar.take i).map pairT) (n := 15) (fun w hm => by
        rcases List.mem_append.mp hm with hm | hm
        · exact hw w hm
        · obtain ⟨z, hz, rfl⟩ := List.mem_map.mp hm
          have := h z (List.mem_of_mem_take hz)
          exact pairT_len this.1 this.2) (by rw [List.length_append, List.length_map, List.length_take]; omega)
      have q := hwN_spec (μ := μ') (v0 := v0) (o9 := o9) (p := p) (t := A ++ Txt.join (" " : Str) (ws ++ (p.nar.take i).map pairT)) (h x hx).1 (h x hx).2 (by rw [tl_app2]; omega)
      refine .mk (a := rhoH v0 (A ++ Txt.join (" " : Str) (ws ++ (p.nar.take i).map pairT)) p (some (.int x.1)) (some (.int x.2)) o9) (μ := μ') rfl (.mk q ⟨_, .inl rfl, rfl, by omega, some (.int x.1), some (.int x.2), ?_⟩)
      have e : Txt.join (" " : Str) (ws ++ (p.nar.take (i + 1)).map pairT) = Txt.join (" " : Str) (ws ++ (p.nar.take i).map pairT) ++ (" " : Str) ++ pairT x := by
        rw [List.take_add_one, ex]
        show Txt.join (" " : Str) (ws ++ (p.nar.take i ++ [x]).map pairT) = _
        rw [List.map_append, ← List.append_assoc]
        exact join_snoc (by simp [hws])
      rw [e]
      simp only [str_assoc])
  rw [List.length_map, Nat.zero_add] at loop
  obtain ⟨f, μ', w, ρ', rfl, rfl, -, q7, q8, rfl⟩ := loop
  rw [List.take_length] at w
  exact ⟨q7, q8, for_run (seq_tup (l := p.nar.map pairD) (μ1 := μ') rfl) w⟩
theorem loopF (h : ∀ x ∈ p.fl, okN x.1 ∧ (x.2 = 1 ∨ x.2 = -1)) (hl : p.fl.length ≤ 6) {ws : List Str} (hws : ws ≠ []) (hw : ∀ w ∈ ws, w.length ≤ 31) (hwl : ws.length ≤ 15) (hA : A.length ≤ 20010) :
    ∃ (q7 q9 : Option D) (μ' : Mem), sFor (iSeq (mVar 6)) (gTupM 2 (gConsM (gN 7) (gConsM (gN 9) (gNilM)))) hwF (rhoH v0 (A ++ Txt.join (" " : Str) ws) p o7 o8 o9) μ = .ok (.nx (rhoH v0 (A ++ Txt.join (" " : Str) (ws ++ p.fl.map flT)) p q7 o8 q9)) μ' ∧ Keep [] μ μ' := by
  have loop := forL_ok (chk := fun _ => True) (g := gTupM 2 (gConsM (gN 7) (gConsM (gN 9) (gNilM)))) (body := hwF) (p.fl.map pairD)
    (fun i ρ μ' => Keep [] μ μ' ∧ i ≤ p.fl.length ∧ ∃ q7 q9, ρ = rhoH v0 (A ++ Txt.join (" " : Str) (ws ++ (p.fl.take i).map flT)) p q7 o8 q9) 0
    (ρ := rhoH v0 (A ++ Txt.join (" " : Str) ws) p o7 o8 o9) (μ := μ) ⟨.refl, Nat.zero_le _, o7, o9, by rw [List.take_zero, List.map_nil, List.append_nil]⟩ (fun _ _ _ _ => trivial)
    (fun i d ρ μ' ed ⟨kk, hi, q7, q9, eρ⟩ => by
      simp only [Nat.zero_add] at hi eρ ⊢
      subst eρ
      rw [List.getElem?_map] at ed
      obtain ⟨x, ex, rfl⟩ := Option.map_eq_some_iff.mp ed
      have hx := List.mem_of_getElem? ex
      have hj := (List.getElem?_eq_some_iff.mp ex).1
      have jl := join_le (ws := ws ++ (p.fl.take i).map flT) (n := 21) (fun w hm => by
        rcases List.mem_append.mp hm with hm | hm
        · exact hw w hm
        · obtain ⟨z, hz, rfl⟩ := List.mem_map.mp hm
          have := flT_len (p := z) (h z (List.mem_of_mem_take hz)).1
          omega) (by rw [List.length_append, List.length_map, List.length_take]; omega)
      obtain ⟨μ2, q, k2⟩ := hwF_spec (μ := μ') (v0 := v0) (o8 := o8) (p := p) (t := A ++ Txt.join (" " : Str) (ws ++ (p.fl.take i).map flT)) (h x hx).1 (by rw [tl_app2]; omega)
      refine .mk (a := rhoH v0 (A ++ Txt.join (" " : Str) (ws ++ (p.fl.take i).map flT)) p (some (.int x.1)) o8 (some (.int x.2))) (μ := μ') rfl (.mk q ⟨_, .inl rfl, kk.trans k2, by omega, some (.int x.1), some (.int x.2), ?_⟩)
      have e : Txt.join (" " : Str) (ws ++ (p.fl.take (i + 1)).map flT) = Txt.join (" " : Str) (ws ++ (p.fl.take i).map flT) ++ (" " : Str) ++ flT x := by
        rw [List.take_add_one, ex]
        show Txt.join (" " : Str) (ws ++ (p.fl.take i ++ [x]).map flT) = _
        rw [List.map_append, ← List.append_assoc]
        exact join_snoc (by simp [hws])
      rw [e]
      simp only [str_assoc])
  rw [List.length_map, Nat.zero_add] at loop
  obtain ⟨f, μ', w, ρ', rfl, kk, -, q7, q9, rfl⟩ := loop
  rw [List.take_length] at w
  exact ⟨q7, q9, μ', for_run (seq_tup (l := p.fl.map pairD) (μ1 := μ) rfl) w, kk⟩
theorem hwB_spec (h : PipeT p) (ht : t.length ≤ 20000) : ∃ (q7 q8 q9 : Option D) (μ' : Mem), hwB (rhoH v0 t p o7 o8 o9) μ = .ok (.nx (rhoH v0 (t ++ (", " : Str) ++ ptxt p) p q7 q8 q9)) μ' ∧ Keep [] μ μ' := by
  have a := num_len h.a.1 h.a.2
  have b := num_len h.b.1 h.b.2
  have d := num_len h.len.1 h.len.2
  have w3 : ∀ w ∈ [num p.a, num p.b, num p.len], w.length ≤ 31 := fun w hw => word_len h w (by
    unfold wordsP
    exact List.mem_append.mpr (.inl (List.mem_append.mpr (.inl hw))))
  have hA : (t ++ (", " : Str)).length ≤ 20010 := by rw [tl_app2, cs_len]; omega
  have c1 := hwH_spec (μ := μ) (v0 := v0) (o7 := o7) (o8 := o8) (o9 := o9) h ht
  obtain ⟨q7, q8, c2⟩ := loopN (μ := μ) (v0 := v0) (o7 := o7) (o8 := o8) (o9 := o9) h.nar h.nl (ws := [num p.a, num p.b, num p.len]) (by simp) w3 (by simp) hA
  obtain ⟨r7, r9, μ', c3, k3⟩ := loopF (μ := μ) (v0 := v0) (o7 := q7) (o8 := q8) (o9 := o9) h.fl h.fll (ws := [num p.a, num p.b, num p.len] ++ p.nar.map pairT) (by simp) (fun w hw => word_len h w (by
    unfold wordsP
    exact List.mem_append.mpr (.inl hw))) (by have := h.nl; simp only [List.length_append, List.length_map, List.length_cons, List.length_nil]; omega) hA
  exact ⟨r7, q8, r9, μ', (seq_run c1).trans ((seq_run c2).trans c3), k3⟩
theorem law_house_text_spec {R : Nat} {ps : List Pipe} (hR : okN R) (h : ∀ p ∈ ps, PipeT p) (hl : ps.length ≤ 15) : ∃ μ', m_law_house_text [houseD R ps] μ = .ok (.str (htx R ps)) μ' ∧ Keep [] μ μ' := by
  let v0 : Option D := some (houseD R ps)
  have loop := forL_ok (chk := fun _ => True) (g := gTupM 5 (gConsM (gN 2) (gConsM (gN 3) (gConsM (gN 4) (gConsM (gN 5) (gConsM (gN 6) (gNilM))))))) (body := hwB) (ps.map Pipe.d)
    (fun i ρ μ' => Keep [] μ μ' ∧ i ≤ ps.length ∧ ∃ o2 o3 o4 o5 o6 o7 o8 o9, ρ = [v0, some (.str (htx R (ps.take i))), o2, o3, o4, o5, o6, o7, o8, o9]) 0
    (ρ := [v0, some (.str (num R)), none, none, none, none, none, none, none, none]) (μ := μ) ⟨.refl, Nat.zero_le _, _, _, _, _, _, _, _, _, by rw [List.take_zero]; show _ = [v0, some (.str (Txt.join _ [num R])), none, none, none, none, none, none, none, none]; rw [join1]⟩ (fun _ _ _ _ => trivial)
    (fun i d ρ μ' ed ⟨kk, hi, o2, o3, o4, o5, o6, o7, o8, o9, eρ⟩ => by
      simp only [Nat.zero_add] at hi eρ ⊢
      subst eρ
      rw [List.getElem?_map] at ed
      obtain ⟨p, ep, rfl⟩ := Option.map_eq_some_iff.mp ed
      have hp := List.mem_of_getElem? ep
      have hj := (List.getElem?_eq_some_iff.mp ep).1
      have hlen := htx_len (R := R) (ps := ps.take i) hR (fun p hp => h p (List.mem_of_mem_take hp)) (by rw [List.length_take]; omega)
      obtain ⟨q7, q8, q9, μ2, q, k2⟩ := hwB_spec (μ := μ') (v0 := v0) (t := htx R (ps.take i)) (o7 := o7) (o8 := o8) (o9 := o9) (h p hp) (by omega)
      refine .mk (a := rhoH v0 (htx R (ps.take i)) p o7 o8 o9) (μ := μ') rfl (.mk q ⟨_, .inl rfl, kk.trans k2, by omega, some (.int p.a), some (.int p.b), some (.int p.len), some (.tup (p.nar.map pairD)), some (.tup (p.fl.map pairD)), q7, q8, q9, ?_⟩)
      rw [List.take_add_one, ep]
      show rhoH v0 (htx R (ps.take i) ++ (", " : Str) ++ ptxt p) p q7 q8 q9 = [v0, some (.str (htx R (ps.take i ++ [p]))), some (.int p.a), some (.int p.b), some (.int p.len), some (.tup (p.nar.map pairD)), some (.tup (p.fl.map pairD)), q7, q8, q9]
      rw [htx_snoc])
  rw [List.length_map, Nat.zero_add] at loop
  obtain ⟨f, μ', w, ρ', rfl, kk, -, o2, o3, o4, o5, o6, o7, o8, o9, rfl⟩ := loop
  rw [List.take_length] at w
  have c1 : mB strL (mCons (mBin idxA (mVar 0) (mC (.int 0))) (mNil)) (startR 10 [houseD R ps]) μ = .ok (.str (num R)) μ := call1k (bin_k (p := houseD R ps) (q := .int 0) (μ1 := μ) (μ2 := μ) rfl rfl (ix_tup (by decide) rfl)) (str_num hR)
  refine ⟨μ', run_is ?_, kk⟩
  rw [house_text_eq]
  refine (seq_set c1).trans ?_
  show sSeq _ _ [v0, some (.str (num R)), none, none, none, none, none, none, none, none] μ = _
  exact (seq_run (for_run (seq_tup (l := ps.map Pipe.d) (μ1 := μ) (bin_k (p := houseD R ps) (q := .int 1) (μ1 := μ) (μ2 := μ) rfl rfl (ix_tup (by decide) rfl))) w)).trans (ret_is rfl)
end
end K86

/-! S112: houses as the program writes them. -/
namespace K86
open PySem L2 RW
section
variable {μ : Mem}
theorem mark_ix {m : Nat} {w : Int} (e : μ[m]? = some (.dic [(.int 1, .str ">"), (.int (-1), .str "<")])) (hw : w = 1 ∨ w = -1) : idxA (.ref m) (.int w) μ = .ok (.str (mark w)) μ := by
  rcases hw with rfl | rfl
  · simp only [idxA, idxD, idxDD, dictAt, e]
    rfl
  · simp only [idxA, idxD, idxDD, dictAt, e]
    rfl
noncomputable def ptW : MD := mBin addD (mLst (mCons (mB strL (mCons (mVar 1) (mNil))) (mCons (mB strL (mCons (mVar 2) (mNil))) (mCons (mB strL (mCons (mVar 3) (mNil))) (mNil))))) (mB m_pairs_text (mCons (mVar 4) (mNil)))
noncomputable def ptF : MD := mComp (iSeq (mVar 5)) (gTupM 2 (gConsM (gN 7) (gConsM (gN 8) (gNilM)))) (mYes) (mBin addD (mB strL (mCons (mVar 7) (mNil))) (mBin idxA (mDicC [(.int 1, .str ">"), (.int (-1), .str "<")]) (mVar 8))) [7, 8]
theorem pipe_text_eq : b_pipe_text = sSeq (sAsg (mVar 0) (gTupM 5 (gConsM (gN 1) (gConsM (gN 2) (gConsM (gN 3) (gConsM (gN 4) (gConsM (gN 5) (gNilM))))))))
    (sSeq (sSet 6 ptW)
    (sRet (mTx joinX (mC (.str " ")) (mBin addD (mVar 6) ptF)))) := rfl
abbrev rhoT (p : Pipe) (o6 : Option D) : Rho := [some p.d, some (.int p.a), some (.int p.b), some (.int p.len), some (.tup (p.nar.map pairD)), some (.tup (p.fl.map pairD)), o6, none, none]
variable {p : Pipe}
theorem lst3' {ρ : Rho} {x y z : MD} {a b d : D} (h1 : x ρ μ = .ok a μ) (h2 : y ρ μ = .ok b μ) (h3 : z ρ μ = .ok d μ) : mLst (mCons x (mCons y (mCons z mNil))) ρ μ = .ok (.ref μ.length) (μ ++ [.lst [a, b, d]]) := by
  simp only [mLst, mCons, mNil, h1, h2, h3, Res.bind]
  rfl
theorem ptW_spec (h : PipeT p) : ∃ (m : Nat) (μ' : Mem), ptW (rhoT p none) μ = .ok (.ref m) μ' ∧ μ'[m]? = some (.lst (([num p.a, num p.b, num p.len] ++ p.nar.map pairT).map D.str)) ∧ Keep [] μ μ' := by
  let μ1 : Mem := μ ++ [.lst [.str (num p.a), .str (num p.b), .str (num p.len)]]
  have c1 : mLst (mCons (mB strL (mCons (mVar 1) (mNil))) (mCons (mB strL (mCons (mVar 2) (mNil))) (mCons (mB strL (mCons (mVar 3) (mNil))) (mNil)))) (rhoT p none) μ = .ok (.ref μ.length) μ1 :=
    lst3' (call1k (p := .int p.a) (μ1 := μ) rfl (str_num h.a)) (call1k (p := .int p.b) (μ1 := μ) rfl (str_num h.b)) (call1k (p := .int p.len) (μ1 := μ) rfl (str_num h.len))
  obtain ⟨m, μ2, q2, e2, k2⟩ := pairs_text_spec (μ := μ1) h.nar (by have := h.nl; omega)
  have e1 : μ2[μ.length]? = some (.lst [.str (num p.a), .str (num p.b), .str (num p.len)]) := k2.get app_new (by simp)
  refine ⟨μ2.length, μ2 ++ [.lst ([.str (num p.a), .str (num p.b), .str (num p.len)] ++ (p.nar.map pairT).map D.str)], bin_k c1 (call1k (p := .tup (p.nar.map pairD)) (μ1 := μ1) rfl q2) (catL_ok e1 e2 (by have := h.nl; simp; omega)), ?_, (Keep.trans (Keep.app (cs := [.lst [.str (num p.a), .str (num p.b), .str (num p.len)]])) k2).trans Keep.app⟩
  rw [List.map_append]
  exact app_new
theorem ptF_spec {o6 : Option D} (h : PipeT p) : ∃ (m : Nat) (μ' : Mem), ptF (rhoT p o6) μ = .ok (.ref m) μ' ∧ μ'[m]? = some (.lst ((p.fl.map flT).map D.str)) ∧ Keep [] μ μ' := by
  obtain ⟨μ', q, k⟩ := comp_k (it := iSeq (mVar 5)) (g := gTupM 2 (gConsM (gN 7) (gConsM (gN 8) (gNilM)))) (te := mBin addD (mB strL (mCons (mVar 7) (mNil))) (mBin idxA (mDicC [(.int 1, .str ">"), (.int (-1), .str "<")]) (mVar 8))) (own := [7, 8]) (ρ := rhoT p o6) (ex := []) pairD (fun z => .str (flT z)) p.fl
    (seq_tup (l := p.fl.map pairD) (μ1 := μ) rfl) (fun μ' k => trivial) (by have := h.fll; omega)
    (fun z hz μ' k => by
      obtain ⟨h1, h2⟩ := h.fl z hz
      have l1 := num_len h1.1 h1.2
      let ρ1 : Rho := [some p.d, some (.int p.a), some (.int p.b), some (.int p.len), some (.tup (p.nar.map pairD)), some (.tup (p.fl.map pairD)), o6, some (.int z.1), some (.int z.2)]
      refine ⟨ρ1, μ' ++ [.dic [(.int 1, .str ">"), (.int (-1), .str "<")]], rfl, bin_k (p := .str (num z.1)) (q := .str (mark z.2)) (call1k (p := .int z.1) (μ1 := μ') rfl (str_num h1)) (bin_k (p := .ref μ'.length) (q := .int z.2) rfl rfl (mark_ix app_new h2)) (add_str (by rw [mark_len]; omega)), Keep.app⟩)
  refine ⟨_, _, q, ?_, k.trans Keep.app⟩
  rw [List.map_map]
  exact app_new
theorem pipe_text_spec (h : PipeT p) : ∃ μ', m_pipe_text [p.d] μ = .ok (.str (ptxt p)) μ' ∧ Keep [] μ μ' := by
  obtain ⟨m, μ1, q1, e1, k1⟩ := ptW_spec (μ := μ) h
  obtain ⟨n, μ2, q2, e2, k2⟩ := ptF_spec (μ := μ1) (o6 := some (.ref m)) h
  have e12 := k2.get e1 (by simp)
  have hl := words_len h
  let μ3 : Mem := μ2 ++ [.lst (([num p.a, num p.b, num p.len] ++ p.nar.map pairT).map D.str ++ (p.fl.map flT).map D.str)]
  have c3 : mBin addD (mVar 6) ptF (rhoT p (some (.ref m))) μ1 = .ok (.ref μ2.length) μ3 := bin_k (p := .ref m) (μ1 := μ1) rfl q2 (catL_ok e12 e2 (by have := h.nl; have := h.fll; simp; omega))
  have e3 : μ3[μ2.length]? = some (.lst ((wordsP p).map D.str)) := by
    unfold wordsP
    rw [List.map_append (l₂ := p.fl.map flT)]
    exact app_new
  have e := join_row (μ := μ3) (a := (" " : Str)) (d := .ref μ2.length) (ys := wordsP p) (row_lst e3) (fun y hy => by have := word_len h y hy; omega) (by omega) (by decide +kernel)
  refine ⟨μ3, run_is ?_, (k1.trans k2).trans Keep.app⟩
  rw [pipe_text_eq]
  refine (seq_asg (d := p.d) (μ1 := μ) (ρ2 := rhoT p none) (μ2 := μ) rfl rfl).trans ((seq_set q1).trans ?_)
  show sRet _ (rhoT p (some (.ref m))) μ1 = _
  exact ret_is (tx_k (a := " ") (q := .ref μ2.length) (μ1 := μ1) (μ2 := μ3) rfl c3 e)
theorem house_text_spec {R : Nat} {ps : List Pipe} (hR : okN R) (h : ∀ p ∈ ps, PipeT p) (hl : ps.length ≤ 15) : ∃ μ', m_house_text [houseD R ps] μ = .ok (.str (htx R ps)) μ' ∧ Keep [] μ μ' := by
  let μ1 : Mem := μ ++ [.lst [.str (num R)]]
  have c1 : mB strL (mCons (mBin idxA (mVar 0) (mC (.int 0))) (mNil)) (startR 2 [houseD R ps]) μ = .ok (.str (num R)) μ := call1k (bin_k (p := houseD R ps) (q := .int 0) (μ1 := μ) (μ2 := μ) rfl rfl (ix_tup (by decide) rfl)) (str_num hR)
  have c2 : mLst (mCons (mB strL (mCons (mBin idxA (mVar 0) (mC (.int 0))) (mNil))) (mNil)) (startR 2 [houseD R ps]) μ = .ok (.ref μ.length) μ1 := by
    simp only [mLst, mCons, mNil, c1, Res.bind]
    rfl
  obtain ⟨μ2, q2, k2⟩ := comp_k (it := iSeq (mBin idxA (mVar 0) (mC (.int 1)))) (g := gN 1) (te := mB m_pipe_text (mCons (mVar 1) (mNil))) (own := [1]) (ρ := startR 2 [houseD R ps]) (ex := []) Pipe.d (fun p => .str (ptxt p)) ps
    (seq_tup (l := ps.map Pipe.d) (μ1 := μ1) (bin_k (p := houseD R ps) (q := .int 1) (μ1 := μ1) (μ2 := μ1) rfl rfl (ix_tup (by decide) rfl))) (fun μ' k => trivial) (by omega)
    (fun p hp μ' k => by
      obtain ⟨μ3, q3, k3⟩ := pipe_text_spec (μ := μ') (h p hp)
      exact ⟨_, μ3, rfl, call1k (p := p.d) (μ1 := μ') rfl q3, k3⟩)
  let μ3 : Mem := μ2 ++ [.lst (ps.map fun p => D.str (ptxt p))]
  have e1 : μ3[μ.length]? = some (.lst [.str (num R)]) := app_at (k2.get app_new (by simp))
  let μ4 : Mem := μ3 ++ [.lst ([.str (num R)] ++ ps.map fun p => D.str (ptxt p))]
  have c4 : mBin addD (mLst (mCons (mB strL (mCons (mBin idxA (mVar 0) (mC (.int 0))) (mNil))) (mNil))) (mComp (iSeq (mBin idxA (mVar 0) (mC (.int 1)))) (gN 1) (mYes) (mB m_pipe_text (mCons (mVar 1) (mNil))) [1]) (startR 2 [houseD R ps]) μ = .ok (.ref μ3.length) μ4 :=
    bin_k c2 q2 (catL_ok e1 app_new (by simp; omega))
  have e4 : μ4[μ3.length]? = some (.lst ((num R :: ps.map ptxt).map D.str)) := by
    rw [List.map_cons, List.map_map]
    exact app_new
  have e := join_row (μ := μ4) (a := (", " : Str)) (d := .ref μ3.length) (ys := num R :: ps.map ptxt) (row_lst e4) (fun y hy => by
    rcases List.mem_cons.mp hy with rfl | hy
    · have := num_len hR.1 hR.2; omega
    · obtain ⟨p, hp, rfl⟩ := List.mem_map.mp hy
      have := ptxt_len (h p hp); omega) (by rw [List.length_cons, List.length_map]; omega) (by decide +kernel)
  exact ⟨μ4, run_is (ret_is (tx_k (a := ", ") (q := .ref μ3.length) (μ1 := μ) (μ2 := μ4) rfl c4 e)), ((Keep.trans (Keep.app (cs := [.lst [.str (num R)]])) k2).trans Keep.app).trans Keep.app⟩
end
end K86

/-! S113: pipes read. -/
namespace K86
open PySem L2 RW
theorem ends_list {x y : Str} {l : List Nat} {d e : Nat} (hx : TL.tl x = l ++ [d]) (hy : TL.tl y = [e]) : Txt.endswith x y = decide (d = e) := by
  have lx : x.length = l.length + 1 := by rw [TL.len_tl, hx]; simp
  have ly : y.length = 1 := by rw [TL.len_tl, hy]; rfl
  unfold Txt.endswith
  rw [StrLaws.subAt_eq, show x.cps.toList = l ++ [d] from hx, show y.cps.toList = [e] from hy, lx, ly]
  have h1 : decide (0 + 1 ≤ l.length + 1) = true := decide_eq_true (by omega)
  have h2 : ((l ++ [d]).drop (l.length + 1 - 1)).take 1 = [d] := by
    rw [Nat.add_sub_cancel, List.drop_left]
    rfl
  rw [h1, h2, Bool.true_and]
  by_cases h : d = e
  · subst h; simp
  · rw [decide_eq_false h]; simp [h]
theorem num_last {n : Int} (h : 0 ≤ n) : ∃ (l : List Nat) (d : Nat), TL.tl (num n) = l ++ [d] ∧ 48 ≤ d ∧ d ≤ 57 := by
  have hne : TL.tl (num n) ≠ [] := by rw [num_tl h]; exact TL.numL_ne _
  exact ⟨_, _, (List.dropLast_concat_getLast hne).symm, num_dig h (List.getLast_mem hne)⟩
theorem pairT_ends {p : Int × Int} (h : okN p.2) {y : Str} {e : Nat} (hy : TL.tl y = [e]) (he : 57 < e) : Txt.endswith (pairT p) y = false := by
  obtain ⟨l, d, hl, h1, h2⟩ := num_last h.1
  rw [ends_list (l := TL.tl (num p.1) ++ TL.tl ("x" : Str) ++ l) (d := d) (by
    unfold pairT
    rw [TL.tl_append, TL.tl_append, hl, List.append_assoc, List.append_assoc, List.append_assoc]) hy]
  exact decide_eq_false (by omega)
theorem mark_tl (w : Int) : TL.tl (mark w) = [if w < 0 then 60 else 62] := by
  unfold mark
  split <;> decide +kernel
theorem flT_ends {p : Int × Int} {y : Str} (e : Nat) (hy : TL.tl y = [e]) : Txt.endswith (flT p) y = decide ((if p.2 < 0 then 60 else 62) = e) :=
  ends_list (l := TL.tl (num p.1)) (d := if p.2 < 0 then 60 else 62) (by unfold flT; rw [TL.tl_append, mark_tl]) hy
theorem flT_cut {p : Int × Int} : cutS (flT p) none (some (-1)) = num p.1 := by
  refine TL.ext_tl ?_
  have hl : (flT p).length = (TL.tl (num p.1)).length + 1 := by rw [TL.len_tl]; unfold flT; rw [TL.tl_append, mark_tl]; simp
  have e : HT.sIx (flT p).length (flT p).length (some (-1)) = (TL.tl (num p.1)).length := by
    show (if (-1 : Int) < 0 then ((-1 : Int) + ((flT p).length : Int)).toNat else min (-1 : Int).toNat (flT p).length) = _
    rw [if_pos (by decide), hl]; omega
  show ((TL.tl (flT p)).drop (HT.sIx (flT p).length 0 none)).take (HT.sIx (flT p).length (flT p).length (some (-1)) - HT.sIx (flT p).length 0 none) = _
  rw [HT.sIx_none, e, List.drop_zero, Nat.sub_zero]
  unfold flT
  rw [TL.tl_append, List.take_left]
theorem cut_from {l : List D} {n : Nat} : cutD l (some (n : Int)) none = l.drop n := by
  have e : HT.sIx l.length 0 (some (n : Int)) = min n l.length := HT.sIx_nat _ _ n
  unfold cutD
  rw [HT.sIx_none, e]
  by_cases h : n ≤ l.length
  · rw [Nat.min_eq_left h, List.take_of_length_le (by simp)]
  · rw [Nat.min_eq_right (by omega), List.drop_eq_nil_of_le (by omega), List.drop_eq_nil_of_le (by omega)]; simp
section
variable {μ : Mem}
noncomputable def toldW : MD := mComp (iSeq (mC (.tup (ct_MARKS.map D.tup)))) (gTupM 2 (gConsM (gN 6) (gConsM (gN 7) (gNilM)))) (mTest (mTx endsX (mVar 4) (mVar 7))) (mVar 6) [6, 7]
noncomputable def toldF : MS := sExpr (mMt isLst appendM (mVar 3) (mCons (mTup (mCons (mB m_number_told (mCons (mSlcX (mVar 4) oNone (oSome (mUn negD (mC (.int 1))))) (mNil))) (mCons (mBin idxA (mVar 5) (mC (.int 0))) (mNil)))) (mNil)))
noncomputable def toldN : MS := sIf (mTest (mBin neD (mVar 3) (mLst (mNil)))) ((fun _ _ => .stuck)) (sExpr (mMt isLst appendM (mVar 2) (mCons (mB m_pair_told (mCons (mVar 4) (mNil))) (mNil))))
noncomputable def toldB : MS := sSeq (sSet 5 toldW) (sIf (mTest (mBin neD (mVar 5) (mLst (mNil)))) toldF toldN)
theorem pipe_told_eq : b_pipe_told = sSeq (sSet 1 (mTx splitX (mVar 0) (mC (.str " "))))
    (sSeq (sIf (mTest (mBin (cmpI fun i j => decide (i < j)) (mB lenL (mCons (mVar 1) (mNil))) (mC (.int 3)))) ((fun _ _ => .stuck)) (sNil))
    (sSeq (sSet 2 (mLst (mNil)))
    (sSeq (sSet 3 (mLst (mNil)))
    (sSeq (sFor (iSeq (mSlcX (mVar 1) (oSome (mC (.int 3))) oNone)) (gN 4) toldB)
    (sRet (mBin addD (mB m_numbers_told (mCons (mSlcX (mVar 1) oNone (oSome (mC (.int 3)))) (mNil))) (mTup (mCons (mB tupleL (mCons (mVar 2) (mNil))) (mCons (mB tupleL (mCons (mVar 3) (mNil))) (mNil)))))))))) := rfl
abbrev rhoP (v0 : Option D) (n a b : Nat) (o4 o5 : Option D) : Rho := [v0, some (.ref n), some (.ref a), some (.ref b), o4, o5, none, none]
variable {v0 o5 : Option D} {n a b : Nat} {w : Str}
theorem ways_spec {b1 b2 : Bool} (h1 : Txt.endswith w (">" : Str) = b1) (h2 : Txt.endswith w ("<" : Str) = b2) :
    toldW (rhoP v0 n a b (some (.str w)) o5) μ = .ok (.ref μ.length) (μ ++ [.lst (((if b1 = true then [1] else []) ++ (if b2 = true then [-1] else [])).map D.int)]) := by
  let ρ0 : Rho := rhoP v0 n a b (some (.str w)) o5
  let te : MD := mVar 6
  let tt : MB := mTest (mTx endsX (mVar 4) (mVar 7))
  have t1 : tt [v0, some (.ref n), some (.ref a), some (.ref b), some (.str w), o5, some (.int 1), some (.str ">")] μ = .ok b1 μ := test_k (tx_k (a := w) (q := .str ">") (μ1 := μ) (μ2 := μ) rfl rfl (by simp only [endsX, h1]))
  have t2 : tt [v0, some (.ref n), some (.ref a), some (.ref b), some (.str w), o5, some (.int (-1)), some (.str "<")] μ = .ok b2 μ := test_k (tx_k (a := w) (q := .str "<") (μ1 := μ) (μ2 := μ) rfl rfl (by simp only [endsX, h2]))
  have g1 : (gTupM 2 (gConsM (gN 6) (gConsM (gN 7) (gNilM)))) (.tup [.int 1, .str ">"]) (wipeR ρ0 [6, 7]) μ = .ok [v0, some (.ref n), some (.ref a), some (.ref b), some (.str w), o5, some (.int 1), some (.str ">")] μ := rfl
  have g2 : (gTupM 2 (gConsM (gN 6) (gConsM (gN 7) (gNilM)))) (.tup [.int (-1), .str "<"]) (wipeR ρ0 [6, 7]) μ = .ok [v0, some (.ref n), some (.ref a), some (.ref b), some (.str w), o5, some (.int (-1)), some (.str "<")] μ := rfl
  have last : ∀ acc : List D, acc.length ≤ 1 → compL (fun _ => True) (gTupM 2 (gConsM (gN 6) (gConsM (gN 7) (gNilM)))) tt te (wipeR ρ0 [6, 7]) [.tup [.int (-1), .str "<"]] acc μ = .ok (acc ++ (if b2 = true then [-1] else []).map D.int) μ := fun acc ha => by
    unfold compL
    simp only [if_true, g2, pureE, t2]
    cases b2 with
    | true =>
      simp only [if_true]
      have m6 : te [v0, some (.ref n), some (.ref a), some (.ref b), some (.str w), o5, some (.int (-1)), some (.str "<")] μ = .ok (.int (-1)) μ := rfl
      rw [m6]
      simp only [pureE]
      rw [if_pos (by rw [sizeLine_eq]; omega)]
      unfold compL
      simp only [if_true]
      rfl
    | false =>
      simp only [Bool.false_eq_true, if_false]
      unfold compL
      simp
  have all : compL (fun _ => True) (gTupM 2 (gConsM (gN 6) (gConsM (gN 7) (gNilM)))) tt te (wipeR ρ0 [6, 7]) [.tup [.int 1, .str ">"], .tup [.int (-1), .str "<"]] [] μ = .ok (((if b1 = true then [1] else []) ++ (if b2 = true then [-1] else [])).map D.int) μ := by
    unfold compL
    simp only [if_true, g1, pureE, t1]
    cases b1 with
    | true =>
      simp only [if_true]
      have m6 : te [v0, some (.ref n), some (.ref a), some (.ref b), some (.str w), o5, some (.int 1), some (.str ">")] μ = .ok (.int 1) μ := rfl
      rw [m6]
      simp only [pureE]
      rw [if_pos (by rw [sizeLine_eq]; simp), last _ (by simp), List.map_append]
      rfl
    | false =>
      simp only [Bool.false_eq_true, if_false]
      rw [last _ (by simp)]
      simp
  exact comp_is (own := [6, 7]) (seq_tup (l := [.tup [.int 1, .str ">"], .tup [.int (-1), .str "<"]]) (μ1 := μ) rfl) all
theorem ne_empty {m : Nat} {ns : List Int} {ρ : Rho} {x : MD} (hx : x ρ μ = .ok (.ref m) μ) (e : μ[m]? = some (.lst (ns.map D.int))) : mTest (mBin neD x (mLst (mNil))) ρ μ = .ok (!ns.isEmpty) (μ ++ [.lst []]) :=
  test_k (bin_k hx (q := .ref μ.length) rfl (lst_ne (app_at e) app_new))
theorem toldB_nar {p : Int × Int} {l : List (Int × Int)} (h1 : okN p.1) (h2 : okN p.2) (ea : μ[a]? = some (.lst (l.map pairD))) (eb : μ[b]? = some (.lst [])) (hl : l.length ≤ 100) :
    ∃ (o5' : Option D) (μ' : Mem), toldB (rhoP v0 n a b (some (.str (pairT p))) o5) μ = .ok (.nx (rhoP v0 n a b (some (.str (pairT p))) o5')) μ' ∧ μ'[a]? = some (.lst ((l ++ [p]).map pairD)) ∧ (b ≠ a → μ'[b]? = some (.lst [])) ∧ Keep [a] μ μ' := by
  have w1 := ways_spec (μ := μ) (v0 := v0) (n := n) (a := a) (b := b) (o5 := o5) (w := pairT p) (b1 := false) (b2 := false) (pairT_ends h2 (e := 62) (by decide +kernel) (by decide)) (pairT_ends h2 (e := 60) (by decide +kernel) (by decide))
  let μ1 : Mem := μ ++ [.lst []]
  have e1 : μ1[μ.length]? = some (.lst (([] : List Int).map D.int)) := app_new
  let ρ1 : Rho := rhoP v0 n a b (some (.str (pairT p))) (some (.ref μ.length))
  have t1 := ne_empty (μ := μ1) (ρ := ρ1) (x := mVar 5) (m := μ.length) (ns := []) rfl e1
  let μ2 : Mem := μ1 ++ [.lst []]
  have eb2 : μ2[b]? = some (.lst (([] : List Int).map D.int)) := app_at (app_at eb)
  have t2 := ne_empty (μ := μ2) (ρ := ρ1) (x := mVar 3) (m := b) (ns := []) rfl eb2
  let μ3 : Mem := μ2 ++ [.lst []]
  obtain ⟨μ4, q4, k4⟩ := pair_told_spec (μ := μ3) h1 h2
  have ea3 : μ3[a]? = some (.lst (l.map pairD)) := app_at (app_at (app_at ea))
  have ea4 := k4.get ea3 (by simp)
  have k34 : Keep [] μ μ4 := (Keep.trans (Keep.trans (Keep.app (cs := [.lst []])) (Keep.app (cs := [.lst []]))) (Keep.app (cs := [.lst []]))).trans k4
  have c4 : sExpr (mMt isLst appendM (mVar 2) (mCons (mB m_pair_told (mCons (mVar 4) (mNil))) (mNil))) ρ1 μ3 = .ok (.nx ρ1) (μ4.set a (.lst (l.map pairD ++ [pairD p]))) :=
    app_lst (n := a) rfl ea4 (isLst_of ea3) (call1k (p := .str (pairT p)) (μ1 := μ3) rfl q4) (by rw [List.length_map]; omega)
  refine ⟨some (.ref μ.length), _, (seq_set w1).trans ((if_f t1).trans ((if_f t2).trans c4)), ?_, fun hn => ?_, ?_⟩
  · rw [set_at (at_lt ea4), List.map_append]; rfl
  · rw [set_ne' (Ne.symm hn)]; exact k34.get eb (by simp)
  · exact (k34.mono fun i hi => (List.not_mem_nil hi).elim).trans (Keep.set (by simp))
theorem toldB_fl {p : Int × Int} {l : List (Int × Int)} (h1 : okN p.1) (h2 : p.2 = 1 ∨ p.2 = -1) (eb : μ[b]? = some (.lst (l.map pairD))) (hl : l.length ≤ 100) :
    ∃ (o5' : Option D) (μ' : Mem), toldB (rhoP v0 n a b (some (.str (flT p))) o5) μ = .ok (.nx (rhoP v0 n a b (some (.str (flT p))) o5')) μ' ∧ μ'[b]? = some (.lst ((l ++ [p]).map pairD)) ∧ Keep [b] μ μ' := by
  have w1 := ways_spec (μ := μ) (v0 := v0) (n := n) (a := a) (b := b) (o5 := o5) (w := flT p) (flT_ends 62 (by decide +kernel)) (flT_ends 60 (by decide +kernel))
  have wy : ((if decide ((if p.2 < 0 then 60 else 62) = 62) = true then [(1 : Int)] else []) ++ (if decide ((if p.2 < 0 then 60 else 62) = 60) = true then [-1] else [])) = [p.2] := by
    rcases h2 with h2 | h2 <;> rw [h2] <;> decide
  rw [wy] at w1
  let μ1 : Mem := μ ++ [.lst ([p.2].map D.int)]
  have e1 : μ1[μ.length]? = some (.lst ([p.2].map D.int)) := app_new
  let ρ1 : Rho := rhoP v0 n a b (some (.str (flT p))) (some (.ref μ.length))
  have t1 := ne_empty (μ := μ1) (ρ := ρ1) (x := mVar 5) (m := μ.length) (ns := [p.2]) rfl e1
  let μ2 : Mem := μ1 ++ [.lst []]
  have hf := flT_len (p := p) h1
  have c1 : mSlcX (mVar 4) oNone (oSome (mUn negD (mC (.int 1)))) ρ1 μ2 = .ok (.str (num p.1)) μ2 := by
    have m4 : mVar 4 ρ1 μ2 = .ok (.str (flT p)) μ2 := rfl
    have ng : mUn negD (mC (.int 1)) ρ1 μ2 = .ok (.int (-1)) μ2 := rfl
    simp only [mSlcX, m4, Res.bind, oNone, oSome, ng, slcX, flT_cut]
    rw [if_pos (by rw [sizeLine_eq]; omega)]
  have c2 : mBin idxA (mVar 5) (mC (.int 0)) ρ1 μ2 = .ok (.int p.2) μ2 := bin_k (p := .ref μ.length) (q := .int 0) (μ1 := μ2) (μ2 := μ2) rfl rfl (ix_lst (app_at e1) (by decide) rfl)
  have c3 : mTup (mCons (mB m_number_told (mCons (mSlcX (mVar 4) oNone (oSome (mUn negD (mC (.int 1))))) (mNil))) (mCons (mBin idxA (mVar 5) (mC (.int 0))) (mNil))) ρ1 μ2 = .ok (pairD p) μ2 := by
    have c0 := call1k (f := m_number_told) c1 (number_told_spec h1.1 h1.2)
    simp only [mTup, mCons, mNil, c0, c2, Res.bind]
    rfl
  have eb2 : μ2[b]? = some (.lst (l.map pairD)) := app_at (app_at eb)
  have c4 : toldF ρ1 μ2 = .ok (.nx ρ1) (μ2.set b (.lst (l.map pairD ++ [pairD p]))) := app_lst (n := b) rfl eb2 (isLst_of eb2) c3 (by rw [List.length_map]; omega)
  refine ⟨some (.ref μ.length), _, (seq_set w1).trans ((if_t t1).trans c4), ?_, ?_⟩
  · rw [set_at (at_lt eb2), List.map_append]; rfl
  · exact ((Keep.trans (Keep.app (cs := [.lst ([p.2].map D.int)])) (Keep.app (cs := [.lst []])))).trans (Keep.set (by simp))
theorem told_loop {p : Pipe} (h : PipeT p) (ea : μ[a]? = some (.lst [])) (eb : μ[b]? = some (.lst [])) (hab : a ≠ b) {m : Nat} (em : μ[m]? = some (.lst ((p.nar.map pairT ++ p.fl.map flT).map D.str))) (hma : m ≠ a) (hmb : m ≠ b) {it : MIt} {o4 : Option D} {μ0 : Mem}
    (hit : it (rhoP v0 n a b o4 o5) μ0 = .ok ((p.nar.map pairT ++ p.fl.map flT).map D.str, fun μ' => μ'[m]? = some (.lst ((p.nar.map pairT ++ p.fl.map flT).map D.str))) μ) :
    ∃ (o4' o5' : Option D) (μ' : Mem), sFor it (gN 4) toldB (rhoP v0 n a b o4 o5) μ0 = .ok (.nx (rhoP v0 n a b o4' o5')) μ' ∧ μ'[a]? = some (.lst (p.nar.map pairD)) ∧ μ'[b]? = some (.lst (p.fl.map pairD)) ∧ Keep [a, b] μ μ' := by
  have nl := h.nl
  have fll := h.fll
  have loop := forL_ok (chk := fun μ' => μ'[m]? = some (.lst ((p.nar.map pairT ++ p.fl.map flT).map D.str))) (g := gN 4) (body := toldB) ((p.nar.map pairT ++ p.fl.map flT).map D.str)
    (fun i ρ μ' => (∃ o4 o5, ρ = rhoP v0 n a b o4 o5) ∧ μ'[a]? = some (.lst ((p.nar.take i).map pairD)) ∧ μ'[b]? = some (.lst ((p.fl.take (i - p.nar.length)).map pairD)) ∧ Keep [a, b] μ μ') 0
    (ρ := rhoP v0 n a b o4 o5) (μ := μ) ⟨⟨_, _, rfl⟩, by rw [List.take_zero]; exact ea, by rw [Nat.zero_sub, List.take_zero]; exact eb, .refl⟩ (fun _ _ _ ⟨_, _, _, kk⟩ => kk.get em (by simp [hma, hmb]))
    (fun i d ρ μ' ed ⟨⟨o4, o5, eρ⟩, xa, xb, kk⟩ => by
      simp only [Nat.zero_add] at xa xb ⊢
      subst eρ
      rw [List.getElem?_map] at ed
      obtain ⟨w, ew, rfl⟩ := Option.map_eq_some_iff.mp ed
      by_cases hi : i < p.nar.length
      · rw [List.getElem?_append_left (by simpa using hi), List.getElem?_map] at ew
        obtain ⟨z, ez, rfl⟩ := Option.map_eq_some_iff.mp ew
        obtain ⟨h1, h2⟩ := h.nar z (List.mem_of_getElem? ez)
        rw [show i - p.nar.length = 0 by omega, List.take_zero] at xb
        obtain ⟨o5', μ2, q, ya, yb, k2⟩ := toldB_nar (v0 := v0) (n := n) (o5 := o5) h1 h2 xa xb (by rw [List.length_take]; omega)
        refine .mk (a := rhoP v0 n a b (some (.str (pairT z))) o5) (μ := μ') rfl (.mk q ⟨_, .inl rfl, ⟨_, _, rfl⟩, ?_, ?_, kk.trans (k2.mono fun i hi => .inl (by simp at hi; simp [hi]))⟩)
        · rw [List.take_add_one, ez]; exact ya
        · rw [show i + 1 - p.nar.length = 0 by omega, List.take_zero]; exact yb (Ne.symm hab)
      · rw [List.getElem?_append_right (by simpa using hi), List.getElem?_map, List.length_map] at ew
        obtain ⟨z, ez, rfl⟩ := Option.map_eq_some_iff.mp ew
        obtain ⟨h1, h2⟩ := h.fl z (List.mem_of_getElem? ez)
        obtain ⟨o5', μ2, q, yb, k2⟩ := toldB_fl (v0 := v0) (n := n) (a := a) (o5 := o5) h1 h2 xb (by rw [List.length_take]; omega)
        have ya := k2.get xa (by simp [hab])
        refine .mk (a := rhoP v0 n a b (some (.str (flT z))) o5) (μ := μ') rfl (.mk q ⟨_, .inl rfl, ⟨_, _, rfl⟩, ?_, ?_, kk.trans (k2.mono fun i hi => .inl (by simp at hi; simp [hi]))⟩)
        · rw [List.take_of_length_le (by omega)] at ya ⊢; exact ya
        · rw [show i + 1 - p.nar.length = i - p.nar.length + 1 by omega, List.take_add_one, ez]; exact yb)
  rw [List.length_map, List.length_append, List.length_map, List.length_map, Nat.zero_add] at loop
  obtain ⟨f, μ', w, ρ', rfl, ⟨o4', o5', rfl⟩, xa, xb, kk⟩ := loop
  rw [List.take_of_length_le (by omega)] at xa xb
  exact ⟨o4', o5', μ', for_run hit w, xa, xb, kk⟩
end
end K86

/-! S114: a pipe's text, read. -/
namespace K86
open PySem L2 RW
section
variable {μ : Mem}
theorem word_free {p : Pipe} (h : PipeT p) {s : Nat} (hs : s = 32 ∨ s = 44) : ∀ w ∈ wordsP p, s ∉ TL.tl w := fun w hw => by
  have sd : s < 48 ∨ 57 < s := by omega
  unfold wordsP at hw
  rcases List.mem_append.mp hw with hw | hw
  · rcases List.mem_append.mp hw with hw | hw
    · simp only [List.mem_cons, List.not_mem_nil, or_false] at hw
      rcases hw with rfl | rfl | rfl
      · exact num_free h.a.1 sd
      · exact num_free h.b.1 sd
      · exact num_free h.len.1 sd
    · obtain ⟨x, hx, rfl⟩ := List.mem_map.mp hw
      obtain ⟨h1, h2⟩ := h.nar x hx
      unfold pairT
      rw [TL.tl_append, TL.tl_append, show TL.tl ("x" : Str) = [120] by decide +kernel]
      have a := num_free h1.1 sd
      have b := num_free h2.1 sd
      simp [a, b]; omega
  · obtain ⟨x, hx, rfl⟩ := List.mem_map.mp hw
    obtain ⟨h1, h2⟩ := h.fl x hx
    unfold flT
    rw [TL.tl_append, mark_tl]
    have a := num_free h1.1 sd
    simp [a]
    split <;> omega
theorem slcX_lst {m : Nat} {l : List D} {lo hi : Option Int} (e : μ[m]? = some (.lst l)) : slcX (.ref m) lo hi μ = .ok (.ref μ.length) (μ ++ [.lst (cutD l lo hi)]) := by simp only [slcX, slcD, e]
theorem slcXk {a : MD} {lo hi : MO} {ρ : Rho} {x d : D} {l h : Option Int} {μ' : Mem} (h1 : a ρ μ = .ok x μ) (h2 : lo ρ μ = .ok l μ) (h3 : hi ρ μ = .ok h μ) (q : slcX x l h μ = .ok d μ') : mSlcX a lo hi ρ μ = .ok d μ' := by
  simp only [mSlcX, h1, h2, h3, Res.bind]; exact q
theorem pipe_told_spec {p : Pipe} (h : PipeT p) : ∃ μ', m_pipe_told [.str (ptxt p)] μ = .ok p.d μ' ∧ Keep [] μ μ' := by
  have hw := words_len h
  have hl := ptxt_len h
  let v0 : Option D := some (.str (ptxt p))
  let n : Nat := μ.length
  let W : List D := (wordsP p).map D.str
  let μ1 : Mem := μ ++ [.lst W]
  have sp : splitX (.str (ptxt p)) (.str " ") μ = .ok (.ref n) μ1 :=
    split_at (s := 32) (by decide +kernel) (by decide) (by unfold wordsP; simp) (word_free h (.inl rfl)) rfl (by omega)
  have c1 : mTx splitX (mVar 0) (mC (.str " ")) (startR 8 [.str (ptxt p)]) μ = .ok (.ref n) μ1 := tx_k (a := ptxt p) (q := .str " ") rfl rfl sp
  have e1 : μ1[n]? = some (.lst W) := app_new
  let a : Nat := μ1.length
  let b : Nat := (μ1 ++ [Cell.lst []]).length
  let μ3 : Mem := (μ1 ++ [.lst []]) ++ [.lst []]
  have hnl : n < a := by simp [a, μ1, n]
  have hab : a < b := by simp [a, b]
  have e3 : μ3[n]? = some (.lst W) := app_at (app_at e1)
  let m : Nat := μ3.length
  have hbm : b < m := by simp [b, m, μ3]
  have dr : cutD W (some 3) none = (p.nar.map pairT ++ p.fl.map flT).map D.str := by
    rw [show (3 : Int) = ((3 : Nat) : Int) by rfl, cut_from]
    rfl
  have tk : cutD W none (some 3) = [p.a, p.b, p.len].map fun n => D.str (num n) := by
    rw [show (3 : Int) = ((3 : Nat) : Int) by rfl, cut_to]
    rfl
  let μ4 : Mem := μ3 ++ [.lst ((p.nar.map pairT ++ p.fl.map flT).map D.str)]
  have sl : mSlcX (mVar 1) (oSome (mC (.int 3))) oNone (rhoP v0 n a b none none) μ3 = .ok (.ref m) μ4 := slcXk (x := .ref n) (l := some 3) (h := none) rfl rfl rfl (by rw [slcX_lst e3, dr])
  have it := seq_lst (a := mSlcX (mVar 1) (oSome (mC (.int 3))) oNone) (ρ := rhoP v0 n a b none none) (μ := μ3) (μ1 := μ4) (n := m) (l := (p.nar.map pairT ++ p.fl.map flT).map D.str) sl app_new
  have ea : μ4[a]? = some (.lst []) := app_at (app_at app_new)
  have eb : μ4[b]? = some (.lst []) := app_at app_new
  obtain ⟨o4, o5, μ5, q5, xa, xb, k5⟩ := told_loop (v0 := v0) (n := n) (o5 := none) h ea eb (by omega) (m := m) app_new (by omega) (by omega) it
  have e5 : μ5[n]? = some (.lst W) := k5.get (app_at e3) (by simp; omega)
  let μ6 : Mem := μ5 ++ [.lst ([p.a, p.b, p.len].map fun n => D.str (num n))]
  have s6 : mSlcX (mVar 1) oNone (oSome (mC (.int 3))) (rhoP v0 n a b o4 o5) μ5 = .ok (.ref μ5.length) μ6 := slcXk (x := .ref n) (l := none) (h := some 3) rfl rfl rfl (by rw [slcX_lst e5, tk])
  obtain ⟨μ7, q7, k7⟩ := numbers_told_spec (μ := μ6) (m := μ5.length) (ns := [p.a, p.b, p.len]) app_new (fun z hz => by
    simp only [List.mem_cons, List.not_mem_nil, or_false] at hz
    rcases hz with rfl | rfl | rfl
    · exact h.a
    · exact h.b
    · exact h.len) (by simp)
  have xa7 : μ7[a]? = some (.lst (p.nar.map pairD)) := k7.get (app_at xa) (by simp)
  have xb7 : μ7[b]? = some (.lst (p.fl.map pairD)) := k7.get (app_at xb) (by simp)
  have c8 : mTup (mCons (mB tupleL (mCons (mVar 2) (mNil))) (mCons (mB tupleL (mCons (mVar 3) (mNil))) (mNil))) (rhoP v0 n a b o4 o5) μ7 = .ok (.tup [.tup (p.nar.map pairD), .tup (p.fl.map pairD)]) μ7 := by
    have d1 : mB tupleL (mCons (mVar 2) mNil) (rhoP v0 n a b o4 o5) μ7 = .ok (.tup (p.nar.map pairD)) μ7 := call1k (p := .ref a) (μ1 := μ7) rfl (tup_lst xa7)
    have d2 : mB tupleL (mCons (mVar 3) mNil) (rhoP v0 n a b o4 o5) μ7 = .ok (.tup (p.fl.map pairD)) μ7 := call1k (p := .ref b) (μ1 := μ7) rfl (tup_lst xb7)
    simp only [mTup, mCons, mNil, d1, d2, Res.bind]
    rfl
  have c9 : addD (.tup ([p.a, p.b, p.len].map D.int)) (.tup [.tup (p.nar.map pairD), .tup (p.fl.map pairD)]) μ7 = .ok p.d μ7 := by
    simp only [addD]
    rw [if_pos (by rw [sizeLine_eq]; simp)]
    rfl
  refine ⟨μ7, run_is ?_, ?_⟩
  · rw [pipe_told_eq]
    refine (seq_set c1).trans ?_
    show sSeq _ _ [v0, some (.ref n), none, none, none, none, none, none] μ1 = _
    have t3 : mTest (mBin (cmpI fun i j => decide (i < j)) (mB lenL (mCons (mVar 1) (mNil))) (mC (.int 3))) [v0, some (.ref n), none, none, none, none, none, none] μ1 = .ok false μ1 := by
      refine test_k (bin_k (p := .int W.length) (q := .int 3) (μ1 := μ1) (μ2 := μ1) (call1k (p := .ref n) (μ1 := μ1) rfl (by simp only [lenL, e1])) rfl ?_)
      have : ¬ ((W.length : Int) < 3) := by simp [W, wordsP]; omega
      simp only [cmpI, decide_eq_false this]
    refine (seq_skip t3).trans ((seq_set (d := .ref a) (μ1 := μ1 ++ [.lst []]) rfl).trans ?_)
    show sSeq _ _ [v0, some (.ref n), some (.ref a), none, none, none, none, none] (μ1 ++ [.lst []]) = _
    refine (seq_set (d := .ref b) (μ1 := μ3) rfl).trans ?_
    show sSeq _ _ (rhoP v0 n a b none none) μ3 = _
    exact (seq_run q5).trans (ret_is (bin_k (call1k s6 q7) c8 c9))
  · have k4 : Keep [] μ μ4 := Keep.trans (Keep.trans (Keep.app (cs := [.lst W])) (Keep.trans (Keep.app (cs := [.lst []])) (Keep.app (cs := [.lst []])))) (Keep.app (cs := [.lst ((p.nar.map pairT ++ p.fl.map flT).map D.str)]))
    have k47 : Keep [a, b] μ4 μ7 := (k5.trans Keep.app).trans (k7.mono fun i hi => (List.not_mem_nil hi).elim)
    refine ((k4.mono (ex' := [a, b]) fun i hi => (List.not_mem_nil hi).elim).trans k47).mono fun i hi => .inr ?_
    simp only [List.mem_cons, List.not_mem_nil, or_false] at hi
    have hn : n = μ.length := rfl
    rcases hi with rfl | rfl <;> omega
end
end K86

/-! S115: pipes judged. -/
namespace K86
open PySem L2 RW
section
variable {μ : Mem}
theorem is_pair_spec {z : Int × Int} : m_is_pair [pairD z] μ = .ok (.bl true) μ := by
  have u : subT "tuple" "tuple" = true := by decide +kernel
  have t : isT1 "tuple" (pairD z) μ = .ok (.bl true) μ := by simp [isT1, tyD, pairD, u]
  refine run_is (ret_is (andV_t (un_k (p := pairD z) (μ1 := μ) rfl t) (bin_k (len_tup (l := [.int z.1, .int z.2]) rfl) rfl (d := .bl true) ?_)))
  rw [show (([D.int z.1, D.int z.2].length : Nat) : Int) = 2 by rfl, eqI]; rfl
theorem is_size_spec {x : Int} (h1 : 1 ≤ x) (h2 : x ≤ 1000000) : m_is_size [.int x] μ = .ok (.bl true) μ := run_is (ret_is (call3k (p := .int x) (q := .int 1) (r := .int 1000000) (μ1 := μ) (μ2 := μ) (μ3 := μ) rfl rfl rfl (is_from_spec h1 h2)))
theorem is_course_spec {x : Int} (h : x = 1 ∨ x = -1) : m_is_course [.int x] μ = .ok (.bl true) μ := by
  refine run_is (ret_is (andV_t (call1k (p := .int x) (μ1 := μ) rfl is_whole_spec) (bin_k (p := .int x) (q := .tup [.int (-1), .int 1]) (μ1 := μ) (μ2 := μ) rfl rfl ?_)))
  rcases h with rfl | rfl <;> rfl
noncomputable def apI : MS := sSeq (sIf (mOr (mNot (mTest (mB m_is_pair (mCons (mVar 5) (mNil))))) (mOr (mNot (mTest (mB m_is_from (mCons (mBin idxA (mVar 5) (mC (.int 0))) (mCons (mVar 4) (mCons (mVar 2) (mNil))))))) (mNot (mTest (mCallV 3 "is_size" m_is_size "is_course" m_is_course (mCons (mBin idxA (mVar 5) (mC (.int 1))) (mNil))))))) (sRet (mC (.bl false))) (sNil))
    (sSet 4 (mBin addD (mBin idxA (mVar 5) (mC (.int 0))) (mC (.int 1))))
theorem are_pairs_eq : b_are_pairs = sSeq (sIf (mNot (mTest (mUn (isT1 "tuple") (mVar 0)))) (sRet (mC (.bl false))) (sNil))
    (sSeq (sSet 4 (mVar 1))
    (sSeq (sFor (iSeq (mVar 0)) (gN 5) apI)
    (sRet (mC (.bl true))))) := rfl
/-- a handed def that says yes of x -/
def Fits (f : Str) (x : Int) : Prop := (f = "is_size" ∧ 1 ≤ x ∧ x ≤ 1000000) ∨ (f = "is_course" ∧ (x = 1 ∨ x = -1))
theorem callV_spec {ρ : Rho} {f : Str} {x : Int} {e : MD} (hf : Fits f x) (h3 : ρ[3]? = some (some (.fn f))) (he : e ρ μ = .ok (.int x) μ) : mCallV 3 "is_size" m_is_size "is_course" m_is_course (mCons e mNil) ρ μ = .ok (.bl true) μ := by
  rcases hf with ⟨rfl, h1, h2⟩ | ⟨rfl, h⟩
  · simp only [mCallV, h3, mCons, mNil, he, Res.bind, if_true]
    exact is_size_spec h1 h2
  · have ne : ¬ (("is_course" : Str) = ("is_size" : Str)) := by decide +kernel
    simp only [mCallV, h3, mCons, mNil, he, Res.bind, if_true, if_neg ne]
    exact is_course_spec h
theorem are_pairs_spec {l : List (Int × Int)} {lo hi : Int} {f : Str} (hs : (l.map (·.1)).Pairwise (· < ·)) (hr : ∀ z ∈ l, lo ≤ z.1 ∧ z.1 ≤ hi) (hf : ∀ z ∈ l, Fits f z.2) : m_are_pairs [.tup (l.map pairD), .int lo, .int hi, .fn f] μ = .ok (.bl true) μ := by
  let rho (v : Int) (o5 : Option D) : Rho := [some (.tup (l.map pairD)), some (.int lo), some (.int hi), some (.fn f), some (.int v), o5]
  have loop := forL_ok (chk := fun _ => True) (g := gN 5) (body := apI) (l.map pairD)
    (fun i ρ μ' => μ' = μ ∧ ∃ v o5, ρ = rho v o5 ∧ ∀ z ∈ l.drop i, v ≤ z.1) 0
    (ρ := rho lo none) (μ := μ) ⟨rfl, lo, none, rfl, fun z hz => (hr z (List.mem_of_mem_drop hz)).1⟩ (fun _ _ _ _ => trivial)
    (fun i d ρ μ' ed ⟨em, v, o5, eρ, hv⟩ => by
      simp only [Nat.zero_add] at hv ⊢
      subst em eρ
      rw [List.getElem?_map] at ed
      obtain ⟨z, ez, rfl⟩ := Option.map_eq_some_iff.mp ed
      have hz := List.mem_of_getElem? ez
      have hj := (List.getElem?_eq_some_iff.mp ez).1
      have hd : l.drop i = z :: l.drop (i + 1) := by
        rw [List.drop_eq_getElem_cons hj]
        rw [List.getElem?_eq_getElem hj] at ez
        cases ez; rfl
      have hv0 := hv z (by rw [hd]; exact List.mem_cons_self ..)
      let ρ1 : Rho := rho v (some (pairD z))
      have i0 : mBin idxA (mVar 5) (mC (.int 0)) ρ1 μ' = .ok (.int z.1) μ' := bin_k (p := pairD z) (q := .int 0) (μ1 := μ') (μ2 := μ') rfl rfl (ix_tup (by decide) rfl)
      have i1 : mBin idxA (mVar 5) (mC (.int 1)) ρ1 μ' = .ok (.int z.2) μ' := bin_k (p := pairD z) (q := .int 1) (μ1 := μ') (μ2 := μ') rfl rfl (ix_tup (by decide) rfl)
      have t1 := not_k (b := true) (test_k (call1k (ρ := ρ1) (x := mVar 5) (p := pairD z) (μ1 := μ') rfl is_pair_spec))
      have t2 := not_k (b := true) (test_k (call3k i0 (y := mVar 4) (z := mVar 2) (q := .int v) (r := .int hi) (μ2 := μ') (μ3 := μ') rfl rfl (is_from_spec hv0 (hr z hz).2)))
      have t3 := not_k (b := true) (test_k (callV_spec (ρ := ρ1) (hf z hz) rfl i1))
      have c : apI ρ1 μ' = .ok (.nx (rho (z.1 + 1) (some (pairD z)))) μ' := (seq_skip (or_f t1 (or_f t2 t3))).trans ((set_is (bin_k i0 (q := .int 1) rfl rfl)).trans rfl)
      refine .mk (a := ρ1) (μ := μ') rfl (.mk c ⟨_, .inl rfl, rfl, z.1 + 1, _, rfl, fun y hy => ?_⟩)
      have pw : (z :: l.drop (i + 1)).map (·.1) |>.Pairwise (· < ·) := by
        rw [← hd, List.map_drop]
        exact hs.sublist (List.drop_sublist ..)
      rw [List.map_cons, List.pairwise_cons] at pw
      have := pw.1 y.1 (List.mem_map_of_mem hy)
      omega)
  obtain ⟨r, μ', w, ρ', rfl, rfl, v, o5, rfl, -⟩ := loop
  refine run_is ?_
  rw [are_pairs_eq]
  refine (seq_skip (μ1 := μ') (tup_test (l := l.map pairD) rfl)).trans ((seq_set (d := .int lo) (μ1 := μ') rfl).trans ?_)
  show sSeq _ _ (rho lo none) μ' = _
  exact (seq_run (for_run (seq_tup (l := l.map pairD) (μ1 := μ') rfl) w)).trans (ret_is rfl)
theorem is_pipe_spec {R : Int} {p : Pipe} (ok : p.Ok) (hr : 0 ≤ p.a ∧ p.a < p.b ∧ p.b < R) : m_is_pipe [.int R, p.d] μ = .ok (.bl true) μ := by
  let rho : Rho := [some (.int R), some p.d, some (.int p.a), some (.int p.b), some (.int p.len), some (.tup (p.nar.map pairD)), some (.tup (p.fl.map pairD))]
  refine run_is ?_
  unfold b_is_pipe
  refine (seq_skip (μ1 := μ) (or_f (tup_test (l := [.int p.a, .int p.b, .int p.len, .tup (p.nar.map pairD), .tup (p.fl.map pairD)]) rfl) (test_k (bin_k (len_tup (l := [.int p.a, .int p.b, .int p.len, .tup (p.nar.map pairD), .tup (p.fl.map pairD)]) rfl) rfl (by
    rw [show (([D.int p.a, D.int p.b, D.int p.len, D.tup (p.nar.map pairD), D.tup (p.fl.map pairD)].length : Nat) : Int) = 5 by rfl, neI]; rfl))))).trans ?_
  refine (seq_asg (d := p.d) (μ1 := μ) (ρ2 := rho) (μ2 := μ) rfl rfl).trans ?_
  have sb : mBin subD (mVar 0) (mC (.int 1)) rho μ = .ok (.int (R - 1)) μ := rfl
  have t1 := not_k (b := true) (test_k (call3k (x := mVar 2) (y := mC (.int 0)) (p := .int p.a) (q := .int 0) (μ1 := μ) (μ2 := μ) rfl rfl sb (is_from_spec hr.1 (by omega))))
  have t2 := not_k (b := true) (test_k (call3k (x := mVar 3) (y := mBin addD (mVar 2) (mC (.int 1))) (p := .int p.b) (q := .int (p.a + 1)) (μ1 := μ) (μ2 := μ) rfl rfl sb (is_from_spec (by omega) (by omega))))
  have t3 := not_k (b := true) (test_k (call3k (ρ := rho) (x := mVar 4) (y := mC (.int 1)) (z := mC (.int 1000000000000)) (p := .int p.len) (q := .int 1) (r := .int 1000000000000) (μ1 := μ) (μ2 := μ) (μ3 := μ) rfl rfl rfl (is_from_spec ok.l1 ok.l2)))
  refine (seq_skip (or_f t1 (or_f t2 t3))).trans (ret_is ?_)
  have call4k : ∀ {x y z u : MD} {a b c d : D}, x rho μ = .ok a μ → y rho μ = .ok b μ → z rho μ = .ok c μ → u rho μ = .ok d μ → m_are_pairs [a, b, c, d] μ = .ok (.bl true) μ → mB m_are_pairs (mCons x (mCons y (mCons z (mCons u mNil)))) rho μ = .ok (.bl true) μ := fun h1 h2 h3 h4 h => by
    simp only [mB, mCons, mNil, h1, h2, h3, h4, Res.bind]; exact h
  have sl : mBin subD (mVar 4) (mC (.int 1)) rho μ = .ok (.int (p.len - 1)) μ := rfl
  refine andV_t (call4k (a := .tup (p.nar.map pairD)) (b := .int 1) (d := .fn "is_size") rfl rfl sl rfl (are_pairs_spec ok.n1 (fun z hz => ?_) fun z hz => ?_)) (call4k (a := .tup (p.fl.map pairD)) (b := .int 0) (d := .fn "is_course") rfl rfl sl rfl (are_pairs_spec ok.f1 (fun z hz => ?_) fun z hz => ?_))
  · have := ok.n2 z hz; omega
  · have := ok.n2 z hz; exact .inl ⟨rfl, this.2.2.1, this.2.2.2⟩
  · have := ok.f2 z hz; omega
  · exact .inr ⟨rfl, (ok.f2 z hz).2.2⟩
end
end K86

/-! S116: whether all rooms are joined. -/
namespace K86
open PySem L2 RW
/-! ### the search, plainly -/
def stepJ (x : Int) (F : List Int) (h t : Int) : List Int := if h = x ∧ t ∉ F then F ++ [t] else F
def visitJ (x : Int) (F : List Int) (p : Pipe) : List Int := stepJ x (stepJ x F p.a p.b) p.b p.a
structure FoundJ (R : Nat) (F : List Int) : Prop where
  nd : F.Nodup
  rng : ∀ y ∈ F, 0 ≤ y ∧ y < R
theorem stepJ_pre {x h t : Int} {F : List Int} : F <+: stepJ x F h t := by
  unfold stepJ
  split
  · exact List.prefix_append _ _
  · exact List.prefix_refl _
theorem stepJ_has {t x : Int} {F : List Int} : t ∈ stepJ x F x t := by
  unfold stepJ
  by_cases h : t ∈ F
  · rw [if_neg (by simp [h])]; exact h
  · rw [if_pos ⟨rfl, h⟩]; simp
theorem FoundJ.step {R : Nat} {x h t : Int} {F : List Int} (f : FoundJ R F) (ht : 0 ≤ t ∧ t < R) : FoundJ R (stepJ x F h t) := by
  unfold stepJ
  split
  · rename_i hc
    refine ⟨?_, fun y hy => ?_⟩
    · rw [List.nodup_append]
      exact ⟨f.nd, by simp, fun a ha b hb e => by simp at hb; subst hb; subst e; exact hc.2 ha⟩
    · rcases List.mem_append.mp hy with hy | hy
      · exact f.rng y hy
      · rw [List.mem_singleton.mp hy]; exact ht
  · exact f
theorem FoundJ.len {R : Nat} {F : List Int} (f : FoundJ R F) : F.length ≤ R := by
  have h := List.Nodup.length_le_of_subset f.nd (fun y hy => mem_upTo.mpr (f.rng y hy) : F ⊆ upTo R)
  rwa [upTo_len] at h
theorem tree_all {S : List Int} {ps : List Pipe} (t : Tree S ps) {P : Int → Prop} : (∀ p ∈ ps, P p.a ↔ P p.b) → (∃ z ∈ S, P z) → ∀ y ∈ S, P y := by
  induction t with
  | one x => intro _ ⟨z, hz, pz⟩ y hy; rw [List.mem_singleton.mp hy, ← List.mem_singleton.mp hz]; exact pz
  | @grow S ps1 ps2 p x y t hy hx he hl ih =>
    intro hc ⟨z, hz, pz⟩
    have hp := hc p (by simp)
    have hxy : P x ↔ P y := by
      rcases he with ⟨e1, e2⟩ | ⟨e1, e2⟩
      · rw [e1, e2] at hp; exact hp.symm
      · rw [e1, e2] at hp; exact hp
    have all : ∀ u ∈ S, P u := ih (fun q hq => hc q (by
      rcases List.mem_append.mp hq with hq | hq
      · exact List.mem_append.mpr (.inl hq)
      · exact List.mem_append.mpr (.inr (List.mem_cons_of_mem _ hq)))) (by
      rcases List.mem_append.mp hz with hz | hz
      · exact ⟨z, hz, pz⟩
      · rw [List.mem_singleton.mp hz] at pz; exact ⟨y, hy, hxy.mp pz⟩)
    intro u hu
    rcases List.mem_append.mp hu with hu | hu
    · exact all u hu
    · rw [List.mem_singleton.mp hu]; exact hxy.mpr (all y hy)
/-! ### the text's -/
section
variable {μ : Mem}
theorem in_ints {y : Int} : ∀ F : List Int, inV (.int y) (F.map V.int) = decide (y ∈ F) := fun F => by
  unfold inV
  rw [List.any_map]
  induction F with
  | nil => rfl
  | cons a F ih =>
    rw [List.any_cons, ih]
    have e : ((fun z => eqV z (V.int y)) ∘ V.int) a = decide (a = y) := by
      show eqV (.int a) (.int y) = _
      rfl
    rw [e]
    by_cases h : a = y
    · subst h; simp
    · have : y ≠ a := fun z => h z.symm
      simp [h, this]
theorem flats_ints : ∀ F : List Int, flatsI (F.map D.int) = some (F.map V.int)
  | [] => rfl
  | a :: F => by rw [List.map_cons, flatsI, flats_ints F]; rfl
theorem notIn_ints {n : Nat} {F : List Int} {y : Int} (e : μ[n]? = some (.lst (F.map D.int))) : notInX (.int y) (.ref n) μ = .ok (.bl (!decide (y ∈ F))) μ := by
  simp only [notInX, rowI, e, flatI, flats_ints, in_ints]
noncomputable def jnI : MS := sIf (mAnd (mTest (mBin eqD (mVar 5) (mBin idxA (mVar 2) (mVar 3)))) (mTest (mBin notInX (mVar 6) (mVar 2)))) (sExpr (mMt isLst appendM (mVar 2) (mCons (mVar 6) (mNil)))) (sNil)
noncomputable def jnP : MS := sFor (iSeq (mTup (mCons (mSlc (mVar 4) oNone (oSome (mC (.int 2)))) (mCons (mUn (backAtD 1) (mVar 4)) (mNil))))) (gTupM 2 (gConsM (gN 5) (gConsM (gN 6) (gNilM)))) jnI
noncomputable def jnB : MS := sSeq (sFor (iSeq (mVar 1)) (gN 4) jnP) (sAug 3 iaddD (mC (.int 1)))
theorem joined_eq : b_is_joined = sSeq (sSet 2 (mLst (mCons (mC (.int 0)) (mNil))))
    (sSeq (sSet 3 (mC (.int 0)))
    (sSeq (whileL (mTest (mBin (cmpI fun i j => decide (i < j)) (mVar 3) (mB lenX (mCons (mVar 2) (mNil))))) jnB 1000)
    (sRet (mBin eqD (mB lenX (mCons (mVar 2) (mNil))) (mVar 0))))) := rfl
abbrev rhoJ (v0 v1 : Option D) (n i : Nat) (o4 o5 o6 : Option D) : Rho := [v0, v1, some (.ref n), some (.int (i : Int)), o4, o5, o6]
variable {v0 v1 o4 o5 o6 : Option D} {n i : Nat} {F : List Int} {x : Int}
theorem jnI_spec {h t : Int} (e : μ[n]? = some (.lst (F.map D.int))) (ex : F[i]? = some x) (hl : F.length ≤ 16) :
    ∃ μ', jnI (rhoJ v0 v1 n i o4 (some (.int h)) (some (.int t))) μ = .ok (.nx (rhoJ v0 v1 n i o4 (some (.int h)) (some (.int t)))) μ' ∧ μ'[n]? = some (.lst ((stepJ x F h t).map D.int)) ∧ Keep [n] μ μ' := by
  have ix : mBin idxA (mVar 2) (mVar 3) (rhoJ v0 v1 n i o4 (some (.int h)) (some (.int t))) μ = .ok (.int x) μ := bin_k (p := .ref n) (q := .int (i : Int)) (μ1 := μ) (μ2 := μ) rfl rfl (ix_lst e (by omega) (by rw [Int.toNat_natCast, List.getElem?_map, ex]; rfl))
  have t1 : mTest (mBin eqD (mVar 5) (mBin idxA (mVar 2) (mVar 3))) (rhoJ v0 v1 n i o4 (some (.int h)) (some (.int t))) μ = .ok (decide (h = x)) μ := test_k (bin_k (p := .int h) (μ1 := μ) rfl ix eqI)
  have t2 : mTest (mBin notInX (mVar 6) (mVar 2)) (rhoJ v0 v1 n i o4 (some (.int h)) (some (.int t))) μ = .ok (!decide (t ∈ F)) μ := test_k (bin_k (p := .int t) (q := .ref n) (μ1 := μ) (μ2 := μ) rfl rfl (notIn_ints e))
  by_cases h1 : h = x
  · rw [decide_eq_true h1] at t1
    by_cases h2 : t ∈ F
    · rw [decide_eq_true h2] at t2
      refine ⟨μ, (if_f (and_t t1 t2)).trans rfl, ?_, .refl⟩
      unfold stepJ
      rw [if_neg (by simp [h2])]; exact e
    · rw [decide_eq_false h2] at t2
      refine ⟨μ.set n (.lst (F.map D.int ++ [.int t])), (if_t (and_t t1 t2)).trans (app_lst (n := n) rfl e (isLst_of e) (y := .int t) rfl (by rw [List.length_map]; omega)), ?_, Keep.set (by simp)⟩
      unfold stepJ
      rw [if_pos ⟨h1, h2⟩, set_at (at_lt e), List.map_append]; rfl
  · rw [decide_eq_false h1] at t1
    refine ⟨μ, (if_f (and_f t1)).trans rfl, ?_, .refl⟩
    unfold stepJ
    rw [if_neg (by simp [h1])]; exact e
theorem jnP_spec {R : Nat} {p : Pipe} (hR : R ≤ 16) (e : μ[n]? = some (.lst (F.map D.int))) (ex : F[i]? = some x) (f : FoundJ R F) (hp : 0 ≤ p.a ∧ p.a < p.b ∧ p.b < R) :
    ∃ (q5 q6 : Option D) (μ' : Mem), jnP (rhoJ v0 v1 n i (some p.d) o5 o6) μ = .ok (.nx (rhoJ v0 v1 n i (some p.d) q5 q6)) μ' ∧ μ'[n]? = some (.lst ((visitJ x F p).map D.int)) ∧ Keep [n] μ μ' := by
  have it : iSeq (mTup (mCons (mSlc (mVar 4) oNone (oSome (mC (.int 2)))) (mCons (mUn (backAtD 1) (mVar 4)) (mNil)))) (rhoJ v0 v1 n i (some p.d) o5 o6) μ = .ok ([.tup [.int p.a, .int p.b], .tup [.int p.b, .int p.a]], fun _ => True) μ := by
    refine seq_tup (l := [.tup [.int p.a, .int p.b], .tup [.int p.b, .int p.a]]) (μ1 := μ) ?_
    have c1 : mSlc (mVar 4) oNone (oSome (mC (.int 2))) (rhoJ v0 v1 n i (some p.d) o5 o6) μ = .ok (.tup [.int p.a, .int p.b]) μ := rfl
    have c2 : mUn (backAtD 1) (mVar 4) (rhoJ v0 v1 n i (some p.d) o5 o6) μ = .ok (.tup [.int p.b, .int p.a]) μ := rfl
    simp only [mTup, mCons, mNil, c1, c2, Res.bind]
    rfl
  obtain ⟨μ1, q1, e1, k1⟩ := jnI_spec (v0 := v0) (v1 := v1) (o4 := some p.d) (h := p.a) (t := p.b) e ex (by have := f.len; omega)
  have f1 : FoundJ R (stepJ x F p.a p.b) := f.step ⟨by omega, by omega⟩
  have ex1 : (stepJ x F p.a p.b)[i]? = some x := by
    obtain ⟨r, er⟩ := stepJ_pre (x := x) (h := p.a) (t := p.b) (F := F)
    rw [← er, List.getElem?_append_left (List.getElem?_eq_some_iff.mp ex).1]; exact ex
  obtain ⟨μ2, q2, e2, k2⟩ := jnI_spec (v0 := v0) (v1 := v1) (o4 := some p.d) (h := p.b) (t := p.a) e1 ex1 (by have := f1.len; omega)
  have w : forL (fun _ => True) (gTupM 2 (gConsM (gN 5) (gConsM (gN 6) (gNilM)))) jnI [.tup [.int p.a, .int p.b], .tup [.int p.b, .int p.a]] (rhoJ v0 v1 n i (some p.d) o5 o6) μ = .ok (.nx (rhoJ v0 v1 n i (some p.d) (some (.int p.b)) (some (.int p.a)))) μ2 := by
    have loop := forL_ok (chk := fun _ => True) (g := gTupM 2 (gConsM (gN 5) (gConsM (gN 6) (gNilM)))) (body := jnI) [.tup [.int p.a, .int p.b], .tup [.int p.b, .int p.a]]
      (fun j ρ μ' => (j = 0 ∧ ρ = rhoJ v0 v1 n i (some p.d) o5 o6 ∧ μ' = μ) ∨ (j = 1 ∧ ρ = rhoJ v0 v1 n i (some p.d) (some (.int p.a)) (some (.int p.b)) ∧ μ' = μ1) ∨ (j = 2 ∧ ρ = rhoJ v0 v1 n i (some p.d) (some (.int p.b)) (some (.int p.a)) ∧ μ' = μ2)) 0
      (ρ := rhoJ v0 v1 n i (some p.d) o5 o6) (μ := μ) (.inl ⟨rfl, rfl, rfl⟩) (fun _ _ _ _ => trivial)
      (fun j d ρ μ' ed h => by
        simp only [Nat.zero_add] at h ⊢
        rcases h with ⟨rfl, rfl, rfl⟩ | ⟨rfl, rfl, rfl⟩ | ⟨rfl, rfl, rfl⟩
        · cases ed
          exact .mk (a := rhoJ v0 v1 n i (some p.d) (some (.int p.a)) (some (.int p.b))) (μ := μ') rfl (.mk q1 ⟨_, .inl rfl, .inr (.inl ⟨rfl, rfl, rfl⟩)⟩)
        · cases ed
          exact .mk (a := rhoJ v0 v1 n i (some p.d) (some (.int p.b)) (some (.int p.a))) (μ := μ') rfl (.mk q2 ⟨_, .inl rfl, .inr (.inr ⟨rfl, rfl, rfl⟩)⟩)
        · cases ed)
    obtain ⟨f, μ3, w, ρ', rfl, h⟩ := loop
    rcases h with ⟨h, _⟩ | ⟨h, _⟩ | ⟨_, rfl, rfl⟩
    · simp at h
    · simp at h
    · exact w
  exact ⟨_, _, μ2, for_run it w, e2, k1.trans k2⟩
/-- what the search has found when the pipes up to j are gone through from x -/
structure ScanJ (R : Nat) (x : Int) (F G : List Int) (qs : List Pipe) : Prop where
  pre : F <+: G
  ok : FoundJ R G
  has : ∀ p ∈ qs, (p.a = x → p.b ∈ G) ∧ (p.b = x → p.a ∈ G)
theorem ScanJ.more {R : Nat} {G : List Int} {qs : List Pipe} {p : Pipe} (s : ScanJ R x F G qs) (hp : 0 ≤ p.a ∧ p.a < p.b ∧ p.b < R) : ScanJ R x F (visitJ x G p) (qs ++ [p]) := by
  have p1 : G <+: stepJ x G p.a p.b := stepJ_pre
  have p2 : stepJ x G p.a p.b <+: visitJ x G p := stepJ_pre
  refine ⟨(s.pre.trans p1).trans p2, (s.ok.step ⟨by omega, by omega⟩).step ⟨by omega, by omega⟩, fun q hq => ?_⟩
  rcases List.mem_append.mp hq with hq | hq
  · exact ⟨fun h => (p1.trans p2).subset ((s.has q hq).1 h), fun h => (p1.trans p2).subset ((s.has q hq).2 h)⟩
  · rw [List.mem_singleton.mp hq]
    refine ⟨fun h => p2.subset (by rw [h]; exact stepJ_has), fun h => ?_⟩
    unfold visitJ
    rw [h]; exact stepJ_has
theorem jnL_spec {R : Nat} {ps : List Pipe} (hR : R ≤ 16) (hv : v1 = some (.tup (ps.map Pipe.d))) (e : μ[n]? = some (.lst (F.map D.int))) (ex : F[i]? = some x) (f : FoundJ R F) (hp : ∀ p ∈ ps, 0 ≤ p.a ∧ p.a < p.b ∧ p.b < R) :
    ∃ (q4 q5 q6 : Option D) (G : List Int) (μ' : Mem), jnB (rhoJ v0 v1 n i o4 o5 o6) μ = .ok (.nx (rhoJ v0 v1 n (i + 1) q4 q5 q6)) μ' ∧ μ'[n]? = some (.lst (G.map D.int)) ∧ ScanJ R x F G ps ∧ Keep [n] μ μ' := by
  have loop := forL_ok (chk := fun _ => True) (g := gN 4) (body := jnP) (ps.map Pipe.d)
    (fun j ρ μ' => (∃ o4 o5 o6, ρ = rhoJ v0 v1 n i o4 o5 o6) ∧ ∃ G, μ'[n]? = some (.lst (G.map D.int)) ∧ ScanJ R x F G (ps.take j) ∧ Keep [n] μ μ') 0
    (ρ := rhoJ v0 v1 n i o4 o5 o6) (μ := μ) ⟨⟨_, _, _, rfl⟩, F, e, ⟨List.prefix_refl _, f, fun p h => by rw [List.take_zero] at h; exact (List.not_mem_nil h).elim⟩, .refl⟩ (fun _ _ _ _ => trivial)
    (fun j d ρ μ' ed ⟨⟨o4, o5, o6, eρ⟩, G, eG, s, kk⟩ => by
      simp only [Nat.zero_add] at s ⊢
      subst eρ
      rw [List.getElem?_map] at ed
      obtain ⟨p, ep, rfl⟩ := Option.map_eq_some_iff.mp ed
      have hpp := hp p (List.mem_of_getElem? ep)
      have exG : G[i]? = some x := by
        obtain ⟨r, er⟩ := s.pre
        rw [← er, List.getElem?_append_left (List.getElem?_eq_some_iff.mp ex).1]; exact ex
      obtain ⟨q5, q6, μ2, q, e2, k2⟩ := jnP_spec (v0 := v0) (v1 := v1) (o5 := o5) (o6 := o6) hR eG exG s.ok hpp
      refine .mk (a := rhoJ v0 v1 n i (some p.d) o5 o6) (μ := μ') rfl (.mk q ⟨_, .inl rfl, ⟨_, _, _, rfl⟩, _, e2, ?_, kk.trans k2⟩)
      rw [List.take_add_one, ep]
      exact s.more hpp)
  rw [List.length_map, Nat.zero_add] at loop
  obtain ⟨f', μ', w, ρ', rfl, ⟨q4, q5, q6, rfl⟩, G, eG, s, kk⟩ := loop
  rw [List.take_length] at s
  refine ⟨q4, q5, q6, G, μ', ?_, eG, s, kk⟩
  refine (seq_run (for_run (seq_tup (a := mVar 1) (l := ps.map Pipe.d) (μ1 := μ) (by rw [hv]; rfl) ) w)).trans ?_
  rfl
theorem len_lstX {l : List D} (e : μ[n]? = some (.lst l)) : lenX [.ref n] μ = .ok (.int (l.length : Int)) μ := by simp only [lenX, e, lenL]
theorem is_joined_spec {R : Nat} {ps : List Pipe} (H : House R ps) : ∃ μ', m_is_joined [.int R, .tup (ps.map Pipe.d)] μ = .ok (.bl true) μ' ∧ Keep [] μ μ' := by
  have hR := H.r2
  have hR1 := H.r1
  let n : Nat := μ.length
  let v0 : Option D := some (.int R)
  let v1 : Option D := some (.tup (ps.map Pipe.d))
  let μ1 : Mem := μ ++ [.lst [.int 0]]
  have loop := whileL_ok (c := mTest (mBin (cmpI fun i j => decide (i < j)) (mVar 3) (mB lenX (mCons (mVar 2) (mNil))))) (body := jnB)
    (fun m ρ μ' => ∃ (i : Nat) (o4 o5 o6 : Option D) (F : List Int), ρ = rhoJ v0 v1 n i o4 o5 o6 ∧ m + i = R ∧ i ≤ F.length ∧ μ'[n]? = some (.lst (F.map D.int)) ∧ FoundJ R F ∧ 0 ∈ F ∧ (∀ j y, F[j]? = some y → j < i → ∀ p ∈ ps, (p.a = y → p.b ∈ F) ∧ (p.b = y → p.a ∈ F)) ∧ Keep [n] μ1 μ') R (n := 1000) (ρ := rhoJ v0 v1 n 0 none none none) (μ := μ1) (by omega)
    ⟨0, none, none, none, [0], rfl, by omega, by omega, app_new, ⟨by simp, fun y hy => by rw [List.mem_singleton.mp hy]; omega⟩, by simp, fun j y _ h => by omega, .refl⟩
    (fun ρ μ' => ∃ (i : Nat) (o4 o5 o6 : Option D) (F : List Int), ρ = rhoJ v0 v1 n i o4 o5 o6 ∧ μ'[n]? = some (.lst (F.map D.int)) ∧ FoundJ R F ∧ 0 ∈ F ∧ (∀ y ∈ F, ∀ p ∈ ps, (p.a = y → p.b ∈ F) ∧ (p.b = y → p.a ∈ F)) ∧ Keep [n] μ1 μ')
    (fun m ρ μ' ⟨i, o4, o5, o6, F, eρ, hm, hi, eF, f, h0, hc, kk⟩ => by
      subst eρ
      have fl := f.len
      have c1 : mTest (mBin (cmpI fun i j => decide (i < j)) (mVar 3) (mB lenX (mCons (mVar 2) (mNil)))) (rhoJ v0 v1 n i o4 o5 o6) μ' = .ok (decide ((i : Int) < (F.length : Int))) μ' := by
        refine test_k (bin_k (p := .int (i : Int)) (q := .int (F.length : Int)) (μ1 := μ') (μ2 := μ') rfl (call1k (p := .ref n) (μ1 := μ') rfl ?_) rfl)
        rw [len_lstX eF, List.length_map]
      refine .mk c1 ?_
      by_cases h : i < F.length
      · rw [if_pos (by simp; omega)]
        obtain ⟨x, ex⟩ : ∃ x, F[i]? = some x := ⟨_, List.getElem?_eq_getElem h⟩
        obtain ⟨q4, q5, q6, G, μ2, q, eG, s, k2⟩ := jnL_spec (v0 := v0) (o4 := o4) (o5 := o5) (o6 := o6) hR (v1 := v1) rfl eF ex f H.rng
        have hGl : F.length ≤ G.length := s.pre.length_le
        refine .mk q ⟨_, m - 1, .inl rfl, by omega, i + 1, q4, q5, q6, G, rfl, by omega, by omega, eG, s.ok, s.pre.subset h0, fun j y ej hj p hp => ?_, kk.trans k2⟩
        by_cases hji : j = i
        · subst hji
          obtain ⟨r, er⟩ := s.pre
          have : y = x := by
            rw [← er, List.getElem?_append_left h] at ej
            rw [ex] at ej
            cases ej; rfl
          subst this
          exact s.has p hp
        · obtain ⟨r, er⟩ := s.pre
          have ej' : F[j]? = some y := by
            rw [← er, List.getElem?_append_left (by omega)] at ej; exact ej
          have := hc j y ej' (by omega) p hp
          exact ⟨fun z => s.pre.subset (this.1 z), fun z => s.pre.subset (this.2 z)⟩
      · rw [if_neg (by simp; omega)]
        refine ⟨i, o4, o5, o6, F, rfl, eF, f, h0, fun y hy p hp => ?_, kk⟩
        obtain ⟨j, ej⟩ := List.mem_iff_getElem?.mp hy
        exact hc j y ej (by have := (List.getElem?_eq_some_iff.mp ej).1; omega) p hp)
  obtain ⟨fl, μ2, w, ρ', rfl, i, o4, o5, o6, F, rfl, eF, f, h0, hc, kk⟩ := loop
  obtain ⟨S, hS, ht⟩ := H.tree
  have all : ∀ y ∈ S, y ∈ F := tree_all ht (P := fun y => y ∈ F) (fun p hp => ⟨fun h => (hc _ h p hp).1 rfl, fun h => (hc _ h p hp).2 rfl⟩) ⟨0, hS.mem_iff.mpr (mem_upTo.mpr ⟨by omega, by omega⟩), h0⟩
  have len : F.length = R := by
    have l1 := f.len
    have l2 := List.Nodup.length_le_of_subset (upTo_nodup R) (fun y hy => all y (hS.mem_iff.mpr hy) : upTo R ⊆ F)
    rw [upTo_len] at l2
    omega
  refine ⟨μ2, run_is ?_, (Keep.trans (ex := [n]) (μ' := μ1) Keep.app kk).mono fun i hi => .inr (by rw [List.mem_singleton.mp hi]; exact Nat.le_refl _)⟩
  rw [joined_eq]
  refine (seq_set (d := .ref n) (μ1 := μ1) rfl).trans ((seq_set (d := .int 0) (μ1 := μ1) rfl).trans ?_)
  show sSeq _ _ (rhoJ v0 v1 n 0 none none none) μ1 = _
  refine (seq_run w).trans (ret_is (bin_k (p := .int (F.length : Int)) (q := .int R) (μ1 := μ2) (μ2 := μ2) (call1k (p := .ref n) (μ1 := μ2) rfl (by rw [len_lstX eF, List.length_map])) rfl ?_))
  rw [eqI, len]; simp
end
end K86

/-! S117: houses judged and read. -/
namespace K86
open PySem L2 RW
section
variable {μ : Mem} {R : Nat} {ps : List Pipe}
theorem toInts_ints : ∀ l : List Int, toInts (l.map D.int) = some l
  | [] => rfl
  | a :: l => by simp only [List.map_cons, toInts, toInts_ints l]; rfl
theorem sum_lst {m : Nat} {ns : List Int} (e : μ[m]? = some (.lst (ns.map D.int))) : sumL [.ref m] μ = .ok (.int ns.sum) μ := by
  have h : intsAt (.ref m) μ = some ns := by simp [intsAt, e, toInts_ints]
  simp only [sumL, h]
abbrev rhoI (R : Nat) (ps : List Pipe) : Rho := [some (houseD R ps), some (.int R), some (.tup (ps.map Pipe.d)), none]
theorem all_pipes (H : House R ps) : ∃ μ', mB allL (mCons (mComp (iSeq (mVar 2)) (gN 3) (mYes) (mB m_is_pipe (mCons (mVar 1) (mCons (mVar 3) (mNil)))) [3]) (mNil)) (rhoI R ps) μ = .ok (.bl true) μ' ∧ Keep [] μ μ' := by
  have hl := H.len
  have hr := H.r2
  obtain ⟨μ', q, k⟩ := comp_k (it := iSeq (mVar 2)) (g := gN 3) (te := mB m_is_pipe (mCons (mVar 1) (mCons (mVar 3) (mNil)))) (own := [3]) (ρ := rhoI R ps) (ex := []) Pipe.d (fun _ => .bl true) ps
    (seq_tup (l := ps.map Pipe.d) (μ1 := μ) rfl) (fun μ' k => trivial) (by omega)
    (fun p hp μ' k => ⟨_, μ', rfl, call2k (p := .int R) (q := p.d) (μ1 := μ') (μ2 := μ') rfl rfl (is_pipe_spec (H.ok p hp) (H.rng p hp)), .refl⟩)
  exact ⟨_, call1k q (all_true app_new), k.trans Keep.app⟩
theorem sum_of {j : Int} {f : Pipe → Int} (hf : ∀ (p : Pipe) (μ : Mem), ∃ l : List D, idxA p.d (.int j) μ = .ok (.tup l) μ ∧ (l.length : Int) = f p) (hl : ps.length ≤ 100) :
    ∃ μ', mB sumL (mCons (mComp (iSeq (mVar 2)) (gN 3) (mYes) (mB lenL (mCons (mBin idxA (mVar 3) (mC (.int j))) (mNil))) [3]) (mNil)) (rhoI R ps) μ = .ok (.int ((ps.map f).sum)) μ' ∧ Keep [] μ μ' := by
  obtain ⟨μ', q, k⟩ := comp_k (it := iSeq (mVar 2)) (g := gN 3) (te := mB lenL (mCons (mBin idxA (mVar 3) (mC (.int j))) (mNil))) (own := [3]) (ρ := rhoI R ps) (ex := []) Pipe.d (fun p => .int (f p)) ps
    (seq_tup (l := ps.map Pipe.d) (μ1 := μ) rfl) (fun μ' k => trivial) (by omega)
    (fun p hp μ' k => by
      obtain ⟨l, e1, e2⟩ := hf p μ'
      refine ⟨[some (houseD R ps), some (.int R), some (.tup (ps.map Pipe.d)), some p.d], μ', rfl, call1k (p := .tup l) (bin_k (p := p.d) (q := .int j) (μ1 := μ') (μ2 := μ') rfl rfl e1) ?_, .refl⟩
      rw [← e2]; rfl)
  have e : (μ' ++ [Cell.lst (ps.map fun p => D.int (f p))])[μ'.length]? = some (.lst ((ps.map f).map D.int)) := by
    rw [List.map_map]; exact app_new
  exact ⟨_, call1k q (sum_lst e), k.trans Keep.app⟩
theorem is_house_spec (H : House R ps) : ∃ μ', m_is_house [houseD R ps] μ = .ok (.bl true) μ' ∧ Keep [] μ μ' := by
  have hl := H.len
  have hr1 := H.r1
  have hr2 := H.r2
  obtain ⟨μ1, q1, k1⟩ := all_pipes (μ := μ) H
  obtain ⟨μ2, q2, k2⟩ := sum_of (μ := μ1) (R := R) (ps := ps) (j := 3) (f := fun p => (p.nar.length : Int)) (fun p μ => ⟨p.nar.map pairD, ix_tup (by decide) rfl, by rw [List.length_map]⟩) (by omega)
  obtain ⟨μ3, q3, k3⟩ := sum_of (μ := μ2) (R := R) (ps := ps) (j := 4) (f := fun p => (p.fl.length : Int)) (fun p μ => ⟨p.fl.map pairD, ix_tup (by decide) rfl, by rw [List.length_map]⟩) (by omega)
  obtain ⟨μ4, q4, k4⟩ := is_joined_spec (μ := μ3) H
  refine ⟨μ4, run_is ?_, ((k1.trans k2).trans k3).trans k4⟩
  unfold b_is_house
  refine (seq_skip (μ1 := μ) (or_f (tup_test (l := [.int R, .tup (ps.map Pipe.d)]) rfl) (test_k (bin_k (len_tup (l := [.int R, .tup (ps.map Pipe.d)]) rfl) rfl (by
    rw [show (([D.int R, D.tup (ps.map Pipe.d)].length : Nat) : Int) = 2 by rfl, neI]; rfl))))).trans ?_
  refine (seq_asg (d := houseD R ps) (μ1 := μ) (ρ2 := rhoI R ps) (μ2 := μ) rfl rfl).trans ?_
  have t1 := not_k (b := true) (test_k (call3k (ρ := rhoI R ps) (x := mVar 1) (y := mC (.int 1)) (z := mC (.int 16)) (p := .int R) (q := .int 1) (r := .int 16) (μ1 := μ) (μ2 := μ) (μ3 := μ) rfl rfl rfl (is_from_spec (by omega) (by omega))))
  have t2 : mNot (mTest (mUn (isT1 "tuple") (mVar 2))) (rhoI R ps) μ = .ok false μ := tup_test (l := ps.map Pipe.d) rfl
  have t3 : mTest (mBin neD (mB lenL (mCons (mVar 2) (mNil))) (mBin subD (mVar 1) (mC (.int 1)))) (rhoI R ps) μ = .ok false μ := by
    refine test_k (bin_k (len_tup (l := ps.map Pipe.d) rfl) (q := .int ((R : Int) - 1)) (μ2 := μ) rfl ?_)
    rw [neI, List.length_map]
    have : ((ps.length : Nat) : Int) = (R : Int) - 1 := by omega
    simp [this]
  refine (seq_skip (or_f t1 (or_f t2 t3))).trans ((seq_skip (not_k (b := true) (test_k q1))).trans ?_)
  have n1 := H.nar
  have n2 := H.fla
  have t4 := test_k (bin_k q2 (y := mC (.int 12)) (q := .int 12) rfl (f := cmpI fun i j => decide (j < i)) (d := .bl false) (by simp only [cmpI]; rw [decide_eq_false (by omega)]))
  have t5 := test_k (bin_k q3 (y := mC (.int 6)) (q := .int 6) rfl (f := cmpI fun i j => decide (j < i)) (d := .bl false) (by simp only [cmpI]; rw [decide_eq_false (by omega)]))
  exact (seq_skip (or_f t4 t5)).trans (ret_is (call2k (p := .int R) (q := .tup (ps.map Pipe.d)) (μ1 := μ3) (μ2 := μ3) rfl rfl q4))
theorem comma_free {p : Pipe} (h : PipeT p) : 44 ∉ TL.tl (ptxt p) := by
  have key : ∀ m : List (List Nat), (∀ x ∈ m, 44 ∉ x) → 44 ∉ TL.joinL (TL.tl (" " : Str)) m := by
    intro m
    induction m with
    | nil => intro _ hc; simp [TL.joinL] at hc
    | cons a m ih =>
      intro h hc
      cases m with
      | nil => exact h a (by simp) hc
      | cons b m =>
        rcases List.mem_append.mp (show 44 ∈ a ++ (TL.tl (" " : Str) ++ TL.joinL (TL.tl (" " : Str)) (b :: m)) from hc) with hc | hc
        · exact h a (by simp) hc
        · rcases List.mem_append.mp hc with hc | hc
          · rw [show TL.tl (" " : Str) = [32] by decide +kernel] at hc
            simp at hc
          · exact ih (fun x hx => h x (List.mem_cons_of_mem _ hx)) hc
  unfold ptxt
  rw [TL.join_eq, TL.tl_join]
  exact key _ fun x hx => by
    obtain ⟨z, hz, rfl⟩ := List.mem_map.mp hx
    exact word_free h (.inr rfl) z hz
theorem read_house_spec (H : House R ps) : ∃ μ', m_read_house [.str (htx R ps)] μ = .ok (houseD R ps) μ' ∧ Keep [] μ μ' := by
  have hl := H.len
  have hr1 := H.r1
  have hr2 := H.r2
  have hp := H.pt
  have hR : okN R := ⟨by omega, by omega⟩
  have hlen := htx_len (R := (R : Int)) (ps := ps) hR hp (by omega)
  have sp : splitX (.str (htx R ps)) (.str ", ") μ = .ok (.ref μ.length) (μ ++ [.lst ((num R :: ps.map ptxt).map D.str)]) := by
    have ey : TL.tl (", " : Str) = 44 :: [32] := by decide +kernel
    have e := TL.split_join (parts := num R :: ps.map ptxt) ey (by decide +kernel) (by simp) (fun w hw => by
      rcases List.mem_cons.mp hw with rfl | hw
      · exact num_free hR.1 (by decide)
      · obtain ⟨p, hm, rfl⟩ := List.mem_map.mp hw
        exact comma_free (hp p hm))
    simp only [splitX]
    rw [if_pos ⟨by rw [cs_len]; rfl, by rw [sizeLine_eq]; omega⟩]
    unfold htx
    rw [e]
  let W : List D := (num R :: ps.map ptxt).map D.str
  let μ1 : Mem := μ ++ [.lst W]
  have e1 : μ1[μ.length]? = some (.lst W) := app_new
  have c1 : mTx splitX (mVar 0) (mC (.str ", ")) (startR 4 [.str (htx R ps)]) μ = .ok (.ref μ.length) μ1 := tx_k (a := htx R ps) (q := .str ", ") rfl rfl sp
  let ρ1 : Rho := [some (.str (htx R ps)), some (.ref μ.length), none, none]
  have c2 : mB m_number_told (mCons (mBin idxA (mVar 1) (mC (.int 0))) (mNil)) ρ1 μ1 = .ok (.int R) μ1 := call1k (bin_k (p := .ref μ.length) (q := .int 0) rfl rfl (ix_lst e1 (by decide) rfl)) (number_told_spec hR.1 hR.2)
  let μ2 : Mem := μ1 ++ [.lst ((ps.map ptxt).map D.str)]
  have sl : mSlc (mVar 1) (oSome (mC (.int 1))) oNone ρ1 μ1 = .ok (.ref μ1.length) μ2 := by
    refine slc_k (x := .ref μ.length) (j := 1) (μ1 := μ1) (μ2 := μ1) rfl rfl ?_
    simp only [slcD, e1, μ2, W, List.map_cons, cut_tl]
  have el : (ps.map fun p => D.str (ptxt p)) = (ps.map ptxt).map D.str := by rw [List.map_map]; rfl
  obtain ⟨μ3, q3, k3⟩ := comp_k (it := iSeq (mSlc (mVar 1) (oSome (mC (.int 1))) oNone)) (g := gN 3) (te := mB m_pipe_told (mCons (mVar 3) (mNil))) (own := [3]) (ρ := ρ1) (ex := []) (fun p => .str (ptxt p)) Pipe.d ps
    (seq_lst (l := ps.map fun p => D.str (ptxt p)) (n := μ1.length) (μ1 := μ2) sl (by rw [el]; exact app_new)) (fun μ' k => k.get (by rw [el]; exact app_new) (by simp)) (by omega)
    (fun p hm μ' k => by
      obtain ⟨μ4, q4, k4⟩ := pipe_told_spec (μ := μ') (hp p hm)
      exact ⟨_, μ4, rfl, call1k (p := .str (ptxt p)) (μ1 := μ') rfl q4, k4⟩)
  let μ4 : Mem := μ3 ++ [.lst (ps.map Pipe.d)]
  have c3 : mB tupleL (mCons (mComp (iSeq (mSlc (mVar 1) (oSome (mC (.int 1))) oNone)) (gN 3) (mYes) (mB m_pipe_told (mCons (mVar 3) (mNil))) [3]) (mNil)) ρ1 μ1 = .ok (.tup (ps.map Pipe.d)) μ4 := call1k q3 (tup_lst app_new)
  have c4 : mTup (mCons (mB m_number_told (mCons (mBin idxA (mVar 1) (mC (.int 0))) (mNil))) (mCons (mB tupleL (mCons (mComp (iSeq (mSlc (mVar 1) (oSome (mC (.int 1))) oNone)) (gN 3) (mYes) (mB m_pipe_told (mCons (mVar 3) (mNil))) [3]) (mNil))) (mNil))) ρ1 μ1 = .ok (houseD R ps) μ4 := by
    simp only [mTup, mCons, mNil, c2, c3, Res.bind]
    rfl
  obtain ⟨μ5, q5, k5⟩ := is_house_spec (μ := μ4) H
  refine ⟨μ5, run_is ?_, ((Keep.trans (Keep.trans (Keep.app (cs := [.lst W])) (Keep.app (cs := [.lst ((ps.map ptxt).map D.str)]))) k3).trans (Keep.app (cs := [.lst (ps.map Pipe.d)]))).trans k5⟩
  unfold b_read_house
  refine (seq_expr (call1k (p := .str (htx R ps)) (μ1 := μ) rfl must_be)).trans ((seq_set c1).trans ?_)
  rw [show (startR 4 [.str (htx R ps)]).set 1 (some (.ref μ.length)) = ρ1 from rfl]
  refine (seq_set c4).trans ?_
  rw [show ρ1.set 2 (some (houseD R ps)) = [some (.str (htx R ps)), some (.ref μ.length), some (houseD R ps), none] from rfl]
  exact (seq_skip (not_k (b := true) (test_k (call1k (p := houseD R ps) (μ1 := μ4) rfl q5)))).trans (ret_is rfl)
end
end K86

/-! k86: the law. -/
namespace K86
open PySem L2 RW
noncomputable def iH : MS := sIf (mOr (mNot (mTest (mB (m_law_same 8) (mCons (mB m_house_text (mCons (mVar 5) (mNil))) (mCons (mVar 6) (mNil)))))) (mNot (mTest (mB (m_law_same 8) (mCons (mB m_read_house (mCons (mVar 6) (mNil))) (mCons (mVar 5) (mNil))))))) (sRet (mC (.bl false))) (sNil)
noncomputable def bH : MS := sSeq (sSet 6 (mB m_law_house_text (mCons (mVar 5) (mNil)))) iH
noncomputable def bT : MS := sFor (iSeq (mVar 2)) (gN 5) bH
theorem law_eq : b_law = sSeq (sSet 1 (mB m_law_stream (mCons (mVar 0) (mCons (mC (.int 86)) (mNil)))))
    (sSeq (sSet 2 (mBin addD (mComp (iRange1 (mCons (mC (.int 4)) (mNil))) (gN 7) (mYes) (mB m_law_wide (mCons (mVar 1) (mCons (mB m_law_far_house (mCons (mVar 1) (mCons (mC (.int 6)) (mNil)))) (mNil)))) [7]) (mLst (mCons (mTup (mCons (mC (.int 1)) (mCons (mTup (mNil)) (mNil)))) (mNil)))))
    (sSeq (sSet 3 (mB reprL (mCons (mVar 2) (mNil))))
    (sSeq (sFor (iRange1 (mCons (mC (.int 2)) (mNil))) (gN 4) bT)
    (sRet (mBin eqT (mB reprL (mCons (mVar 2) (mNil))) (mVar 3)))))) := rfl
section
variable {μ : Mem}
theorem small_htx {R : Int} {ps : List Pipe} (hR : okN R) (h : ∀ p ∈ ps, PipeT p) : ∀ c ∈ TL.tl (htx R ps), c < 128 := by
  have hcs : ∀ c ∈ TL.tl (", " : Str), c < 128 := fun c hc => by
    rw [show TL.tl (", " : Str) = [44, 32] by decide +kernel] at hc
    simp at hc; omega
  refine small_join hcs fun x hx => ?_
  rcases List.mem_cons.mp hx with rfl | hx
  · exact small_num hR
  · obtain ⟨p, hp, rfl⟩ := List.mem_map.mp hx
    have hT := h p hp
    refine small_join (small_one (a := 32) (by decide +kernel) (by decide)) fun w hw => ?_
    unfold wordsP at hw
    rcases List.mem_append.mp hw with hw | hw
    · rcases List.mem_append.mp hw with hw | hw
      · simp only [List.mem_cons, List.not_mem_nil, or_false] at hw
        rcases hw with rfl | rfl | rfl
        · exact small_num hT.a
        · exact small_num hT.b
        · exact small_num hT.len
      · obtain ⟨z, hz, rfl⟩ := List.mem_map.mp hw
        have := hT.nar z hz
        exact small_app (small_app (small_num this.1) (small_one (a := 120) (by decide +kernel) (by decide))) (small_num this.2)
    · obtain ⟨z, hz, rfl⟩ := List.mem_map.mp hw
      refine small_app (small_num (hT.fl z hz).1) (small_one (mark_tl _) ?_)
      split <;> decide
theorem pln_pairs {n : Nat} {l : List (Int × Int)} (h : ∀ z ∈ l, z.1.natAbs < 10 ^ 50 ∧ z.2.natAbs < 10 ^ 50) (hl : l.length ≤ 1000) : PlN (n + 2) (.tup (l.map pairD)) := by
  unfold PlN
  refine ⟨by rw [List.length_map]; exact hl, fun y hy => ?_⟩
  obtain ⟨z, hz, rfl⟩ := List.mem_map.mp hy
  exact pln_pair (h z hz).1 (h z hz).2
theorem fl_abs {p : Pipe} (h : PipeT p) : ∀ z ∈ p.fl, z.1.natAbs < 10 ^ 50 ∧ z.2.natAbs < 10 ^ 50 := fun z hz => by
  obtain ⟨h1, h2⟩ := h.fl z hz
  refine ⟨okN_abs h1, ?_⟩
  rcases h2 with h2 | h2 <;> rw [h2] <;> decide
theorem nar_abs {p : Pipe} (h : PipeT p) : ∀ z ∈ p.nar, z.1.natAbs < 10 ^ 50 ∧ z.2.natAbs < 10 ^ 50 := fun z hz => ⟨okN_abs (h.nar z hz).1, okN_abs (h.nar z hz).2⟩
theorem pln_pipe {p : Pipe} (h : PipeT p) : PlN 3 p.d := by
  unfold Pipe.d PlN
  refine ⟨by simp, fun x hx => ?_⟩
  simp only [List.mem_cons, List.not_mem_nil, or_false] at hx
  rcases hx with rfl | rfl | rfl | rfl | rfl
  · unfold PlN; exact okN_abs h.a
  · unfold PlN; exact okN_abs h.b
  · unfold PlN; exact okN_abs h.len
  · exact pln_pairs (nar_abs h) (by have := h.nl; omega)
  · exact pln_pairs (fl_abs h) (by have := h.fll; omega)
theorem pln_house {R : Nat} {ps : List Pipe} (hR : okN R) (h : ∀ p ∈ ps, PipeT p) (hl : ps.length ≤ 15) : PlN 5 (houseD R ps) := by
  unfold houseD PlN
  refine ⟨by simp, fun x hx => ?_⟩
  rcases List.mem_cons.mp hx with rfl | hx
  · unfold PlN; exact okN_abs hR
  · rw [List.mem_singleton.mp hx]
    unfold PlN
    refine ⟨by rw [List.length_map]; omega, fun y hy => ?_⟩
    obtain ⟨p, hp, rfl⟩ := List.mem_map.mp hy
    exact pln_pipe (h p hp)
/-! ### what is shown -/
theorem thg_pairs {n B : Nat} {l : List (Int × Int)} (h : ∀ z ∈ l, z.1.natAbs < 10 ^ 50 ∧ z.2.natAbs < 10 ^ 50) (hl : l.length * 3 ≤ B) : Thg [] μ (n + 2) B (.tup (l.map pairD)) (.tuple (l.map fun z => .tuple [.int z.1, .int z.2])) :=
  (thg_tup (thgs_map (μ := μ) (ex := []) (n := n + 1) (B := 2) (enc := pairD) (q := fun z => PyData.tuple [.int z.1, .int z.2]) (l := l) fun z hz => thg_pair (h z hz).1 (h z hz).2)).le (Nat.le_refl _) hl
def pipeP (p : Pipe) : PyData := .tuple [.int p.a, .int p.b, .int p.len, .tuple (p.nar.map fun z => .tuple [.int z.1, .int z.2]), .tuple (p.fl.map fun z => .tuple [.int z.1, .int z.2])]
theorem thg_pipe {n : Nat} {p : Pipe} (h : PipeT p) : Thg [] μ (n + 3) 60 p.d (pipeP p) := by
  have nl := h.nl
  have fl := h.fll
  exact (thg_tup (thgs_cons (thg_int (B := 0) (okN_abs h.a)) (thgs_cons (thg_int (B := 0) (okN_abs h.b)) (thgs_cons (thg_int (B := 0) (okN_abs h.len)) (thgs_cons (thg_pairs (n := n) (B := 36) (nar_abs h) (by omega)) (thgs_cons (thg_pairs (n := n) (B := 18) (fl_abs h) (by omega)) thgs_nil)))))).le (Nat.le_refl _) (by decide)
def houseP (z : Nat × List Pipe) : PyData := .tuple [.int z.1, .tuple (z.2.map pipeP)]
abbrev hD (z : Nat × List Pipe) : D := houseD z.1 z.2
structure HT (z : Nat × List Pipe) : Prop where
  h : House z.1 z.2
theorem HT.r {z : Nat × List Pipe} (h : HT z) : okN z.1 := by
  have := h.h.r1; have := h.h.r2
  exact ⟨by omega, by omega⟩
theorem HT.l {z : Nat × List Pipe} (h : HT z) : z.2.length ≤ 15 := by
  have := h.h.len; have := h.h.r2
  omega
theorem thg_house {n : Nat} {z : Nat × List Pipe} (h : HT z) : Thg [] μ (n + 5) 1000 (hD z) (houseP z) := by
  have hl := h.l
  have t := thg_tup (thgs_map (μ := μ) (ex := []) (n := n + 3) (B := 60) (enc := Pipe.d) (q := pipeP) (l := z.2) fun p hp => thg_pipe (h.h.pt p hp))
  exact (thg_tup (thgs_cons (thg_int (B := 0) (okN_abs h.r)) (thgs_cons t thgs_nil))).le (Nat.le_refl _) (by omega)
abbrev rho (v0 v1 v3 v4 v5 v6 : Option D) (m : Nat) : Rho := [v0, v1, some (.ref m), v3, v4, v5, v6, none]
variable {v0 v1 v3 v4 v5 v6 : Option D} {m : Nat} {Z : List (Nat × List Pipe)}
theorem shows (e : μ[m]? = some (.lst (Z.map hD))) (hZ : ∀ z ∈ Z, HT z) (hl : Z.length ≤ 10) :
    ∃ q : PyData, ∀ (μ' : Mem) (ρ : Rho), Keep [] μ μ' → ρ[2]? = some (some (.ref m)) → mB reprL (mCons (mVar 2) (mNil)) ρ μ' = .ok (.str q.shown) μ' := by
  refine ⟨.list (Z.map houseP), fun μ' ρ k h2 => ?_⟩
  have t : Thg [] μ' 8 20000 (.ref m) (.list (Z.map houseP)) := (thg_lst (n := 7) (k.get e (by simp)) (by simp) (thgs_map (B := 1000) fun z hz => thg_house (n := 2) (hZ z hz))).le (by decide) (by omega)
  have m2 : mVar 2 ρ μ' = .ok (.ref m) μ' := by simp only [mVar, h2]
  exact call1k m2 (repr_thg t (by decide))
theorem bH_spec {z : Nat × List Pipe} (h : HT z) : ∃ (v6' : Option D) (μ' : Mem), bH (rho v0 v1 v3 v4 (some (hD z)) v6 m) μ = .ok (.nx (rho v0 v1 v3 v4 (some (hD z)) v6' m)) μ' ∧ Keep [] μ μ' := by
  have hl := htx_len (R := (z.1 : Int)) (ps := z.2) h.r h.h.pt h.l
  obtain ⟨μ0, q0, k0⟩ := law_house_text_spec (μ := μ) h.r h.h.pt h.l
  have c1 : mB m_law_house_text (mCons (mVar 5) (mNil)) (rho v0 v1 v3 v4 (some (hD z)) v6 m) μ = .ok (.str (htx z.1 z.2)) μ0 := call1k (p := hD z) (μ1 := μ) rfl q0
  let ρ1 : Rho := rho v0 v1 v3 v4 (some (hD z)) (some (.str (htx z.1 z.2))) m
  obtain ⟨μ1, q1, k1⟩ : ∃ μ1, iH ρ1 μ0 = .ok (.nx ρ1) μ1 ∧ Keep [] μ0 μ1 := by
    obtain ⟨μa, qa, ka⟩ := house_text_spec (μ := μ0) h.r h.h.pt h.l
    exact look (ρ := ρ1) (n := 5) (call1k (p := hD z) (μ1 := μ0) rfl qa) ka (fun μ => rfl) (small_htx h.r h.h.pt) (by omega) (fun μ' k => by
      obtain ⟨μb, qb, kb⟩ := read_house_spec (μ := μ') h.h
      exact ⟨μb, call1k (p := .str (htx z.1 z.2)) (μ1 := μ') rfl qb, kb⟩) (fun μ' k => rfl) (pln_house h.r h.h.pt h.l) (by decide)
  refine ⟨some (.str (htx z.1 z.2)), μ1, ?_, k0.trans k1⟩
  unfold bH
  refine (seq_set c1).trans ?_
  exact q1
theorem loopH (e : μ[m]? = some (.lst (Z.map hD))) (hZ : ∀ z ∈ Z, HT z) :
    ∃ (v5' v6' : Option D) (μ' : Mem), bT (rho v0 v1 v3 v4 v5 v6 m) μ = .ok (.nx (rho v0 v1 v3 v4 v5' v6' m)) μ' ∧ Keep [] μ μ' := by
  have loop := forL_ok (chk := fun μ' => μ'[m]? = some (.lst (Z.map hD))) (g := gN 5) (body := bH) (Z.map hD)
    (fun i ρ μ' => Keep [] μ μ' ∧ ∃ v5 v6, ρ = rho v0 v1 v3 v4 v5 v6 m) 0
    (ρ := rho v0 v1 v3 v4 v5 v6 m) (μ := μ) ⟨.refl, _, _, rfl⟩ (fun _ _ _ ⟨k, _⟩ => k.get e (by simp))
    (fun i d ρ μ' ed ⟨k, w5, w6, eρ⟩ => by
      subst eρ
      rw [List.getElem?_map] at ed
      obtain ⟨z, ez, rfl⟩ := Option.map_eq_some_iff.mp ed
      obtain ⟨v6', μ2, q, k2⟩ := bH_spec (v0 := v0) (v1 := v1) (v3 := v3) (v4 := v4) (v6 := w6) (m := m) (μ := μ') (hZ z (List.mem_of_getElem? ez))
      exact .mk (a := rho v0 v1 v3 v4 (some (hD z)) w6 m) (μ := μ') rfl (.mk q ⟨_, .inl rfl, k.trans k2, _, _, rfl⟩))
  obtain ⟨f, μ2, w, ρ', rfl, k, w5, w6, rfl⟩ := loop
  exact ⟨w5, w6, μ2, for_run (seq_lst (n := m) (μ1 := μ) rfl e) w, k⟩
theorem turns (e : μ[m]? = some (.lst (Z.map hD))) (hZ : ∀ z ∈ Z, HT z) :
    ∃ (v4' v5' v6' : Option D) (μ' : Mem), sFor (iRange1 (mCons (mC (.int 2)) (mNil))) (gN 4) bT (rho v0 v1 v3 v4 v5 v6 m) μ = .ok (.nx (rho v0 v1 v3 v4' v5' v6' m)) μ' ∧ Keep [] μ μ' := by
  have loop := forL_ok (chk := fun _ => True) (g := gN 4) (body := bT) (rangeItems 0 2)
    (fun i ρ μ' => Keep [] μ μ' ∧ ∃ v4 v5 v6, ρ = rho v0 v1 v3 v4 v5 v6 m) 0
    (ρ := rho v0 v1 v3 v4 v5 v6 m) (μ := μ) ⟨.refl, _, _, _, rfl⟩ (fun _ _ _ _ => trivial)
    (fun i d ρ μ' ed ⟨k, w4, w5, w6, eρ⟩ => by
      subst eρ
      obtain ⟨x5, x6, μ2, q2, k2⟩ := loopH (v0 := v0) (v1 := v1) (v3 := v3) (v4 := some d) (v5 := w5) (v6 := w6) (k.get e (by simp)) hZ
      exact .mk (a := rho v0 v1 v3 (some d) w5 w6 m) (μ := μ') rfl (.mk q2 ⟨_, .inl rfl, k.trans k2, _, _, _, rfl⟩))
  obtain ⟨f, μ2, w, ρ', rfl, k, w4, w5, w6, rfl⟩ := loop
  exact ⟨w4, w5, w6, μ2, for_run (ir1 (n := 2) (e := mC (.int 2)) rfl (by decide)) w, k⟩
theorem one_house : House 1 [] := ⟨by decide, by decide, ⟨[0], List.Perm.refl _, .one 0⟩, rfl, by simp, by simp, by simp, by simp⟩
theorem math (ns : List Int) (hn : ns.length ≤ 63) : ∃ μ, m_law [.frl (ns.map D.int)] [] = .ok (.bl true) μ := by
  obtain ⟨k, c, μ1, q1, s1⟩ := stream_spec ns 86 hn
  let V : Option D := some (.frl (ns.map D.int))
  have c1 : mB m_law_stream (mCons (mVar 0) (mCons (mC (.int 86)) (mNil))) (startR 8 [.frl (ns.map D.int)]) [] = .ok (.ref k) μ1 := call2k (p := .frl (ns.map D.int)) (q := .int 86) (μ1 := []) (μ2 := []) rfl rfl q1
  let ρ1 : Rho := [V, some (.ref k), none, none, none, none, none, none]
  obtain ⟨Z0, μ2, q2, hl, hZ0, s2, -⟩ := draws_spec (ρ0 := wipeR ρ1 [7]) (te := mB m_law_wide (mCons (mVar 1) (mCons (mB m_law_far_house (mCons (mVar 1) (mCons (mC (.int 6)) (mNil)))) (mNil)))) (P := HT) (e := hD) (i := 7) (w := 4000) (n := 4) s1 (by decide) (by decide)
    (fun x μ1 M hs hM => by
      obtain ⟨R, ps, μ2, q2, H, -, s2, k2⟩ := far_house_spec (fl := 6) hs (by omega) (by decide) (by decide)
      obtain ⟨qs, μ3, q3, H3, s3, k3⟩ := law_wide_spec H s2 (by omega)
      exact ⟨(R, qs), μ3, call2k (p := .ref k) (μ1 := μ1) rfl (call2k (p := .ref k) (q := .int 6) (μ1 := μ1) (μ2 := μ1) rfl rfl q2) q3, ⟨H3⟩, s3.mono (by omega), k2.trans k3⟩)
  have c2 := comp_is (own := [7]) (ρ := ρ1) (ir1 (n := 4) (e := mC (.int 4)) rfl (by decide)) q2
  let μ3 : Mem := μ2 ++ [.lst (Z0.map hD)]
  let μ4 : Mem := μ3 ++ [.lst [hD (1, [])]]
  have e3 : μ4[μ2.length]? = some (.lst (Z0.map hD)) := app_at app_new
  have e4 : μ4[μ3.length]? = some (.lst [hD (1, [])]) := app_new
  let Z : List (Nat × List Pipe) := Z0 ++ [(1, [])]
  let μ5 : Mem := μ4 ++ [.lst (Z0.map hD ++ [hD (1, [])])]
  let m : Nat := μ4.length
  have c3 : mBin addD (mComp (iRange1 (mCons (mC (.int 4)) (mNil))) (gN 7) (mYes) (mB m_law_wide (mCons (mVar 1) (mCons (mB m_law_far_house (mCons (mVar 1) (mCons (mC (.int 6)) (mNil)))) (mNil)))) [7]) (mLst (mCons (mTup (mCons (mC (.int 1)) (mCons (mTup (mNil)) (mNil)))) (mNil))) ρ1 μ1 = .ok (.ref m) μ5 :=
    bin_k c2 (q := .ref μ3.length) (μ2 := μ4) rfl (catL_ok e3 e4 (by simp [hl]))
  have e5 : μ5[m]? = some (.lst (Z.map hD)) := by
    show μ5[m]? = some (.lst ((Z0 ++ [(1, [])]).map hD))
    rw [List.map_append]
    exact app_new
  have hZ : ∀ z ∈ Z, HT z := fun z hz => by
    rcases List.mem_append.mp hz with hz | hz
    · exact hZ0 z hz
    · rw [List.mem_singleton.mp hz]; exact ⟨one_house⟩
  obtain ⟨q, sh⟩ := shows e5 hZ (by simp [Z, hl])
  have c5 := sh μ5 (rho V (some (.ref k)) none none none none m) .refl rfl
  obtain ⟨w4, w5, w6, μ6, q6, k6⟩ := turns (v0 := V) (v1 := some (.ref k)) (v3 := some (.str q.shown)) (v4 := none) (v5 := none) (v6 := none) e5 hZ
  have c8 := sh μ6 (rho V (some (.ref k)) (some (.str q.shown)) w4 w5 w6 m) k6 rfl
  refine ⟨μ6, run_is ?_⟩
  rw [law_eq]
  refine (seq_set c1).trans ?_
  show sSeq _ _ ρ1 μ1 = _
  refine (seq_set c3).trans ?_
  show sSeq _ _ (rho V (some (.ref k)) none none none none m) μ5 = _
  refine (seq_set c5).trans ?_
  show sSeq _ _ (rho V (some (.ref k)) (some (.str q.shown)) none none none m) μ5 = _
  refine (seq_run q6).trans (ret_is ?_)
  exact bin_k c8 (q := .str q.shown) rfl eqT_self
end
end K86

open PySem PySem.W PyProof.Rows
set_option maxRecDepth 100000 in
set_option maxHeartbeats 0 in
theorem PySem.Challenge.cw_ropewarren_k86_house_texts_holds : PySem.Challenge.rw_ropewarren_k86_house_texts.Holds := by
  w_on; o_law; k_head; (case hw => w_witness2)
  k_fill
  refine K86.walk (l := PySem.Challenge.rw_ropewarren_k86_house_texts) rfl rfl (fun w h Y => PySem.W.kIn_of Y) ?F
  case F =>
    intro w mg fa h KX G hmg
    refine' K86.all_mk KX G hmg ?a_law_stream ?l_law_stream ?c_law_stream ?k_law_stream ?a_law_take ?l_law_take ?c_law_take ?k_law_take ?a_law_far ?l_law_far ?c_law_far ?k_law_far ?a_law_wide ?l_law_wide ?c_law_wide ?k_law_wide ?a_law_house_text ?l_law_house_text ?c_law_house_text ?k_law_house_text ?a_law_far_house ?l_law_far_house ?c_law_far_house ?k_law_far_house ?a_law_same ?l_law_same ?c_law_same ?k_law_same ?a_pairs_text ?l_pairs_text ?c_pairs_text ?k_pairs_text ?a_pipe_text ?l_pipe_text ?c_pipe_text ?k_pipe_text ?a_house_text ?l_house_text ?c_house_text ?k_house_text ?a_must_be_text ?l_must_be_text ?c_must_be_text ?k_must_be_text ?a_number_told ?l_number_told ?c_number_told ?k_number_told ?a_is_joined ?l_is_joined ?c_is_joined ?k_is_joined ?a_is_whole ?l_is_whole ?c_is_whole ?k_is_whole ?a_is_from ?l_is_from ?c_is_from ?k_is_from ?a_is_pair ?l_is_pair ?c_is_pair ?k_is_pair ?a_is_size ?l_is_size ?c_is_size ?k_is_size ?a_is_course ?l_is_course ?c_is_course ?k_is_course ?a_are_pairs ?l_are_pairs ?c_are_pairs ?k_are_pairs ?a_is_pipe ?l_is_pipe ?c_is_pipe ?k_is_pipe ?a_is_house ?l_is_house ?c_is_house ?k_is_house ?a_numbers_told ?l_numbers_told ?c_numbers_told ?k_numbers_told ?a_pair_told ?l_pair_told ?c_pair_told ?k_pair_told ?a_pipe_told ?l_pipe_told ?c_pipe_told ?k_pipe_told ?a_read_house ?l_read_house ?c_read_house ?k_read_house ?a_law ?l_law ?c_law ?k_law ?z_abs ?z_all ?z_bool ?z_dict ?z_int ?z_isinstance ?z_len ?z_max ?z_min ?z_range ?z_repr ?z_set ?z_sorted ?z_str ?z_sum ?z_tuple ?ta_MARKS ?tl_MARKS ?tl0_MARKS ?tl1_MARKS ?c_FIGURES ?c_FLAPS ?c_LONG ?c_MOST_FIGURES ?c_NARROWS ?c_ROOMS ?c_WIDE K86.math
    (case a_law_stream => k_is)
    (case l_law_stream => k_is)
    (case c_law_stream => k_is)
    (case k_law_stream => k_is)
    (case a_law_take => k_is)
    (case l_law_take => k_is)
    (case c_law_take => k_is)
    (case k_law_take => k_is)
    (case a_law_far => k_is)
    (case l_law_far => k_is)
    (case c_law_far => k_is)
    (case k_law_far => k_is)
    (case a_law_wide => k_is)
    (case l_law_wide => k_is)
    (case c_law_wide => k_is)
    (case k_law_wide => k_is)
    (case a_law_house_text => k_is)
    (case l_law_house_text => k_is)
    (case c_law_house_text => k_is)
    (case k_law_house_text => k_is)
    (case a_law_far_house => k_is)
    (case l_law_far_house => k_is)
    (case c_law_far_house => k_is)
    (case k_law_far_house => k_is)
    (case a_law_same => k_is)
    (case l_law_same => k_is)
    (case c_law_same => k_is)
    (case k_law_same => k_is)
    (case a_pairs_text => k_is)
    (case l_pairs_text => k_is)
    (case c_pairs_text => k_is)
    (case k_pairs_text => k_is)
    (case a_pipe_text => k_is)
    (case l_pipe_text => k_is)
    (case c_pipe_text => k_is)
    (case k_pipe_text => k_is)
    (case a_house_text => k_is)
    (case l_house_text => k_is)
    (case c_house_text => k_is)
    (case k_house_text => k_is)
    (case a_must_be_text => k_is)
    (case l_must_be_text => k_is)
    (case c_must_be_text => k_is)
    (case k_must_be_text => k_is)
    (case a_number_told => k_is)
    (case l_number_told => k_is)
    (case c_number_told => k_is)
    (case k_number_told => k_is)
    (case a_is_joined => k_is)
    (case l_is_joined => k_is)
    (case c_is_joined => k_is)
    (case k_is_joined => k_is)
    (case a_is_whole => k_is)
    (case l_is_whole => k_is)
    (case c_is_whole => k_is)
    (case k_is_whole => k_is)
    (case a_is_from => k_is)
    (case l_is_from => k_is)
    (case c_is_from => k_is)
    (case k_is_from => k_is)
    (case a_is_pair => k_is)
    (case l_is_pair => k_is)
    (case c_is_pair => k_is)
    (case k_is_pair => k_is)
    (case a_is_size => k_is)
    (case l_is_size => k_is)
    (case c_is_size => k_is)
    (case k_is_size => k_is)
    (case a_is_course => k_is)
    (case l_is_course => k_is)
    (case c_is_course => k_is)
    (case k_is_course => k_is)
    (case a_are_pairs => k_is)
    (case l_are_pairs => k_is)
    (case c_are_pairs => k_is)
    (case k_are_pairs => k_is)
    (case a_is_pipe => k_is)
    (case l_is_pipe => k_is)
    (case c_is_pipe => k_is)
    (case k_is_pipe => k_is)
    (case a_is_house => k_is)
    (case l_is_house => k_is)
    (case c_is_house => k_is)
    (case k_is_house => k_is)
    (case a_numbers_told => k_is)
    (case l_numbers_told => k_is)
    (case c_numbers_told => k_is)
    (case k_numbers_told => k_is)
    (case a_pair_told => k_is)
    (case l_pair_told => k_is)
    (case c_pair_told => k_is)
    (case k_pair_told => k_is)
    (case a_pipe_told => k_is)
    (case l_pipe_told => k_is)
    (case c_pipe_told => k_is)
    (case k_pipe_told => k_is)
    (case a_read_house => k_is)
    (case l_read_house => k_is)
    (case c_read_house => k_is)
    (case k_read_house => k_is)
    (case a_law => k_is)
    (case l_law => k_is)
    (case c_law => k_is)
    (case k_law => k_is)
    (case z_abs => k_is)
    (case z_all => k_is)
    (case z_bool => k_is)
    (case z_dict => k_is)
    (case z_int => k_is)
    (case z_isinstance => k_is)
    (case z_len => k_is)
    (case z_max => k_is)
    (case z_min => k_is)
    (case z_range => k_is)
    (case z_repr => k_is)
    (case z_set => k_is)
    (case z_sorted => k_is)
    (case z_str => k_is)
    (case z_sum => k_is)
    (case z_tuple => k_is)
    (case ta_MARKS => k_is)
    (case tl_MARKS => k_is)
    (case tl0_MARKS => k_is)
    (case tl1_MARKS => k_is)
    (case c_FIGURES => k_is)
    (case c_FLAPS => k_is)
    (case c_LONG => k_is)
    (case c_MOST_FIGURES => k_is)
    (case c_NARROWS => k_is)
    (case c_ROOMS => k_is)
    (case c_WIDE => k_is)
